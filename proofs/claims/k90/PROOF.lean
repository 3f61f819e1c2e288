import PyProof.Rows.All
import Wide.All
import OpenK.AllK
import Wide.FinOn
import HandS.ForMost
import HandS.OwnEq
import KE.KTypeName
import PyProof.InstNe
import HandS.Nested
import HandS.NestedK
import HandS.ClsMeth
import HandS.Star
import KE.KSuper
import HandS.Conv
import HandS.IsInst
import HandS.MakeKwOnly
import HandS.Sort
import KE.GoesEnum
import HandS.Walk
import PySem.Challenge.RW_baysout_k90_whole_orders_of_tables
import HandS.Codes
import HandS.Evl
import HandS.Ends
import PyProof.ReprLen
import PyProof.MeetsIn
import PyProof.CallFns
import HandS.Small
import HandS.Deep
import HandS.Style
import KE.RegKSuper
set_option Elab.async false
set_option linter.all false
set_option maxRecDepth 100000
set_option maxHeartbeats 4000000
namespace BayE
open PySem L2 PySem.Spec PyProof.Rows
/-! ### repr of data -/
section
variable {X : Cx}
/-- what repr asks: the frames in progress show no repr -/
def Calm (X : Cx) : Prop := X.A.guards = some []
def rReprD (K : PySem.W.Frag) : List V → Hp → VK → Prop := fun xs H Q => ∃ (a : Addr) (d : PyData), xs = [.ref a] ∧ Dp K H (.ref a) d ∧ d.showable = true ∧ d.hasDict = false ∧ d.depth ≤ 60 ∧ d.shown.length ≤ sizeLine ∧ Q (.str d.shown) H
theorem call_reprD (hg : X.A.guards = some []) (hu : X.A.units + 64 < cLine) : CallR X (.builtin "repr") (rReprD X.K) := by
  intro pins s σ H xs us Q I r h
  obtain ⟨a, d, rfl, hd, hs, hn, hp, hz, q⟩ := h
  cases r with
  | cons rv rn =>
    rename_i u us'
    cases rn
    obtain ⟨as, r1⟩ := Dp.reads I d _ u hd rv
    obtain rfl : u = Value.ref a := rv
    exact repr_of_reads' r1 hs (fun z => by rw [hn] at z; cases z) hg (by omega) (fun _ _ e => e) (fun h' t tk hk => ⟨.str d.shown, H, I.kept (t' := tk) hk, ⟨t, rfl⟩, q⟩) hz
end
/-! ### bool(x) of an instance with its own __bool__ -/
section
variable {X : Cx} {CX : CXT} {C f : Addr} {fd : FuncData} {n : Nat} {E : XK}
def spBool (b : Bool) : Sp := fun vs H Q _ => ∃ a, vs = [.ref a] ∧ Q (.bl b) H
theorem truthy_own {A : Around} {b : Bool} (F : FnOk X.prog X.w X.K X.mg X.base CX n f fd ["self"] (spBool b)) (hs : PySem.W.findIn X.K (.ref C) "__bool__" = some (some (.ref f))) (hf : PySem.W.isFn X.K (.ref f) = true) (hb : Binds X.K fd ["self"] [])
    (hx : Passes CX X E) {pins : List (Addr × Obj)} {s : Shared} {σ : L2.St} {H : Hp} {a dx : Addr} {fs : List (Str × V)} (hr : Room n A) (hfr : A.frames = X.A.frames) (I : Inv X pins σ H s) (ha : H a = some (.ins C dx fs)) {Q : Bool → Shared → Prop}
    (hq : ∀ s', Inv X pins σ H s' → Q b s') : wpAny (model X.prog X.w) A (truthy (.ref a)) Q X.xe s := by
  obtain ⟨mA, J, _⟩ := ins_get I.hok ha
  obtain ⟨od, J, _⟩ := J.look
  obtain ⟨m, hF⟩ := I.fr
  refine PySem.W.truthy_K hF I.ok.mod.kin J hs hf ?_
  have hsp : spBool b [.ref a] H (fun v H' => v = .bl b ∧ H' = H) E := ⟨a, rfl, rfl, rfl⟩
  have e0 : Env0 X.prog X.w X.K X.mg X.base A X.stack s H := by
    have e := I.env0
    exact ⟨by rw [hfr]; exact e.frames, e.mod, e.bs, e.bsz, e.funs, e.frf, e.hok, e.bare⟩
  refine wpAny_call (codeAny_mono (F.run A X.stack s H ⟨[.ref a], []⟩ [.ref a] [.ref a] _ E hr e0 (by simpa using hb s [.ref a] I.kIn rfl) (.cons rfl .nil) hsp) fun r s' q => ?_)
  cases r with
  | error e => exact hx pins σ H s e s' I q
  | ok fl =>
    cases fl with
    | ret u =>
      obtain ⟨v, H', I', rv, ev, eh⟩ := I.after q
      subst ev
      subst eh
      cases rv
      exact hq s' I'
    | next => exact False.elim q
    | brk => exact False.elim q
    | cont => exact False.elim q
end
/-! ### C.__name__ of an own class -/
section
open PySem.W Builtin Builtin.ObjectAttr Builtin.Getset_descriptor
variable {prog : Program} {w : World} {A : Around} {E : Value → Shared → Prop} {s : Shared} {K : Frag} {R : Result → Shared → Prop}
theorem own_dga (d tp : Value) (C : Addr) : descrGetArgs ⟨[d, .ref C, tp], []⟩ = pure (d, some (.ref C), given tp) := by kernel_rfl
theorem own_name_get {C : Addr} {o : Obj} {v tp : Value} (X : K.In s.heap) (ht : typeIn K (.ref C) = some (.type "type")) (hC : K.lookup C = some o) (hv : (o.slots[2]?).join = some v) (h : R (.ok (.ret v)) s) :
    codeAny (model prog w) A (.call (.builtin "getset_descriptor.__get__") ⟨[.builtin "type.__name__", .ref C, tp], []⟩) R s := by
  obtain ⟨hh, g, dr, t, os⟩ := s
  have L0 : Looks (model prog w) hh (typeOf (.ref C)) (.type "type") := looks_typeIn X ht
  have L1 : Looks (model prog w) hh (isSubtype (.type "type") (.type "type")) true := Looks.of_pure (by rw [isSubtype_type]; kernel_rfl)
  refine codeAny_call_builtin KF.slot_gs.plain KF.entry_gs (KF.slot_gs.check _ _ _ _ _ _ _ _ ktyn_type (KF.args_gs _ _ _) ?_)
  unfold Builtin.«getset_descriptor.__get__» descrGet
  rw [own_dga]
  refine wpAny_bind (wpAny_pure ?_)
  unfold descrGetter descrCheckInstance descrNameAndClass isInstance
  simp only [ktyn_owner]
  repeat lk
  refine ⟨Code.quiet_builtin _ (by decide +kernel), codeAny_builtin ktyn_entry ?_⟩
  unfold Builtin.«type.__name__» keptObject PySem.slotAt
  have hg : hh.get? C = some o := X _ _ hC
  refine wpAny_bind (wpAny_bind (wpAny_loadPart_at hg ?_))
  refine wpAny_pure ?_
  rw [hv]
  first
    | exact wpAny_pure h
    | exact wpAny_bind (wpAny_pure (wpAny_pure h))
    | exact wpAny_bind (wpAny_bind (wpAny_pure (wpAny_pure h)))
    | exact wpAny_bind (wpAny_bind (wpAny_pure h))
theorem own_name {C : Addr} {o : Obj} {v : Value} {expr : Bool} {Q : Value → Shared → Prop} (X : K.In s.heap) (hr : readsIn K C (.type "type") = true)
    (e : findCls K (.ref C) (.type "type") "__name__" = some (.get (.builtin "getset_descriptor.__get__") (.builtin "type.__name__") (.ref C) (.type "type")))
    (ht : typeIn K (.ref C) = some (.type "type")) (hC : K.lookup C = some o) (hv : (o.slots[2]?).join = some v) (hh : handedIn v = true) (h : Q v { s with toks := s.toks + 1 }) : wpAny (model prog w) A (getAttr (.ref C) "__name__" expr) Q E s :=
  cls_bind X hr e (wpAny_call (own_name_get (s := { s with toks := s.toks + 1 }) X ht hC hv (handed_on hh h)))
end
end BayE
set_option Elab.async false
set_option linter.all false
set_option maxRecDepth 100000
set_option maxHeartbeats 4000000
namespace BayE
open PySem L2 PySem.Spec PyProof.Rows
section
open PySem.W
variable {prog : Program} {w : World} {A : Around} {E : Value → Shared → Prop} {s : Shared} {K : Frag} {x C L f : Addr} {h₀ : Heap} {m : Str → Option Value} {ox : Obj} {od : Option Obj} {b tb : Value}
/-- a special method that is a slot of object: the bound call -/
theorem ifBound_obj {M : Model} {name : Str} {id : String} {args : List Value} {Q : Option Value → Shared → Prop} (X : K.In s.heap) (I : InstAt s.heap x ox C od) (hs : findIn K (.ref C) name = some (some (.builtin id))) (S : Slot "object" name id)
    (hcall : wpAny M A (call (.builtin id) (.ref x :: args)) (fun v => Q (some v)) E s) : wpAny M A (callSpecialIfBound? (.ref x) name args) Q E s := by
  simp only [callSpecialIfBound?, bindSpecialIfBound?]
  have last : wpAny M A (call (.builtin id) ([.ref x] ++ args) >>= fun v => pure (some v)) Q E s := wpAny_bind (wpAny_mono hcall (fun v s' z => wpAny_pure z) fun _ _ z => z)
  refine wpAny_holding (wpAny_bind (wpAny_bind (wpAny_bind (I.type.here ((looks_findIn X hs).here ?_)))))
  refine wpAny_bind (wpAny_askSetting (wpAny_ite ?_))
  simp only [S.bind]
  split
  · exact wpAny_bind (wpAny_pure (wpAny_pure last))
  · exact wpAny_tryCatch (wpAny_bind (wpAny_pure (wpAny_pure last)))
/-- x != b, where x's class has an own __eq__ and object's __ne__ -/
theorem ne_own {Q : Value → Shared → Prop} (hu : A.units + 1 < cLine) (FR : Fr h₀ L s.heap m) (X₀ : K.In h₀) (I : InstAt s.heap x ox C od) (hb : Looks (model prog w) s.heap (typeOf b) tb) (hn : notFirst K C tb = true)
    (hne : findIn K (.ref C) "__ne__" = some (some (.builtin "object.__ne__"))) (hm : mroIn K C (.type "object") = some true)
    (hs : findIn K (.ref C) "__eq__" = some (some (.ref f))) (hf : isFn K (.ref f) = true)
    (h : wpAny (model prog w) A.in1 (call (.ref f) [.ref x, b]) (fun v s' => ∃ r, v = .bool r ∧ Q (.bool (!r)) s') E s) : wpAny (model prog w) A (compareOp .NotEq (.ref x) b) Q E s := by
  have X := X₀.keeps FR.keep
  have entry : ∀ Q' : Fin → Shared → Prop, (∀ r s', Q (.bool (!r)) s' → Q' (.done (.ret (.bool (!r)))) s') → wpAny (model prog w) A.in1 (Builtin.«object.__ne__» ⟨[.ref x, b], []⟩) Q' E s := by
    intro Q' hq'
    have hu1 : A.in1.units < cLine := hu
    unfold Builtin.«object.__ne__»
    refine wpAny_bind (wpAny_of_eq (a := (.ref x, [b])) (by first | rfl | kernel_rfl) ?_)
    dsimp only
    refine wpAny_bind (wpAny_cRoomFor hu1 ?_)
    refine wpAny_bind (ifBound_K X I hs hf (wpAny_mono h (fun v s' hv => ?_) fun _ _ z => z))
    obtain ⟨r, rfl, hq⟩ := hv
    first
      | exact wpAny_bind (wpAny_truthy_bool (wpAny_pure (hq' r s' hq)))
      | exact wpAny_bind (wpAny_bind (wpAny_truthy_bool (wpAny_pure (hq' r s' hq))))
      | exact wpAny_bind (wpAny_truthy_bool (wpAny_bind (wpAny_pure (wpAny_pure (hq' r s' hq)))))
     
  have one : wpAny (model prog w) A (tryCompare (.ref x) (cmpInfo .NotEq).2.1 b) (fun r s' => ∃ v, r = some v ∧ Q v s') E s := by
    show wpAny _ _ (tryCompare (.ref x) "__ne__" b) _ _ _
    unfold tryCompare
    refine wpAny_bind (ifBound_obj X I hne F.cmp_object.ne (wpAny_call (codeAny_call_builtin F.cmp_object.ne.plain F.cmpEntry_ne
      (@check_slot (model prog w) _ _ s "object.__ne__" "object" "__ne__" (.ref x) [b] [] _ F.cmpKind_ne F.cmpSplit_ne (I.type.andThen (looks_mroIn X hm)) (F.cmpArgs_ne _ _) ?_))))
    refine wpAny_mono (entry (fun fin s' => ∃ v, fin = .done (.ret (.bool v)) ∧ Q (.bool v) s') fun r s' hq => ⟨_, rfl, hq⟩) (fun fin s' hz => ?_) fun _ _ z => z
    obtain ⟨v, rfl, hq⟩ := hz
    exact wpAny_pure ⟨_, rfl, hq⟩
  show wpAny _ _ (richCompare .NotEq (.ref x) b) _ _ _
  unfold richCompare
  simp only [oneThing_ref]
  refine wpAny_holding (wpAny_bind (wpAny_cRoomFor (Nat.lt_of_succ_lt hu) ?_))
  refine wpAny_bind (I.type.here (wpAny_bind (hb.here ?_)))
  split
  · rename_i q
    have e : subIn K tb (.ref C) = some false := by
      rcases Bool.or_eq_true_iff.mp hn with e | e
      · rw [beq_iff_eq.mp e] at q; simp at q
      · exact beq_iff_eq.mp e
    refine wpAny_bind ((looks_subIn X e).here ?_)
    simp only [Bool.false_eq_true, if_false]
    refine wpAny_bind (wpAny_mono one (fun r s' z => ?_) fun _ _ e => e)
    obtain ⟨v, rfl, hq⟩ := z
    exact wpAny_pure hq
  · refine wpAny_bind (wpAny_pure ?_)
    simp only [Bool.false_eq_true, if_false]
    refine wpAny_bind (wpAny_mono one (fun r s' z => ?_) fun _ _ e => e)
    obtain ⟨v, rfl, hq⟩ := z
    exact wpAny_pure hq
end
/-! x != y of two instances of classes with own __eq__: what the own __eq__ promises for these two -/
section
variable {X : Cx} {CX : CXT} {n : Nat} {E : XK}
/-- one class's own __eq__, by the text -/
structure EqTxt (K : PySem.W.Frag) (C f : Addr) : Prop where
  ne : PySem.W.findIn K (.ref C) "__ne__" = some (some (.builtin "object.__ne__"))
  mro : PySem.W.mroIn K C (.type "object") = some true
  eq : PySem.W.findIn K (.ref C) "__eq__" = some (some (.ref f))
  fn : PySem.W.isFn K (.ref f) = true
def rNeOwn (K : PySem.W.Frag) (f : Addr) (sp : Sp) (E : XK) : R2 := fun x y H Q => ∃ a b C D dx dy fs gs, x = .ref a ∧ y = .ref b ∧ H a = some (.ins C dx fs) ∧ H b = some (.ins D dy gs) ∧ EqTxt K C f ∧ PySem.W.notFirst K C (.ref D) = true ∧
  sp [.ref a, .ref b] H (fun v H' => ∃ r, v = .bl r ∧ Q (.bl (!r)) H') E
theorem op_neOwn {f : Addr} {fd : FuncData} {ps : List Str} {sp : Sp} (F : FnOk X.prog X.w X.K X.mg X.base CX n f fd ps sp) (hb : Binds X.K fd ps []) (hx : Passes CX X E) (hr : Room (n + 1) X.A) : OpR X (compareOp .NotEq) (rNeOwn X.K f sp E) := by
  intro pins s σ H x y v u Q I rx ry h
  obtain ⟨a, b, C, D, dx, dy, fs, gs, rfl, rfl, ha, hb', T, nf, hsp⟩ := h
  cases rx
  cases ry
  obtain ⟨mA, J, _⟩ := ins_get I.hok ha
  obtain ⟨mB, J', _⟩ := ins_get I.hok hb'
  obtain ⟨od, J, _⟩ := J.look
  obtain ⟨od', J', _⟩ := J'.look
  obtain ⟨m, hF⟩ := I.fr
  have hu : X.A.units + 1 < cLine := by have := hr.un; omega
  refine ne_own hu hF I.ok.mod.kin J J'.type nf T.ne T.mro T.eq T.fn ?_
  have hl := F.len _ _ _ _ hsp
  have r2 : Vals [V.ref a, V.ref b] [Value.ref a, Value.ref b] := .cons rfl (.cons rfl .nil)
  refine wpAny_call (codeAny_mono (F.run X.A.in1 X.stack s H ⟨[.ref a, .ref b], []⟩ [.ref a, .ref b] [.ref a, .ref b] _ E hr.in1 I.env0.in1 (by
    have := hb s [.ref a, .ref b] I.kIn (by simpa using hl)
    simpa using this) r2 hsp) fun r s' hq => ?_)
  cases r with
  | error e => exact hx pins σ H s e s' I hq
  | ok fl =>
    cases fl with
    | ret w =>
      obtain ⟨z, H', I', rz, r, ez, hq2⟩ := I.after hq
      subst ez
      cases rz
      exact ⟨r, rfl, .bl (!r), H', I', rfl, hq2⟩
    | next => exact False.elim hq
    | brk => exact False.elim hq
    | cont => exact False.elim hq
end
end BayE
set_option Elab.async false
set_option linter.all false
set_option maxRecDepth 100000
set_option maxHeartbeats 4000000
namespace BayE
open PySem L2 NdefX PySem.Spec PyProof.Rows
/-- what the written part says of a def at f whose first row is super().m(..): its class's cell at cc, its class D, the def g that is found behind D in C's order -/
structure SuperTxt (P : Program) (K : PySem.W.Frag) (mg : Str → Option Value) (m : Str) (F : NF) (f cc C D g : Addr) : Prop where
  lk : ∃ (oc : Value) (od : Option Addr) (osl : Array (Option Value)) (doc pm ctv : Value), K.lookup f = some ⟨oc, od, .func (F.fd doc pm ctv), osl⟩
  cl : F.cl = [(("__class__" : Str), cc)]
  code : PySem.W.codeIn K (.ref F.c) F.qual = true
  file : ∃ (a : Value) (b : Option Addr) (vs : Array Value) (c : Array (Option Value)) (x : Str) (t : Tok), K.lookup F.c = some ⟨a, b, .fields vs, c⟩ ∧ vs[2]? = some (.str x t) ∧ ((P.main.file : Str) == x) = true
  cell : ∃ (a : Value) (b : Option Addr) (c : Array (Option Value)), K.lookup cc = some ⟨a, b, .cell (some (.ref D)), c⟩
  dcl : (PySem.W.clsIn K D).isSome = true
  ccl : (PySem.W.clsIn K C).isSome = true
  sub : PySem.W.mroIn K C (.ref D) = some true
  sup : mg "super" = none
  top : (P.main.scope.names.lookup ("super" : Str)).isSome = false
  ext : PySem.W.nsIn K PySem.cStatics "thirdparty.any" = some none
  found : PySem.W.ks_superIn K C D m = some (some (.ref g))
  ty : PySem.W.typeIn K (.ref g) = some (.type "function")
  fi : PySem.W.fnIn K g = true
  ks : F.scope.names.lookup ("super" : Str) = some .globalImplicit
section
variable {P : Program} {w : World} {K : PySem.W.Frag} {mg : Str → Option Value} {base : Heap} {CX CX2 : CXT} {k : Nat} {f cc C D g : Addr} {F : NF} {N ps : List Str} {self m : Str} {sp sp2 : Sp}
theorem ld_local {X : Cx} {pins : List (Addr × Obj)} {σ : L2.St} {H : Hp} {s : Shared} {A : Around} {E : Value → Shared → Prop} {Q : Value → Shared → Prop} {i : Nat} {x : Str} {v : V} (I : Inv X pins σ H s) (hN : X.N[i]? = some x) (hl : X.env.scope.names.lookup x = some .local) (hv : σ[i]? = some (some v))
    (h : ∀ u, RelV v u → Q u s) : wpAny (model X.prog X.w) A (loadName X.env x) Q E s := by
  obtain ⟨mm, hn, hh⟩ := I.loc
  obtain ⟨u, r, l⟩ := hh i x v hN hv (.inl hl)
  rcases l with ⟨hk, hm⟩ | ⟨hk, _⟩
  · exact wpAny_loadName_local I.ok.kind hk hn hm (h u r)
  · have hl' : X.env.kindOf x = some .local := hl
    rcases hk with z | z <;> rw [hl'] at z <;> cases z
/-- THE RULE for such a def -/
theorem fn_super {p0 p1 apos pos pos' : Pos} {a : Expr} {as : List Expr} {rest : List Stmt} {ar : Arg} (T : SuperTxt P K mg m F f cc C D g) (S : NScope N (self :: ps) ["__class__"] F.scope)
    (hbd : F.body = .Expr (.Call (.Attribute (.Call (.Name "super" p0) [] [] p1) m apos) (a :: as) [] pos) pos' :: rest)
    (hp : (F.params.posonlyargs ++ F.params.args).head? = some ar) (har : ar.arg = self) (hm : (m == ("__class__" : Str)) = false)
    (len : ∀ vs H Q E, sp vs H Q E → vs.length = (self :: ps).length) (G : FnR P w K mg base CX2 k g sp2)
    (hbody : ∀ (A : Around) (outer : List Env) (s : Shared) (H : Hp) (vs : List V) (Q : VK) (E : XK), Room k (A.deeper (envF F f s.heap.objs.size)) → sp vs H Q E →
      ∃ x dx fs ta t E2, vs.head? = some (.ref x) ∧ H x = some (.ins C dx fs) ∧ PA (ncx CX P w K mg base N F f A outer s H E) (a :: as) ta ∧ PSs (ncx CX P w K mg base N F f A outer s H E) rest t ∧ Passes CX2 (ncx CX P w K mg base N F f A outer s H E) E2 ∧
        ta (startF N vs [some (.ref D)]) H fun ws H1 => sp2 (.ref x :: ws) H1 (fun _ H2 => t { nx := fun _ H' => Q .non H', rt := Q } (startF N vs [some (.ref D)]) H2) E2)
    {pl : Env → Sem Bool} (heq : ∀ env : Env, eval (.Call (.Attribute (.Call (.Name "super" p0) [] [] p1) m apos) (a :: as) [] pos) env = (do
      let ov ← attributeBase (.Call (.Name "super" p0) [] [] p1) m env (eval (.Call (.Name "super" p0) [] [] p1) env)
      standAt apos.atName
      let (f, first) ← holding [ov] (getMethod ov m (pl env))
      callWith pos f first (backTo pos (starEach (a :: as) env)) []) := by intro _; rfl)
    (hst : ∀ env : Env, starEach (a :: as) env = (false, eval a env) :: starEach as env := by intro _; rfl) (hpl : ∀ env : Env, (backTo pos (starEach as env)).any (·.1) = false := by intro _; rfl) :
    ∃ fd : FuncData, FnOk P w K mg base CX (k + 1) f fd (self :: ps) sp ∧ ∃ doc pm ctv, fd = F.fd doc pm ctv := by
  obtain ⟨oc, od, osl, doc, pm, ctv, lk⟩ := T.lk
  refine ⟨F.fd doc pm ctv, ⟨len, fun A outer s H args us vs Q E hr e0 hb r hsp => ?_⟩, doc, pm, ctv, rfl⟩
  have KX : K.In s.heap := e0.mod.kin.keeps fun b o e => (e0.bs b o e).1
  have hl := len _ _ _ _ hsp
  have lim : s.heap.NoLimit := e0.mod.nolimit.keeps fun b o e => (e0.bs b o e).1
  refine codeAny_call_function hr.depth (KX _ _ lk) rfl S.co S.gen rfl (PySem.W.codeRec_of KX T.code) (hb _ _ _ _ ?_)
  refine wpAny_newFunctionEnv S.nocell (fun ⟨n, _⟩ hy => S.par n (List.of_mem_zip hy).1) (fun h₁ hns hsb => ⟨lim.fresh _ hsb, ?_⟩) S.kind
  show codeAny _ _ (.func F.body (envF F f s.heap.objs.size)) _ _
  refine ks_codeAny_funcAt ?_
  have kp : ∀ b o, s.heap.get? b = some o → h₁.get? b = some o := fun b o e => hsb.extBut b o (Nat.ne_of_lt (Heap.lt_size e)) (Heap.get?_push_of_some _ e)
  obtain ⟨x, dx, fs, ta, t, E2, ehd, hx, pa, pss, pass, hq⟩ := hbody A outer s H vs Q E (hr.deeper _) hsp
  obtain ⟨oa, ob, oc', hcell⟩ := T.cell
  have hcb : base.get? cc = some ⟨oa, ob, .cell (some (.ref D)), oc'⟩ := e0.mod.kin _ _ hcell
  have hcs := e0.bs _ _ hcb
  have hlk : F.cl.lookup ("__class__" : Str) = some cc := by rw [T.cl]; simp [List.lookup]
  have honly : ∀ y c, F.cl.lookup y = some c → y = ("__class__" : Str) ∧ c = cc := fun y c e => by
    rw [T.cl] at e
    by_cases z : y = ("__class__" : Str)
    · subst z
      simp [List.lookup] at e
      exact ⟨rfl, e.symm⟩
    · have z' : (y == ("__class__" : Str)) = false := by simpa using z
      simp [List.lookup, z'] at e
  have CA : CellsAt F.cl ["__class__"] [some (.ref D)] s.heap H := by
    refine ⟨rfl, fun y c e => ?_, fun y z c e1 e2 => (honly y c e1).1.trans (honly z c e2).1.symm, fun i y e => ?_⟩
    · obtain ⟨_, rfl⟩ := honly y c e
      exact ⟨hcs.2, _, _, hcs.1, rfl⟩
    · cases i with
      | zero =>
        simp at e
        subst e
        exact ⟨cc, hlk, fun v ev => ⟨.ref D, by simp at ev; subst ev; rfl, _, hcs.1, rfl⟩⟩
      | succ i => simp at e
  have I : Inv (ncx CX P w K mg base N F f A outer s H E) [] (startF N vs [some (.ref D)]) H { s with heap := h₁, toks := s.toks + ((self :: ps).zip us).length } := inv_startN S hr.hd e0 hl r CA hns kp
  have fin : ∀ {σ' : L2.St} {H' : Hp} {v : V} {u : Value} {s' : Shared}, Inv (ncx CX P w K mg base N F f A outer s H E) [] σ' H' s' → L2.RelV v u → Q v H' → CE outer P w H s Q u s' :=
    fun {σ' H' v u s'} J rv q => ⟨v, H', J.os, J.bare, J.base, J.hok, rv, q⟩
  have self0 : N[0]? = some self := by
    have q : (N.take ((self :: ps).length + [("__class__" : Str)].length))[0]? = some self := by rw [S.pre] <;> rfl
    rw [List.getElem?_take_of_lt (by simp)] at q
    exact q
  have vs0 : (startF N vs [some (.ref D)])[0]? = some (some (.ref x)) := by
    cases vs with
    | nil => cases ehd
    | cons v vs => cases ehd; rfl
  have end_ : ∀ {fl : Flow} {s' : Shared}, SP (ncx CX P w K mg base N F f A outer s H E) [] { nx := fun _ H' => Q .non H', rt := Q } fl s' → CR CX outer P w H s Q E (.ok (.ret (match fl with | .ret v => v | _ => .none))) s' := fun {fl s'} hs => by
    cases fl with
    | ret u =>
      obtain ⟨v, σ', H', J, rv, q⟩ := hs
      exact fin J rv q
    | next =>
      obtain ⟨σ', H', J, q⟩ := hs
      exact fin (v := V.non) (u := Value.none) J rfl q
    | brk =>
      obtain ⟨_, _, _, q⟩ := hs
      exact False.elim q
    | cont =>
      obtain ⟨_, _, _, q⟩ := hs
      exact False.elim q
  have selfK : F.scope.names.lookup self = some .local := S.par self List.mem_cons_self
  obtain ⟨fa, fb, fvs, fc, ftx, ftk, hfl, hf2, hfile⟩ := T.file
  obtain ⟨cdD, hdcl⟩ := Option.isSome_iff_exists.mp T.dcl
  obtain ⟨cdC, hccl⟩ := Option.isSome_iff_exists.mp T.ccl
  rw [hbd]
  refine ks_wpAt_execs_cons (ks_wpAt_Expr_any (ks_wpAt_MethodCall (pl := pl (envF F f s.heap.objs.size)) ?base (heq _)) ?int ?sw)
  case base =>
    have hfh : h₁.get? f = some ⟨oc, od, .func (F.fd doc pm ctv), osl⟩ := kp _ _ (KX _ _ lk)
    refine ks_wpAt_super_base (env := envF F f s.heap.objs.size) T.ks (S.frk _ List.mem_cons_self) hm rfl hfh rfl hp rfl (kp _ _ (KX _ _ hfl)) rfl hf2 hfile T.top ?_
    refine PySem.W.ks_loadName_global S.kind T.ks ?_
    obtain ⟨mb, hb1, hb2⟩ := I.mod.blt
    refine Calls.loadGlobal_builtin (env := envF F f s.heap.objs.size) (I.mod.glob.keeps I.bk) T.sup (hb1.keeps I.bk) ((hb2 _ (by decide)).trans (by decide +kernel)) ⟨rfl, ?_⟩
    refine wpAny_loadName_free S.kind (S.frk _ List.mem_cons_self) hlk ⟨_, kp _ _ hcs.1, rfl⟩ ?_
    rw [har]
    refine ld_local I self0 selfK vs0 fun u ru => ?_
    cases ru
    obtain ⟨oD, hD1, hD2⟩ : ∃ oD, h₁.get? D = some oD ∧ oD.data = .cls cdD := by
      unfold PySem.W.clsIn at hdcl
      split at hdcl
      · rename_i c d cd' sl ho
        cases hdcl
        exact ⟨_, kp _ _ (KX _ _ ho), rfl⟩
      · cases hdcl
    obtain ⟨mA, J, _⟩ := ins_get I.hok hx
    obtain ⟨odx, J, _⟩ := J.look
    have K1 : K.In h₁ := I.kIn
    refine ks_wpAny_isType_cls hD1 hD2 ⟨rfl, ?_⟩
    refine ks_wpAny_call_super hD1 hD2 J.at_ J.cls (fun c e => ?_) (PySem.W.looks_mroIn K1 T.sub) (fun h2 e2 k2 => ?_)
    · have q := J.no
      unfold PySem.W.notCls at q
      rw [e] at q
      exact Bool.noConfusion q
    · have I2 := ClX.pin_new (t' := s.toks + ((self :: ps).zip us).length) I k2 (Nat.le_refl _) e2 (fun v z => nomatch z)
      have K2 : K.In h2 := I2.kIn
      obtain ⟨og, hog, hogc⟩ : ∃ og, h2.get? g = some og ∧ og.cls = .type "function" := by
        have ht : (K.lookup g).map (·.cls) = some (.type "function") := T.ty
        cases z : K.lookup g with
        | none => rw [z] at ht; cases ht
        | some og => rw [z] at ht; exact ⟨og, K2 _ _ z, Option.some.inj ht⟩
      have hal : PySem.W.alongIn K m ((cdC.mro.dropWhile (· != .ref D)).drop 1) = some (some (.ref g)) := by
        have q := T.found
        unfold PySem.W.ks_superIn at q
        rw [hccl] at q
        exact q
      refine ks_wpAny_getMethod_super e2 (PySem.W.looks_opaque K2 T.ext) (l₀ := cdC.mro) (fun A Q E s k q => wpAny_bind ((PySem.W.looks_clsIn K2 hccl) A _ E s k (wpAny_pure q))) rfl K2 hal hog hogc (PySem.W.ks_ne K1 J hccl) hm ?_
      have I3 := ClX.pin_new (o := PySem.W.methodObj (.ref g) (.ref x)) (t' := s.toks + ((self :: ps).zip us).length + 1) I2 (fun _ _ z => Heap.get?_push_of_some _ z) (Nat.le_refl _) (Heap.get?_push_size h2 rfl) (fun v z => nomatch z)
      refine ClX.callwith_cm (C := x) (g := g) I3 (ClX.base_none I2 (Nat.le_refl _)) T.fi (thn (pa.run pos _ _ _ H _ I3 hq) fun ws s4 hz => ?_) (hst _) (hpl _)
      obtain ⟨vs4, H4, I4, r4, q4⟩ := hz
      refine ⟨⟨ClX.pin_at I4, I4.kIn⟩, thn (ClX.run_cm G (hr.deeper _) pass I4 r4 q4) fun u5 s5 h5 => ?_⟩
      obtain ⟨v5, H5, I5, r5, q5⟩ := ClX.unpinE h5
      exact wpAt_of_wpAny (wpAny_mono (pss.run [] s5 _ H5 _ I5 q5) (fun fl s' hs => end_ hs) fun e s' hs => hs)
  case int => first | rfl | (simp [interactive, S.kind])
  case sw => first | rfl
end
end BayE
set_option Elab.async false
set_option linter.all false
set_option maxRecDepth 100000
set_option maxHeartbeats 4000000
namespace BayE
open PySem L2 PySem.Spec PyProof.Rows
/-! ### f(k = v, ..), no positional argument -/
section
variable {X : Cx} {CX : CXT} {k : Nat} {f : Addr} {fd : FuncData} {ps ks : List Str} {sp : Sp} {E : XK} {x : Str} {p pos : Pos} {kws : List Keyword} {tk : TA}
variable {g : List Value → List Value → List Value} {gV : List V → List V → List V}
theorem pe_callK0 (F : FnOk X.prog X.w X.K X.mg X.base CX k f fd ps sp) (hr : Room k X.A) (hg : Gl X x) (hm : X.mg x = some (.ref f)) (hk : PySem.W.keepIn X.K (.ref f) = true) (hb : KBinds X.K fd ps ks g gV) (hx : Passes CX X E)
    (hkw : PK X kws tk) (hall : (backToKw pos (keywordEach kws X.env)).all (·.1.isSome) = true := by rfl) (hks : (backToKw pos (keywordEach kws X.env)).filterMap (·.1) = ks := by rfl)
    (hdb : (x == ("__debug__" : Str)) = false := by decide)
    (hpl : ((backTo pos (starEach [] X.env)).any (·.1) || (backToKw pos (keywordEach kws X.env)).any (·.1.isNone)) = false := by rfl) :
    PE X (.Call (.Name x p) [] kws pos) (tCallK sp gV E tNil tk) := by
  refine ⟨fun pins s σ H Q I h => ?_⟩
  refine wpAny_Call_Name_kw (ld_glob I hg hm ?_ hdb)
  refine PySem.W.callWith_KW0 (h₀ := X.base) I.ok.mod.kin hk hall ?_ hpl
  refine thn (hkw.run pos pins s σ H _ I h) fun ws s2 hz => ?_
  obtain ⟨zs, H2, I2, rz, q2⟩ := hz
  refine ⟨I2.kIn, ?_⟩
  rw [hks]
  exact run_fnk (us := []) (vs := []) F hr hb hx I2 .nil rz q2
end
/-! ### o.f as one of several targets -/
section
variable {X : Cx} {o : Expr} {to : TE} {f : Str} {pos : Pos}
def gFld (K : PySem.W.Frag) (to : TE) (f : Str) : TG := fun y σ H Q => to σ H fun x H2 => ∃ a C dx fs, x = .ref a ∧ H2 a = some (.ins C dx fs) ∧ Cls K C ∧ NoAttr K C f ∧ fs.length < 1000 ∧ Q σ (upd H2 a (.ins C dx (putF f y fs)))
theorem pg_fld (ho : PE X o to) (ha : ∀ v, assign (.Attribute o f pos) X.env v = (do
      let ov ← holding [v] (eval o X.env)
      standAt pos.atName
      holding [v, ov] (setAttr ov f v)
      release [v, ov] []) := by intro _; rfl) : PG X (.Attribute o f pos) (gFld X.K to f) := by
  refine ⟨fun pins s σ H v u Q I r h => ?_⟩
  rw [ha]
  refine wpAny_bind (wpAny_holding (thn (ho.run pins s σ H _ I h) fun ov s2 hz => ?_))
  obtain ⟨x, H2, I2, rx, a, C, dx, fs, ex, ea, c, n, l, q2⟩ := hz
  subst ex
  obtain rfl : ov = Value.ref a := rx
  refine wpAny_bind (wpAny_standAt (wpAny_bind (wpAny_holding ?_)))
  exact setattr_ok I2 ea c n l r fun s3 I3 => wpAny_release ⟨σ, _, I3, q2⟩
end
/-! ### sum(t) of a tuple of ints -/
section
variable {X : Cx}
theorem sum_tup_raw {prog : Program} {w : World} {A : Around} {E : Value → Shared → Prop} {s : Shared} {l : Addr} {its : List Value} {ns : List Int} {Q : Value → Shared → Prop} (hh : A.handled = none) (hl : IsTup s.heap l its.toArray) (hi : IntsAre its ns)
    (h : ∀ h' tk t', (∀ b o, s.heap.get? b = some o → h'.get? b = some o) → Q (.int ns.sum t') { s with heap := h', toks := tk }) : wpAny (model prog w) A (call (.builtin "sum") [.ref l]) Q E s := by
  obtain ⟨xs, e⟩ := hi.allInts.items
  have hn : numsOf (intItems xs).toList = ns := by rw [← e]; exact hi.numsOf
  rw [nums_intItems] at hn
  rw [e] at hl
  have hT : s.heap.IsTuple l (intItems xs) := hl
  have hlt : l < s.heap.objs.size := by obtain ⟨_, q, _⟩ := hT; exact Heap.lt_size q
  refine call_sum_walkG (wpAny_pyIter_tuple hT ?_)
  refine ⟨_, [s.heap.objs.size, l], [s.heap.objs.size], _, _, _, numAt xs, rfl, Walks.tuple (A := A.in1) hh _ l (Nat.ne_of_lt hlt) (intItems xs), ⟨⟨_, Heap.get?_push_size _ rfl, rfl, rfl⟩, hT.push _⟩, fun b hb => ?_, (fun _ _ => intItems_at), fun h' tk t' hk => ?_⟩
  · show b < (s.heap.push _).objs.size
    rw [Heap.size_push]
    rcases List.mem_cons.mp hb with rfl | hb
    · exact Nat.lt_succ_self _
    · rcases List.mem_cons.mp hb with rfl | hb
      · exact Nat.lt_succ_of_lt hlt
      · cases hb
  · have := h h' tk t' (fun b o q => hk b o (by simp; exact Nat.ne_of_lt (Heap.lt_size q)) (Heap.get?_push_of_some _ q))
    have e2 : preSum (numAt xs) (intItems xs).size = ns.sum := by
      have e3 : (intItems xs).size = xs.size := by simp [intItems]
      rw [e3, preSum_eq, List.take_of_length_le (by simp), hn]
    rw [e2]
    exact this
def rSumT (K : PySem.W.Frag) : List V → Hp → VK → Prop := fun vs H Q => ∃ (a : Addr) (ns : List Int), vs = [V.ref a] ∧ (SqL K H a (ns.map V.int) ∨ SqT K H a (ns.map V.int)) ∧ Q (.int ns.sum) H
theorem cr_sumA (hc : X.calm = true) : CallR X (.builtin "sum") (rSumT X.K) := by
  intro pins s σ H vs us Q I r h
  obtain ⟨a, ns, rfl, hs | hs, q⟩ := h
  · exact cr_sum hc pins s σ H _ us Q I r ⟨a, ns, rfl, hs, q⟩
  · obtain ⟨its, rv, hl, _⟩ := I.tuple hs
    rw [Vals.ref1 r]
    exact sum_tup_raw (I.ok.hd hc) hl rv.ints fun h' tk t' hk => ⟨.int _, H, I.kept hk, ⟨_, rfl⟩, q⟩
end
/-! ### a range object kept by a name -/
section
variable {X : Cx} {tg : Expr}
theorem cr_range1 : CallR X (.type "range") (fun vs H Q => ∃ j : Int, vs = [V.int j] ∧ ∀ p, H p = none → Q (.ref p) (upd H p (.rng 0 j))) := by
  intro pins s σ H vs us Q I r h
  obtain ⟨j, rfl, q⟩ := h
  cases r with
  | cons r rr =>
    cases rr
    obtain ⟨t, rfl⟩ := r
    refine call_range_1 ?_
    exact ⟨.ref _, upd H s.heap.objs.size (.rng 0 j), I.laid (fun _ _ e => Heap.get?_push_of_some _ e) (Nat.le_refl _) ⟨_, _, _, Heap.get?_push_size _ rfl⟩, rfl, q _ (I.hok.fresh (Nat.le_refl _))⟩
def iRngV (te : TE) : TI := fun σ H R => te σ H fun x H1 => ∃ a lo hi, x = .ref a ∧ H1 a = some (.rng lo hi) ∧ (-(2 ^ 62) ≤ lo ∧ lo < 2 ^ 62 ∧ -(2 ^ 62) ≤ hi ∧ hi < 2 ^ 62) ∧ R (Itr lo (hi - lo).toNat) H1
theorem pi_rngV {e : Expr} {te : TE} (he : PE X e te) : PI X tg e (iRngV te) := by
  refine ⟨fun pins s σ H R I h => ?_⟩
  refine thn (he.run pins s σ H _ I h) fun v s1 hz => ?_
  obtain ⟨x, H1, I1, r1, a, lo, hi, rfl, ea, ⟨h1, h2, h3, h4⟩, q⟩ := hz
  cases r1
  obtain ⟨t, u, v, eo⟩ := (show ∃ t u v, s1.heap.get? a = some { cls := .type "range", data := .fields #[.int lo t, .int hi u, .int 1 v] } from I1.hok a _ ea)
  refine wpAny_pyIter_range eo (small_one h1 h2 h3 h4) ?_
  refine ⟨s1.heap.objs.size, [s1.heap.objs.size], _, _, H1, rfl, I1.kept (t' := s1.toks) fun b o e => Heap.get?_push_of_some _ e, turn_range _ lo (hi - lo).toNat, ?_, fun b hb => ?_, q⟩
  · have e1 : lo + ((0 : Nat) : Int) * 1 = lo := by simp
    have e2 : (((hi - lo).toNat : Nat) : Int) - ((0 : Nat) : Int) = Builtin.Range.rangeSize lo hi 1 := by rw [rangeSize_one]; split <;> omega
    show IsRangeIter _ _ (lo + ((0 : Nat) : Int) * 1) ((((hi - lo).toNat : Nat) : Int) - ((0 : Nat) : Int)) 1
    rw [e1, e2]
    exact Heap.get?_push_size _ rfl
  · have e : b = s1.heap.objs.size := by simpa using hb
    subst e
    exact I1.fpOk (Nat.le_refl _) (I1.hok.fresh (Nat.le_refl _))
end
end BayE
set_option Elab.async false
set_option linter.all false
set_option maxRecDepth 100000
set_option maxHeartbeats 4000000
namespace BayE
open PySem L2 PySem.Spec PyProof.Rows AutoSeq1
/-! ### enumerate(t) of a tuple -/
theorem meets_enum_tup (l : Addr) (items : Array Value) (n : Nat) (dct : Option Addr) (sl : Array (Option Value)) :
    Meets (Builtin.«enumerate.__new__» ⟨[.type "enumerate", .ref l], []⟩) (fun _ R s => s.heap.get? l = some { cls := .type "tuple", dict := dct, data := .seq items n, slots := sl } ∧
      R (.ok (.ret (.ref (s.heap.push { cls := .type "tuple_iterator", data := .fields #[.ref l, .int 0 0] }).objs.size)))
        { s with heap := (s.heap.push { cls := .type "tuple_iterator", data := .fields #[.ref l, .int 0 0] }).push { cls := .type "enumerate", data := .fields #[.none, .bool false, .ref s.heap.objs.size, rawInt 0, .none, .none] } }) :=
  .of_wp fun prog w A R s h => by
    obtain ⟨hp, g, d, tk, os⟩ := s
    obtain ⟨ht, hq⟩ := h
    have hsub := sub_enumerate
    have hT : Heap.IsTuple (Shared.heap ⟨hp, g, d, tk, os⟩) l items := ⟨_, ht, rfl, n, rfl⟩
    wp_walk using wpAny_loadPart' ht
    refine wpAny_stack_any fun st => wpAny_pure ?_
    split
    · rename_i c _ _ _ _ _
      cases (c == Value.type "enumerate")
      all_goals
        wp_walk using wpAny_loadPart' ht, wpAny_pyIter_tuple hT
        exact ⟨_, rfl, hq⟩
    · wp_walk using wpAny_loadPart' ht, wpAny_pyIter_tuple hT
      exact ⟨_, rfl, hq⟩
theorem call_enum_tup {prog : Program} {w : World} {A : Around} {E : Value → Shared → Prop} {s : Shared} {l : Addr} {items : Array Value} {Q : Value → Shared → Prop} (hT : s.heap.IsTuple l items)
    (h : ∀ h', IsEnum h' (s.heap.objs.size + 1) s.heap.objs.size 0 .none → h'.IsTupleIter s.heap.objs.size l 0 →
      (∀ b o, s.heap.get? b = some o → h'.get? b = some o) → Q (.ref (s.heap.objs.size + 1)) { s with heap := h' }) : wpAny (model prog w) A (call (.type "enumerate") [.ref l]) Q E s := by
  obtain ⟨⟨c, dct, dt, sl⟩, hl, hc, n, hd⟩ := hT
  obtain rfl : c = .type "tuple" := hc
  obtain rfl : dt = .seq items n := hd
  refine callType_new F.called_enumerate (by decide) (F.typeCall_enumerate_1 _) (F.newCall_enumerate_1 _) (fun obj => F.args_object_init_2 obj _) F.entry_enumerate_new (meets_enum_tup l items n dct sl) ⟨hl, ?_⟩
  have z1 : (s.heap.push { cls := .type "tuple_iterator", data := .fields #[.ref l, .int 0 0] }).objs.size = s.heap.objs.size + 1 := Heap.size_push ..
  show _ ∧ _
  rw [z1]
  have en : IsEnum ((s.heap.push { cls := .type "tuple_iterator", data := .fields #[.ref l, .int 0 0] }).push
      { cls := .type "enumerate", data := .fields #[.none, .bool false, .ref s.heap.objs.size, rawInt 0, .none, .none] }) (s.heap.objs.size + 1) s.heap.objs.size 0 .none := by
    have q := Heap.get?_push_size (s.heap.push { cls := .type "tuple_iterator", data := .fields #[.ref l, .int 0 0] })
      (o := { cls := .type "enumerate", data := .fields #[.none, .bool false, .ref s.heap.objs.size, rawInt 0, .none, .none] }) rfl
    rw [z1] at q
    exact q
  exact ⟨⟨_, en, rfl⟩, h _ en ⟨_, Heap.get?_push_of_some _ (Heap.get?_push_size _ rfl), rfl, rfl⟩ fun b o x => Heap.get?_push_of_some _ (Heap.get?_push_of_some _ x)⟩
/-- the tuple at a, each item in a new pair with its number -/
def IteT (K : PySem.W.Frag) (a : Addr) : It :=
  ⟨fun i H => ∃ (xs : List V) (x : V), SqT K H a xs ∧ xs[i]? = some x, fun i H v H' => ∃ T x, v = .ref T ∧ H T = none ∧ H' = upd H T (.tup [.int (i : Nat), x]) ∧ ∀ xs, SqT K H a xs → xs[i]? = some x, fun i H => ∃ xs : List V, SqT K H a xs ∧ xs.length = i⟩
theorem turn_enumT {P : Program} {w : World} {K : PySem.W.Frag} {elts : List Expr} {kk : Nat} {tpos : Pos} (a e it : Addr) (hne : e ≠ it) (hea : e ≠ a) (hia : it ≠ a) :
    Turn P w K (.Tuple elts kk tpos) (IteT K a) [e, it] e (fun i h => (∃ old, IsEnum h e it ((i : Nat) : Int) old) ∧ h.IsTupleIter it a i) where
  mem := by simp
  obj := fun i h st b hb => by
    obtain ⟨⟨old, he⟩, ⟨o, ho, hc, hd⟩⟩ := st
    rcases (show b = e ∨ b = it by simpa using hb) with z | z
    · rw [z]; exact ⟨_, he, fun v q => nomatch q⟩
    · rw [z]; exact ⟨o, ho, fun v q => by rw [hd] at q; cases q⟩
  keep := fun i h h' st k => let ⟨⟨old, he⟩, hi⟩ := st; ⟨⟨old, k e (by simp) _ he⟩, hi.at fun o q => k it (by simp) o q⟩
  item := by
    intro X hP hw hK hc i pins s σ H E I hf st hg
    subst hP hw hK
    obtain ⟨⟨old, he⟩, hit⟩ := st
    obtain ⟨xs, x, hq, hx⟩ := hg
    obtain ⟨its, rv, p, hz⟩ := I.tuple hq
    obtain ⟨u, hu, ru⟩ := rv.get hx
    have hil : i < its.toArray.size := by
      have := (List.getElem?_eq_some_iff.mp hu).1
      simpa using this
    have h1 : e < s.heap.objs.size := Heap.lt_size he
    have h2 : it < s.heap.objs.size := by obtain ⟨_, q, _⟩ := hit; exact Heap.lt_size q
    have he0 : IsEnum s.heap e it (0 + (i : Int)) old := by rw [Int.zero_add]; exact he
    refine wpAny_pyNext_enum_itemC (Draws.tuple (A := X.A.in1) (I.ok.hd hc) it a (Ne.symm hia) its.toArray) he0 ⟨hit, p⟩ hil hne (by simp [hne, hea]) fun y h' tk hy ho hst hT hsz hk => ?_
    obtain rfl : y = u := by
      have q1 : its.toArray[i]? = some y := hy
      have q2 : its.toArray[i]? = some u := by simpa using hu
      rw [q1] at q2
      exact Option.some.inj q2
    refine ⟨_, rfl, wpAny_letOwnedTupleGo_enum ho fun h'' he' sb => ?_⟩
    have hT2 : h''.get? s.heap.objs.size = some { cls := .type "tuple", data := .seq #[.int (0 + (i : Int)) tk, y] } := (sb.2 _ (Nat.ne_of_gt h1)).trans hT
    have new : ObjOk X.prog X.w (upd H s.heap.objs.size (.tup [.int (i : Nat), x])) h'' s.heap.objs.size (.tup [.int (i : Nat), x]) :=
      ⟨by show 2 ≤ sizeLine; decide, [.int (0 + (i : Int)) tk, y], .cons ⟨tk, by rw [Int.zero_add]⟩ (.cons ru .nil), ⟨_, hT2, rfl, _, rfl⟩⟩
    have I1 := I.turnedNew (t' := tk + 1) (ch := [e, it]) (fun b ob hb q => (sb.2 b (fun z => hb (by simp [z]))).trans (hk b ob (fun z => hb (by simp [z])) (fun z => hb (by simp [z])) q)) hf (Nat.le_refl _) new
    refine ⟨.ref s.heap.objs.size, _, I1, rfl, ⟨_, x, rfl, I.hok.fresh (Nat.le_refl _), rfl, fun ys hy => by rw [I.tuple_inj hy hq]; exact hx⟩, ⟨⟨y, ?_⟩, hst.1.at fun o q => (sb.2 it (Ne.symm hne)).trans q⟩, fun b hb => ?_⟩
    · have e1 : ((i + 1 : Nat) : Int) = 0 + (i : Int) + 1 := by omega
      rw [e1]
      exact he'
    · have hb' : b < s.heap.objs.size := by
        rcases (show b = e ∨ b = it by simpa using hb) with z | z
        · rw [z]; exact h1
        · rw [z]; exact h2
      rw [upd_ne (Nat.ne_of_lt hb')]
      exact (hf b hb).1
  done := by
    intro X hP hw hK hc i pins s σ H E I hf st hg
    subst hP hw hK
    obtain ⟨⟨old, he⟩, hit⟩ := st
    obtain ⟨xs, hq, hx⟩ := hg
    obtain ⟨its, rv, p, hz⟩ := I.tuple hq
    obtain ⟨f0, f1, f2, f3, f4, f5⟩ := hf it (by simp)
    have hl := rv.length
    subst hx
    have hit' : s.heap.IsTupleIter it a its.toArray.size := by rw [List.size_toArray, ← hl]; exact hit
    exact wpAny_pyNext_enum_endD (Draws.tuple (A := X.A.in1) (I.ok.hd hc) it a (Ne.symm hia) its.toArray) he ⟨hit', p⟩ fun h' hx => ⟨rfl, I.turned (t' := s.toks) (fun b o hb q => hx b o hb q) f0 f1 f3 f4 f5⟩
  self := fun A i s Q E st h => let ⟨⟨_, he⟩, _⟩ := st; wpAny_pyIter_enum he h
def iEnumT (K : PySem.W.Frag) (ta : TA) : TI := fun σ H R => ta σ H fun vs H1 => ∃ a xs, vs = [.ref a] ∧ SqT K H1 a xs ∧ R (IteT K a) H1
theorem pi_enumT {X : Cx} {e : Expr} {ta : TA} {p pos tpos : Pos} {elts : List Expr} {kk : Nat} (hg : Gl X "enumerate") (hm : X.mg "enumerate" = none) (ha : PA X [e] ta) (hs : starEach [e] X.env = [(false, eval e X.env)] := by rfl) :
    PI X (.Tuple elts kk tpos) (.Call (.Name "enumerate" p) [e] [] pos) (iEnumT X.K ta) := by
  refine ⟨fun pins s σ H R I h => ?_⟩
  refine Call_ (ld_blt I hg hm boot_enumerate (PyProof.Rows.callWith_type1 (thn (ha.run pos pins s σ H _ I h) fun us s1 hz => ?_) hs rfl))
  obtain ⟨vs, H1, I1, r1, a, xs, ex, hq, q⟩ := hz
  subst ex
  cases r1 with
  | cons r rr =>
    cases rr
    cases r
    obtain ⟨its, rv, tp, hz⟩ := I1.tuple hq
    have hla : a < s1.heap.objs.size := by obtain ⟨_, q, _⟩ := tp; exact Heap.lt_size q
    refine call_enum_tup tp fun h' he hit hk => wpAny_pyIter_enum he ?_
    have I2 : Inv X pins σ H1 { s1 with heap := h' } := I1.kept (t' := s1.toks) hk
    refine ⟨s1.heap.objs.size + 1, [s1.heap.objs.size + 1, s1.heap.objs.size], _, _, H1, rfl, I2, turn_enumT a (s1.heap.objs.size + 1) s1.heap.objs.size (Nat.succ_ne_self _) (Nat.ne_of_gt (Nat.lt_succ_of_lt hla)) (Nat.ne_of_gt hla), ⟨⟨.none, he⟩, hit⟩, fun b hb => ?_, q⟩
    have hle : s1.heap.objs.size ≤ b := by
      rcases (show b = s1.heap.objs.size + 1 ∨ b = s1.heap.objs.size by simpa using hb) with z | z
      · rw [z]; exact Nat.le_succ _
      · rw [z]; exact Nat.le_refl _
    exact I1.fpOk hle (I1.hok.fresh hle)
theorem walk_enumT {K : PySem.W.Frag} {a : Addr} {xs : List V} : Walk (IteT K a) xs.length (fun H => SqT K H a xs) (YPair (fun i => some (.int (i : Nat))) (fun i => xs[i]?)) where
  goes := fun i H hi h => ⟨xs, xs[i], h, by simp [hi]⟩
  stops := fun H h => ⟨xs, h, rfl⟩
  yields := fun i H x H' hi h y => by
    obtain ⟨T, x, e1, e2, e3, e4⟩ := y
    exact ⟨T, _, x, e1, e2, e3, rfl, e4 xs h⟩
end BayE
set_option Elab.async false
set_option linter.all false
set_option maxRecDepth 100000
set_option maxHeartbeats 4000000
namespace BayE
open PySem L2
/-! ### the part G of the heap that holds data and stays as it is -/
structure Stp (ms : List Addr) (G H G' H' : Hp) : Prop where
  gg : Same G G'
  sub : Same G' H'
  keep : ∀ b o, b ∉ ms → H b = some o → H' b = some o
  dom : ∀ b, H b ≠ none → H' b ≠ none
  new : ∀ b, G' b ≠ none → G b ≠ none ∨ H b = none
section
variable {ms ms' : List Addr} {G H G' H' G1 H1 G2 H2 : Hp} {p : Addr} {o : HO}
theorem none_of_ne {H : Hp} {b : Addr} (h : ¬ H b ≠ none) : H b = none := Classical.byContradiction h
theorem Stp.refl (s : Same G H) : Stp ms G H G H := ⟨Same.refl G, s, fun _ _ _ e => e, fun _ e => e, fun _ e => .inl e⟩
theorem Stp.trans (a : Stp ms G H G1 H1) (b : Stp ms G1 H1 G2 H2) : Stp ms G H G2 H2 :=
  ⟨a.gg.trans b.gg, b.sub, fun c o n e => b.keep c o n (a.keep c o n e), fun c e => b.dom c (a.dom c e), fun c e => by
    rcases b.new c e with z | z
    · exact a.new c z
    · exact .inr (none_of_ne fun q => a.dom c q z)⟩
theorem Stp.mono (a : Stp ms G H G1 H1) (h : ∀ b ∈ ms, b ∈ ms') : Stp ms' G H G1 H1 := ⟨a.gg, a.sub, fun c o n e => a.keep c o (fun z => n (h c z)) e, a.dom, a.new⟩
theorem Stp.nil (a : Stp [] G H G1 H1) : Stp ms G H G1 H1 := a.mono fun _ z => nomatch z
theorem Stp.same (a : Stp [] G H G1 H1) : Same H H1 := fun b o e => a.keep b o (fun z => nomatch z) e
theorem Stp.hn (a : Stp ms G H G1 H1) (h : H1 p = none) : H p = none := none_of_ne fun q => a.dom p q h
/-- a private object stays private -/
theorem Stp.gn (a : Stp ms G H G1 H1) (h : G p = none) (hp : H p = some o) : G1 p = none := none_of_ne fun q => by
  rcases a.new p q with z | z
  · exact z h
  · rw [hp] at z; cases z
theorem Stp.at (a : Stp ms G H G1 H1) (n : p ∉ ms) (hp : H p = some o) : H1 p = some o := a.keep p o n hp
theorem gnone {p : Addr} (s : Same G H) (h : H p = none) : G p = none := s.free h
theorem Stp.gnew (a : Stp ms G H G1 H1) (h : H1 p = none) : G1 p = none := a.sub.free h
/-- a new object that is data -/
theorem Stp.data (a : Stp ms G H G1 H1) (h : H1 p = none) : Stp ms G H (upd G1 p o) (upd H1 p o) :=
  ⟨fun b u e => by rw [upd_ne (ne_of_none (a.gg b u e) (a.gnew h))]; exact a.gg b u e,
   fun b u e => by
    by_cases hb : b = p
    · subst hb; rw [upd_same] at e ⊢; exact e
    · rw [upd_ne hb] at e ⊢; exact a.sub b u e,
   fun b u n e => by
    have q := a.keep b u n e
    rw [upd_ne (ne_of_none q h)]; exact q,
   fun b e => by
    by_cases hb : b = p
    · subst hb; rw [upd_same]; exact fun z => nomatch z
    · rw [upd_ne hb]; exact a.dom b e,
   fun b e => by
    by_cases hb : b = p
    · subst hb; exact .inr (a.hn h)
    · rw [upd_ne hb] at e; exact a.new b e⟩
/-- a new object that is not data -/
theorem Stp.priv (a : Stp ms G H G1 H1) (h : H1 p = none) : Stp ms G H G1 (upd H1 p o) :=
  ⟨a.gg, fun b u e => by
    have q := a.sub b u e
    rw [upd_ne (ne_of_none q h)]; exact q,
   fun b u n e => by
    have q := a.keep b u n e
    rw [upd_ne (ne_of_none q h)]; exact q,
   fun b e => by
    by_cases hb : b = p
    · subst hb; rw [upd_same]; exact fun z => nomatch z
    · rw [upd_ne hb]; exact a.dom b e, a.new⟩
/-- a store to an object that is not data: one of ms, or one that is new -/
theorem Stp.write (a : Stp ms G H G1 H1) (hg : G1 p = none) (hm : p ∈ ms ∨ H p = none) : Stp ms G H G1 (upd H1 p o) :=
  ⟨a.gg, fun b u e => by
    have q : b ≠ p := fun z => by subst z; rw [hg] at e; cases e
    rw [upd_ne q]; exact a.sub b u e,
   fun b u n e => by
    have q : b ≠ p := fun z => by
      subst z
      rcases hm with m | m
      · exact n m
      · rw [m] at e; cases e
    rw [upd_ne q]; exact a.keep b u n e,
   fun b e => by
    by_cases hb : b = p
    · subst hb; rw [upd_same]; exact fun z => nomatch z
    · rw [upd_ne hb]; exact a.dom b e, a.new⟩
/-- a new object becomes data -/
theorem Stp.freeze (a : Stp ms G H G1 H1) (h0 : H p = none) (h : H1 p = some o) (hg : G1 p = none) : Stp ms G H (upd G1 p o) H1 :=
  ⟨fun b u e => by rw [upd_ne (ne_of_none (a.gg b u e) hg)]; exact a.gg b u e,
   fun b u e => by
    by_cases hb : b = p
    · subst hb; rw [upd_same] at e; rw [← e]; exact h
    · rw [upd_ne hb] at e; exact a.sub b u e,
   a.keep, a.dom, fun b e => by
    by_cases hb : b = p
    · subst hb; exact .inr h0
    · rw [upd_ne hb] at e; exact a.new b e⟩
theorem same_upd (s : Same G H) (hg : G p = none) : Same G (upd H p o) := fun b u e => by
  have q : b ≠ p := fun z => by subst z; rw [hg] at e; cases e
  rw [upd_ne q]; exact s b u e
theorem same_new (h : G p = none) : Same G (upd G p o) := fun b u e => by rw [upd_ne (ne_of_none e h)]; exact e
end
/-! ### data -/
def Sq (K : PySem.W.Frag) (H : Hp) (a : Addr) (xs : List V) : Prop := SqT K H a xs ∨ SqL K H a xs
section
variable {K : PySem.W.Frag} {G H H' : Hp} {a : Addr} {xs : List V} {v : V} {d : PyData}
theorem Sq.up (s : Same G H) (h : Sq K G a xs) : Sq K H a xs := h.elim (fun h => .inl (SqT.ext h s)) fun h => .inr (SqL.ext h s)
theorem tup_sq (h : H a = some (.tup xs)) : Sq K H a xs := .inl (SqT.of h)
theorem lst_sq (h : H a = some (.lst xs)) : Sq K H a xs := .inr (SqL.of h)
mutual
theorem Dp.up (s : Same G H) : ∀ {d : PyData} {v : V}, Dp K G v d → Dp K H v d
  | _, _, .non => .non
  | _, _, .bl b => .bl b
  | _, _, .int i => .int i
  | _, _, .str x => .str x
  | _, _, .lst h r => .lst (SqL.ext h s) (DpAll.up s r)
  | _, _, .tup h r => .tup (SqT.ext h s) (DpAll.up s r)
theorem DpAll.up (s : Same G H) : ∀ {ds : List PyData} {vs : List V}, DpAll K G vs ds → DpAll K H vs ds
  | _, _, .nil => .nil
  | _, _, .cons h r => .cons (Dp.up s h) (DpAll.up s r)
end
theorem DpAll.len : ∀ {vs : List V} {ds : List PyData}, DpAll K H vs ds → vs.length = ds.length
  | _, _, .nil => rfl
  | _, _, .cons _ r => by rw [List.length_cons, List.length_cons, DpAll.len r]
theorem DpAll.get : ∀ {vs : List V} {ds : List PyData} {i : Nat} {v : V}, DpAll K H vs ds → vs[i]? = some v → ∃ d, ds[i]? = some d ∧ Dp K H v d
  | _, _, _, _, .nil, e => by simp at e
  | _, _, 0, _, .cons h _, e => by simp at e; subst e; exact ⟨_, rfl, h⟩
  | _, _, i + 1, _, .cons _ r, e => by
    obtain ⟨d, h1, h2⟩ := DpAll.get (i := i) r (by simpa using e)
    exact ⟨d, by simpa using h1, h2⟩
theorem DpAll.get' : ∀ {vs : List V} {ds : List PyData} {i : Nat} {d : PyData}, DpAll K H vs ds → ds[i]? = some d → ∃ v, vs[i]? = some v ∧ Dp K H v d
  | _, _, _, _, .nil, e => by simp at e
  | _, _, 0, _, .cons h _, e => by simp at e; subst e; exact ⟨_, rfl, h⟩
  | _, _, i + 1, _, .cons _ r, e => by
    obtain ⟨d, h1, h2⟩ := DpAll.get' (i := i) r (by simpa using e)
    exact ⟨d, by simpa using h1, h2⟩
theorem DpAll.app : ∀ {vs ws : List V} {ds es : List PyData}, DpAll K H vs ds → DpAll K H ws es → DpAll K H (vs ++ ws) (ds ++ es)
  | _, _, _, _, .nil, s => s
  | _, _, _, _, .cons h r, s => .cons h (DpAll.app r s)
theorem DpAll.ints : ∀ (ns : List Int), DpAll K H (ns.map V.int) (ns.map PyData.int)
  | [] => .nil
  | n :: ns => .cons (.int n) (DpAll.ints ns)
theorem DpAll.ints_inv : ∀ {ns : List Int} {vs : List V}, DpAll K H vs (ns.map PyData.int) → vs = ns.map V.int
  | [], vs, h => by cases h; rfl
  | n :: ns, vs, h => by
    cases h with
    | cons h r =>
      cases h
      rw [DpAll.ints_inv r]
      rfl
theorem DpAll.bls : ∀ (ns : List Bool), DpAll K H (ns.map V.bl) (ns.map PyData.bool)
  | [] => .nil
  | n :: ns => .cons (.bl n) (DpAll.bls ns)
/-- the type's name -/
def tyD : PyData → String
  | .none => "NoneType"
  | .bool _ => "bool"
  | .int _ => "int"
  | .str _ => "str"
  | .list _ => "list"
  | .tuple _ => "tuple"
  | .dict _ => "dict"
theorem ty_L (h : SqL K H a xs) : TyX K H (.ref a) (.type "list") := by
  rcases h with (h | ⟨o, h⟩) | ⟨o, its, n, hk, hc, _⟩
  · exact .base (.lst h)
  · exact .base (.frz h)
  · exact .kList hk hc
theorem ty_T (h : SqT K H a xs) : TyX K H (.ref a) (.type "tuple") := by
  rcases h with (h | ⟨o, h⟩) | ⟨o, its, n, hk, hc, _⟩
  · exact .base (.tup h)
  · exact .fTuple h
  · exact .kTuple hk hc
theorem ty_D (h : Dp K H v d) : TyX K H v (.type (tyD d)) := by
  cases h with
  | non => exact .base .non
  | bl b => exact .base (.bl b)
  | int i => exact .base (.int i)
  | str x => exact .base (.str x)
  | lst h _ => exact ty_L h
  | tup h _ => exact ty_T h
theorem ty_sq (h : Sq K H a xs) : ∃ t, (t = "list" ∨ t = "tuple") ∧ TyX K H (.ref a) (.type t) := h.elim (fun h => ⟨_, .inr rfl, ty_T h⟩) fun h => ⟨_, .inl rfl, ty_L h⟩
theorem TyX.up {t : Value} (s : Same H H') (h : TyX K H v t) : TyX K H' v t := by
  cases h with
  | base h =>
    cases h with
    | non => exact .base .non
    | bl b => exact .base (.bl b)
    | int i => exact .base (.int i)
    | str x => exact .base (.str x)
    | flt x => exact .base (.flt x)
    | lst e => exact .base (.lst (s _ _ e))
    | frz e => exact .base (.frz (s _ _ e))
    | tup e => exact .base (.tup (s _ _ e))
    | dK e => exact .base (.dK (s _ _ e))
    | dT e => exact .base (.dT (s _ _ e))
    | ins e cl h1 h2 h3 h4 => exact .base (.ins (s _ _ e) cl h1 h2 h3 h4)
  | byt b => exact .byt b
  | set e => exact .set (s _ _ e)
  | kList e c => exact .kList e c
  | kTuple e c => exact .kTuple e c
  | kDict e c => exact .kDict e c
  | fTuple e => exact .fTuple (s _ _ e)
  | fDict e => exact .fDict (s _ _ e)
theorem LenV.sq (h : Sq K H a xs) : LenV K (.ref a) H xs.length := h.elim (fun h => .inr ⟨_, h, rfl⟩) fun h => .inl ⟨_, h, rfl⟩
/-- an item of a list or a tuple -/
theorem rIx_sq {i : Int} {x : V} {Q : VK} (h : Sq K H a xs) (hx : atI xs i = some x) (q : Q x H) : rIx K (.ref a) (.int i) H Q :=
  h.elim (fun h => .inr (.inl ⟨_, _, _, _, rfl, rfl, h, hx, q⟩)) fun h => .inl ⟨_, _, _, _, rfl, rfl, h, hx, q⟩
end
end BayE
set_option Elab.async false
set_option linter.all false
set_option maxRecDepth 100000
set_option maxHeartbeats 4000000
namespace BayE
open PySem L2 PySem.Spec PyProof.Rows
/-! ### a walk over a list or a tuple that is data -/
def iSq (K : PySem.W.Frag) (te : TE) : TI := fun σ H R => te σ H fun x H1 => ∃ (a : Addr) (xs : List V) (G : Hp), x = .ref a ∧ Sq K G a xs ∧ Same G H1 ∧ ∀ J, Walk J xs.length (Same G) (YAt xs) → R J H1
theorem walk_sqL {K : PySem.W.Frag} {G : Hp} {a : Addr} {xs : List V} (h : SqL K G a xs) : Walk (Itl K a) xs.length (Same G) (YAt xs) := walk_list.mono (fun H s => SqL.ext h s) fun _ _ _ _ _ _ y => y
theorem walk_sqT {K : PySem.W.Frag} {G : Hp} {a : Addr} {xs : List V} (h : SqT K G a xs) : Walk (Itt K a) xs.length (Same G) (YAt xs) := walk_tup.mono (fun H s => SqT.ext h s) fun _ _ _ _ _ _ y => y
section
variable {X : Cx} {tg e : Expr} {te : TE}
theorem pi_sq (he : PE X e te) : PI X tg e (iSq X.K te) := by
  refine ⟨fun pins s σ H R I h => ?_⟩
  refine thn (he.run pins s σ H _ I h) fun v s1 hz => ?_
  obtain ⟨x, H1, I1, r1, a, xs, G, ex, hS, sg, q⟩ := hz
  subst ex
  cases r1
  rcases hS with hS | hS
  · obtain ⟨its, rv, p, hz⟩ := I1.tuple (SqT.ext hS sg)
    refine wpAny_pyIter_tuple (show s1.heap.IsTuple a its.toArray from p) ?_
    refine ⟨s1.heap.objs.size, [s1.heap.objs.size], _, _, H1, rfl, I1.kept (t' := s1.toks) (fun b o e => Heap.get?_push_of_some _ e), turn_tuple a _, ⟨_, Heap.get?_push_size _ rfl, rfl, rfl⟩, fun b hb => ?_, q _ (walk_sqT hS)⟩
    obtain rfl : b = s1.heap.objs.size := by simpa using hb
    exact I1.fpOk (Nat.le_refl _) (I1.hok.fresh (Nat.le_refl s1.heap.objs.size))
  · obtain ⟨its, rv, p, hz⟩ := I1.list (SqL.ext hS sg)
    refine wpAny_pyIter_list p.isList ?_
    refine ⟨s1.heap.objs.size, [s1.heap.objs.size], _, _, H1, rfl, I1.kept (t' := s1.toks) (fun b o e => Heap.get?_push_of_some _ e), turn_list a _, ⟨_, Heap.get?_push_size _ rfl, rfl, rfl⟩, fun b hb => ?_, q _ (walk_sqL hS)⟩
    obtain rfl : b = s1.heap.objs.size := by simpa using hb
    exact I1.fpOk (Nat.le_refl _) (I1.hok.fresh (Nat.le_refl s1.heap.objs.size))
end
/-! ### a comprehension whose items are made without a change of what stands -/
section
variable {J : It} {n : Nat} {Gd : Hp → Prop} {Y : Nat → Hp → V → Hp → Prop} {g : TG} {te : TE} {vs : List Nat} {σ : L2.St} {G0 H1 : Hp} {D : Addr} {Qd : Hp → Prop}
/-- Y gives the item (it may make a pair for it): hs is asked from the heap behind that -/
theorem lc_pure (w : Walk J n Gd Y) (Rel : Nat → V → Hp → Prop) (up : ∀ i v G G', Same G G' → Rel i v G → Rel i v G') (hn : n ≤ 1000000) (sg : Same G0 H1) (hD : H1 D = none)
    (hG : ∀ G H, Stp [D] G0 (upd H1 D (.lst [])) G H → Gd H)
    (hs : ∀ i x G H H' (Qy : V → Hp → Prop), i < n → Stp [D] G0 (upd H1 D (.lst [])) G H → Y i H x H' →
      (∀ y G2 H2, Stp [] G H G2 H2 → Rel i y G2 → Qy y H2) → g x (wipe σ vs) H' fun σ2 H2 => wipe σ2 vs = wipe σ vs ∧ te σ2 H2 Qy)
    (hd : ∀ G H ys, Stp [D] G0 (upd H1 D (.lst [])) G H → H D = some (.lst ys) → G D = none → ys.length = n → (∀ i y, ys[i]? = some y → Rel i y G) → Qd H) :
    ∃ W : Nat → Nat → Hp → Prop, (∃ m, W 0 m (upd H1 D (.lst []))) ∧ ∀ i m H, W i m H →
      (J.stop i H ∧ Qd H) ∨ (J.go i H ∧ ∃ Nx : Hp → Prop, (∀ H', Nx H' → ∃ m', m' < m ∧ W (i + 1) m' H') ∧ ∀ x H', J.yld i H x H' → g x (wipe σ vs) H' fun σ2 H2 => wipe σ2 vs = wipe σ vs ∧ tYes σ2 H2 fun b H3 =>
        if b = true then te σ2 H3 fun y H4 => ∃ acc, H4 D = some (.lst acc) ∧ acc.length < sizeLine ∧ Nx (upd H4 D (.lst (acc ++ [y]))) else Nx H3) := by
  have s0 : Same G0 (upd H1 D (.lst [])) := same_upd sg (sg.free hD)
  refine lc_it w (fun i H => ∃ G ys, Stp [D] G0 (upd H1 D (.lst [])) G H ∧ H D = some (.lst ys) ∧ G D = none ∧ ys.length = i ∧ ∀ j y, ys[j]? = some y → Rel j y G)
    ⟨G0, [], .refl s0, upd_same, sg.free hD, rfl, fun j y z => by simp at z⟩ (fun i H _ ⟨G, ys, st, _⟩ => hG G H st) ?_ ?_
  · rintro i x H H' hi ⟨G, ys, st, hl, hg, hy, hr⟩ y
    have step := hs i x G H H' (fun y H4 => ∃ acc, H4 D = some (.lst acc) ∧ acc.length < sizeLine ∧ ∃ G ys, Stp [D] G0 (upd H1 D (.lst [])) G (upd H4 D (.lst (acc ++ [y]))) ∧ upd H4 D (.lst (acc ++ [y])) D = some (.lst ys) ∧ G D = none ∧ ys.length = i + 1 ∧ ∀ j y, ys[j]? = some y → Rel j y G) hi st y ?_
    · have mono := step
      exact mono
    · intro v G2 H2 st2 hv
      have hD2 : H2 D = some (.lst ys) := st2.same _ _ hl
      have hg2 : G2 D = none := st2.gn hg hl
      refine ⟨ys, hD2, by rw [hy, sizeLine_eq]; omega, G2, ys ++ [v], (st.trans st2.nil).write hg2 (.inl (by simp)), upd_same, hg2, by simp [hy], fun j z hz => ?_⟩
      by_cases hj : j < ys.length
      · rw [List.getElem?_append_left hj] at hz
        exact up _ _ _ _ st2.gg (hr j z hz)
      · have e : j = ys.length := by
          have := (List.getElem?_eq_some_iff.mp hz).1
          simp at this
          omega
        subst e
        simp at hz
        subst hz
        rw [hy]
        exact hv
  · rintro H ⟨G, ys, st, hl, hg, hy, hr⟩
    exact hd G H ys st hl hg hy hr
end
/-- what a walk with a new object at D of its own leaves, from the entry -/
theorem Stp.own {ms : List Addr} {G H G0 H0 G1 H1 : Hp} {D : Addr} {o : HO} (a : Stp ms G H G0 H0) (hD : H0 D = none) (st : Stp [D] G0 (upd H0 D o) G1 H1) : Stp ms G H G1 H1 := by
  have hn : H D = none := a.hn hD
  refine ⟨a.gg.trans st.gg, st.sub, fun b u n e => ?_, fun b e => ?_, fun b e => ?_⟩
  · have hb : b ≠ D := ne_of_none e hn
    exact st.keep b u (by simpa using hb) (by rw [upd_ne hb]; exact a.keep b u n e)
  · refine st.dom b ?_
    by_cases hb : b = D
    · subst hb; rw [upd_same]; exact fun z => nomatch z
    · rw [upd_ne hb]; exact a.dom b e
  · by_cases hb : b = D
    · exact .inr (by rw [hb]; exact hn)
    · rcases st.new b e with z | z
      · exact a.new b z
      · rw [upd_ne hb] at z
        exact .inr (none_of_ne fun q => a.dom b q z)
end BayE
set_option Elab.async false
set_option linter.all false
set_option maxRecDepth 100000
set_option maxHeartbeats 4000000
namespace B90
open PySem L2 BayE
def topS (i : Nat) : Stmt := PySem.Challenge.pw_baysout_k90_whole_orders_of_tables.main.body.getD i (.Pass ⟨0, 0, 0, 0⟩)
abbrev s_is_integer : Stmt := topS 4
abbrev s_is_within : Stmt := topS 5
abbrev s_fixed : Stmt := topS 7
abbrev s_PInit : Stmt := inClass (topS 8) 0
abbrev s_PBool : Stmt := inClass (topS 8) 1
abbrev s_PEq : Stmt := inClass (topS 8) 2
abbrev s_DBool : Stmt := inClass (topS 9) 0
abbrev s_OInit : Stmt := inClass (topS 13) 0
abbrev s_TInit : Stmt := inClass (topS 14) 0
/-- a def of the top as it stands -/
structure DefT (K : PySem.W.Frag) (mg : Str → Option Value) (x : Str) (st : Stmt) (f : Addr) (fd : FuncData) : Prop where
  F : Fun K x x st f fd
  g : mg x = some (.ref f)
section
variable {P : Program} {w : World} {K : PySem.W.Frag} {mg : Str → Option Value} {base : Heap}
/-- what isinstance tells of ints and bools -/
def IsIntV (K : PySem.W.Frag) (H : Hp) (v : V) (b : Bool) : Prop := ∃ t, TyX K H v (.type t) ∧ kitB t "int" = some (b || t == "bool") ∧ kitB t "bool" = some (t == "bool") ∧ (t == "bool" → b = false)
def isIntD : PyData → Bool
  | .int _ => true
  | _ => false
theorem isInt_D {H : Hp} {v : V} {d : PyData} (h : Dp K H v d) : IsIntV K H v (isIntD d) := by
  refine ⟨tyD d, ty_D h, ?_⟩
  cases h <;> (dsimp only [tyD, isIntD]; exact ⟨by decide +kernel, by decide +kernel, by decide +kernel⟩)
theorem IsIntV.up {H H' : Hp} {v : V} {b : Bool} (s : Same H H') (h : IsIntV K H v b) : IsIntV K H' v b := let ⟨t, h1, h2⟩ := h; ⟨t, TyX.up s h1, h2⟩
def sp_is_integer (K : PySem.W.Frag) : Sp := fun vs H Q _ => ∃ v b, vs = [v] ∧ IsIntV K H v b ∧ Q (.bl b) H
theorem sc_is_integer : FnScope ["value"] ["value"] (defScope s_is_integer) := ⟨rfl, rfl, rfl, by decide +kernel, rfl, by decide +kernel, by decide +kernel⟩
theorem ok_is_integer {f : Addr} {fd : FuncData} (F : Fun K "is_integer" "is_integer" s_is_integer f fd) (m1 : mg "isinstance" = none) (m2 : mg "int" = none) (m3 : mg "bool" = none) : FnOk P w K mg base CX0 1 f fd ["value"] (sp_is_integer K) := by
  refine F.ok sc_is_integer (fun vs H Q E h => ?_) (fun cdv A outer s H vs Q E hr h => ?_)
  · obtain ⟨v, b, rfl, _⟩ := h
    rfl
  · obtain ⟨v, b, rfl, ⟨t, hty, h1, h2, h3⟩, k⟩ := h
    refine ⟨_, pss_one (ps_ret (pe_and (pe_callB call_isi (by rfl) m1 (by decide +kernel) (pa_cons (pv 0) (pa_cons (pe_bltn (v := .ty "int") (by rfl) m2 (by decide +kernel) rfl) pa_nil)))
      (pe_one (pe_not (pe_callB call_isi (by rfl) m1 (by decide +kernel) (pa_cons (pv 0) (pa_cons (pe_bltn (v := .ty "bool") (by rfl) m3 (by decide +kernel) rfl) pa_nil)))))))  , ?_⟩
    refine ⟨_, rfl, v, .ty "int", .type t, .type "int", _, rfl, .ty _, hty, kit_ty h1, ?_⟩
    refine ⟨_, rfl, ?_⟩
    refine ite2 (fun e => ?_) (fun e => ?_)
    · refine ⟨_, rfl, v, .ty "bool", .type t, .type "bool", _, rfl, .ty _, hty, kit_ty h2, ?_⟩
      refine ⟨_, rfl, ?_⟩
      cases b <;> cases q : (t == "bool") <;> simp_all
    · cases b <;> cases q : (t == "bool") <;> simp_all
def sp_is_within (K : PySem.W.Frag) : Sp := fun vs H Q _ => ∃ v lo hi, vs = [v, .int lo, .int hi] ∧ ((∃ i, v = .int i ∧ Q (.bl (decide (lo ≤ i) && decide (i ≤ hi))) H) ∨ (IsIntV K H v false ∧ Q (.bl false) H))
theorem sc_is_within : FnScope ["value", "least", "most"] ["value", "least", "most"] (defScope s_is_within) := ⟨rfl, rfl, rfl, by decide +kernel, rfl, by decide +kernel, by decide +kernel⟩
theorem ok_is_within {f g : Addr} {fd gd : FuncData} (F : Fun K "is_within" "is_within" s_is_within f fd) (D : DefT K mg "is_integer" s_is_integer g gd) (G : FnOk P w K mg base CX0 1 g gd ["value"] (sp_is_integer K)) : FnOk P w K mg base CX0 2 f fd ["value", "least", "most"] (sp_is_within K) := by
  have b1 : Binds K gd ["value"] [] := D.F.binds fun _ _ _ _ _ _ us hl => match us, hl with | [_], _ => rfl
  refine F.ok sc_is_within (fun vs H Q E h => ?_) (fun cdv A outer s H vs Q E hr h => ?_)
  · obtain ⟨v, lo, hi, rfl, _⟩ := h
    rfl
  · obtain ⟨v, lo, hi, rfl, k⟩ := h
    refine ⟨_, pss_cons (ps_if (pt_not (pt_val (pe_call G hr rfl D.g D.F.kp b1 .nil pass0 (pa_cons (pv 0) pa_nil)))) (pss_one (ps_ret pe_bl)) pss_nil)
      (pss_one (ps_ret (pe_and (pe_or (pe_cmpR op_isN (pv 1) pe_non (nomark _)) (pe_one (pe_cmpR op_le (pv 1) (pv 0) (nomark _)))) (pe_one (pe_or (pe_cmpR op_isN (pv 2) pe_non (nomark _)) (pe_one (pe_cmpR op_le (pv 0) (pv 2) (nomark _)))))))), ?_⟩
    rcases k with ⟨i, rfl, k⟩ | ⟨hi0, k⟩
    · refine ⟨_, rfl, _, true, rfl, isInt_D (.int i), true, rfl, ?_⟩
      refine iteF ?_
      refine ⟨_, rfl, rfl, false, rfl, ?_⟩
      refine iteF ?_
      refine ⟨_, rfl, _, rfl, _, _, rfl, rfl, _, rfl, ?_⟩
      cases e : decide (lo ≤ i) with
      | true =>
        refine iteT ?_
        refine ⟨_, rfl, rfl, false, rfl, ?_⟩
        refine iteF ?_
        refine ⟨_, rfl, _, rfl, _, _, rfl, rfl, ?_⟩
        rw [e] at k
        exact k
      | false =>
        refine iteF ?_
        rw [e] at k
        exact k
    · refine ⟨_, rfl, _, false, rfl, hi0, false, rfl, ?_⟩
      exact iteT k
end
end B90
set_option Elab.async false
set_option linter.all false
set_option maxRecDepth 100000
set_option maxHeartbeats 4000000
namespace B90
open PySem L2 BayE
/-! ### data with each list as a tuple -/
mutual
def fix : PyData → PyData
  | .list ds => .tuple (fixAll ds)
  | .tuple ds => .tuple (fixAll ds)
  | .none => .none
  | .bool b => .bool b
  | .int i => .int i
  | .str x => .str x
  | .dict kvs => .dict kvs
def fixAll : List PyData → List PyData
  | [] => []
  | d :: ds => fix d :: fixAll ds
end
theorem fixAll_len : ∀ ds : List PyData, (fixAll ds).length = ds.length
  | [] => by simp [fixAll]
  | d :: ds => by simp [fixAll, fixAll_len ds]
theorem fixAll_get : ∀ {ds : List PyData} {i : Nat} {d : PyData}, ds[i]? = some d → (fixAll ds)[i]? = some (fix d)
  | [], i, d, h => by simp at h
  | e :: ds, 0, d, h => by simp at h; subst h; simp [fixAll]
  | e :: ds, i + 1, d, h => by
    have q := fixAll_get (ds := ds) (i := i) (d := d) (by simpa using h)
    simpa [fixAll] using q
theorem fixAll_ints : ∀ ns : List Int, fixAll (ns.map PyData.int) = ns.map PyData.int
  | [] => by simp [fixAll]
  | n :: ns => by simp [fixAll, fix, fixAll_ints ns]
/-- no deeper than n, no longer than a million -/
def okd : Nat → PyData → Prop
  | _, .none => True
  | _, .bool _ => True
  | _, .int _ => True
  | _, .str _ => True
  | n + 1, .list ds => ds.length ≤ 1000000 ∧ ∀ d ∈ ds, okd n d
  | n + 1, .tuple ds => ds.length ≤ 1000000 ∧ ∀ d ∈ ds, okd n d
  | _, _ => False
def seqD : PyData → Bool
  | .list _ => true
  | .tuple _ => true
  | _ => false
theorem fix_id {d : PyData} (e : seqD d = false) : fix d = d := by
  cases d with
  | list ds => simp [seqD] at e
  | tuple ds => simp [seqD] at e
  | _ => simp [fix]
section
variable {P : Program} {w : World} {K : PySem.W.Frag} {mg : Str → Option Value} {base : Heap}
/-- a value's kind, as isinstance(x, (list, tuple)) asks for it -/
def IsSeqV (K : PySem.W.Frag) (H : Hp) (v : V) (b : Bool) : Prop := ∃ t, TyX K H v t ∧ PySem.W.kitAny K t [.type "list", .type "tuple"] = some b
theorem kitAny_LT {K : PySem.W.Frag} {t : String} {b1 b2 : Bool} (h1 : kitB t "list" = some b1) (h2 : kitB t "tuple" = some b2) : PySem.W.kitAny K (.type t) [.type "list", .type "tuple"] = some (b1 || b2) :=
  kitAny_cons (kit_ty h1) (fun e => by
    subst e
    exact kitAny_cons (kit_ty h2) (fun e => by subst e; exact kitAny_nil) fun e => by subst e; rfl) fun e => by subst e; rfl
theorem isSeq_D {H : Hp} {v : V} {d : PyData} (h : Dp K H v d) : IsSeqV K H v (seqD d) := by
  refine ⟨_, ty_D h, ?_⟩
  cases h with
  | non => exact kitAny_LT (b1 := false) (b2 := false) (by decide +kernel) (by decide +kernel)
  | bl b => exact kitAny_LT (t := "bool") (b1 := false) (b2 := false) (by decide +kernel) (by decide +kernel)
  | int i => exact kitAny_LT (t := "int") (b1 := false) (b2 := false) (by decide +kernel) (by decide +kernel)
  | str x => exact kitAny_LT (t := "str") (b1 := false) (b2 := false) (by decide +kernel) (by decide +kernel)
  | lst h r => exact kitAny_LT (t := "list") (b1 := true) (b2 := false) (by decide +kernel) (by decide +kernel)
  | tup h r => exact kitAny_LT (t := "tuple") (b1 := false) (b2 := true) (by decide +kernel) (by decide +kernel)
theorem isSeq_sq {H : Hp} {a : Addr} {xs : List V} (h : Sq K H a xs) : IsSeqV K H (.ref a) true := by
  rcases h with h | h
  · exact ⟨_, ty_T h, kitAny_LT (b1 := false) (b2 := true) (by decide +kernel) (by decide +kernel)⟩
  · exact ⟨_, ty_L h, kitAny_LT (b1 := true) (b2 := false) (by decide +kernel) (by decide +kernel)⟩
theorem IsSeqV.up {H H' : Hp} {v : V} {b : Bool} (s : Same H H') (h : IsSeqV K H v b) : IsSeqV K H' v b := let ⟨t, h1, h2⟩ := h; ⟨t, TyX.up s h1, h2⟩
theorem seq_new {H : Hp} {x : V} {tp : Addr} {b : Bool} (h : IsSeqV K H x b) (hp : H tp = none) : ∃ t, TyX K (upd H tp (.tup [.ty "list", .ty "tuple"])) x t ∧ PySem.W.kitAny K t [.type "list", .type "tuple"] = some b ∧ Paired ClsV [V.ty "list", V.ty "tuple"] [Value.type "list", Value.type "tuple"] := by
  obtain ⟨t, h1, h2⟩ := IsSeqV.up (same_new (o := HO.tup [.ty "list", .ty "tuple"]) hp) h
  exact ⟨t, h1, h2, .cons (.ty _) (.cons (.ty _) .nil)⟩
def sp_fixed (K : PySem.W.Frag) : Nat → Sp
  | 0 => fun _ _ _ _ => False
  | n + 1 => fun vs H Q _ => ∃ v d G, vs = [v] ∧ Dp K G v d ∧ Same G H ∧ okd n d ∧ ∀ v' G' H', Stp [] G H G' H' → Dp K G' v' (fix d) → Q v' H'
theorem sc_fixed : FnScope ["value", "each"] ["value"] (defScope s_fixed) := ⟨rfl, rfl, rfl, by decide +kernel, rfl, by decide +kernel, by decide +kernel⟩
theorem dpAll_of {G : Hp} : ∀ {vs : List V} {ds : List PyData}, vs.length = ds.length → (∀ (i : Nat) (v : V), vs[i]? = some v → ∃ d, ds[i]? = some d ∧ Dp K G v d) → DpAll K G vs ds
  | [], [], _, _ => .nil
  | v :: vs, d :: ds, hl, h => by
    obtain ⟨e, h1, h2⟩ := h 0 v rfl
    simp at h1
    subst h1
    exact .cons h2 (dpAll_of (by simpa using hl) fun i x hx => by
      obtain ⟨e, h3, h4⟩ := h (i + 1) x (by simpa using hx)
      exact ⟨e, by simpa using h3, h4⟩)
theorem ok_fixed {f : Addr} {fd : FuncData} (D : DefT K mg "fixed" s_fixed f fd) (m1 : mg "isinstance" = none) (m2 : mg "list" = none) (m3 : mg "tuple" = none) : ∀ n : Nat, FnOk P w K mg base CX0 n f fd ["value"] (sp_fixed K n)
  | 0 => ⟨fun _ _ _ _ h => h.elim, fun _ _ _ _ _ _ _ _ _ _ _ _ _ h => h.elim⟩
  | n + 1 => by
    have G := ok_fixed D m1 m2 m3 n
    have b1 : Binds K fd ["value"] [] := D.F.binds fun _ _ _ _ _ _ us hl => match us, hl with | [_], _ => rfl
    refine D.F.ok sc_fixed (fun vs H Q E h => ?_) (fun cdv A outer s H vs Q E hr h => ?_)
    · obtain ⟨v, d, G, rfl, _⟩ := h
      rfl
    · obtain ⟨v, d, Gh, rfl, hd, sg, hok, k⟩ := h
      refine ⟨_, pss_one (ps_ret (pe_ifExp (pt_val (pe_callB call_isiT (by rfl) m1 (by decide +kernel) (pa_cons (pv 0) (pa_cons (pe_tup (pa_cons (pe_bltn (v := .ty "list") (by rfl) m2 (by decide +kernel) rfl) (pa_cons (pe_bltn (v := .ty "tuple") (by rfl) m3 (by decide +kernel) rfl) pa_nil))) pa_nil))))
        (pe_callTy call_tuple_of (by rfl) m3 (by decide +kernel) (pa_cons (pe_lc (own := [("each", 1)]) (g := gName 1) (tt := tYes) (by rfl) sc_fixed.nd (pi_sq (pv 0)) (blkOk_by (own := [("each", 1)]) (N := ["value", "each"]) (sc := defScope s_fixed) (by decide +kernel)) (fun _ _ _ _ _ => pg_name (i := 1) sc_fixed.nd rfl (Or.inl rfl)) (fun _ _ _ _ _ => pts_nil)
          (fun _ _ _ _ _ => pe_call G hr rfl D.g D.F.kp b1 .nil pass0 (pa_cons (pv 1) pa_nil))) pa_nil))
        (pv 0))), ?_⟩
      refine ⟨_, rfl, (by show 2 ≤ sizeLine; decide), fun tp htp => ?_⟩
      obtain ⟨ty, y1, y2, y3⟩ := seq_new (isSeq_D (Dp.up sg hd)) htp
      refine ⟨v, tp, _, ty, _, _, rfl, upd_same, y3, y1, y2, ?_⟩
      have st0 : Stp [] Gh H Gh (upd H tp (.tup [.ty "list", .ty "tuple"])) := (Stp.refl sg).priv htp
      refine ⟨_, rfl, ?_⟩
      by_cases hsd : seqD d = true
      · rw [hsd]
        refine iteT ?_
        obtain ⟨a, xs, ds, n', rfl, rfl, hS, hA, hlen, hall, hfix⟩ : ∃ a xs ds n', n = n' + 1 ∧ v = .ref a ∧ Sq K Gh a xs ∧ DpAll K Gh xs ds ∧ ds.length ≤ 1000000 ∧ (∀ d ∈ ds, okd n' d) ∧ fix d = .tuple (fixAll ds) := by
          cases hd with
          | lst h r =>
            cases n with
            | zero => exact hok.elim
            | succ n' => exact ⟨_, _, _, n', rfl, rfl, .inr h, r, hok.1, hok.2, by simp [fix]⟩
          | tup h r =>
            cases n with
            | zero => exact hok.elim
            | succ n' => exact ⟨_, _, _, n', rfl, rfl, .inl h, r, hok.1, hok.2, by simp [fix]⟩
          | _ => cases hsd
        refine ⟨_, rfl, a, xs, Gh, rfl, hS, st0.sub, fun J wJ Dl hDl => ?_⟩
        have hxs : xs.length = ds.length := DpAll.len hA
        refine lc_pure wJ (fun i v G => ∃ d, ds[i]? = some d ∧ Dp K G v (fix d)) (fun i v G G' s ⟨d, h1, h2⟩ => ⟨d, h1, Dp.up s h2⟩) (by omega) st0.sub hDl (fun G H st => st.gg.trans st.sub) ?_ ?_
        · rintro i x G1 H1 H2 Qy hi st ⟨rfl, hx⟩ hq
          obtain ⟨dx, hdx, hdp⟩ := DpAll.get hA hx
          refine ⟨rfl, _, rfl, x, dx, G1, rfl, Dp.up st.gg hdp, st.sub, hall dx (List.mem_of_getElem? hdx), fun v' G' H' st' hv' => ?_⟩
          exact hq v' G' H' st' ⟨dx, hdx, hv'⟩
        · intro G1 H1 ys st hl hg hlen2 hrel
          refine ⟨Dl, ys, rfl, .inl ⟨SqL.of hl, fun p hp => ?_⟩⟩
          have st1 : Stp [] Gh H G1 H1 := Stp.own st0 hDl st
          have st2 := st1.data (o := HO.tup ys) hp
          refine k (.ref p) _ _ st2 ?_
          rw [hfix]
          refine .tup (SqT.of upd_same) (dpAll_of (by rw [fixAll_len]; omega) fun i y hy => ?_)
          obtain ⟨d', h1, h2⟩ := hrel i y hy
          exact ⟨fix d', fixAll_get h1, Dp.up (same_new (st1.gnew hp)) h2⟩
      · have e : seqD d = false := by simpa using hsd
        rw [e]
        refine iteF ?_
        refine ⟨_, rfl, k v Gh _ st0 ?_⟩
        have e2 : fix d = d := fix_id e
        rw [e2]
        exact hd
end
end B90
set_option Elab.async false
set_option linter.all false
set_option maxRecDepth 100000
set_option maxHeartbeats 4000000
namespace B90
open PySem L2 BayE NdefX StX
/-- what the walk asks of a class of papers -/
structure PapC (K : PySem.W.Frag) (C : Addr) : Prop where
  cl : Cls K C
  nW : NoAttr K C "word"
  nP : NoAttr K C "parts"
  nPl : NoAttr K C "places"
  n1 : NoAttr K C "one"
  n2 : NoAttr K C "other"
section
variable {P : Program} {w : World} {K : PySem.W.Frag} {mg : Str → Option Value} {base : Heap}
/-! ### Paper.__init__ -/
def sp_PI0 (K : PySem.W.Frag) (n : Nat) : Sp := fun vs H Q _ => ∃ (x pt : Addr) (wd : Str) (C dx : Addr) (fs : List (Str × V)) (G : Hp) (ds : List PyData), vs = [.ref x, .str wd, .ref pt] ∧ H x = some (.ins C dx fs) ∧ PapC K C ∧ G x = none ∧ Same G H ∧ Dp K G (.ref pt) (.tuple ds) ∧ okd n (.tuple ds) ∧ fs.length < 900 ∧
  ∀ v' G' H', Stp [x] G H G' H' → H' x = some (.ins C dx (putF "parts" v' (putF "word" (.str wd) fs))) → G' x = none → Dp K G' v' (.tuple (fixAll ds)) → Q .non H'
def sp_PI (K : PySem.W.Frag) (n : Nat) : Sp := fun vs H Q _ => ∃ (x : Addr) (wd : Str) (rest : List V) (C dx : Addr) (fs : List (Str × V)) (G : Hp) (ds : List PyData), vs = .ref x :: .str wd :: rest ∧ H x = some (.ins C dx fs) ∧ PapC K C ∧ G x = none ∧ Same G H ∧ DpAll K G rest ds ∧ okd n (.tuple ds) ∧ fs.length < 900 ∧
  ∀ v' G' H', Stp [x] G H G' H' → H' x = some (.ins C dx (putF "parts" v' (putF "word" (.str wd) fs))) → G' x = none → Dp K G' v' (.tuple (fixAll ds)) → Q .non H'
theorem putF_len (f : Str) (v : V) : ∀ fs : List (Str × V), (putF f v fs).length ≤ fs.length + 1
  | [] => by simp [putF]
  | (g, u) :: fs => by
    unfold putF
    split
    · simp
    · have := putF_len f v fs
      simp only [List.length_cons]
      omega
theorem sc_PInit : FnScope ["self", "word", "parts"] ["self", "word", "parts"] (defScope s_PInit) := ⟨rfl, rfl, rfl, by decide +kernel, rfl, by decide +kernel, by decide +kernel⟩
theorem ok_PInit {f g : Addr} {fd gd : FuncData} {n : Nat} (F : Fun K "__init__" "Paper.__init__" s_PInit f fd) (D : DefT K mg "fixed" s_fixed g gd) (G : FnOk P w K mg base CX0 (n + 1) g gd ["value"] (sp_fixed K (n + 1))) :
    FnR P w K mg base CX0 (n + 2) f (sp_PI K n) := by
  have b1 : Binds K gd ["value"] [] := D.F.binds fun _ _ _ _ _ _ us hl => match us, hl with | [_], _ => rfl
  obtain ⟨oc, od, kV, doc, pm, an, cdv, ct, osl, efd, lk, hcd⟩ := F.ex
  rw [efd] at lk
  refine FnR.imp (fn_star (sp := sp_PI0 K n) (ps := ["self", "word"]) (pv := "parts") lk hcd sc_PInit cxUp_none (bind_star2 (B := fun xs => bindArgs (PySem.W.fnOf "__init__" "Paper.__init__" (defArgs s_PInit) (defBody s_PInit) (defScope s_PInit) .none kV doc pm an cdv ct) ⟨xs, []⟩) (fun a b => rfl) fun a b r rs => rfl) ?_) ?_
  · intro A outer s H vs Q E hr h
    obtain ⟨x, pt, wd, C, dx, fs, Gh, ds, rfl, hx, T, gx, sg, hd, hok, hfs, k⟩ := h
    refine ⟨_, PSs.nox (pss_cons (ps_fld (pv 0) (pv 1) rfl) (pss_one (ps_fld (pv 0) (pe_call G hr rfl D.g D.F.kp b1 .nil pass0 (pa_cons (pv 2) pa_nil)) rfl))), ?_⟩
    refine ⟨_, rfl, _, rfl, x, C, dx, fs, rfl, hx, T.cl, T.nW, by omega, ?_⟩
    have st1 : Stp [x] Gh H Gh (upd H x (.ins C dx (putF "word" (.str wd) fs))) := (Stp.refl sg).write gx (.inl (by simp))
    refine ⟨_, rfl, .ref pt, .tuple ds, Gh, rfl, hd, st1.sub, hok, fun v' G' H' st hv => ?_⟩
    have gx' : G' x = none := st.gn gx upd_same
    refine ⟨_, rfl, x, C, dx, _, rfl, st.same _ _ upd_same, T.cl, T.nP, (by have := putF_len "word" (V.str wd) fs; omega), ?_⟩
    refine k v' G' _ ((st1.trans st.nil).write gx' (.inl (by simp))) upd_same gx' ?_
    have e : fix (.tuple ds) = .tuple (fixAll ds) := by simp [fix]
    rw [← e]
    exact hv
  · intro vs H Q E h
    obtain ⟨x, wd, rest, C, dx, fs, Gh, ds, rfl, hx, T, gx, sg, hd, hok, hfs, k⟩ := h
    have hz : ds.length ≤ 1000000 := by
      cases n with
      | zero => exact hok.elim
      | succ n => exact hok.1
    refine ⟨[.ref x, .str wd], rest, rfl, rfl, by rw [DpAll.len hd, sizeLine_eq]; omega, fun p hp => ?_⟩
    have st1 : Stp [x] Gh H (upd Gh p (.tup rest)) (upd H p (.tup rest)) := (Stp.refl sg).data hp
    have hxp : x ≠ p := ne_of_none hx hp
    refine ⟨x, p, wd, C, dx, fs, upd Gh p (.tup rest), ds, rfl, by rw [upd_ne hxp]; exact hx, T, by rw [upd_ne hxp]; exact gx, st1.sub, .tup (SqT.of upd_same) (DpAll.up st1.gg hd), hok, hfs, fun v' G' H' st h1 h2 h3 => k v' G' H' (st1.trans st) h1 h2 h3⟩
/-! ### __bool__ -/
theorem sc_PBool : FnScope ["self"] ["self"] (defScope s_PBool) := ⟨rfl, rfl, rfl, by decide +kernel, rfl, by decide +kernel, by decide +kernel⟩
theorem ok_PBool {f : Addr} {fd : FuncData} (F : Fun K "__bool__" "Paper.__bool__" s_PBool f fd) : FnOk P w K mg base CX0 1 f fd ["self"] (spBool true) := by
  refine F.ok sc_PBool (fun vs H Q E h => ?_) (fun cdv A outer s H vs Q E hr h => ?_)
  · obtain ⟨a, rfl, _⟩ := h
    rfl
  · obtain ⟨a, rfl, k⟩ := h
    exact ⟨_, pss_one (ps_ret pe_bl), k⟩
theorem sc_DBool : FnScope ["self"] ["self"] (defScope s_DBool) := ⟨rfl, rfl, rfl, by decide +kernel, rfl, by decide +kernel, by decide +kernel⟩
theorem ok_DBool {f : Addr} {fd : FuncData} (F : Fun K "__bool__" "Denial.__bool__" s_DBool f fd) : FnOk P w K mg base CX0 1 f fd ["self"] (spBool false) := by
  refine F.ok sc_DBool (fun vs H Q E h => ?_) (fun cdv A outer s H vs Q E hr h => ?_)
  · obtain ⟨a, rfl, _⟩ := h
    rfl
  · obtain ⟨a, rfl, k⟩ := h
    exact ⟨_, pss_one (ps_ret pe_bl), k⟩
/-! ### Order.__init__, Torn.__init__ -/
/-- an Order that stands at x: of places that are the data d -/
def OrderAt (K : PySem.W.Frag) (CO : Addr) (G H : Hp) (x : Addr) (d : PyData) : Prop := ∃ dx v p, H x = some (.ins CO dx (putF "places" v (putF "parts" (.ref p) (putF "word" (.str "order") [])))) ∧ SqT K G p [v] ∧ Dp K G v d
def TornAt (K : PySem.W.Frag) (CT : Addr) (G H : Hp) (x : Addr) (d e : PyData) : Prop := ∃ dx u v p, H x = some (.ins CT dx (putF "other" v (putF "one" u (putF "parts" (.ref p) (putF "word" (.str "torn") []))))) ∧ SqT K G p [u, v] ∧ Dp K G u d ∧ Dp K G v e
def sp_OI (K : PySem.W.Frag) (CO : Addr) (n : Nat) : Sp := fun vs H Q _ => ∃ (x dx : Addr) (u : V) (G : Hp) (d : PyData), vs = [.ref x, u] ∧ H x = some (.ins CO dx []) ∧ G x = none ∧ Same G H ∧ Dp K G u d ∧ okd n d ∧
  ∀ G' H', Stp [x] G H G' H' → G' x = none → OrderAt K CO G' H' x (fix d) → Q .non H'
def sp_TI (K : PySem.W.Frag) (CT : Addr) (n : Nat) : Sp := fun vs H Q _ => ∃ (x dx : Addr) (u v : V) (G : Hp) (d e : PyData), vs = [.ref x, u, v] ∧ H x = some (.ins CT dx []) ∧ G x = none ∧ Same G H ∧ Dp K G u d ∧ Dp K G v e ∧ okd n d ∧ okd n e ∧
  ∀ G' H', Stp [x] G H G' H' → G' x = none → TornAt K CT G' H' x (fix d) (fix e) → Q .non H'
abbrev NFO (cc cda : Addr) : NF := ⟨"__init__", "Order.__init__", defArgs s_OInit, defBody s_OInit, defScope s_OInit, [("__class__", cc)], cda⟩
abbrev NFT (cc cda : Addr) : NF := ⟨"__init__", "Torn.__init__", defArgs s_TInit, defBody s_TInit, defScope s_TInit, [("__class__", cc)], cda⟩
theorem sc_OInit : NScope ["self", "places", "__class__"] ["self", "places"] ["__class__"] (defScope s_OInit) := nscope_by (by decide +kernel)
theorem sc_TInit : NScope ["self", "one", "other", "__class__"] ["self", "one", "other"] ["__class__"] (defScope s_TInit) := nscope_by (by decide +kernel)
theorem pl_ne : ∀ a b : Str, (decide (a = b)) = false → ¬ a = b := fun a b h => of_decide_eq_false h
theorem dp_tup1 {G : Hp} {v : V} {d : PyData} (h : Dp K G v (.tuple [d])) : ∃ p u, v = .ref p ∧ SqT K G p [u] ∧ Dp K G u d := by
  cases h with
  | tup h r =>
    cases r with
    | cons h1 r =>
      cases r
      exact ⟨_, _, rfl, h, h1⟩
theorem dp_tup2 {G : Hp} {v : V} {d e : PyData} (h : Dp K G v (.tuple [d, e])) : ∃ p u x, v = .ref p ∧ SqT K G p [u, x] ∧ Dp K G u d ∧ Dp K G x e := by
  cases h with
  | tup h r =>
    cases r with
    | cons h1 r =>
      cases r with
      | cons h2 r =>
        cases r
        exact ⟨_, _, _, rfl, h, h1, h2⟩
theorem ok_OInit {f cc cda CO g : Addr} {n : Nat} (T : SuperTxt P K mg "__init__" (NFO cc cda) f cc CO CO g) (C : PapC K CO) (G : FnR P w K mg base CX0 (n + 3) g (sp_PI K (n + 1))) :
    ∃ fd : FuncData, FnOk P w K mg base CX0 (n + 4) f fd ["self", "places"] (sp_OI K CO n) ∧ ∃ doc pm ctv, fd = (NFO cc cda).fd doc pm ctv := by
  refine fn_super (ps := ["places"]) T sc_OInit rfl rfl rfl (by decide +kernel) (fun vs H Q E h => ?_) G (fun A outer s H vs Q E hr h => ?_)
  · obtain ⟨x, dx, u, Gh, d, rfl, _⟩ := h
    rfl
  · obtain ⟨x, dx, u, Gh, d, rfl, hx, gx, sg, hd, hok, k⟩ := h
    refine ⟨x, dx, [], _, _, E0, rfl, hx, pa_cons pe_str (pa_cons (pv 1) pa_nil), pss_one (ps_fld (pv 0) (pe_ix ix_seq (pe_fld (pv 0) rfl) pe_int (fun _ _ => rfl)) rfl), pass0, ?_⟩
    refine ⟨_, rfl, x, "order", [u], CO, dx, [], Gh, [d], rfl, hx, C, gx, sg, .cons hd .nil, ⟨by simp, fun e he => by simp at he; subst he; exact hok⟩, by simp, fun v' G' H' st hx' gx' hv => ?_⟩
    obtain ⟨p, v, rfl, hp, hv⟩ := dp_tup1 (by simpa [fixAll] using hv)
    refine ⟨_, rfl, x, CO, dx, _, _, rfl, hx', C.cl, C.nP, by rw [lookup_putF, if_pos rfl], ?_⟩
    refine rIx_sq (.inl (SqT.ext hp st.sub)) (atI_nat (j := 0) rfl) ?_
    refine ⟨_, rfl, x, CO, dx, _, rfl, hx', C.cl, C.nPl, (by have := putF_len "parts" (V.ref p) (putF "word" (V.str "order") []); have := putF_len "word" (V.str "order") []; simp only [List.length_nil] at *; omega), ?_⟩
    exact k G' _ (st.write gx' (.inl (by simp))) gx' ⟨dx, v, p, upd_same, hp, hv⟩
theorem ok_TInit {f cc cda CT g : Addr} {n : Nat} (T : SuperTxt P K mg "__init__" (NFT cc cda) f cc CT CT g) (C : PapC K CT) (G : FnR P w K mg base CX0 (n + 3) g (sp_PI K (n + 1))) :
    ∃ fd : FuncData, FnOk P w K mg base CX0 (n + 4) f fd ["self", "one", "other"] (sp_TI K CT n) ∧ ∃ doc pm ctv, fd = (NFT cc cda).fd doc pm ctv := by
  refine fn_super (ps := ["one", "other"]) T sc_TInit rfl rfl rfl (by decide +kernel) (fun vs H Q E h => ?_) G (fun A outer s H vs Q E hr h => ?_)
  · obtain ⟨x, dx, u, v, Gh, d, e, rfl, _⟩ := h
    rfl
  · obtain ⟨x, dx, u, v, Gh, d, e, rfl, hx, gx, sg, hd, he, hok, hoe, k⟩ := h
    refine ⟨x, dx, [], _, _, E0, rfl, hx, pa_cons pe_str (pa_cons (pv 1) (pa_cons (pv 2) pa_nil)), pss_one (ps_asg (pe_fld (pv 0) rfl) (pg_tup (by rfl) (pgs_cons (pg_fld (pv 0)) (pgs_cons (pg_fld (pv 0)) pgs_nil)))), pass0, ?_⟩
    refine ⟨_, rfl, _, rfl, x, "torn", [u, v], CT, dx, [], Gh, [d, e], rfl, hx, C, gx, sg, .cons hd (.cons he .nil), ⟨by simp, fun e' he' => by simp at he'; rcases he' with rfl | rfl <;> assumption⟩, by simp, fun v' G' H' st hx' gx' hv => ?_⟩
    obtain ⟨p, u', v', rfl, hp, hu, hv⟩ := dp_tup2 (by simpa [fixAll] using hv)
    refine ⟨_, rfl, x, CT, dx, _, _, rfl, hx', C.cl, C.nP, by rw [lookup_putF, if_pos rfl], ?_⟩
    refine ⟨p, [u', v'], rfl, SqT.ext hp st.sub, rfl, ?_⟩
    have l1 := putF_len "parts" (V.ref p) (putF "word" (V.str "torn") [])
    have l2 := putF_len "word" (V.str "torn") []
    have l3 := putF_len "one" u' (putF "parts" (V.ref p) (putF "word" (V.str "torn") []))
    simp only [List.length_nil] at l2
    refine ⟨u', [v'], rfl, _, rfl, x, CT, dx, _, rfl, hx', C.cl, C.n1, by omega, ?_⟩
    refine ⟨v', [], rfl, _, rfl, x, CT, dx, _, rfl, upd_same, C.cl, C.n2, by omega, rfl, ?_⟩
    refine k G' _ ((st.write gx' (.inl (List.mem_singleton.mpr rfl))).write gx' (.inl (List.mem_singleton.mpr rfl))) gx' ⟨dx, u', v', p, upd_same, hp, hu, hv⟩
end
end B90
set_option Elab.async false
set_option linter.all false
set_option maxRecDepth 100000
set_option maxHeartbeats 4000000
namespace BayE
open PySem L2 PySem.Spec PyProof.Rows
/-- what the text says of a class C so that o.__class__.__name__ may be read -/
structure NameC (K : PySem.W.Frag) (C : Addr) (nm : Str) : Prop where
  cl : Cls K C
  ha : PySem.W.findIn K (.ref C) "__class__" = some (some (.builtin "object.__class__"))
  hn : PySem.W.specialIn K (.builtin "object.__class__") "__get__" = some (some (.builtin "getset_descriptor.__get__"))
  htk : PySem.W.takesIn K (.builtin "object.__class__") = some true
  hm : PySem.W.mroIn K C (.type "object") = some true
  rd : PySem.W.readsIn K C (.type "type") = true
  fc : PySem.W.findCls K (.ref C) (.type "type") "__name__" = some (.get (.builtin "getset_descriptor.__get__") (.builtin "type.__name__") (.ref C) (.type "type"))
  ty : PySem.W.typeIn K (.ref C) = some (.type "type")
  at_ : ∃ o t, K.lookup C = some o ∧ (o.slots[2]?).join = some (.str nm t)
section
variable {X : Cx} {e : Expr} {te : TE} {pos : Pos}
def tClass (K : PySem.W.Frag) (te : TE) : TE := fun σ H Q => te σ H fun x H1 => ∃ a C dx fs nm, x = .ref a ∧ H1 a = some (.ins C dx fs) ∧ NameC K C nm ∧ Q (.ref C) H1
theorem pe_class (he : PE X e te) (hb : attributeBase e "__class__" X.env (eval e X.env) = eval e X.env := by rfl) : PE X (.Attribute e "__class__" pos) (tClass X.K te) := by
  refine ⟨fun pins s σ H Q I h => ?_⟩
  refine attr_of hb (thn (he.run pins s σ H _ I h) fun u s1 hz => ?_)
  obtain ⟨x, H1, I1, rx, a, C, dx, fs, nm, ex, ea, T, q⟩ := hz
  subst ex
  cases rx
  obtain ⟨mA, J, _⟩ := ins_get I1.hok ea
  obtain ⟨od, J, _⟩ := J.look
  obtain ⟨m, hF⟩ := I1.fr
  exact PySem.W.get_class hF I1.ok.mod.kin J (T.cl.get _) T.cl.hd T.ha T.hn T.htk T.hm ⟨.ref C, H1, I1.tok _, rfl, q⟩
def tName (K : PySem.W.Frag) (te : TE) : TE := fun σ H Q => te σ H fun x H1 => ∃ C nm, x = .ref C ∧ NameC K C nm ∧ Q (.str nm) H1
theorem pe_cname (he : PE X e te) (hb : attributeBase e "__name__" X.env (eval e X.env) = eval e X.env := by rfl) : PE X (.Attribute e "__name__" pos) (tName X.K te) := by
  refine ⟨fun pins s σ H Q I h => ?_⟩
  refine attr_of hb (thn (he.run pins s σ H _ I h) fun u s1 hz => ?_)
  obtain ⟨x, H1, I1, rx, C, nm, ex, T, q⟩ := hz
  subst ex
  cases rx
  obtain ⟨o, t, hC, hv⟩ := T.at_
  exact own_name I1.kIn T.rd T.fc T.ty hC hv rfl ⟨.str nm, H1, I1.tok _, ⟨t, rfl⟩, q⟩
end
end BayE
namespace B90
open PySem L2 BayE
section
variable {P : Program} {w : World} {K : PySem.W.Frag} {mg : Str → Option Value} {base : Heap}
def sp_PEq (K : PySem.W.Frag) (CP : Addr) : Sp := fun vs H Q _ => ∃ (a b C dx dy : Addr) (fs gs : List (Str × V)) (wd nm : Str) (u v : V) (d : PyData), vs = [.ref a, .ref b] ∧ H a = some (.ins C dx fs) ∧ H b = some (.ins C dy gs) ∧ PapC K C ∧ NameC K C nm ∧ PySem.W.kitOne K (.ref C) (.ref CP) = some true ∧
  fs.lookup ("word" : Str) = some (.str wd) ∧ gs.lookup ("word" : Str) = some (.str wd) ∧ fs.lookup ("parts" : Str) = some u ∧ gs.lookup ("parts" : Str) = some v ∧ Dp K H u d ∧ Dp K H v d ∧ SeqAt.shaped d = true ∧ PyData.eqv d d = true ∧ Q (.bl true) H
theorem sc_PEq : FnScope ["self", "other"] ["self", "other"] (defScope s_PEq) := ⟨rfl, rfl, rfl, by decide +kernel, rfl, by decide +kernel, by decide +kernel⟩
theorem ok_PEq {f CP : Addr} {fd : FuncData} (F : Fun K "__eq__" "Paper.__eq__" s_PEq f fd) (m1 : mg "isinstance" = none) (m2 : mg "Paper" = some (.ref CP)) (m3 : mg "bool" = none) : FnOk P w K mg base CX0 1 f fd ["self", "other"] (sp_PEq K CP) := by
  refine F.ok sc_PEq (fun vs H Q E h => ?_) (fun cdv A outer s H vs Q E hr h => ?_)
  · obtain ⟨a, b, C, dx, dy, fs, gs, wd, nm, u, v, d, rfl, _⟩ := h
    rfl
  · obtain ⟨a, b, C, dx, dy, fs, gs, wd, nm, u, v, d, rfl, ha, hb, T, N, hk, f1, g1, f2, g2, d1, d2, hs, he, k⟩ := h
    refine ⟨_, pss_cons (ps_if (PW.pt (pw_or (pt_not (pt_val (pe_callB call_isi (by rfl) m1 (by decide +kernel) (pa_cons (pv 1) (pa_cons (pe_glob (v := .ref CP) rfl m2 rfl) pa_nil))))) (pw_or1 (pt_cmpR op_ne (pe_cname (pe_class (pv 1))) (pe_cname (pe_class (pv 0))) (nomark _))))) (pss_one (ps_ret pe_bl)) pss_nil)
      (pss_one (ps_ret (pe_callTy call_bool1 (by rfl) m3 (by decide +kernel) (pa_cons (pe_and (pe_cmpR op_eq (pe_fld (pv 1) rfl) (pe_fld (pv 0) rfl) (nomark _)) (pe_one (pe_cmpR (op_eqD hr.units) (pe_fld (pv 1) rfl) (pe_fld (pv 0) rfl) (nomark _)))) pa_nil)))), ?_⟩
    refine ⟨_, rfl, .ref b, .ref CP, .ref C, .ref CP, true, rfl, .own _, .base (.ins hb N.cl N.ha N.hn N.htk N.hm), hk, true, rfl, ?_⟩
    refine iteF ?_
    refine ⟨_, rfl, b, C, dy, gs, nm, rfl, hb, N, C, nm, rfl, N, _, rfl, a, C, dx, fs, nm, rfl, ha, N, C, nm, rfl, N, rfl, _, rfl, ?_⟩
    refine iteNS rfl ?_
    refine ⟨_, rfl, b, C, dy, gs, _, rfl, hb, T.cl, T.nW, g1, _, rfl, a, C, dx, fs, _, rfl, ha, T.cl, T.nW, f1, rfl, _, rfl, ?_⟩
    rw [decide_eq_true rfl]
    refine iteT ?_
    refine ⟨_, rfl, b, C, dy, gs, _, rfl, hb, T.cl, T.nP, g2, _, rfl, a, C, dx, fs, _, rfl, ha, T.cl, T.nP, f2, d, d, d2, d1, hs, hs, ?_⟩
    rw [he]
    exact .inr ⟨true, rfl, k⟩
end
end B90
set_option Elab.async false
set_option linter.all false
set_option maxRecDepth 100000
set_option maxHeartbeats 4000000
namespace BayE
open PySem L2
/-! ### a comprehension of two clauses whose items are made without a change of what stands -/
section
variable {J : It} {n m : Nat} {Gd : Hp → Prop} {f : Nat → V} {g g1 : TG} {wi1 : TI} {te : TE} {vs vs1 : List Nat} {σ : St} {G0 H1 : Hp} {D : Addr} {Qd : Hp → Prop} {σ2 : Nat → St} {Rel : V → Prop}
/-- what the new list holds so far: at most k items -/
def Acc (G0 H0 : Hp) (D : Addr) (Rel : V → Prop) (k : Nat) (H : Hp) : Prop := ∃ G ys, Stp [D] G0 H0 G H ∧ H D = some (.lst ys) ∧ G D = none ∧ ys.length ≤ k ∧ ∀ y ∈ ys, Rel y
theorem lc2_pure (w : Walk J n Gd (YFn f)) (hnm : n * m ≤ 1000000) (sg : Same G0 H1) (hD : H1 D = none) (hGd : ∀ G H, Stp [D] G0 (upd H1 D (.lst [])) G H → Gd H)
    (hg : ∀ i H (Q : St → Hp → Prop), i < n → Q (σ2 i) H → g (f i) (wipe σ vs) H Q) (hw : ∀ i, i < n → wipe (σ2 i) vs = wipe σ vs)
    (inner : ∀ i G H (R1 : It → Hp → Prop), i < n → Stp [D] G0 (upd H1 D (.lst [])) G H →
      (∀ J1 n1 Gd1 Y1, n1 ≤ m → Walk J1 n1 Gd1 Y1 → (∀ G H, Stp [D] G0 (upd H1 D (.lst [])) G H → Gd1 H) →
        (∀ j x G H H' (Qy : V → Hp → Prop), j < n1 → Stp [D] G0 (upd H1 D (.lst [])) G H → Y1 j H x H' → (∀ y G2 H2, Stp [] G H G2 H2 → Rel y → Qy y H2) →
          g1 x (wipe (σ2 i) vs1) H' fun σ3 H5 => wipe σ3 vs1 = wipe (σ2 i) vs1 ∧ te σ3 H5 Qy) → R1 J1 H) → wi1 (σ2 i) H R1)
    (hd : ∀ G H ys, Stp [D] G0 (upd H1 D (.lst [])) G H → H D = some (.lst ys) → G D = none → (∀ y ∈ ys, Rel y) → Qd H) :
    ∃ W : Nat → Nat → Hp → Prop, (∃ m, W 0 m (upd H1 D (.lst []))) ∧ ∀ i m H, W i m H →
  (J.stop i H ∧ Qd H) ∨ (J.go i H ∧ ∃ Nx : Hp → Prop, (∀ H', Nx H' → ∃ m', m' < m ∧ W (i + 1) m' H') ∧ ∀ x H', J.yld i H x H' → g x (wipe σ vs) H' fun σ2 H2 => wipe σ2 vs = wipe σ vs ∧ tYes σ2 H2 fun b H3 =>
    if b = true then wi1 σ2 H3 fun J1 H4 => ∃ W1 : Nat → Nat → Hp → Prop, (∃ m, W1 0 m H4) ∧ ∀ j k H, W1 j k H →
      (J1.stop j H ∧ Nx H) ∨ (J1.go j H ∧ ∃ Nx1 : Hp → Prop, (∀ H', Nx1 H' → ∃ k', k' < k ∧ W1 (j + 1) k' H') ∧ ∀ x H', J1.yld j H x H' → g1 x (wipe σ2 vs1) H' fun σ3 H5 => wipe σ3 vs1 = wipe σ2 vs1 ∧ tYes σ3 H5 fun b H6 =>
        if b = true then te σ3 H6 fun y H7 => ∃ acc, H7 D = some (.lst acc) ∧ acc.length < sizeLine ∧ Nx1 (upd H7 D (.lst (acc ++ [y]))) else Nx1 H6)
    else Nx H3) := by
  have s0 : Same G0 (upd H1 D (.lst [])) := same_upd sg (sg.free hD)
  refine ⟨fun i k H => k = n - i ∧ i ≤ n ∧ Acc G0 (upd H1 D (.lst [])) D Rel (i * m) H, ⟨n, by simp, Nat.zero_le _, G0, [], .refl s0, upd_same, sg.free hD, by simp, fun y z => nomatch z⟩, ?_⟩
  rintro i k H ⟨rfl, hi, acc0⟩
  obtain ⟨G, ys, st, hl, hgn, hy, hr⟩ := id acc0
  by_cases hlt : i < n
  · refine .inr ⟨w.goes i H hlt (hGd G H st), Acc G0 (upd H1 D (.lst [])) D Rel ((i + 1) * m), fun H' p' => ⟨n - (i + 1), by omega, rfl, hlt, p'⟩, fun x H' y => ?_⟩
    obtain ⟨rfl, rfl⟩ := w.yields i H x H' hlt (hGd G H st) y
    refine hg i H' _ hlt ⟨hw i hlt, ?_⟩
    show wi1 (σ2 i) H' _
    refine inner i G H' _ hlt st fun J1 n1 Gd1 Y1 hn1 w1 hG1 step => ?_
    have him : (i + 1) * m = i * m + m := by rw [Nat.add_mul, Nat.one_mul]
    have hle : (i + 1) * m ≤ n * m := Nat.mul_le_mul_right m hlt
    refine ⟨fun j k H => k = n1 - j ∧ j ≤ n1 ∧ Acc G0 (upd H1 D (.lst [])) D Rel (i * m + j) H, ⟨n1, by simp, Nat.zero_le _, acc0⟩, ?_⟩
    rintro j k H2 ⟨rfl, hj, G2, zs, st2, hl2, hg2, hz2, hr2⟩
    by_cases hjl : j < n1
    · refine .inr ⟨w1.goes j H2 hjl (hG1 G2 H2 st2), Acc G0 (upd H1 D (.lst [])) D Rel (i * m + (j + 1)), fun H' p' => ⟨n1 - (j + 1), by omega, rfl, hjl, p'⟩, fun x H3 y3 => ?_⟩
      have q := step j x G2 H2 H3 (fun y H7 => ∃ acc, H7 D = some (.lst acc) ∧ acc.length < sizeLine ∧ Acc G0 (upd H1 D (.lst [])) D Rel (i * m + (j + 1)) (upd H7 D (.lst (acc ++ [y])))) hjl st2 (w1.yields j H2 x H3 hjl (hG1 G2 H2 st2) y3) ?_
      · exact q
      · intro v G4 H4 st4 hv
        have hg4 : G4 D = none := st4.gn hg2 hl2
        refine ⟨zs, st4.same _ _ hl2, by rw [sizeLine_eq]; omega, G4, zs ++ [v], (st2.trans st4.nil).write hg4 (.inl (by simp)), upd_same, hg4, by simp; omega, fun z hz => ?_⟩
        rcases List.mem_append.mp hz with hz | hz
        · exact hr2 z hz
        · simp at hz
          subst hz
          exact hv
    · have e : j = n1 := by omega
      subst e
      exact .inl ⟨w1.stops H2 (hG1 G2 H2 st2), G2, zs, st2, hl2, hg2, by omega, hr2⟩
  · have e : i = n := by omega
    subst e
    exact .inl ⟨w.stops H (hGd G H st), hd G H ys st hl hgn hr⟩
end
end BayE
set_option Elab.async false
set_option linter.all false
set_option maxRecDepth 100000
set_option maxHeartbeats 4000000
namespace B90
open PySem L2 BayE
abbrev s_entry_in : Stmt := topS 15
abbrev s_places_told : Stmt := topS 16
abbrev s_is_torn : Stmt := topS 17
abbrev s_torn_in : Stmt := topS 18
/-! ### tables, in plain Lean -/
def row (t : List (List Int)) (i : Nat) : List Int := t.getD i []
def at2 (t : List (List Int)) (i j : Nat) : Int := (row t i).getD j 0
def plc (t : List (List Int)) : List Int := (List.range t.length).map fun (i : Nat) => (i : Int) + (row t i).sum
def pat (P : List Int) (i : Nat) : Int := P.getD i 0
def ent (P : List Int) (i j : Nat) : Int := ((j : Int) - i) / P.length - (pat P j - pat P i) / P.length
def torn (t : List (List Int)) (P : List Int) (i j : Nat) : Bool := decide ((pat P j - pat P i) % P.length = 0) || !decide (at2 t i j = ent P i j)
theorem plc_len (t : List (List Int)) : (plc t).length = t.length := by simp [plc]
theorem plc_get {t : List (List Int)} {i : Nat} (h : i < t.length) : (plc t)[i]? = some ((i : Int) + (row t i).sum) := by simp [plc, h]
theorem dcInt (a b : Int) : decide (V.int a = V.int b) = decide (a = b) := by
  by_cases e : a = b
  · subst e; simp
  · have h : ¬ V.int a = V.int b := fun q => e (V.int.inj q)
    rw [decide_eq_false h, decide_eq_false e]
section
variable {P : Program} {w : World} {K : PySem.W.Frag} {mg : Str → Option Value} {base : Heap}
def RowsV (K : PySem.W.Frag) (G : Hp) (vs : List V) (t : List (List Int)) : Prop := vs.length = t.length ∧ ∀ (i : Nat), i < t.length → ∃ b, vs[i]? = some (.ref b) ∧ Sq K G b ((row t i).map V.int)
def TabV (K : PySem.W.Frag) (G : Hp) (v : V) (t : List (List Int)) : Prop := ∃ a vs, v = .ref a ∧ Sq K G a vs ∧ RowsV K G vs t
theorem RowsV.up {G H : Hp} {vs : List V} {t : List (List Int)} (s : Same G H) (h : RowsV K G vs t) : RowsV K H vs t := ⟨h.1, fun i hi => let ⟨b, h1, h2⟩ := h.2 i hi; ⟨b, h1, Sq.up s h2⟩⟩
theorem TabV.up {G H : Hp} {v : V} {t : List (List Int)} (s : Same G H) (h : TabV K G v t) : TabV K H v t := let ⟨a, vs, h1, h2, h3⟩ := h; ⟨a, vs, h1, Sq.up s h2, RowsV.up s h3⟩
theorem ints_at {ns : List Int} {i : Nat} (h : i < ns.length) : (ns.map V.int)[i]? = some (.int (ns.getD i 0)) := by
  rw [List.getElem?_map, List.getElem?_eq_getElem h, List.getD_eq_getElem?_getD, List.getElem?_eq_getElem h]
  rfl
/-! ### entry_in -/
def sp_entry_in (K : PySem.W.Frag) : Sp := fun vs H Q _ => ∃ (a : Addr) (ns : List Int) (i j : Nat), vs = [.ref a, .int i, .int j] ∧ Sq K H a (ns.map V.int) ∧ i < ns.length ∧ j < ns.length ∧ ns.length ≤ 400 ∧ Q (.int (ent ns i j)) H
theorem sc_entry_in : FnScope ["places", "one", "other", "many"] ["places", "one", "other"] (defScope s_entry_in) := ⟨rfl, rfl, rfl, by decide +kernel, rfl, by decide +kernel, by decide +kernel⟩
theorem ok_entry_in {f : Addr} {fd : FuncData} (F : Fun K "entry_in" "entry_in" s_entry_in f fd) (m1 : mg "len" = none) : FnOk P w K mg base CX0 1 f fd ["places", "one", "other"] (sp_entry_in K) := by
  refine F.ok sc_entry_in (fun vs H Q E h => ?_) (fun cdv A outer s H vs Q E hr h => ?_)
  · obtain ⟨a, ns, i, j, rfl, _⟩ := h
    rfl
  · obtain ⟨a, ns, i, j, rfl, hS, hi, hj, h4, k⟩ := h
    refine ⟨_, pss_cons (ps_set (i := 3) sc_entry_in.nd rfl (Or.inl rfl) (pe_callB call_len (by rfl) m1 PySem.boot_len (pa_cons (pv 0) pa_nil)))
      (pss_one (ps_ret (pe_op op_sub (pe_op op_fdiv (pe_op op_sub (pv 2) (pv 1)) (pv 3)) (pe_op op_fdiv (pe_op op_sub (pe_ix ix_seq (pv 0) (pv 2) (fun _ _ => rfl)) (pe_ix ix_seq (pv 0) (pv 1) (fun _ _ => rfl))) (pv 3))))), ?_⟩
    have hl : (ns.map V.int).length = ns.length := by simp
    refine ⟨_, rfl, _, ns.length, rfl, by rw [← hl]; exact LenV.sq hS, ?_⟩
    have c0 : CDiv ((j : Int) - i) (ns.length : Int) := ⟨by omega, by omega⟩
    refine ⟨_, rfl, _, rfl, _, _, rfl, rfl, _, rfl, _, _, rfl, rfl, c0, ?_⟩
    refine ⟨_, rfl, _, rfl, rIx_sq hS (atI_nat (ints_at hj)) ?_⟩
    refine ⟨_, rfl, _, rfl, rIx_sq hS (atI_nat (ints_at hi)) ?_⟩
    refine ⟨_, _, rfl, rfl, _, rfl, _, _, rfl, rfl, ⟨by omega, by omega⟩, _, _, rfl, rfl, k⟩
/-! ### is_torn -/
def sp_is_torn (K : PySem.W.Frag) : Sp := fun vs H Q _ => ∃ (tv : V) (a : Addr) (t : List (List Int)) (ns : List Int) (i j : Nat), vs = [tv, .ref a, .int i, .int j] ∧ TabV K H tv t ∧ Sq K H a (ns.map V.int) ∧ ns.length = t.length ∧ (∀ k, k < t.length → (row t k).length = t.length) ∧ i < t.length ∧ j < t.length ∧ t.length ≤ 400 ∧ Q (.bl (torn t ns i j)) H
theorem sc_is_torn : FnScope ["table", "places", "one", "other", "gap"] ["table", "places", "one", "other"] (defScope s_is_torn) := ⟨rfl, rfl, rfl, by decide +kernel, rfl, by decide +kernel, by decide +kernel⟩
theorem ok_is_torn {f g : Addr} {fd gd : FuncData} (F : Fun K "is_torn" "is_torn" s_is_torn f fd) (D : DefT K mg "entry_in" s_entry_in g gd) (G : FnOk P w K mg base CX0 1 g gd ["places", "one", "other"] (sp_entry_in K)) (m1 : mg "len" = none) :
    FnOk P w K mg base CX0 2 f fd ["table", "places", "one", "other"] (sp_is_torn K) := by
  have b1 : Binds K gd ["places", "one", "other"] [] := D.F.binds fun _ _ _ _ _ _ us hl => match us, hl with | [_, _, _], _ => rfl
  refine F.ok sc_is_torn (fun vs H Q E h => ?_) (fun cdv A outer s H vs Q E hr h => ?_)
  · obtain ⟨tv, a, t, ns, i, j, rfl, _⟩ := h
    rfl
  · obtain ⟨tv, a, t, ns, i, j, rfl, ⟨b, us, rfl, hT, hR⟩, hS, hn, hsq, hi, hj, h4, k⟩ := h
    refine ⟨_, pss_cons (ps_set (i := 4) sc_is_torn.nd rfl (Or.inl rfl) (pe_op op_sub (pe_ix ix_seq (pv 1) (pv 3) (fun _ _ => rfl)) (pe_ix ix_seq (pv 1) (pv 2) (fun _ _ => rfl))))
      (pss_one (ps_ret (pe_or (pe_cmpR op_eq (pe_op op_mod (pv 4) (pe_callB call_len (by rfl) m1 PySem.boot_len (pa_cons (pv 1) pa_nil))) pe_int (nomark _))
        (pe_one (pe_cmpR op_ne (pe_ix ix_seq (pe_ix ix_seq (pv 0) (pv 2) (fun _ _ => rfl)) (pv 3) (fun _ _ => rfl)) (pe_call G hr rfl D.g D.F.kp b1 .nil pass0 (pa_cons (pv 1) (pa_cons (pv 2) (pa_cons (pv 3) pa_nil)))) (nomark _)))))), ?_⟩
    have hl : (ns.map V.int).length = ns.length := by simp
    refine ⟨_, rfl, _, rfl, rIx_sq hS (atI_nat (ints_at (by omega))) ?_⟩
    refine ⟨_, rfl, _, rfl, rIx_sq hS (atI_nat (ints_at (by omega))) ?_⟩
    refine ⟨_, _, rfl, rfl, ?_⟩
    refine ⟨_, rfl, _, rfl, _, ns.length, rfl, by rw [← hl]; exact LenV.sq hS, _, _, rfl, rfl, (by show (0 : Int) < (ns.length : Int); omega), rfl, ?_⟩
    refine ⟨_, rfl, ?_⟩
    rw [dcInt]
    have hto : torn t ns i j = (decide ((pat ns j - pat ns i) % (ns.length : Int) = 0) || !decide (at2 t i j = ent ns i j)) := rfl
    rw [hto] at k
    cases e : decide ((ns.getD j 0 - ns.getD i 0) % (ns.length : Int) = 0) with
    | true =>
      refine iteT ?_
      have e' : decide ((pat ns j - pat ns i) % (ns.length : Int) = 0) = true := e
      rw [e'] at k
      exact k
    | false =>
      refine iteF ?_
      have e' : decide ((pat ns j - pat ns i) % (ns.length : Int) = 0) = false := e
      rw [e'] at k
      obtain ⟨c, hc, hr2⟩ := hR.2 i hi
      refine ⟨_, rfl, _, rfl, rIx_sq hT (atI_nat hc) ?_⟩
      refine ⟨_, rfl, rIx_sq hr2 (atI_nat (ints_at (by rw [hsq i hi]; exact hj))) ?_⟩
      refine ⟨_, rfl, _, rfl, _, rfl, a, ns, i, j, rfl, hS, by omega, by omega, by omega, rfl, ?_⟩
      rw [dcInt]
      exact k
end
end B90
set_option Elab.async false
set_option linter.all false
set_option maxRecDepth 100000
set_option maxHeartbeats 4000000
namespace BayE
open PySem L2 PySem.Spec PyProof.Rows
def iEnumA (K : PySem.W.Frag) (ta : TA) : TI := fun σ H R => ta σ H fun vs H1 => ∃ (a : Addr) (xs : List V) (G : Hp), vs = [.ref a] ∧ Sq K G a xs ∧ Same G H1 ∧ ∀ J, Walk J xs.length (Same G) (YPair (fun i => some (.int (i : Nat))) (fun i => xs[i]?)) → R J H1
theorem pi_enumA {X : Cx} {e : Expr} {ta : TA} {p pos tpos : Pos} {elts : List Expr} {kk : Nat} (hg : Gl X "enumerate") (hm : X.mg "enumerate" = none) (ha : PA X [e] ta) (hs : starEach [e] X.env = [(false, eval e X.env)] := by rfl) :
    PI X (.Tuple elts kk tpos) (.Call (.Name "enumerate" p) [e] [] pos) (iEnumA X.K ta) := by
  refine ⟨fun pins s σ H R I h => ?_⟩
  refine Call_ (ld_blt I hg hm boot_enumerate (PyProof.Rows.callWith_type1 (thn (ha.run pos pins s σ H _ I h) fun us s1 hz => ?_) hs rfl))
  obtain ⟨vs, H1, I1, r1, a, xs, G, ex, hS, sg, q⟩ := hz
  subst ex
  cases r1 with
  | cons r rr =>
    cases rr
    cases r
    have low : ∀ b ∈ [s1.heap.objs.size + 1, s1.heap.objs.size], s1.heap.objs.size ≤ b := fun b hb => by
      rcases (show b = s1.heap.objs.size + 1 ∨ b = s1.heap.objs.size by simpa using hb) with z | z
      · rw [z]; exact Nat.le_succ _
      · rw [z]; exact Nat.le_refl _
    rcases hS with hS | hS
    · obtain ⟨its, rv, tp, hz⟩ := I1.tuple (SqT.ext hS sg)
      have hla : a < s1.heap.objs.size := by obtain ⟨_, q, _⟩ := tp; exact Heap.lt_size q
      refine call_enum_tup tp fun h' he hit hk => wpAny_pyIter_enum he ?_
      exact ⟨s1.heap.objs.size + 1, [s1.heap.objs.size + 1, s1.heap.objs.size], _, _, H1, rfl, I1.kept (t' := s1.toks) hk, turn_enumT a (s1.heap.objs.size + 1) s1.heap.objs.size (Nat.succ_ne_self _) (Nat.ne_of_gt (Nat.lt_succ_of_lt hla)) (Nat.ne_of_gt hla), ⟨⟨.none, he⟩, hit⟩,
        fun b hb => I1.fpOk (low b hb) (I1.hok.fresh (low b hb)), q _ (walk_enumT.mono (fun H s => SqT.ext hS s) fun _ _ _ _ _ _ y => y)⟩
    · obtain ⟨its, rv, p', hz⟩ := I1.list (SqL.ext hS sg)
      refine call_enumerate_list p'.isList fun h' he hit hsz hk => wpAny_pyIter_enum he ?_
      exact ⟨s1.heap.objs.size + 1, [s1.heap.objs.size + 1, s1.heap.objs.size], _, _, H1, rfl, I1.kept (t' := s1.toks) hk, turn_enum a (s1.heap.objs.size + 1) s1.heap.objs.size, ⟨⟨.none, he⟩, hit, Nat.succ_ne_self _⟩,
        fun b hb => I1.fpOk (low b hb) (I1.hok.fresh (low b hb)), q _ (walk_enum.mono (fun H s => SqL.ext hS s) fun _ _ _ _ _ _ y => y)⟩
end BayE
namespace B90
open PySem L2 BayE
section
variable {P : Program} {w : World} {K : PySem.W.Frag} {mg : Str → Option Value} {base : Heap}
theorem Sq.sum {H : Hp} {b : Addr} {xs : List V} (h : Sq K H b xs) : SqL K H b xs ∨ SqT K H b xs := h.elim .inr .inl
def sp_places_told (K : PySem.W.Frag) : Sp := fun vs H Q _ => ∃ (tv : V) (t : List (List Int)) (G : Hp), vs = [tv] ∧ TabV K G tv t ∧ Same G H ∧ t.length ≤ 400 ∧ ∀ p G' H', Stp [] G H G' H' → SqT K G' p ((plc t).map V.int) → Q (.ref p) H'
theorem sc_places_told : FnScope ["table", "at", "row"] ["table"] (defScope s_places_told) := ⟨rfl, rfl, rfl, by decide +kernel, rfl, by decide +kernel, by decide +kernel⟩
theorem ok_places_told {f : Addr} {fd : FuncData} (F : Fun K "places_told" "places_told" s_places_told f fd) (m1 : mg "tuple" = none) (m2 : mg "sum" = none) (m3 : mg "enumerate" = none) : FnOk P w K mg base CX0 1 f fd ["table"] (sp_places_told K) := by
  refine F.ok sc_places_told (fun vs H Q E h => ?_) (fun cdv A outer s H vs Q E hr h => ?_)
  · obtain ⟨tv, t, G, rfl, _⟩ := h
    rfl
  · obtain ⟨tv, t, G, rfl, ⟨b, us, rfl, hT, hR⟩, sg, h4, k⟩ := h
    refine ⟨_, pss_one (ps_ret (pe_callTy call_tuple_of (by rfl) m1 (by decide +kernel) (pa_cons (pe_lc (own := [("at", 1), ("row", 2)]) (g := gTup K 2 (gCons (gName 1) (gCons (gName 2) gNil))) (tt := tYes) (by rfl) sc_places_told.nd
      (pi_enumA (by rfl) m3 (pa_cons (pv 0) pa_nil)) (blkOk_by (own := [("at", 1), ("row", 2)]) (N := ["table", "at", "row"]) (sc := defScope s_places_told) (by decide +kernel))
      (fun _ _ _ _ _ => pg_tup rfl (pgs_cons (pg_name (i := 1) sc_places_told.nd rfl (Or.inl rfl)) (pgs_cons (pg_name (i := 2) sc_places_told.nd rfl (Or.inl rfl)) pgs_nil))) (fun _ _ _ _ _ => pts_nil)
      (fun _ _ _ _ _ => pe_op op_add (pv 1) (pe_callB (r := rSumT K) (id := "sum") (cr_sumA rfl) (by rfl) m2 (by decide +kernel) (pa_cons (pv 2) pa_nil)))) pa_nil))), ?_⟩
    refine ⟨_, rfl, b, us, G, rfl, hT, sg, fun J wJ Dl hDl => ?_⟩
    have hul := hR.1
    refine lc_pure wJ (fun i v _ => v = .int ((i : Int) + (row t i).sum)) (fun i v G G' s h => h) (by omega) sg hDl (fun G H st => st.gg.trans st.sub) ?_ ?_
    · rintro i x G1 H1 H2 Qy hi st ⟨T, x1, x2, rfl, hTn, rfl, e1, e2⟩ hq
      obtain rfl : x1 = V.int (i : Nat) := (Option.some.inj e1).symm
      obtain ⟨c, hc, hr2⟩ := hR.2 i (by omega)
      have e2' : us[i]? = some x2 := e2
      rw [hc] at e2'
      cases e2'
      have st1 : Stp [] G1 H1 G1 (upd H1 T (.tup [.int (i : Nat), .ref c])) := (Stp.refl st.sub).priv hTn
      refine ⟨T, [.int (i : Nat), .ref c], rfl, SqT.of upd_same, rfl, _, _, rfl, _, _, rfl, rfl, rfl, ?_⟩
      refine ⟨_, rfl, _, rfl, c, row t i, rfl, Sq.sum (Sq.up (st.gg.trans st1.sub) hr2), _, _, rfl, rfl, ?_⟩
      exact hq _ G1 _ st1 rfl
    · intro G1 H1 ys st hl hg hlen hrel
      refine ⟨Dl, ys, rfl, .inl ⟨SqL.of hl, fun p hp => ?_⟩⟩
      have st1 : Stp [] G H G1 H1 := Stp.own (Stp.refl sg) hDl st
      have st2 := st1.data (o := HO.tup ys) hp
      refine k p _ _ st2 ?_
      have e : (plc t).map V.int = ys := by
        refine List.ext_getElem? fun i => ?_
        by_cases hi : i < t.length
        · rw [List.getElem?_map, plc_get hi]
          have hy : i < ys.length := by omega
          rw [List.getElem?_eq_getElem hy]
          rw [hrel i ys[i] (List.getElem?_eq_getElem hy)]
          rfl
        · rw [List.getElem?_eq_none (by rw [List.length_map, plc_len]; omega), List.getElem?_eq_none (by omega)]
      rw [e]
      exact SqT.of upd_same
/-! ### torn_in -/
/-- the first pair that is torn -/
def First (t : List (List Int)) (i j : Nat) : Prop := i < j ∧ j < t.length ∧ torn t (plc t) i j = true ∧ ∀ a b, a < b → b < t.length → torn t (plc t) a b = true → i < a ∨ (i = a ∧ j ≤ b)
theorem First.uniq {t : List (List Int)} {i j a b : Nat} (h : First t i j) (g : First t a b) : i = a ∧ j = b := by
  have h1 := h.2.2.2 a b g.1 g.2.1 g.2.2.1
  have h2 := g.2.2.2 i j h.1 h.2.1 h.2.2.1
  omega
def sp_torn_in (K : PySem.W.Frag) : Sp := fun vs H Q _ => ∃ (tv : V) (t : List (List Int)) (G : Hp), vs = [tv] ∧ TabV K G tv t ∧ Same G H ∧ t.length ≤ 400 ∧ (∀ k, k < t.length → (row t k).length = t.length) ∧
  (∀ G' H', Stp [] G H G' H' → (∀ i j, i < j → j < t.length → torn t (plc t) i j = false) → Q .non H') ∧
  ∀ p (i j : Nat) G' H', Stp [] G H G' H' → First t i j → SqT K G' p [.int i, .int j] → Q (.ref p) H'
theorem sc_torn_in : FnScope ["table", "places", "many", "one", "other"] ["table"] (defScope s_torn_in) := ⟨rfl, rfl, rfl, by decide +kernel, rfl, by decide +kernel, by decide +kernel⟩
theorem ok_torn_in {f g1 g2 : Addr} {fd gd1 gd2 : FuncData} (F : Fun K "torn_in" "torn_in" s_torn_in f fd) (D1 : DefT K mg "places_told" s_places_told g1 gd1) (G1 : FnOk P w K mg base CX0 1 g1 gd1 ["table"] (sp_places_told K))
    (D2 : DefT K mg "is_torn" s_is_torn g2 gd2) (G2 : FnOk P w K mg base CX0 2 g2 gd2 ["table", "places", "one", "other"] (sp_is_torn K)) (m1 : mg "len" = none) (m2 : mg "range" = none) : FnOk P w K mg base CX0 3 f fd ["table"] (sp_torn_in K) := by
  have b1 : Binds K gd1 ["table"] [] := D1.F.binds fun _ _ _ _ _ _ us hl => match us, hl with | [_], _ => rfl
  have b2 : Binds K gd2 ["table", "places", "one", "other"] [] := D2.F.binds fun _ _ _ _ _ _ us hl => match us, hl with | [_, _, _, _], _ => rfl
  refine F.ok sc_torn_in (fun vs H Q E h => ?_) (fun cdv A outer s H vs Q E hr h => ?_)
  · obtain ⟨tv, t, G, rfl, _⟩ := h
    rfl
  · obtain ⟨tv, t, G, rfl, hT, sg, h4, hsq, k1, k2⟩ := h
    obtain ⟨tb, us, etv, hTb, hR⟩ := id hT
    have hr1 := hr.mono (show 1 ≤ 2 by decide)
    refine ⟨_, pss_cons (ps_par (i := 1) (j := 2) (by rfl) sc_torn_in.nd rfl rfl (by decide) rfl rfl (pa_cons (pe_call G1 hr1 rfl D1.g D1.F.kp b1 .nil pass0 (pa_cons (pv 0) pa_nil)) (pa_cons (pe_callB call_len (by rfl) m1 PySem.boot_len (pa_cons (pv 0) pa_nil)) pa_nil)) (by rfl))
      (pss_cons (ps_for PassesOwn.never rfl (pi_range1 rfl m2 (pa_cons (pv 2) pa_nil)) (pg_name (i := 3) sc_torn_in.nd rfl (Or.inl rfl))
        (pss_one (ps_for PassesOwn.never rfl (pi_range2 rfl m2 (pa_cons (pe_op op_add (pv 3) pe_int) (pa_cons (pv 2) pa_nil))) (pg_name (i := 4) sc_torn_in.nd rfl (Or.inl rfl))
          (pss_one (ps_if (pt_val (pe_call G2 hr rfl D2.g D2.F.kp b2 .nil pass0 (pa_cons (pv 0) (pa_cons (pv 1) (pa_cons (pv 3) (pa_cons (pv 4) pa_nil)))))) (pss_one (ps_ret (pe_tup (pa_cons (pv 3) (pa_cons (pv 4) pa_nil))))) pss_nil)))))
      (pss_one (ps_ret pe_non))), ?_⟩
    refine ⟨_, rfl, tv, t, G, rfl, hT, sg, h4, fun p Gp Hh st hp => ?_⟩
    refine ⟨_, rfl, _, t.length, rfl, by rw [etv, ← hR.1]; exact LenV.sq (Sq.up (st.gg.trans st.sub) hTb), ?_⟩
    refine ⟨_, _, rfl, ?_⟩
    refine ⟨_, rfl, (t.length : Int), rfl, by omega, by omega, ?_⟩
    have tT : TabV K Hh tv t := hT.up (st.gg.trans st.sub)
    have hpl := plc_len t
    refine for_range (lo := 0) (n := ((t.length : Int)).toNat) (fun i σ H' => H' = Hh ∧ (∃ o x, σ = [some tv, some (.ref p), some (.int (t.length : Int)), o, x]) ∧ ∀ a b, a < i → a < b → b < t.length → torn t (plc t) a b = false)
      ⟨rfl, ⟨none, none, rfl⟩, fun a b ha => absurd ha (Nat.not_lt_zero _)⟩ ?_ ?_
    · rintro i σ H' hi ⟨rfl, ⟨o, x, rfl⟩, hall⟩
      have hi' : i < t.length := by simpa using hi
      refine ⟨_, rfl, _, _, rfl, rfl, _, rfl, (0 + (i : Int)) + 1, (t.length : Int), rfl, ⟨by omega, by omega, by omega, by omega⟩, ?_⟩
      refine for_range (lo := (0 + (i : Int)) + 1) (n := ((t.length : Int) - ((0 + (i : Int)) + 1)).toNat) (fun j σ H2 => H2 = H' ∧ (∃ x, σ = [some tv, some (.ref p), some (.int (t.length : Int)), some (.int (0 + (i : Int))), x]) ∧ ∀ b, i < b → b < i + 1 + j → torn t (plc t) i b = false)
        ⟨rfl, ⟨x, rfl⟩, fun b h1 h2 => by omega⟩ ?_ ?_
      · rintro j σ H2 hj ⟨rfl, ⟨x, rfl⟩, hin⟩
        have hj' : i + 1 + j < t.length := by omega
        have ej : (0 + (i : Int)) + 1 + (j : Int) = ((i + 1 + j : Nat) : Int) := by omega
        have ei : 0 + (i : Int) = ((i : Nat) : Int) := by omega
        refine ⟨_, rfl, _, rfl, _, rfl, _, rfl, tv, p, t, plc t, i, i + 1 + j, ?_, tT, .inl (SqT.ext hp st.sub), hpl, hsq, hi', hj', h4, ?_⟩
        · show [tv, V.ref p, V.int (0 + (i : Int)), V.int ((0 + (i : Int)) + 1 + (j : Int))] = _
          rw [ej, ei]
        refine ⟨_, rfl, ?_⟩
        cases e : torn t (plc t) i (i + 1 + j) with
        | true =>
          refine iteT ?_
          refine ⟨_, rfl, _, rfl, (by show 2 ≤ sizeLine; decide), fun q hq => ?_⟩
          refine k2 q i (i + 1 + j) _ _ (st.data (o := HO.tup [V.int (0 + (i : Int)), V.int ((0 + (i : Int)) + 1 + (j : Int))]) hq) ⟨by omega, hj', e, fun a b hab hb ht => ?_⟩ ?_
          · by_cases c1 : a < i
            · rw [hall a b c1 hab hb] at ht; cases ht
            · by_cases c2 : a = i
              · subst c2
                by_cases c3 : b < a + 1 + j
                · rw [hin b hab c3] at ht; cases ht
                · exact .inr ⟨rfl, by omega⟩
              · exact .inl (by omega)
          rw [ej, ei]
          exact SqT.of upd_same
        | false =>
          refine iteF ?_
          refine ⟨rfl, ⟨_, rfl⟩, fun b h1 h2 => ?_⟩
          by_cases hb : b = i + 1 + j
          · rw [hb]; exact e
          · exact hin b h1 (by omega)
      · rintro σ H2 ⟨rfl, ⟨x, rfl⟩, hin⟩
        refine ⟨rfl, ⟨_, _, rfl⟩, fun a b ha hab hb => ?_⟩
        by_cases h : a = i
        · subst h
          exact hin b hab (by omega)
        · exact hall a b (by omega) hab hb
    · rintro σ H' ⟨rfl, _, hall⟩
      exact k1 Gp _ st fun i j hij hj => hall i j (by omega) hij hj
end
end B90
set_option Elab.async false
set_option linter.all false
set_option maxRecDepth 100000
set_option maxHeartbeats 4000000
namespace B90
open PySem L2 BayE
abbrev s_is_table : Stmt := topS 19
abbrev s_need_table : Stmt := topS 20
section
variable {P : Program} {w : World} {K : PySem.W.Frag} {mg : Str → Option Value} {base : Heap}
theorem bls_of {ys : List V} (h : ∀ y ∈ ys, y = V.bl true) : ys = (List.replicate ys.length true).map V.bl := by
  induction ys with
  | nil => rfl
  | cons y ys ih =>
    rw [h y (by simp)]
    have := ih fun z hz => h z (by simp [hz])
    simp only [List.length_cons, List.replicate_succ, List.map_cons]
    rw [← this]
theorem all_rep (n : Nat) : (List.replicate n true).all id = true := by simp
/-- a table: square, of 3 to 400 rows, opposite entries -/
structure TabOk (t : List (List Int)) : Prop where
  lo : 3 ≤ t.length
  hi : t.length ≤ 400
  sq : ∀ k, k < t.length → (row t k).length = t.length
  op : ∀ i j, i < t.length → j < t.length → at2 t i j = - at2 t j i
def sp_is_table (K : PySem.W.Frag) : Sp := fun vs H Q _ => ∃ (tv : V) (t : List (List Int)) (G : Hp), vs = [tv] ∧ TabV K G tv t ∧ Same G H ∧ TabOk t ∧ ∀ G' H', Stp [] G H G' H' → Q (.bl true) H'
theorem sc_is_table : FnScope ["value", "row", "numbers", "each", "one", "other"] ["value"] (defScope s_is_table) := ⟨rfl, rfl, rfl, by decide +kernel, rfl, by decide +kernel, by decide +kernel⟩
theorem ok_is_table {f g : Addr} {fd gd : FuncData} (F : Fun K "is_table" "is_table" s_is_table f fd) (D : DefT K mg "is_integer" s_is_integer g gd) (G : FnOk P w K mg base CX0 1 g gd ["value"] (sp_is_integer K))
    (m1 : mg "isinstance" = none) (m2 : mg "list" = none) (m3 : mg "tuple" = none) (m4 : mg "len" = none) (m5 : mg "range" = none) (m6 : mg "all" = none) (m7 : ∃ t, mg "LEAST_ROWS" = some (.int 3 t)) (m8 : ∃ t, mg "MOST_ROWS" = some (.int 400 t)) : FnOk P w K mg base CX0 2 f fd ["value"] (sp_is_table K) := by
  have b1 : Binds K gd ["value"] [] := D.F.binds fun _ _ _ _ _ _ us hl => match us, hl with | [_], _ => rfl
  obtain ⟨t7, m7⟩ := m7
  obtain ⟨t8, m8⟩ := m8
  refine F.ok sc_is_table (fun vs H Q E h => ?_) (fun cdv A outer s H vs Q E hr h => ?_)
  · obtain ⟨tv, t, G, rfl, _⟩ := h
    rfl
  · obtain ⟨tv, t, Gh, rfl, ⟨tb, us, rfl, hTb, hR⟩, sg, ok, k⟩ := h
    refine ⟨_, pss_cons (ps_if (PW.pt (pw_or (pt_not (pt_val (pe_callB call_isiT (by rfl) m1 (by decide +kernel) (pa_cons (pv 0) (pa_cons (pe_tup (pa_cons (pe_bltn (v := .ty "list") (by rfl) m2 (by decide +kernel) rfl) (pa_cons (pe_bltn (v := .ty "tuple") (by rfl) m3 (by decide +kernel) rfl) pa_nil))) pa_nil)))))
          (pw_or1 (pt_not (pt_chain op_le op_le (pe_glob (v := .int 3) rfl m7 ⟨_, rfl⟩) (pe_callB call_len (by rfl) m4 PySem.boot_len (pa_cons (pv 0) pa_nil)) (pe_glob (v := .int 400) rfl m8 ⟨_, rfl⟩)))))) (pss_one (ps_ret pe_bl)) pss_nil)
      (pss_cons (ps_for PassesOwn.never rfl (pi_sq (pv 0)) (pg_name (i := 1) sc_is_table.nd rfl (Or.inl rfl))
        (pss_one (ps_if (PW.pt (pw_or (pt_not (pt_val (pe_callB call_isiT (by rfl) m1 (by decide +kernel) (pa_cons (pv 1) (pa_cons (pe_tup (pa_cons (pe_bltn (v := .ty "list") (by rfl) m2 (by decide +kernel) rfl) (pa_cons (pe_bltn (v := .ty "tuple") (by rfl) m3 (by decide +kernel) rfl) pa_nil))) pa_nil)))))
          (pw_or (pt_cmpR op_ne (pe_callB call_len (by rfl) m4 PySem.boot_len (pa_cons (pv 1) pa_nil)) (pe_callB call_len (by rfl) m4 PySem.boot_len (pa_cons (pv 0) pa_nil)) (nomark _))
          (pw_or1 (pt_not (pt_val (pe_callB (cr_all rfl) (by rfl) m6 (by decide +kernel) (pa_cons (pe_lc (own := [("each", 3)]) (g := gName 3) (tt := tYes) (by rfl) sc_is_table.nd (pi_sq (pv 1)) (blkOk_by (own := [("each", 3)]) (N := ["value", "row", "numbers", "each", "one", "other"]) (sc := defScope s_is_table) (by decide +kernel)) (fun _ _ _ _ _ => pg_name (i := 3) sc_is_table.nd rfl (Or.inl rfl)) (fun _ _ _ _ _ => pts_nil)
            (fun _ _ _ _ _ => pe_call G hr rfl D.g D.F.kp b1 .nil pass0 (pa_cons (pv 3) pa_nil))) pa_nil)))))))) (pss_one (ps_ret pe_bl)) pss_nil)))
      (pss_cons (ps_set (i := 2) sc_is_table.nd rfl (Or.inl rfl) (pe_callTy cr_range1 (by rfl) m5 (by decide +kernel) (pa_cons (pe_callB call_len (by rfl) m4 PySem.boot_len (pa_cons (pv 0) pa_nil)) pa_nil)))
      (pss_one (ps_ret (pe_callB (cr_all rfl) (by rfl) m6 (by decide +kernel) (pa_cons (pe_lc2 (own := [("one", 4), ("other", 5)]) (vs1 := [5]) (g := gName 4) (tt := tYes) (g1 := gName 5) (tt1 := tYes) (by rfl) sc_is_table.nd (pi_rngV (pv 2)) (blkOk_by (own := [("one", 4), ("other", 5)]) (N := ["value", "row", "numbers", "each", "one", "other"]) (sc := defScope s_is_table) (by decide +kernel)) (by decide)
        (fun _ _ _ _ _ => pg_name (i := 4) sc_is_table.nd rfl (Or.inl rfl)) (fun _ _ _ _ _ => pts_nil) (fun _ _ _ _ _ => pi_range1 rfl m5 (pa_cons (pe_op op_add (pv 4) pe_int) pa_nil)) (fun _ _ _ _ _ => pg_name (i := 5) sc_is_table.nd rfl (Or.inl rfl)) (fun _ _ _ _ _ => pts_nil)
        (fun _ _ _ _ _ => pe_cmpR op_eq (pe_ix (r := rIx K) ix_seq (pe_ix (r := rIx K) ix_seq (pv 0) (pv 4) (fun _ _ => rfl)) (pv 5) (fun _ _ => rfl)) (pe_un un_neg (pe_ix (r := rIx K) ix_seq (pe_ix (r := rIx K) ix_seq (pv 0) (pv 5) (fun _ _ => rfl)) (pv 4) (fun _ _ => rfl))) (nomark _))) pa_nil)))))), ?_⟩
    have hlo := ok.lo
    have hhi := ok.hi
    have hul := hR.1
    -- the first test
    refine ⟨_, rfl, (by show 2 ≤ sizeLine; decide), fun tp htp => ?_⟩
    obtain ⟨ty, y1, y2, y3⟩ := seq_new (isSeq_sq (Sq.up sg hTb)) htp
    refine ⟨.ref tb, tp, _, ty, _, _, rfl, upd_same, y3, y1, y2, _, rfl, ?_⟩
    have st0 := (Stp.refl (ms := []) sg).priv (o := HO.tup [.ty "list", .ty "tuple"]) htp
    refine iteF ?_
    refine ⟨_, rfl, _, us.length, rfl, LenV.sq (Sq.up st0.sub hTb), _, _, rfl, rfl, _, rfl, ?_⟩
    rw [decide_eq_true (show (3 : Int) ≤ (us.length : Int) by omega)]
    refine iteT ?_
    refine ⟨_, _, rfl, rfl, _, rfl, ?_⟩
    rw [decide_eq_true (show (us.length : Int) ≤ 400 by omega)]
    refine iteF ?_
    -- for row in value
    refine ⟨_, rfl, tb, us, Gh, rfl, hTb, st0.sub, fun J wJ => ?_⟩
    refine for_it wJ (fun i σ H' => (∃ o, σ = [some (.ref tb), o, none, none, none, none]) ∧ ∃ G', Stp [] Gh H G' H') ⟨⟨_, rfl⟩, _, st0⟩ (fun i σ H' _ ⟨_, G', st⟩ => st.gg.trans st.sub) ?_ ?_
    · rintro i x σ H1 H2 hi ⟨⟨o, rfl⟩, G1, st⟩ ⟨rfl, hx⟩
      obtain ⟨b, hb, hrow⟩ := hR.2 i (by omega)
      rw [hb] at hx
      cases hx
      refine ⟨_, rfl, (by show 2 ≤ sizeLine; decide), fun tp htp => ?_⟩
      obtain ⟨ty, y1, y2, y3⟩ := seq_new (isSeq_sq (Sq.up (st.gg.trans st.sub) hrow)) htp
      refine ⟨.ref b, tp, _, ty, _, _, rfl, upd_same, y3, y1, y2, _, rfl, ?_⟩
      have st2 := st.priv (o := HO.tup [.ty "list", .ty "tuple"]) htp
      have up2 := st2.gg.trans st2.sub
      have hrl : ((row t i).map V.int).length = t.length := by rw [List.length_map]; exact ok.sq i (by omega)
      refine iteF ?_
      refine ⟨_, rfl, _, t.length, rfl, by rw [← hrl]; exact LenV.sq (Sq.up up2 hrow), _, rfl, _, us.length, rfl, LenV.sq (Sq.up up2 hTb), rfl, _, rfl, ?_⟩
      rw [decide_eq_true (show V.int (t.length : Int) = V.int (us.length : Int) by rw [hul])]
      refine iteF ?_
      refine ⟨_, rfl, b, (row t i).map V.int, Gh, rfl, hrow, up2, fun J2 wJ2 Dl hDl => ?_⟩
      refine lc_pure wJ2 (fun i v _ => v = .bl true) (fun i v G G' s h => h) (by omega) up2 hDl (fun G H st => st.gg.trans st.sub) ?_ ?_
      · rintro j x G3 H3 H4 Qy hj st3 ⟨rfl, hx⟩ hq
        rw [List.getElem?_map] at hx
        obtain ⟨z, rfl⟩ : ∃ z, x = V.int z := by
          cases e : (row t i)[j]? with
          | none => rw [e] at hx; cases hx
          | some z => rw [e] at hx; cases hx; exact ⟨z, rfl⟩
        exact ⟨rfl, _, rfl, .int z, true, rfl, isInt_D (.int z), hq _ G3 _ (Stp.refl st3.sub) rfl⟩
      · intro G3 H3 ys st3 hl hg hlen hrel
        have eys := bls_of (ys := ys) fun y hy => by
          obtain ⟨j, hj⟩ := List.mem_iff_getElem?.mp hy
          exact hrel j y hj
        refine ⟨Dl, List.replicate ys.length true, rfl, by rw [← eys]; exact SqL.of hl, ?_⟩
        rw [all_rep]
        refine ⟨true, rfl, ?_⟩
        refine iteF ?_
        have st4 : Stp [] Gh _ G3 H3 := Stp.own (Stp.refl up2) hDl st3
        have st2' : Stp [] Gh H Gh _ := ⟨Same.refl Gh, up2, st2.keep, st2.dom, fun b e => .inl e⟩
        exact ⟨⟨_, rfl⟩, G3, st2'.trans st4⟩
    · rintro σ H1 ⟨⟨o, rfl⟩, G1, st⟩
      have up1 := st.gg.trans st.sub
      -- numbers = range(len(value))
      refine ⟨_, rfl, _, us.length, rfl, LenV.sq (Sq.up up1 hTb), (us.length : Int), rfl, fun p hp => ?_⟩
      have st2 := st.priv (o := HO.rng 0 (us.length : Int)) hp
      have up2 := st2.gg.trans st2.sub
      refine ⟨_, rfl, p, 0, (us.length : Int), rfl, upd_same, ⟨by omega, by omega, by omega, by omega⟩, fun Dl hDl => ?_⟩
      have hnn : ((us.length : Int) - 0).toNat = t.length := by omega
      refine lc2_pure (m := 400) (Rel := fun v => v = V.bl true) (σ2 := fun i => [some (.ref tb), o, some (.ref p), none, some (.int (0 + (i : Int))), none]) walk_range (by rw [hnn]; have := Nat.mul_le_mul_right 400 hhi; omega) up2 hDl (fun _ _ _ => trivial) (fun i H Q _ h => h) (fun i _ => rfl) ?_ ?_
      · intro i G3 H3 R1 hi st3 hR1
        have hi' : i < t.length := by omega
        refine ⟨_, rfl, _, _, rfl, rfl, (0 + (i : Int)) + 1, rfl, by omega, by omega, ?_⟩
        refine hR1 _ _ _ _ ?_ walk_range (fun _ _ _ => trivial) ?_
        · omega
        · rintro j x G4 H4 H5 Qy hj st4 ⟨rfl, rfl⟩ hq
          have hj' : j < t.length := by omega
          have up4 := st4.gg.trans st4.sub
          obtain ⟨bi, hbi, hri⟩ := hR.2 i hi'
          obtain ⟨bj, hbj, hrj⟩ := hR.2 j hj'
          have ei : 0 + (i : Int) = ((i : Nat) : Int) := by omega
          have ej : 0 + (j : Int) = ((j : Nat) : Int) := by omega
          refine ⟨rfl, ?_⟩
          refine ⟨_, rfl, _, rfl, rIx_sq (Sq.up up4 hTb) (by rw [ei]; exact atI_nat hbi) ?_⟩
          refine ⟨_, rfl, rIx_sq (Sq.up up4 hri) (by rw [ej]; exact atI_nat (ints_at (by rw [ok.sq i hi']; exact hj'))) ?_⟩
          refine ⟨_, rfl, _, rfl, rIx_sq (Sq.up up4 hTb) (by rw [ej]; exact atI_nat hbj) ?_⟩
          refine ⟨_, rfl, rIx_sq (Sq.up up4 hrj) (by rw [ei]; exact atI_nat (ints_at (by rw [ok.sq j hj']; exact hi'))) ?_⟩
          refine ⟨_, rfl, rfl, ?_⟩
          refine hq _ G4 _ (Stp.refl st4.sub) ?_
          have e := ok.op i j hi' hj'
          unfold at2 at e
          rw [e]
          simp
      · intro G3 H3 ys st3 hl hg hrel
        have eys := bls_of (ys := ys) hrel
        refine ⟨Dl, List.replicate ys.length true, rfl, by rw [← eys]; exact SqL.of hl, ?_⟩
        rw [all_rep]
        have st4 : Stp [] Gh _ G3 H3 := Stp.own (Stp.refl up2) hDl st3
        have st2' : Stp [] Gh H Gh _ := ⟨Same.refl Gh, up2, st2.keep, st2.dom, fun b e => .inl e⟩
        exact k G3 H3 (st2'.trans st4)
end
end B90
set_option Elab.async false
set_option linter.all false
set_option maxRecDepth 100000
set_option maxHeartbeats 4000000
namespace B90
open PySem L2 BayE
abbrev s_order_of : Stmt := topS 21
section
variable {P : Program} {w : World} {K : PySem.W.Frag} {mg : Str → Option Value} {base : Heap}
def sp_need_table (K : PySem.W.Frag) : Sp := fun vs H Q _ => ∃ (tv : V) (t : List (List Int)) (G : Hp), vs = [tv] ∧ TabV K G tv t ∧ Same G H ∧ TabOk t ∧ ∀ G' H', Stp [] G H G' H' → Q .non H'
theorem sc_need_table : FnScope ["value"] ["value"] (defScope s_need_table) := ⟨rfl, rfl, rfl, by decide +kernel, rfl, by decide +kernel, by decide +kernel⟩
theorem ok_need_table {f g : Addr} {fd gd : FuncData} (F : Fun K "need_table" "need_table" s_need_table f fd) (D : DefT K mg "is_table" s_is_table g gd) (G : FnOk P w K mg base CX0 2 g gd ["value"] (sp_is_table K)) : FnOk P w K mg base CX0 3 f fd ["value"] (sp_need_table K) := by
  have b1 : Binds K gd ["value"] [] := D.F.binds fun _ _ _ _ _ _ us hl => match us, hl with | [_], _ => rfl
  refine F.ok sc_need_table (fun vs H Q E h => ?_) (fun cdv A outer s H vs Q E hr h => ?_)
  · obtain ⟨tv, t, G, rfl, _⟩ := h
    rfl
  · obtain ⟨tv, t, Gh, rfl, hT, sg, ok, k⟩ := h
    refine ⟨_, pss_one (ps_if (pt_not (pt_val (pe_call G hr rfl D.g D.F.kp b1 .nil pass0 (pa_cons (pv 0) pa_nil)))) (pss_one ps_never) pss_nil), ?_⟩
    refine ⟨_, rfl, tv, t, Gh, rfl, hT, sg, ok, fun G' H' st => ?_⟩
    refine ⟨true, rfl, ?_⟩
    exact iteF (k G' H' st)
/-! ### papers that stand in the data -/
def OrdV (K : PySem.W.Frag) (CO : Addr) (G : Hp) (x : Addr) (d : PyData) : Prop := ∃ dx v p, G x = some (.ins CO dx (putF "places" v (putF "parts" (.ref p) (putF "word" (.str "order") [])))) ∧ SqT K G p [v] ∧ Dp K G v d
def TrnV (K : PySem.W.Frag) (CT : Addr) (G : Hp) (x : Addr) (d e : PyData) : Prop := ∃ dx u v p, G x = some (.ins CT dx (putF "other" v (putF "one" u (putF "parts" (.ref p) (putF "word" (.str "torn") []))))) ∧ SqT K G p [u, v] ∧ Dp K G u d ∧ Dp K G v e
theorem OrdV.up {CO x : Addr} {G H : Hp} {d : PyData} (s : Same G H) (h : OrdV K CO G x d) : OrdV K CO H x d := let ⟨dx, v, p, h1, h2, h3⟩ := h; ⟨dx, v, p, s _ _ h1, SqT.ext h2 s, Dp.up s h3⟩
theorem TrnV.up {CT x : Addr} {G H : Hp} {d e : PyData} (s : Same G H) (h : TrnV K CT G x d e) : TrnV K CT H x d e := let ⟨dx, u, v, p, h1, h2, h3, h4⟩ := h; ⟨dx, u, v, p, s _ _ h1, SqT.ext h2 s, Dp.up s h3, Dp.up s h4⟩
/-- a made instance becomes data -/
theorem made {C x dx : Addr} {G H G1 H1 G2 H2 : Hp} {o : HO} (a : Stp [] G H G1 H1) (hx : H1 x = none) (hdx : H1 dx = none) (ne : dx ≠ x) (b : Stp [x] G1 (upd (upd H1 dx (.own x)) x (.ins C dx [])) G2 H2) (hg : G2 x = none) (hx2 : H2 x = some o) :
    Stp [] G H (upd G2 x o) H2 := by
  have s1 : Stp [] G H G1 (upd H1 dx (.own x)) := a.priv hdx
  have s2 : Stp [x] G H G2 H2 := ((s1.priv (p := x) (o := .ins C dx []) (by rw [upd_ne (Ne.symm ne)]; exact hx)).mono (ms' := [x]) (fun _ z => nomatch z)).trans b
  have hn : H x = none := a.hn hx
  have s3 := s2.freeze hn hx2 hg
  exact ⟨s3.gg, s3.sub, fun c u _ e => s3.keep c u (fun z => by rw [List.mem_singleton.mp z, hn] at e; cases e) e, s3.dom, s3.new⟩
theorem make_same {C x dx : Addr} {G1 H1 : Hp} (s : Same G1 H1) (hx : H1 x = none) (hdx : H1 dx = none) (ne : dx ≠ x) : Same G1 (upd (upd H1 dx (.own x)) x (.ins C dx [])) ∧ G1 x = none :=
  ⟨same_upd (same_upd s (s.free hdx)) (s.free hx), s.free hx⟩
/-! ### order_of -/
/-- the text's classes Order and Torn, their __init__ -/
structure Cls2 (P : Program) (w : World) (K : PySem.W.Frag) (mg : Str → Option Value) (base : Heap) (CO CT fO fT : Addr) (dO dT : FuncData) : Prop where
  pO : PapC K CO
  pT : PapC K CT
  nO : NameC K CO "Order"
  nT : NameC K CT "Torn"
  gO : mg "Order" = some (.ref CO)
  gT : mg "Torn" = some (.ref CT)
  mO : Mk K CO fO
  mT : Mk K CT fT
  bO : Binds K dO ["self", "places"] []
  bT : Binds K dT ["self", "one", "other"] []
  FO : FnOk P w K mg base CX0 5 fO dO ["self", "places"] (sp_OI K CO 1)
  FT : FnOk P w K mg base CX0 5 fT dT ["self", "one", "other"] (sp_TI K CT 1)
theorem ins_dt {C dx : Addr} {fs : List (Str × V)} {xs : List V} : HO.ins C dx fs ≠ HO.tup xs := by intro z; cases z
def sp_order_of (K : PySem.W.Frag) (CO CT : Addr) : Sp := fun vs H Q _ => ∃ (tv : V) (t : List (List Int)) (G : Hp), vs = [tv] ∧ TabV K G tv t ∧ Same G H ∧ TabOk t ∧
  (∀ x G' H', Stp [] G H G' H' → OrdV K CO G' x (.tuple ((plc t).map PyData.int)) → (∀ i j, i < j → j < t.length → torn t (plc t) i j = false) → Q (.ref x) H') ∧
  ∀ x (i j : Nat) G' H', Stp [] G H G' H' → TrnV K CT G' x (.int i) (.int j) → First t i j → Q (.ref x) H'
theorem sc_order_of : FnScope ["table", "pair"] ["table"] (defScope s_order_of) := ⟨rfl, rfl, rfl, by decide +kernel, rfl, by decide +kernel, by decide +kernel⟩
theorem fix_ints (ns : List Int) : fix (.tuple (ns.map PyData.int)) = .tuple (ns.map PyData.int) := by simp [fix, fixAll_ints]
theorem okd_ints {ns : List Int} (h : ns.length ≤ 1000) (n : Nat) : okd (n + 1) (.tuple (ns.map PyData.int)) := by
  refine ⟨by rw [List.length_map]; omega, fun d hd => ?_⟩
  obtain ⟨z, _, rfl⟩ := List.mem_map.mp hd
  cases n <;> trivial
theorem okd_int (i : Int) : ∀ n : Nat, okd n (.int i) := fun n => by cases n <;> trivial
theorem ok_order_of {f g1 g2 g3 CO CT fO fT : Addr} {fd gd1 gd2 gd3 dO dT : FuncData} (F : Fun K "order_of" "order_of" s_order_of f fd) (D1 : DefT K mg "need_table" s_need_table g1 gd1) (G1 : FnOk P w K mg base CX0 3 g1 gd1 ["value"] (sp_need_table K))
    (D2 : DefT K mg "torn_in" s_torn_in g2 gd2) (G2 : FnOk P w K mg base CX0 3 g2 gd2 ["table"] (sp_torn_in K)) (D3 : DefT K mg "places_told" s_places_told g3 gd3) (G3 : FnOk P w K mg base CX0 1 g3 gd3 ["table"] (sp_places_told K))
    (C : Cls2 P w K mg base CO CT fO fT dO dT) : FnOk P w K mg base CX0 7 f fd ["table"] (sp_order_of K CO CT) := by
  have b1 : Binds K gd1 ["value"] [] := D1.F.binds fun _ _ _ _ _ _ us hl => match us, hl with | [_], _ => rfl
  have b2 : Binds K gd2 ["table"] [] := D2.F.binds fun _ _ _ _ _ _ us hl => match us, hl with | [_], _ => rfl
  have b3 : Binds K gd3 ["table"] [] := D3.F.binds fun _ _ _ _ _ _ us hl => match us, hl with | [_], _ => rfl
  refine F.ok sc_order_of (fun vs H Q E h => ?_) (fun cdv A outer s H vs Q E hr h => ?_)
  · obtain ⟨tv, t, G, rfl, _⟩ := h
    rfl
  · obtain ⟨tv, t, Gh, rfl, hT, sg, ok, k1, k2⟩ := h
    have hlen := ok.hi
    refine ⟨_, pss_cons (ps_expr (pe_call G1 (hr.mono (by decide)) rfl D1.g D1.F.kp b1 .nil pass0 (pa_cons (pv 0) pa_nil)))
      (pss_cons (ps_set (i := 1) sc_order_of.nd rfl (Or.inl rfl) (pe_call G2 (hr.mono (by decide)) rfl D2.g D2.F.kp b2 .nil pass0 (pa_cons (pv 0) pa_nil)))
      (pss_one (ps_ret (pe_ifExp (pt_cmpR op_isN (pv 1) pe_non (nomark _))
        (pe_make C.mO C.FO hr rfl C.gO C.bO .nil pass0 (pa_cons (pe_call G3 (hr.mono (by decide)) rfl D3.g D3.F.kp b3 .nil pass0 (pa_cons (pv 0) pa_nil)) pa_nil))
        (pe_make C.mT C.FT hr rfl C.gT C.bT .nil pass0 (pa_cons (pe_ix ix_seq (pv 1) pe_int (fun _ _ => rfl)) (pa_cons (pe_ix ix_seq (pv 1) pe_int (fun _ _ => rfl)) pa_nil))))))), ?_⟩
    refine ⟨_, rfl, tv, t, Gh, rfl, hT, sg, ok, fun Ga Ha sa => ?_⟩
    refine ⟨_, rfl, tv, t, Ga, rfl, hT.up sa.gg, sa.sub, hlen, ok.sq, fun Gb Hb sb hno => ?_, fun p i j Gb Hb sb hfst hp => ?_⟩
    · refine ⟨_, rfl, rfl, _, rfl, ?_⟩
      refine iteT ?_
      refine ⟨_, rfl, tv, t, Gb, rfl, (hT.up sa.gg).up sb.gg, sb.sub, hlen, fun p Gc Hc sc hp => ?_⟩
      intro x dx nx ndx nex
      obtain ⟨ms, gx⟩ := make_same (C := CO) sc.sub nx ndx nex
      refine ⟨x, dx, .ref p, Gc, .tuple ((plc t).map PyData.int), rfl, upd_same, gx, ms, .tup hp (DpAll.ints _), okd_ints (by rw [plc_len]; omega) 0, fun Gd Hd sd hg ho => ⟨rfl, ?_⟩⟩
      obtain ⟨dx', v, q, ho1, ho2, ho3⟩ := ho
      have s4 := made ((sa.trans sb).trans sc) nx ndx nex sd hg ho1
      rw [fix_ints] at ho3
      refine k1 x _ _ s4 ⟨dx', v, q, upd_same, SqT.ext ho2 (same_new hg), Dp.up (same_new hg) ho3⟩ hno
    · refine ⟨_, rfl, rfl, _, rfl, ?_⟩
      refine iteF ?_
      refine ⟨_, rfl, rIx_sq (.inl (SqT.ext hp sb.sub)) (atI_nat (j := 0) rfl) ?_⟩
      refine ⟨_, rfl, rIx_sq (.inl (SqT.ext hp sb.sub)) (atI_nat (j := 1) rfl) ?_⟩
      intro x dx nx ndx nex
      obtain ⟨ms, gx⟩ := make_same (C := CT) sb.sub nx ndx nex
      refine ⟨x, dx, .int i, .int j, Gb, .int i, .int j, rfl, upd_same, gx, ms, .int _, .int _, okd_int _ _, okd_int _ _, fun Gd Hd sd hg ho => ⟨rfl, ?_⟩⟩
      obtain ⟨dx', u, v, q, ho1, ho2, ho3, ho4⟩ := ho
      have s4 := made (sa.trans sb) nx ndx nex sd hg ho1
      exact k2 x i j _ _ s4 ⟨dx', u, v, q, upd_same, SqT.ext ho2 (same_new hg), Dp.up (same_new hg) ho3, Dp.up (same_new hg) ho4⟩ hfst
end
end B90
set_option Elab.async false
set_option linter.all false
set_option maxRecDepth 100000
set_option maxHeartbeats 4000000
namespace B90
open PySem L2 BayE
abbrev s_is_order : Stmt := topS 23
abbrev s_shows_order : Stmt := topS 24
/-! ### plain -/
def intsD : List PyData → Option (List Int)
  | [] => some []
  | .int i :: ds => (intsD ds).map (i :: ·)
  | _ => none
theorem intsD_some : ∀ {ds : List PyData} {ns : List Int}, intsD ds = some ns → ds = ns.map PyData.int
  | [], ns, h => by cases h; rfl
  | .int i :: ds, ns, h => by
    unfold intsD at h
    cases e : intsD ds with
    | none => rw [e] at h; cases h
    | some ms => rw [e] at h; cases h; rw [intsD_some e]; rfl
  | .none :: ds, ns, h => by cases h
  | .bool b :: ds, ns, h => by cases h
  | .str b :: ds, ns, h => by cases h
  | .list b :: ds, ns, h => by cases h
  | .tuple b :: ds, ns, h => by cases h
  | .dict b :: ds, ns, h => by cases h
theorem intsD_ints : ∀ ns : List Int, intsD (ns.map PyData.int) = some ns
  | [] => rfl
  | n :: ns => by simp [intsD, intsD_ints ns]
theorem intsD_all : ∀ {ds : List PyData}, (ds.map isIntD).all id = (intsD ds).isSome
  | [] => rfl
  | .int i :: ds => by
    have := @intsD_all ds
    simp only [List.map_cons, List.all_cons, isIntD, id, Bool.true_and, intsD, Option.isSome_map]
    exact this
  | .none :: ds => rfl
  | .bool b :: ds => rfl
  | .str b :: ds => rfl
  | .list b :: ds => rfl
  | .tuple b :: ds => rfl
  | .dict b :: ds => rfl
theorem eqvAll_ints : ∀ ns ms : List Int, PyData.eqvAll (ns.map PyData.int) (ms.map PyData.int) = decide (ns = ms)
  | [], [] => rfl
  | [], m :: ms => by simp [PyData.eqvAll]
  | n :: ns, [] => by simp [PyData.eqvAll]
  | n :: ns, m :: ms => by
    simp only [List.map_cons, PyData.eqvAll, PyData.eqv, eqvAll_ints ns ms]
    by_cases h : n = m
    · subst h; simp
    · have h2 : ¬ (n :: ns = m :: ms) := fun q => h (List.cons.inj q).1
      simp [h]
theorem eqv_ints (ns ms : List Int) : PyData.eqv (.tuple (ns.map PyData.int)) (.tuple (ms.map PyData.int)) = decide (ns = ms) := by
  simp only [PyData.eqv]
  exact eqvAll_ints ns ms
theorem lay_ints : ∀ ns : List Int, PyData.canLayAll0 (ns.map PyData.int) = true
  | [] => rfl
  | n :: ns => by simp [PyData.canLayAll0, PyData.canLay0, lay_ints ns]
theorem depth_ints : ∀ ns : List Int, PyData.depthAll (ns.map PyData.int) ≤ 1
  | [] => by simp [PyData.depthAll]
  | n :: ns => by
    have := depth_ints ns
    simp only [List.map_cons, PyData.depthAll, PyData.depth]
    omega
theorem shaped_ints (ns : List Int) : SeqAt.shaped (.tuple (ns.map PyData.int)) = true := by
  unfold SeqAt.shaped
  rw [Bool.and_eq_true, decide_eq_true_eq]
  refine ⟨by simp only [PyData.canLay0]; exact lay_ints ns, ?_⟩
  have := depth_ints ns
  simp only [PyData.depth]
  omega
/-- no pair is torn -/
def noTorn (t : List (List Int)) : Bool := decide (∀ i, i < t.length → ∀ j, j < t.length → i < j → torn t (plc t) i j = false)
/-- whether an Order with this value is right -/
def isOrd (t : List (List Int)) : PyData → Bool
  | .tuple ds => match intsD ds with
    | some ns => decide (ns = plc t) && noTorn t
    | none => false
  | _ => false
/-- whether a Torn with these values is right -/
def isTrn (t : List (List Int)) : PyData → PyData → Bool
  | .int i, .int j => decide (0 ≤ i) && decide (i ≤ (t.length : Int) - 1) && (decide (0 ≤ j) && decide (j ≤ (t.length : Int) - 1)) && decide (i < j) && torn t (plc t) i.toNat j.toNat
  | _, _ => false
section
variable {P : Program} {w : World} {K : PySem.W.Frag} {mg : Str → Option Value} {base : Heap}
/-- a tuple of at most a thousand items, or no list and no tuple -/
def TupOr (d : PyData) : Prop := seqD d = false ∨ ∃ ds, d = .tuple ds ∧ ds.length ≤ 1000
def sp_is_order (K : PySem.W.Frag) : Sp := fun vs H Q _ => ∃ (tv v : V) (t : List (List Int)) (d : PyData) (G : Hp), vs = [tv, v] ∧ TabV K G tv t ∧ Same G H ∧ TabOk t ∧ Dp K G v d ∧ TupOr d ∧ ∀ G' H', Stp [] G H G' H' → Q (.bl (isOrd t d)) H'
theorem sc_is_order : FnScope ["table", "value", "each"] ["table", "value"] (defScope s_is_order) := ⟨rfl, rfl, rfl, by decide +kernel, rfl, by decide +kernel, by decide +kernel⟩
theorem ok_is_order {f g1 g2 g3 : Addr} {fd gd1 gd2 gd3 : FuncData} (F : Fun K "is_order" "is_order" s_is_order f fd) (D1 : DefT K mg "is_integer" s_is_integer g1 gd1) (G1 : FnOk P w K mg base CX0 1 g1 gd1 ["value"] (sp_is_integer K))
    (D2 : DefT K mg "torn_in" s_torn_in g2 gd2) (G2 : FnOk P w K mg base CX0 3 g2 gd2 ["table"] (sp_torn_in K)) (D3 : DefT K mg "places_told" s_places_told g3 gd3) (G3 : FnOk P w K mg base CX0 1 g3 gd3 ["table"] (sp_places_told K))
    (m1 : mg "isinstance" = none) (m2 : mg "list" = none) (m3 : mg "tuple" = none) (m6 : mg "all" = none) : FnOk P w K mg base CX0 4 f fd ["table", "value"] (sp_is_order K) := by
  have b1 : Binds K gd1 ["value"] [] := D1.F.binds fun _ _ _ _ _ _ us hl => match us, hl with | [_], _ => rfl
  have b2 : Binds K gd2 ["table"] [] := D2.F.binds fun _ _ _ _ _ _ us hl => match us, hl with | [_], _ => rfl
  have b3 : Binds K gd3 ["table"] [] := D3.F.binds fun _ _ _ _ _ _ us hl => match us, hl with | [_], _ => rfl
  refine F.ok sc_is_order (fun vs H Q E h => ?_) (fun cdv A outer s H vs Q E hr h => ?_)
  · obtain ⟨tv, v, t, d, G, rfl, _⟩ := h
    rfl
  · obtain ⟨tv, v, t, d, Gh, rfl, hT, sg, ok, hd, hto, k⟩ := h
    have hlen := ok.hi
    have hr1 := hr.mono (show 1 ≤ 3 by decide)
    refine ⟨_, pss_cons (ps_if (PW.pt (pw_or (pt_not (pt_val (pe_callB call_isiT (by rfl) m1 (by decide +kernel) (pa_cons (pv 1) (pa_cons (pe_tup (pa_cons (pe_bltn (v := .ty "list") (by rfl) m2 (by decide +kernel) rfl) (pa_cons (pe_bltn (v := .ty "tuple") (by rfl) m3 (by decide +kernel) rfl) pa_nil))) pa_nil)))))
        (pw_or1 (pt_not (pt_val (pe_callB (cr_all rfl) (by rfl) m6 (by decide +kernel) (pa_cons (pe_lc (own := [("each", 2)]) (g := gName 2) (tt := tYes) (by rfl) sc_is_order.nd (pi_sq (pv 1)) (blkOk_by (own := [("each", 2)]) (N := ["table", "value", "each"]) (sc := defScope s_is_order) (by decide +kernel)) (fun _ _ _ _ _ => pg_name (i := 2) sc_is_order.nd rfl (Or.inl rfl)) (fun _ _ _ _ _ => pts_nil)
          (fun _ _ _ _ _ => pe_call G1 hr1 rfl D1.g D1.F.kp b1 .nil pass0 (pa_cons (pv 2) pa_nil))) pa_nil))))))) (pss_one (ps_ret pe_bl)) pss_nil)
      (pss_one (ps_ret (pe_and (pe_cmpR (op_eqD hr.units) (pe_callTy call_tuple_of (by rfl) m3 (by decide +kernel) (pa_cons (pv 1) pa_nil)) (pe_call G3 hr1 rfl D3.g D3.F.kp b3 .nil pass0 (pa_cons (pv 0) pa_nil)) (nomark _))
        (pe_one (pe_cmpR op_isN (pe_call G2 hr rfl D2.g D2.F.kp b2 .nil pass0 (pa_cons (pv 0) pa_nil)) pe_non (nomark _)))))), ?_⟩
    refine ⟨_, rfl, (by show 2 ≤ sizeLine; decide), fun tp htp => ?_⟩
    obtain ⟨ty, y1, y2, y3⟩ := seq_new (isSeq_D (Dp.up sg hd)) htp
    refine ⟨v, tp, _, ty, _, _, rfl, upd_same, y3, y1, y2, _, rfl, ?_⟩
    have st0 := (Stp.refl (ms := []) sg).priv (o := HO.tup [.ty "list", .ty "tuple"]) htp
    rcases hto with hs | ⟨ds, rfl, hds⟩
    · rw [hs]
      refine iteT ?_
      have e : isOrd t d = false := by
        cases d with
        | tuple ds => simp [seqD] at hs
        | _ => rfl
      rw [← e]
      exact k _ _ st0
    · refine iteF ?_
      obtain ⟨a, xs, rfl, hS, hA⟩ : ∃ a xs, v = .ref a ∧ SqT K Gh a xs ∧ DpAll K Gh xs ds := by
        cases hd with
        | tup h r => exact ⟨_, _, rfl, h, r⟩
      have hxl := DpAll.len hA
      refine ⟨_, rfl, a, xs, Gh, rfl, .inl hS, st0.sub, fun J wJ Dl hDl => ?_⟩
      refine lc_pure wJ (fun i v _ => ∃ d, ds[i]? = some d ∧ v = .bl (isIntD d)) (fun i v G G' s h => h) (by omega) st0.sub hDl (fun G H st => st.gg.trans st.sub) ?_ ?_
      · rintro j x G3 H3 H4 Qy hj st3 ⟨rfl, hx⟩ hq
        obtain ⟨dx, h1, h2⟩ := DpAll.get hA hx
        exact ⟨rfl, _, rfl, x, _, rfl, isInt_D (Dp.up (st3.gg.trans st3.sub) h2), hq _ G3 _ (Stp.refl st3.sub) ⟨dx, h1, rfl⟩⟩
      · intro G3 H3 ys st3 hl hg hlen2 hrel
        have eys : ys = (ds.map isIntD).map V.bl := by
          refine List.ext_getElem? fun i => ?_
          by_cases hi : i < ys.length
          · obtain ⟨dx, h1, h2⟩ := hrel i ys[i] (List.getElem?_eq_getElem hi)
            rw [List.getElem?_eq_getElem hi, h2, List.getElem?_map, List.getElem?_map, h1]
            rfl
          · rw [List.getElem?_eq_none (by omega), List.getElem?_eq_none (by rw [List.length_map, List.length_map]; omega)]
        refine ⟨Dl, ds.map isIntD, rfl, by rw [← eys]; exact SqL.of hl, ?_⟩
        have st4 : Stp [] Gh H G3 H3 := Stp.own st0 hDl st3
        rw [intsD_all]
        refine ⟨_, rfl, ?_⟩
        cases ei : intsD ds with
        | none =>
          refine iteT ?_
          have e : isOrd t (.tuple ds) = false := by simp only [isOrd, ei]
          rw [← e]
          exact k _ _ st4
        | some ns =>
          refine iteF ?_
          have eds := intsD_some ei
          have e0 : isOrd t (.tuple ds) = (decide (ns = plc t) && noTorn t) := by simp only [isOrd, ei]
          rw [e0] at k
          refine ⟨_, rfl, a, xs, rfl, .inr ⟨SqT.ext hS (st4.gg.trans st4.sub), ?_⟩⟩
          refine ⟨_, rfl, tv, t, G3, rfl, hT.up st4.gg, st4.sub, hlen, fun p G5 H5 st5 hp => ?_⟩
          have st6 := st4.trans st5
          refine ⟨.tuple (ns.map PyData.int), .tuple ((plc t).map PyData.int), by rw [← eds]; exact Dp.up (st6.gg.trans st6.sub) hd, .tup (SqT.ext hp st5.sub) (DpAll.ints _), shaped_ints _, shaped_ints _, ?_⟩
          rw [eqv_ints]
          refine ⟨_, rfl, ?_⟩
          cases en : decide (ns = plc t) with
          | false =>
            refine iteF ?_
            rw [en] at k
            exact k _ _ st6
          | true =>
            refine iteT ?_
            rw [en] at k
            refine ⟨_, rfl, tv, t, G5, rfl, hT.up st6.gg, st6.sub, hlen, ok.sq, fun G7 H7 st7 hno => ?_, fun p i j G7 H7 st7 hfst hp => ?_⟩

            · have e : noTorn t = true := decide_eq_true fun i _ j hj hij => hno i j hij hj
              rw [e] at k
              exact ⟨rfl, k _ _ (st6.trans st7)⟩
            · obtain ⟨hij, hj, htr, _⟩ := hfst
              have e : noTorn t = false := decide_eq_false fun h => by
                have := h i (by omega) j hj hij
                rw [htr] at this
                cases this
              rw [e] at k
              exact ⟨rfl, k _ _ (st6.trans st7)⟩
end
end B90
set_option Elab.async false
set_option linter.all false
set_option maxRecDepth 100000
set_option maxHeartbeats 4000000
namespace B90
open PySem L2 BayE
section
variable {P : Program} {w : World} {K : PySem.W.Frag} {mg : Str → Option Value} {base : Heap}
/-- isinstance against Order and Torn -/
structure IsiC (K : PySem.W.Frag) (CO CT : Addr) : Prop where
  oo : PySem.W.kitOne K (.ref CO) (.ref CO) = some true
  to : PySem.W.kitOne K (.ref CT) (.ref CO) = some false
  tt : PySem.W.kitOne K (.ref CT) (.ref CT) = some true
  nO : PySem.W.kitOne K (.type "NoneType") (.ref CO) = some false
  iO : PySem.W.kitOne K (.type "int") (.ref CO) = some false
  sO : PySem.W.kitOne K (.type "str") (.ref CO) = some false
  tO : PySem.W.kitOne K (.type "tuple") (.ref CO) = some false
  nT : PySem.W.kitOne K (.type "NoneType") (.ref CT) = some false
  iT : PySem.W.kitOne K (.type "int") (.ref CT) = some false
  sT : PySem.W.kitOne K (.type "str") (.ref CT) = some false
  tT : PySem.W.kitOne K (.type "tuple") (.ref CT) = some false
/-- None, an int, a text, a tuple -/
def PlainD : PyData → Prop
  | .none => True
  | .int _ => True
  | .str _ => True
  | .tuple _ => True
  | _ => False
theorem IsiC.plain {CO CT : Addr} (C : IsiC K CO CT) {d : PyData} (h : PlainD d) : PySem.W.kitOne K (.type (tyD d)) (.ref CO) = some false ∧ PySem.W.kitOne K (.type (tyD d)) (.ref CT) = some false := by
  cases d with
  | none => exact ⟨C.nO, C.nT⟩
  | int i => exact ⟨C.iO, C.iT⟩
  | str x => exact ⟨C.sO, C.sT⟩
  | tuple ds => exact ⟨C.tO, C.tT⟩
  | _ => exact h.elim
theorem NameC.ty {C : Addr} {nm : Str} (N : NameC K C nm) {H : Hp} {x dx : Addr} {fs : List (Str × V)} (h : H x = some (.ins C dx fs)) : TyX K H (.ref x) (.ref C) := .base (.ins h N.cl N.ha N.hn N.htk N.hm)
def sp_shows_order (K : PySem.W.Frag) (CO CT : Addr) : Sp := fun vs H Q _ => ∃ (tv v : V) (t : List (List Int)) (G : Hp), vs = [tv, v] ∧ TabV K G tv t ∧ Same G H ∧ TabOk t ∧
  ((∃ x d, v = .ref x ∧ OrdV K CO G x d ∧ TupOr d ∧ ∀ G' H', Stp [] G H G' H' → Q (.bl (isOrd t d)) H') ∨
   (∃ x d e, v = .ref x ∧ TrnV K CT G x d e ∧ ∀ G' H', Stp [] G H G' H' → Q (.bl (isTrn t d e)) H') ∨
   (∃ d, Dp K G v d ∧ PlainD d ∧ ∀ G' H', Stp [] G H G' H' → Q (.bl false) H'))
theorem sc_shows_order : FnScope ["table", "value", "last"] ["table", "value"] (defScope s_shows_order) := ⟨rfl, rfl, rfl, by decide +kernel, rfl, by decide +kernel, by decide +kernel⟩
theorem trn_fields {CT x : Addr} {G : Hp} {d e : PyData} (h : TrnV K CT G x d e) : ∃ dx fs u v, G x = some (.ins CT dx fs) ∧ fs.lookup ("one" : Str) = some u ∧ fs.lookup ("other" : Str) = some v ∧ Dp K G u d ∧ Dp K G v e := by
  obtain ⟨dx, u, v, p, h1, h2, h3, h4⟩ := h
  refine ⟨dx, _, u, v, h1, ?_, ?_, h3, h4⟩
  · rw [lookup_putF, if_neg (by decide +kernel), lookup_putF, if_pos rfl]
  · rw [lookup_putF, if_pos rfl]
theorem ord_fields {CO x : Addr} {G : Hp} {d : PyData} (h : OrdV K CO G x d) : ∃ dx fs v, G x = some (.ins CO dx fs) ∧ fs.lookup ("places" : Str) = some v ∧ Dp K G v d := by
  obtain ⟨dx, v, p, h1, h2, h3⟩ := h
  exact ⟨dx, _, v, h1, by rw [lookup_putF, if_pos rfl], h3⟩
theorem not_int {H : Hp} {v : V} {d : PyData} (h : Dp K H v d) (e : isIntD d = false) : IsIntV K H v false := by
  have := isInt_D h
  rw [e] at this
  exact this
theorem ok_shows_order {f g1 g2 g3 g4 g5 CO CT : Addr} {fd gd1 gd2 gd3 gd4 gd5 : FuncData} (F : Fun K "shows_order" "shows_order" s_shows_order f fd) (D1 : DefT K mg "need_table" s_need_table g1 gd1) (G1 : FnOk P w K mg base CX0 3 g1 gd1 ["value"] (sp_need_table K))
    (D2 : DefT K mg "is_order" s_is_order g2 gd2) (G2 : FnOk P w K mg base CX0 4 g2 gd2 ["table", "value"] (sp_is_order K)) (D3 : DefT K mg "is_within" s_is_within g3 gd3) (G3 : FnOk P w K mg base CX0 2 g3 gd3 ["value", "least", "most"] (sp_is_within K))
    (D4 : DefT K mg "is_torn" s_is_torn g4 gd4) (G4 : FnOk P w K mg base CX0 2 g4 gd4 ["table", "places", "one", "other"] (sp_is_torn K)) (D5 : DefT K mg "places_told" s_places_told g5 gd5) (G5 : FnOk P w K mg base CX0 1 g5 gd5 ["table"] (sp_places_told K))
    (pO : PapC K CO) (pT : PapC K CT) (nO : NameC K CO "Order") (nT : NameC K CT "Torn") (gO : mg "Order" = some (.ref CO)) (gT : mg "Torn" = some (.ref CT)) (IC : IsiC K CO CT) (m1 : mg "isinstance" = none) (m4 : mg "len" = none) : FnOk P w K mg base CX0 5 f fd ["table", "value"] (sp_shows_order K CO CT) := by
  have b1 : Binds K gd1 ["value"] [] := D1.F.binds fun _ _ _ _ _ _ us hl => match us, hl with | [_], _ => rfl
  have b2 : Binds K gd2 ["table", "value"] [] := D2.F.binds fun _ _ _ _ _ _ us hl => match us, hl with | [_, _], _ => rfl
  have b3 : Binds K gd3 ["value", "least", "most"] [] := D3.F.binds fun _ _ _ _ _ _ us hl => match us, hl with | [_, _, _], _ => rfl
  have b4 : Binds K gd4 ["table", "places", "one", "other"] [] := D4.F.binds fun _ _ _ _ _ _ us hl => match us, hl with | [_, _, _, _], _ => rfl
  have b5 : Binds K gd5 ["table"] [] := D5.F.binds fun _ _ _ _ _ _ us hl => match us, hl with | [_], _ => rfl
  refine F.ok sc_shows_order (fun vs H Q E h => ?_) (fun cdv A outer s H vs Q E hr h => ?_)
  · obtain ⟨tv, v, t, G, rfl, _⟩ := h
    rfl
  · obtain ⟨tv, v, t, Gh, rfl, hT, sg, ok, k⟩ := h
    have hlen := ok.hi
    have hlo := ok.lo
    obtain ⟨tb, us, rfl, hTb, hR⟩ := id hT
    refine ⟨_, pss_cons (ps_expr (pe_call G1 (hr.mono (by decide)) rfl D1.g D1.F.kp b1 .nil pass0 (pa_cons (pv 0) pa_nil)))
      (pss_cons (ps_if (pt_val (pe_callB call_isi (by rfl) m1 (by decide +kernel) (pa_cons (pv 1) (pa_cons (pe_glob (v := .ref CO) rfl gO rfl) pa_nil)))) (pss_one (ps_ret (pe_call G2 hr rfl D2.g D2.F.kp b2 .nil pass0 (pa_cons (pv 0) (pa_cons (pe_fld (pv 1) rfl) pa_nil))))) pss_nil)
      (pss_cons (ps_set (i := 2) sc_shows_order.nd rfl (Or.inl rfl) (pe_op op_sub (pe_callB call_len (by rfl) m4 PySem.boot_len (pa_cons (pv 0) pa_nil)) pe_int))
      (pss_cons (ps_if (PW.pt (pw_or (pt_not (pt_val (pe_callB call_isi (by rfl) m1 (by decide +kernel) (pa_cons (pv 1) (pa_cons (pe_glob (v := .ref CT) rfl gT rfl) pa_nil)))))
          (pw_or (pt_not (pt_val (pe_call G3 (hr.mono (by decide)) rfl D3.g D3.F.kp b3 .nil pass0 (pa_cons (pe_fld (pv 1) rfl) (pa_cons pe_int (pa_cons (pv 2) pa_nil))))))
          (pw_or1 (pt_not (pt_val (pe_call G3 (hr.mono (by decide)) rfl D3.g D3.F.kp b3 .nil pass0 (pa_cons (pe_fld (pv 1) rfl) (pa_cons pe_int (pa_cons (pv 2) pa_nil)))))))))) (pss_one (ps_ret pe_bl)) pss_nil)
      (pss_one (ps_ret (pe_and (pe_cmpR op_lt (pe_fld (pv 1) rfl) (pe_fld (pv 1) rfl) (nomark _)) (pe_one (pe_call G4 (hr.mono (by decide)) rfl D4.g D4.F.kp b4 .nil pass0 (pa_cons (pv 0) (pa_cons (pe_call G5 (hr.mono (by decide)) rfl D5.g D5.F.kp b5 .nil pass0 (pa_cons (pv 0) pa_nil)) (pa_cons (pe_fld (pv 1) rfl) (pa_cons (pe_fld (pv 1) rfl) pa_nil)))))))))))), ?_⟩
    refine ⟨_, rfl, .ref tb, t, Gh, rfl, hT, sg, ok, fun Ga Ha sa => ?_⟩
    have hTa := hT.up sa.gg
    have upa := sa.gg.trans sa.sub
    have hln : LenV K (.ref tb) Ha t.length := by rw [← hR.1]; exact LenV.sq (Sq.up upa hTb)
    rcases k with ⟨x, d, rfl, hx, hto, k⟩ | ⟨x, d, e, rfl, hx, k⟩ | ⟨d, hd, hpl, k⟩
    · obtain ⟨dx, fs, u, h1, h2, h3⟩ := ord_fields hx
      refine ⟨_, rfl, .ref x, .ref CO, .ref CO, .ref CO, true, rfl, .own _, NameC.ty nO (upa _ _ h1), IC.oo, true, rfl, ?_⟩
      refine iteT ?_
      refine ⟨_, rfl, _, rfl, x, CO, dx, fs, u, rfl, upa _ _ h1, pO.cl, pO.nPl, h2, ?_⟩
      exact ⟨.ref tb, u, t, d, Ga, rfl, hTa, sa.sub, ok, Dp.up sa.gg h3, hto, fun Gb Hb sb => k Gb Hb (sa.trans sb)⟩
    · obtain ⟨dx, fs, u, v, h1, h2, h3, h4, h5⟩ := trn_fields hx
      have hxa := upa _ _ h1
      refine ⟨_, rfl, .ref x, .ref CO, .ref CT, .ref CO, false, rfl, .own _, NameC.ty nT hxa, IC.to, false, rfl, ?_⟩
      refine iteF ?_
      refine ⟨_, rfl, _, t.length, rfl, hln, _, _, rfl, rfl, ?_⟩
      refine ⟨_, rfl, .ref x, .ref CT, .ref CT, .ref CT, true, rfl, .own _, NameC.ty nT hxa, IC.tt, true, rfl, ?_⟩
      refine iteF ?_
      refine ⟨_, rfl, x, CT, dx, fs, u, rfl, hxa, pT.cl, pT.n1, h2, _, rfl, u, 0, (t.length : Int) - 1, rfl, ?_⟩
      have key : isIntD d = false ∨ ∃ i, d = .int i := by
        cases d with
        | int i => exact .inr ⟨i, rfl⟩
        | _ => exact .inl rfl
      rcases key with hd | ⟨i, rfl⟩
      · refine .inr ⟨not_int (Dp.up upa h4) hd, false, rfl, ?_⟩
        refine iteT ?_
        have e0 : isTrn t d e = false := by
          cases d with
          | int i => cases hd
          | _ => rfl
        rw [← e0]
        exact k _ _ sa
      · cases h4
        refine .inl ⟨i, rfl, _, rfl, ?_⟩
        have key2 : isIntD e = false ∨ ∃ j, e = .int j := by
          cases e with
          | int j => exact .inr ⟨j, rfl⟩
          | _ => exact .inl rfl
        cases ea : (decide ((0 : Int) ≤ i) && decide (i ≤ (t.length : Int) - 1)) with
        | false =>
          refine iteT ?_
          have e0 : isTrn t (.int i) e = false := by
            cases e with
            | int j => simp only [isTrn, ea, Bool.false_and]
            | _ => rfl
          rw [← e0]
          exact k _ _ sa
        | true =>
          refine iteF ?_
          refine ⟨_, rfl, x, CT, dx, fs, v, rfl, hxa, pT.cl, pT.n2, h3, _, rfl, v, 0, (t.length : Int) - 1, rfl, ?_⟩
          rcases key2 with he | ⟨j, rfl⟩
          · refine .inr ⟨not_int (Dp.up upa h5) he, false, rfl, ?_⟩
            refine iteT ?_
            have e0 : isTrn t (.int i) e = false := by
              cases e with
              | int j => cases he
              | _ => rfl
            rw [← e0]
            exact k _ _ sa
          · cases h5
            refine .inl ⟨j, rfl, _, rfl, ?_⟩
            have et : isTrn t (.int i) (.int j) = (decide (0 ≤ i) && decide (i ≤ (t.length : Int) - 1) && (decide (0 ≤ j) && decide (j ≤ (t.length : Int) - 1)) && decide (i < j) && torn t (plc t) i.toNat j.toNat) := rfl
            rw [et, ea] at k
            cases eb : (decide ((0 : Int) ≤ j) && decide (j ≤ (t.length : Int) - 1)) with
            | false =>
              refine iteT ?_
              rw [eb] at k
              exact k _ _ sa
            | true =>
              refine iteF ?_
              rw [eb] at k
              rw [Bool.and_eq_true, decide_eq_true_eq, decide_eq_true_eq] at ea eb
              refine ⟨_, rfl, x, CT, dx, fs, _, rfl, hxa, pT.cl, pT.n1, h2, _, rfl, x, CT, dx, fs, _, rfl, hxa, pT.cl, pT.n2, h3, _, _, rfl, rfl, _, rfl, ?_⟩
              cases ec : decide (i < j) with
              | false =>
                refine iteF ?_
                rw [ec] at k
                exact k _ _ sa
              | true =>
                refine iteT ?_
                rw [ec] at k
                refine ⟨_, rfl, _, rfl, .ref tb, t, Ga, rfl, hTa, sa.sub, hlen, fun p Gb Hb sb hp => ?_⟩
                have hxb := (sa.trans sb).gg.trans sb.sub _ _ h1
                refine ⟨_, rfl, x, CT, dx, fs, _, rfl, hxb, pT.cl, pT.n1, h2, _, rfl, x, CT, dx, fs, _, rfl, hxb, pT.cl, pT.n2, h3, ?_⟩
                refine ⟨.ref tb, p, t, plc t, i.toNat, j.toNat, ?_, hTa.up (sb.gg.trans sb.sub), .inl (SqT.ext hp sb.sub), plc_len t, ok.sq, by omega, by omega, hlen, k _ _ (sa.trans sb)⟩
                show [V.ref tb, V.ref p, V.int i, V.int j] = [V.ref tb, V.ref p, V.int (i.toNat : Int), V.int (j.toNat : Int)]
                rw [Int.toNat_of_nonneg ea.1, Int.toNat_of_nonneg eb.1]
    · obtain ⟨kO, kT⟩ := IC.plain hpl
      refine ⟨_, rfl, v, .ref CO, _, .ref CO, false, rfl, .own _, ty_D (Dp.up upa hd), kO, false, rfl, ?_⟩
      refine iteF ?_
      refine ⟨_, rfl, _, t.length, rfl, hln, _, _, rfl, rfl, ?_⟩
      refine ⟨_, rfl, v, .ref CT, _, .ref CT, false, rfl, .own _, ty_D (Dp.up upa hd), kT, false, rfl, ?_⟩
      exact iteT (k _ _ sa)
end
end B90
set_option Elab.async false
set_option linter.all false
set_option maxRecDepth 100000
set_option maxHeartbeats 4000000
namespace BayE
open PySem L2
theorem cutV_ints (ns : List Int) (lo hi : Option Int) : ∃ ms : List Int, cutV (ns.map V.int) lo hi = ms.map V.int ∧ ms.length ≤ ns.length := by
  refine ⟨(ns.drop (HT.sIx (ns.map V.int).length 0 lo)).take (HT.sIx (ns.map V.int).length (ns.map V.int).length hi - HT.sIx (ns.map V.int).length 0 lo), ?_, ?_⟩
  · unfold cutV
    rw [List.map_take, List.map_drop]
  · rw [List.length_take, List.length_drop]
    omega
theorem pin {P : Int → Prop} (x : Int) (h : ∀ y, y = x → P y) : P x := h x rfl
theorem mul_le {a b A B : Int} (ha : 0 ≤ a) (hA : a ≤ A) (hb : 0 ≤ b) (hB : b ≤ B) : 0 ≤ a * b ∧ a * b ≤ A * B :=
  ⟨Int.mul_nonneg ha hb, Int.le_trans (Int.mul_le_mul_of_nonneg_right hA hb) (Int.mul_le_mul_of_nonneg_left hB (Int.le_trans ha hA))⟩
/-- where the draws stand: the cells, how many were begun, the rest of a great one -/
def Choir (K : PySem.W.Frag) (G H : Hp) (p : Addr) (T : Int) : Prop := ∃ (q : Addr) (cs : List Int) (turn rest : Int), H p = some (.lst [.ref q, .int turn, .int rest]) ∧ G p = none ∧ SqL K G q (cs.map V.int) ∧ 0 ≤ turn ∧ turn ≤ T ∧ cs.length ≤ 100
theorem Choir.le {K : PySem.W.Frag} {G H : Hp} {p : Addr} {T T' : Int} (h : Choir K G H p T) (l : T ≤ T') : Choir K G H p T' := let ⟨q, cs, t, r, h1, h2, h3, h4, h5, h6⟩ := h; ⟨q, cs, t, r, h1, h2, h3, h4, Int.le_trans h5 l, h6⟩
theorem Choir.keep {K : PySem.W.Frag} {ms : List Addr} {G H G' H' : Hp} {p : Addr} {T : Int} (st : Stp ms G H G' H') (hm : p ∉ ms) (h : Choir K G H p T) : Choir K G' H' p T :=
  let ⟨q, cs, t, r, h1, h2, h3, h4, h5, h6⟩ := h; ⟨q, cs, t, r, st.at hm h1, st.gn h2 h1, SqL.ext h3 st.gg, h4, h5, h6⟩
theorem shaped_intsL (ns : List Int) (h1 : PyData.canLayAll0 (ns.map PyData.int) = true) (h2 : PyData.depthAll (ns.map PyData.int) ≤ 1) : SeqAt.shaped (.list (ns.map PyData.int)) = true := by
  unfold SeqAt.shaped
  rw [Bool.and_eq_true, decide_eq_true_eq]
  refine ⟨by simp only [PyData.canLay0]; exact h1, ?_⟩
  simp only [PyData.depth]
  omega
end BayE
namespace B90
open PySem L2 BayE
abbrev s_choir : Stmt := topS 26
abbrev s_sing : Stmt := topS 27
abbrev s_pick : Stmt := topS 28
section
variable {P : Program} {w : World} {K : PySem.W.Frag} {mg : Str → Option Value} {base : Heap}
def sp_choir (K : PySem.W.Frag) : Sp := fun vs H Q _ => ∃ (a : Addr) (ns : List Int) (G : Hp), vs = [.ref a] ∧ SqL K G a (ns.map V.int) ∧ Same G H ∧ ns.length ≤ 63 ∧ ∀ p G' H', Stp [] G H G' H' → H p = none → Choir K G' H' p 0 → Q (.ref p) H'
theorem sc_choir : FnScope ["_law_script", "_law_cell"] ["_law_script"] (defScope s_choir) := ⟨rfl, rfl, rfl, by decide +kernel, rfl, by decide +kernel, by decide +kernel⟩
theorem ok_choir {f : Addr} {fd : FuncData} (F : Fun K "_law_choir" "_law_choir" s_choir f fd) (m1 : mg "int" = none) : FnOk P w K mg base CX0 1 f fd ["_law_script"] (sp_choir K) := by
  refine F.ok sc_choir (fun vs H Q E h => ?_) (fun cdv A outer s H vs Q E hr h => ?_)
  · obtain ⟨a, ns, G, rfl, _⟩ := h
    rfl
  · obtain ⟨a, ns, G, rfl, hS, sg, hn, k⟩ := h
    refine ⟨_, pss_one (ps_ret (pe_lst (pa_cons (pe_lc (own := [("_law_cell", 1)]) (g := gName 1) (tt := tYes) (by rfl) sc_choir.nd (pi_sq (pe_slice sl_list (pv 0) po_none (po_some pe_int))) (blkOk_by (own := [("_law_cell", 1)]) (N := ["_law_script", "_law_cell"]) (sc := defScope s_choir) (by decide +kernel)) (fun _ _ _ _ _ => pg_name (i := 1) sc_choir.nd rfl (Or.inl rfl)) (fun _ _ _ _ _ => pts_nil)
      (fun _ _ _ _ _ => pe_callTy call_int1 (by rfl) m1 (by decide +kernel) (pa_cons (pv 1) pa_nil))) (pa_cons pe_int (pa_cons pe_int pa_nil))))), ?_⟩
    obtain ⟨ms, hms, hml⟩ := cutV_ints ns none (some 60)
    refine ⟨_, rfl, 60, rfl, a, _, rfl, SqL.ext hS sg, fun c hc => ?_⟩
    have st0 := (Stp.refl (ms := []) sg).data (o := HO.lst (ms.map V.int)) hc
    have hcs : Sq K (upd G c (.lst (ms.map V.int))) c (ms.map V.int) := lst_sq upd_same
    refine ⟨c, ms.map V.int, upd G c (.lst (ms.map V.int)), rfl, hcs, ?_, fun J wJ Dl hDl => ?_⟩
    · rw [hms]
      exact st0.sub
    rw [hms] at hDl ⊢
    refine lc_pure wJ (fun i v _ => (ms.map V.int)[i]? = some v) (fun i v G G' s h => h) (by rw [List.length_map]; omega) st0.sub hDl (fun G H st => st.gg.trans st.sub) ?_ ?_
    · rintro j x G3 H3 H4 Qy hj st3 ⟨rfl, hx⟩ hq
      obtain ⟨z, rfl⟩ : ∃ z, x = V.int z := by
        rw [List.getElem?_map] at hx
        cases e : ms[j]? with
        | none => rw [e] at hx; cases hx
        | some z => rw [e] at hx; cases hx; exact ⟨z, rfl⟩
      exact ⟨rfl, _, rfl, .inl ⟨z, rfl, hq _ G3 _ (Stp.refl st3.sub) hx⟩⟩
    · intro G3 H3 ys st3 hl hg hlen hrel
      have eys : ys = ms.map V.int := by
        refine List.ext_getElem? fun i => ?_
        by_cases hi : i < ys.length
        · rw [List.getElem?_eq_getElem hi, hrel i ys[i] (List.getElem?_eq_getElem hi)]
        · rw [List.getElem?_eq_none (by omega), List.getElem?_eq_none (by omega)]
      subst eys
      have st4 : Stp [] G H G3 H3 := Stp.own st0 hDl st3
      have hDn : H Dl = none := st0.hn hDl
      have st5 := st4.freeze hDn hl hg
      refine ⟨(by show 3 ≤ sizeLine; decide), fun p hp => ?_⟩
      have st6 := st5.priv (o := HO.lst [.ref Dl, .int 0, .int 0]) hp
      have hpD : p ≠ Dl := (ne_of_none hl hp).symm
      refine k p _ _ st6 (st5.hn hp) ⟨Dl, ms, 0, 0, upd_same, ?_, SqL.of upd_same, by omega, by omega, by omega⟩
      exact st5.gnew hp
/-! ### a draw -/
def sp_sing (K : PySem.W.Frag) : Sp := fun vs H Q _ => ∃ (p : Addr) (m T : Int) (G : Hp), vs = [.ref p, .int m] ∧ Choir K G H p T ∧ Same G H ∧ 1 ≤ m ∧ m ≤ 1000000 ∧ T ≤ 100000 ∧ ∀ r H', 0 ≤ r → r < m → Stp [p] G H G H' → Choir K G H' p (T + 1) → Q (.int r) H'
abbrev Nsing : List Str := ["_law_choir_here", "_law_many", "_law_rest", "_law_turn", "_law_cell", "_law_mixed"]
theorem sc_sing : FnScope Nsing ["_law_choir_here", "_law_many"] (defScope s_sing) := ⟨rfl, rfl, rfl, by decide +kernel, rfl, by decide +kernel, by decide +kernel⟩
theorem set2 (a b c x : V) : ixN [a, b, c].length 2 = some 2 ∧ [a, b, c].set 2 x = [a, b, x] := ⟨rfl, rfl⟩
theorem ok_sing {f : Addr} {fd : FuncData} (F : Fun K "_law_sing" "_law_sing" s_sing f fd) (m1 : mg "int" = none) (m2 : mg "len" = none) (m3 : mg "abs" = none) : FnOk P w K mg base CX0 1 f fd ["_law_choir_here", "_law_many"] (sp_sing K) := by
  refine F.ok sc_sing (fun vs H Q E h => ?_) (fun cdv A outer s H vs Q E hr h => ?_)
  · obtain ⟨p, m, T, G, rfl, _⟩ := h
    rfl
  · obtain ⟨p, m, T, G, rfl, ⟨q, cs, turn, rest, hp, gp, hq, t0, tT, hcl⟩, sg, hm1, hm2, hT, k⟩ := h
    refine ⟨_, pss_cons (ps_if (pt_cmpR op_gt (pe_ix ix_list (pv 0) pe_int (fun _ _ => rfl)) pe_int (nomark _))
        (pss_cons (ps_set (i := 2) sc_sing.nd rfl (Or.inl rfl) (pe_callTy call_int1 (by rfl) m1 (by decide +kernel) (pa_cons (pe_ix ix_list (pv 0) pe_int (fun _ _ => rfl)) pa_nil)))
        (pss_cons (ps_asg (pe_op op_fdiv (pv 2) (pv 1)) (pg_sub (pv 0) pe_int set_list))
        (pss_one (ps_ret (pe_op op_mod (pe_callTy call_int1 (by rfl) m1 (by decide +kernel) (pa_cons (pv 2) pa_nil)) (pv 1)))))) pss_nil)
      (pss_cons (ps_set (i := 3) sc_sing.nd rfl (Or.inl rfl) (pe_ix ix_list (pv 0) pe_int (fun _ _ => rfl)))
      (pss_cons (ps_asg (pe_op op_add (pv 3) pe_int) (pg_sub (pv 0) pe_int set_list))
      (pss_cons (ps_set (i := 4) sc_sing.nd rfl (Or.inl rfl) (pe_op op_add (pe_op op_mul pe_int (pv 3)) pe_int))
      (C8.pss_cut (ps_if (pt_cmpR (op_neD hr.units) (pe_ix ix_list (pv 0) pe_int (fun _ _ => rfl)) (pe_lst pa_nil) (nomark _))
        (pss_one (ps_set (i := 4) sc_sing.nd rfl (Or.inl rfl) (pe_ix ix_list (pe_ix ix_list (pv 0) pe_int (fun _ _ => rfl)) (pe_op op_mod (pe_callTy call_int1 (by rfl) m1 (by decide +kernel) (pa_cons (pv 3) pa_nil)) (pe_callB call_len (by rfl) m2 PySem.boot_len (pa_cons (pe_ix ix_list (pv 0) pe_int (fun _ _ => rfl)) pa_nil))) (fun _ _ => rfl)))) pss_nil)
      (C8.pss_cut (ps_if (PW.pt (pw_and (pt_cmpR op_lt (pv 3) (pe_callB call_len (by rfl) m2 PySem.boot_len (pa_cons (pe_ix ix_list (pv 0) pe_int (fun _ _ => rfl)) pa_nil)) (nomark _)) (pw_and1 (pt_cmpR op_ge (pe_callB call_abs (by rfl) m3 (by decide +kernel) (pa_cons (pv 4) pa_nil)) (pe_op op_pow pe_int pe_int) (nomark _)))))
        (pss_cons (ps_set (i := 2) sc_sing.nd rfl (Or.inl rfl) (pe_op op_add (pe_op op_mul pe_int (pe_op op_sub (pe_callB call_abs (by rfl) m3 (by decide +kernel) (pa_cons (pe_callTy call_int1 (by rfl) m1 (by decide +kernel) (pa_cons (pv 4) pa_nil)) pa_nil)) (pe_op op_pow pe_int pe_int))) (pe_callTy call_int1 (by rfl) m1 (by decide +kernel) (pa_cons (pe_cmpR op_lt (pv 4) pe_int (nomark _)) pa_nil))))
        (pss_cons (ps_asg (pe_op op_fdiv (pv 2) (pv 1)) (pg_sub (pv 0) pe_int set_list))
        (pss_one (ps_ret (pe_op op_mod (pe_callTy call_int1 (by rfl) m1 (by decide +kernel) (pa_cons (pv 2) pa_nil)) (pv 1)))))) pss_nil)
      (pss_cons (ps_set (i := 5) sc_sing.nd rfl (Or.inl rfl) (pe_op op_mod (pe_callTy call_int1 (by rfl) m1 (by decide +kernel) (pa_cons (pe_op op_pow (pe_op op_add (pe_op op_add (pe_op op_mod (pe_callTy call_int1 (by rfl) m1 (by decide +kernel) (pa_cons (pv 4) pa_nil)) pe_int) (pe_op op_mul pe_int (pv 3))) pe_int) pe_int) pa_nil)) pe_int))
      (pss_cons (ps_set (i := 5) sc_sing.nd rfl (Or.inl rfl) (pe_op op_mod (pe_callTy call_int1 (by rfl) m1 (by decide +kernel) (pa_cons (pe_op op_pow (pe_op op_add (pe_op op_add (pe_op op_mul (pv 5) (pe_op op_add (pe_op op_mul pe_int (pv 3)) pe_int)) (pe_op op_mul (pe_op op_mul pe_int (pv 3)) (pv 3))) pe_int) pe_int) pa_nil)) pe_int))
      (pss_one (ps_ret (pe_op op_mod (pe_callTy call_int1 (by rfl) m1 (by decide +kernel) (pa_cons (pe_op op_fdiv (pv 5) pe_int) pa_nil)) (pv 1))))))))))), ?_⟩
    have hr0 : ∀ (x : Int), 0 ≤ x % m ∧ x % m < m := fun x => ⟨Int.emod_nonneg _ (by omega), Int.emod_lt_of_pos _ (by omega)⟩
    have cdm : CDiv 0 m := ⟨by omega, by omega⟩
    have hi0 : atI [V.ref q, V.int turn, V.int rest] 0 = some (.ref q) := atI_nat (j := 0) rfl
    have hi1 : atI [V.ref q, V.int turn, V.int rest] 1 = some (.int turn) := atI_nat (j := 1) rfl
    have hi2 : atI [V.ref q, V.int turn, V.int rest] 2 = some (.int rest) := atI_nat (j := 2) rfl
    have wr : ∀ {G1 H1 : Hp} {xs : List V}, Stp [p] G H G1 H1 → G1 p = none → Stp [p] G H G1 (upd H1 p (.lst xs)) := fun st g => st.write g (.inl (List.mem_singleton.mpr rfl))
    refine ⟨_, rfl, p, _, _, _, rfl, rfl, SqL.of hp, hi2, _, _, rfl, rfl, _, rfl, ?_⟩
    refine ite2 (fun _ => ?_) (fun _ => ?_)
    · refine ⟨_, rfl, p, _, _, _, rfl, rfl, SqL.of hp, hi2, .inl ⟨_, rfl, ?_⟩⟩
      refine ⟨_, rfl, _, rfl, _, _, rfl, rfl, ⟨by omega, by omega⟩, _, rfl, p, _, 2, 2, rfl, rfl, hp, rfl, ?_⟩
      refine ⟨_, rfl, .inl ⟨_, rfl, _, rfl, _, _, rfl, rfl, (by show (0 : Int) < m; omega), ?_⟩⟩
      exact k _ _ (hr0 _).1 (hr0 _).2 (wr (Stp.refl sg) gp) ⟨q, cs, turn, _, upd_same, gp, hq, t0, by omega, hcl⟩
    · -- turn = choir[1]; choir[1] = turn + 1; cell = ..
      refine ⟨_, rfl, p, _, _, _, rfl, rfl, SqL.of hp, hi1, ?_⟩
      refine ⟨_, rfl, _, _, rfl, rfl, _, rfl, p, _, 1, 1, rfl, rfl, hp, rfl, ?_⟩
      refine ⟨_, rfl, _, _, rfl, rfl, .inl ⟨by omega, by omega⟩, _, _, rfl, rfl, ?_⟩
      have st1 : Stp [p] G H G (upd H p (.lst [V.ref q, V.int (turn + 1), V.int rest])) := wr (Stp.refl sg) gp
      have hp1 : upd H p (.lst [V.ref q, V.int (turn + 1), V.int rest]) p = some (.lst [V.ref q, V.int (turn + 1), V.int rest]) := upd_same
      have fin : ∀ {G2 H2 : Hp} {rest' : Int}, Stp [p] G H G H2 → H2 p = some (.lst [V.ref q, V.int (turn + 1), V.int rest']) → Choir K G H2 p (T + 1) := fun {G2 H2 rest'} st hp2 => ⟨q, cs, turn + 1, rest', hp2, gp, hq, by omega, by omega, hcl⟩
      -- if choir[0] != []: cell = ..
      refine ⟨fun σ H2 => Stp [p] G H G H2 ∧ H2 p = some (.lst [V.ref q, V.int (turn + 1), V.int rest]) ∧ ∃ c : Int, σ = [some (.ref p), some (.int m), none, some (.int turn), some (.int c), none], ?_, ?_⟩
      · refine ⟨_, rfl, p, _, _, _, rfl, rfl, SqL.of hp1, atI_nat (j := 0) rfl, (by show 0 ≤ sizeLine; decide), fun el hel => ?_⟩
        have st2 : Stp [p] G H G (upd (upd H p (.lst [V.ref q, V.int (turn + 1), V.int rest])) el (.lst [])) := st1.priv hel
        have hp2 : upd (upd H p (.lst [V.ref q, V.int (turn + 1), V.int rest])) el (.lst []) p = some (.lst [V.ref q, V.int (turn + 1), V.int rest]) := by rw [upd_ne (ne_of_none hp1 hel)]; exact hp1
        have hq2 := SqL.ext hq (st2.gg.trans st2.sub)
        refine ⟨.list (cs.map PyData.int), .list [], .lst hq2 (DpAll.ints cs), .lst (SqL.of upd_same) .nil, shaped_intsL _ (lay_ints _) (depth_ints _), by decide +kernel, _, rfl, ?_⟩
        cases cs with
        | nil =>
          refine iteF ?_
          exact ⟨st2, hp2, _, rfl⟩
        | cons c0 cs =>
          refine iteT ?_
          have hln : LenV K (.ref q) (upd (upd H p (.lst [V.ref q, V.int (turn + 1), V.int rest])) el (.lst [])) (c0 :: cs).length := by
            have := LenV.sq (.inr hq2 : Sq K _ q _)
            rwa [List.length_map] at this
          have hj0 : 0 ≤ turn % ((c0 :: cs).length : Int) := Int.emod_nonneg _ (by simp only [List.length_cons]; omega)
          have hj1 : turn % ((c0 :: cs).length : Int) < ((c0 :: cs).length : Int) := Int.emod_lt_of_pos _ (by simp only [List.length_cons]; omega)
          refine ⟨_, rfl, p, _, _, _, rfl, rfl, SqL.of hp2, atI_nat (j := 0) rfl, ?_⟩
          refine ⟨_, rfl, .inl ⟨_, rfl, ?_⟩⟩
          refine ⟨_, rfl, p, _, _, _, rfl, rfl, SqL.of hp2, atI_nat (j := 0) rfl, _, _, rfl, hln, _, _, rfl, rfl, (by show (0 : Int) < ((c0 :: cs).length : Int); simp only [List.length_cons]; omega), ?_⟩
          refine ⟨q, _, _, _, rfl, rfl, hq2, (by
            rw [← Int.toNat_of_nonneg hj0]
            exact atI_nat (ints_at (by omega))), ?_⟩
          exact ⟨st2, hp2, _, rfl⟩
      · rintro σ H2 ⟨st2, hp2, c, rfl⟩
        have hln : LenV K (.ref q) H2 cs.length := by
          have := LenV.sq (.inr (SqL.ext hq (st2.gg.trans st2.sub)) : Sq K _ q _)
          rwa [List.length_map] at this
        refine ⟨fun σ H3 => H3 = H2 ∧ σ = [some (.ref p), some (.int m), none, some (.int turn), some (.int c), none], ?_, ?_⟩
        · refine ⟨_, rfl, _, rfl, p, _, _, _, rfl, rfl, SqL.of hp2, atI_nat (j := 0) rfl, _, _, rfl, hln, _, _, rfl, rfl, _, rfl, ?_⟩
          refine ite2 (fun _ => ?_) (fun _ => ?_)
          · have cp : CPow 10 18 := ⟨by omega, by omega, by decide⟩
            refine ⟨_, rfl, _, rfl, _, _, rfl, rfl, cp, _, _, rfl, rfl, _, rfl, ?_⟩
            refine ite2 (fun _ => ?_) (fun _ => ?_)
            · refine ⟨_, rfl, .inl ⟨_, rfl, _, rfl, _, _, rfl, rfl, cp, _, _, rfl, rfl, _, _, rfl, rfl, .inl ⟨by omega, by omega⟩, _, rfl, _, _, rfl, rfl, .inr ⟨_, rfl, _, _, rfl, rfl, ?_⟩⟩⟩
              refine ⟨_, rfl, _, rfl, _, _, rfl, rfl, ⟨by omega, by omega⟩, _, rfl, p, _, 2, 2, rfl, rfl, hp2, rfl, ?_⟩
              refine ⟨_, rfl, .inl ⟨_, rfl, _, rfl, _, _, rfl, rfl, (by show (0 : Int) < m; omega), ?_⟩⟩
              exact k _ _ (hr0 _).1 (hr0 _).2 (wr st2 gp) ⟨q, cs, turn + 1, _, upd_same, gp, hq, by omega, by omega, hcl⟩
            · exact ⟨rfl, rfl⟩
          · exact ⟨rfl, rfl⟩
        · rintro σ H3 ⟨rfl, rfl⟩
          have b1 : ∀ x : Int, 0 ≤ x % 2147483563 ∧ x % 2147483563 < 2147483563 := fun x => ⟨Int.emod_nonneg _ (by decide), Int.emod_lt_of_pos _ (by decide)⟩
          have b2 : ∀ x : Int, 0 ≤ x % 2147483587 ∧ x % 2147483587 < 2147483587 := fun x => ⟨Int.emod_nonneg _ (by decide), Int.emod_lt_of_pos _ (by decide)⟩
          have b0 : 0 ≤ c % 2147483629 ∧ c % 2147483629 < 2147483629 := ⟨Int.emod_nonneg _ (by decide), Int.emod_lt_of_pos _ (by decide)⟩
          have sq := mul_le t0 (Int.le_trans tT hT) t0 (Int.le_trans tT hT)
          refine ⟨_, rfl, .inl ⟨_, rfl, _, _, rfl, rfl, (show (0 : Int) < 2147483629 by decide), _, rfl, _, _, rfl, rfl, .inl ⟨by decide, by decide⟩, _, _, rfl, rfl, _, _, rfl, rfl, _, _, rfl, rfl, ⟨by decide, by decide, by omega⟩, .inl ⟨_, rfl, _, _, rfl, rfl, (show (0 : Int) < 2147483563 by decide), ?_⟩⟩⟩
          refine pin (P := fun z => gName 5 (V.int z) _ _ _) ((c % 2147483629 + 104892 * turn + 6558) ^ (5 : Int).toNat % 2147483563) fun mx hmx => ?_
          have bm := b1 ((c % 2147483629 + 104892 * turn + 6558) ^ (5 : Int).toNat)
          rw [← hmx] at bm
          have bq := mul_le bm.1 (Int.le_of_lt bm.2) (show (0 : Int) ≤ 2 * turn + 6678 by omega) (show 2 * turn + 6678 ≤ 206678 by omega)
          have e3 : 108068 * turn * turn = 108068 * (turn * turn) := Int.mul_assoc _ _ _
          refine ⟨_, rfl, _, rfl, _, _, rfl, rfl, .inl ⟨by decide, by decide⟩, _, _, rfl, rfl, _, _, rfl, rfl, .inl ⟨by omega, by omega⟩, _, rfl, _, _, rfl, rfl, .inl ⟨by decide, by decide⟩, _, rfl, _, _, rfl, rfl, .inl ⟨by omega, by omega⟩, _, _, rfl, rfl, _, _, rfl, rfl, _, _, rfl, rfl, ⟨by decide, by decide, by rw [e3]; omega⟩, .inl ⟨_, rfl, _, _, rfl, rfl, (show (0 : Int) < 2147483587 by decide), ?_⟩⟩
          refine pin (P := fun z => gName 5 (V.int z) _ _ _) ((mx * (2 * turn + 6678) + 108068 * turn * turn + 104926) ^ (3 : Int).toNat % 2147483587) fun my hmy => ?_
          refine ⟨_, rfl, _, _, rfl, rfl, ⟨by decide, by decide⟩, .inl ⟨_, rfl, _, rfl, _, _, rfl, rfl, (show (0 : Int) < m by omega), ?_⟩⟩
          exact k _ _ (hr0 _).1 (hr0 _).2 st2 (fin (G2 := G) st2 hp2)
end
end B90
set_option Elab.async false
set_option linter.all false
set_option maxRecDepth 100000
set_option maxHeartbeats 4000000
namespace B90
open PySem L2 BayE
abbrev s_drawn : Stmt := topS 29
section
variable {P : Program} {w : World} {K : PySem.W.Frag} {mg : Str → Option Value} {base : Heap}
abbrev psSing : List Str := ["_law_choir_here", "_law_many"]
structure SingF (P : Program) (w : World) (K : PySem.W.Frag) (mg : Str → Option Value) (base : Heap) (g : Addr) (gd : FuncData) : Prop where
  D : DefT K mg "_law_sing" s_sing g gd
  G : FnOk P w K mg base CX0 1 g gd psSing (sp_sing K)
theorem SingF.b {g : Addr} {gd : FuncData} (S : SingF P w K mg base g gd) : Binds K gd psSing [] := S.D.F.binds fun _ _ _ _ _ _ us hl => match us, hl with | [_, _], _ => rfl
def sp_pick (K : PySem.W.Frag) : Sp := fun vs H Q _ => ∃ (p a : Addr) (ns : List Int) (T : Int) (G : Hp), vs = [.ref p, .ref a] ∧ Choir K G H p T ∧ Same G H ∧ H a = some (.lst (ns.map V.int)) ∧ a ≠ p ∧ 1 ≤ ns.length ∧ ns.length ≤ 1000 ∧ T ≤ 100000 ∧ ∀ x H', x ∈ ns → Stp [p] G H G H' → Choir K G H' p (T + 1) → Q (.int x) H'
theorem sc_pick : FnScope ["_law_choir_here", "_law_some"] ["_law_choir_here", "_law_some"] (defScope s_pick) := ⟨rfl, rfl, rfl, by decide +kernel, rfl, by decide +kernel, by decide +kernel⟩
theorem ok_pick {f g : Addr} {fd gd : FuncData} (F : Fun K "_law_pick" "_law_pick" s_pick f fd) (S : SingF P w K mg base g gd) (m1 : mg "len" = none) : FnOk P w K mg base CX0 2 f fd ["_law_choir_here", "_law_some"] (sp_pick K) := by
  refine F.ok sc_pick (fun vs H Q E h => ?_) (fun cdv A outer s H vs Q E hr h => ?_)
  · obtain ⟨p, a, ns, T, G, rfl, _⟩ := h
    rfl
  · obtain ⟨p, a, ns, T, G, rfl, hC, sg, hS, hap, h1, h2, hT, k⟩ := h
    refine ⟨_, pss_one (ps_ret (pe_ix ix_seq (pv 1) (pe_call S.G hr rfl S.D.g S.D.F.kp S.b .nil pass0 (pa_cons (pv 0) (pa_cons (pe_callB call_len (by rfl) m1 PySem.boot_len (pa_cons (pv 1) pa_nil)) pa_nil))) (fun _ _ => rfl))), ?_⟩
    have hl : LenV K (.ref a) H ns.length := by
      have := LenV.sq (K := K) (lst_sq hS)
      rwa [List.length_map] at this
    refine ⟨_, rfl, _, rfl, _, rfl, _, _, rfl, hl, p, ns.length, T, G, rfl, hC, sg, by omega, by omega, hT, fun r H' h0 h3 st hC' => ?_⟩
    refine rIx_sq (lst_sq (st.at (fun z => hap (List.mem_singleton.mp z)) hS)) (x := .int (ns.getD r.toNat 0)) ?_ ?_
    · rw [← Int.toNat_of_nonneg h0]
      exact atI_nat (ints_at (by omega))
    · refine k _ _ ?_ st hC'
      rw [List.getD_eq_getElem?_getD, List.getElem?_eq_getElem (by omega)]
      exact List.getElem_mem _
abbrev Ndr : List Str := ["_law_choir_here", "_law_many", "_law_left", "_law_places", "_law_turn", "_law_one", "_law_other", "_law_by"]
theorem sc_drawn : FnScope Ndr psSing (defScope s_drawn) := ⟨rfl, rfl, rfl, by decide +kernel, rfl, by decide +kernel, by decide +kernel⟩
def Bnd (B : Int) (ns : List Int) : Prop := ∀ x ∈ ns, -B ≤ x ∧ x ≤ B
def sp_drawn (K : PySem.W.Frag) : Sp := fun vs H Q _ => ∃ (p : Addr) (n : Nat) (T : Int) (G : Hp), vs = [.ref p, .int n] ∧ Choir K G H p T ∧ Same G H ∧ 3 ≤ n ∧ n ≤ 7 ∧ T ≤ 10000 ∧ ∀ (l : Addr) (ns : List Int) (G' H' : Hp), ns.length = n → Bnd 100 ns → Stp [p] G H G' H' → Choir K G' H' p (T + 100) → SqL K G' l (ns.map V.int) → Q (.ref l) H'
theorem bnd_set {B C : Int} {ns : List Int} {i : Nat} {x : Int} (h : Bnd B ns) (hBC : B ≤ C) (hx : -C ≤ x ∧ x ≤ C) : Bnd C (ns.set i x) := by
  intro y hy
  rcases List.mem_or_eq_of_mem_set hy with z | z
  · have := h y z; omega
  · subst z; exact hx
theorem bnd_at {B : Int} {ns : List Int} {i : Nat} (h : Bnd B ns) (hi : i < ns.length) : -B ≤ ns.getD i 0 ∧ ns.getD i 0 ≤ B := by
  rw [List.getD_eq_getElem?_getD, List.getElem?_eq_getElem hi]
  exact h _ (List.getElem_mem _)
theorem map_set_int (ns : List Int) (i : Nat) (x : Int) : (ns.map V.int).set i (.int x) = (ns.set i x).map V.int := by rw [List.map_set]
theorem ixN_n {n i : Nat} (h : i < n) : ixN n (i : Int) = some i := by
  unfold ixN
  rw [if_pos (by omega), if_pos (by omega)]
  simp
theorem ixN_i {n : Nat} {r : Int} (h0 : 0 ≤ r) (h : r < n) : ixN n r = some r.toNat := by
  have e : r = (r.toNat : Int) := (Int.toNat_of_nonneg h0).symm
  rw [e]
  exact ixN_n (by omega)
theorem atI_i {ns : List Int} {r : Int} (h0 : 0 ≤ r) (h : r < ns.length) : atI (ns.map V.int) r = some (.int (ns.getD r.toNat 0)) := by
  have e : r = (r.toNat : Int) := (Int.toNat_of_nonneg h0).symm
  have h2 := atI_nat (ints_at (ns := ns) (i := r.toNat) (by omega))
  rw [← e] at h2
  exact h2
theorem erase_map : ∀ (xs : List Int) (i : Nat), (xs.map V.int).eraseIdx i = (xs.eraseIdx i).map V.int
  | [], _ => rfl
  | _ :: _, 0 => rfl
  | x :: xs, i + 1 => by
    show V.int x :: (xs.map V.int).eraseIdx i = V.int x :: (xs.eraseIdx i).map V.int
    rw [erase_map xs i]
theorem ok_drawn {f g : Addr} {fd gd : FuncData} (F : Fun K "_law_drawn" "_law_drawn" s_drawn f fd) (S : SingF P w K mg base g gd) (m1 : mg "len" = none) (m2 : mg "range" = none) (m3 : mg "list" = none) (m4 : mg "int" = none) : FnOk P w K mg base CX0 2 f fd psSing (sp_drawn K) := by
  refine F.ok sc_drawn (fun vs H Q E h => ?_) (fun cdv A outer s H vs Q E hr h => ?_)
  · obtain ⟨p, n, T, G, rfl, _⟩ := h
    rfl
  · obtain ⟨p, n, T, G, rfl, hC, sg, hn3, hn7, hT, k⟩ := h
    have hs2 : ∀ {e1 e2 : Expr}, True := fun {_ _} => trivial
    refine ⟨_, pss_cons (ps_par (i := 2) (j := 3) (by rfl) sc_drawn.nd rfl rfl (by decide) rfl rfl (pa_cons (pe_listRg rfl (by rfl) m3 (prg_1 (by rfl) m2 (pv 1))) (pa_cons (pe_lst pa_nil) pa_nil)) (by rfl))
      (pss_cons (ps_while PassesOwn.never (pt_cmpR (op_neD hr.units) (pv 2) (pe_lst pa_nil) (nomark _))
        (pss_one (ps_expr (pe_bm PySem.F.plainAttrs_list PySem.F.slot_list_append PySem.F.type_list_append mt_append (pv 3) (pa_cons (pe_bm PySem.F.plainAttrs_list PySem.F.slot_list_pop PySem.F.type_list_pop mt_popAt (pv 2)
          (pa_cons (pe_call S.G hr rfl S.D.g S.D.F.kp S.b .nil pass0 (pa_cons (pv 0) (pa_cons (pe_callB call_len (by rfl) m1 PySem.boot_len (pa_cons (pv 2) pa_nil)) pa_nil))) pa_nil)) pa_nil)))))
      (pss_cons (ps_for PassesOwn.never rfl (pi_range1 rfl m2 (pa_cons (pe_call S.G hr rfl S.D.g S.D.F.kp S.b .nil pass0 (pa_cons (pv 0) (pa_cons pe_int pa_nil))) pa_nil)) (pg_name (i := 4) sc_drawn.nd rfl (Or.inl rfl))
        (pss_cons (ps_par (i := 5) (j := 6) (by rfl) sc_drawn.nd rfl rfl (by decide) rfl rfl (pa_cons (pe_call S.G hr rfl S.D.g S.D.F.kp S.b .nil pass0 (pa_cons (pv 0) (pa_cons (pv 1) pa_nil))) (pa_cons (pe_call S.G hr rfl S.D.g S.D.F.kp S.b .nil pass0 (pa_cons (pv 0) (pa_cons (pv 1) pa_nil))) pa_nil)) (by rfl))
        (pss_cons (ps_set (i := 7) sc_drawn.nd rfl (Or.inl rfl) (pe_op op_mul (pe_op op_mul (pv 1) (pe_op op_add pe_int (pe_call S.G hr rfl S.D.g S.D.F.kp S.b .nil pass0 (pa_cons (pv 0) (pa_cons pe_int pa_nil))))) (pe_callTy call_int1 (by rfl) m4 (by decide +kernel) (pa_cons (pe_cmpR op_ne (pv 5) (pv 6) (nomark _)) pa_nil))))
        (pss_cons (ps_asg (pe_op op_add (pe_ix ix_list (pv 3) (pv 5) (fun _ _ => rfl)) (pv 7)) (pg_sub (pv 3) (pv 5) set_list))
        (pss_one (ps_asg (pe_op op_sub (pe_ix ix_list (pv 3) (pv 6) (fun _ _ => rfl)) (pv 7)) (pg_sub (pv 3) (pv 6) set_list)))))))
      (pss_one (ps_ret (pv 3))))), ?_⟩
    refine ⟨_, rfl, n, rfl, ⟨by omega, by omega, by omega, by omega, by omega⟩, fun l1 hl1 => ?_⟩
    refine ⟨(by show 0 ≤ sizeLine; decide), fun l2 hl2 => ?_⟩
    refine ⟨_, _, rfl, ?_⟩
    obtain ⟨q0, cs0, t0, r0, hp, gp, hrest⟩ := id hC
    have np1 : p ≠ l1 := ne_of_none hp hl1
    have st1 : Stp [p] G H G (upd H l1 (.lst (rgV 0 n))) := (Stp.refl sg).priv hl1
    have hl2' : H l2 = none := st1.hn hl2
    have np2 : p ≠ l2 := ne_of_none hp hl2'
    have n12 : l1 ≠ l2 := ne_of_none upd_same hl2
    have st2 : Stp [p] G H G (upd (upd H l1 (.lst (rgV 0 n))) l2 (.lst [])) := st1.priv hl2
    have gl1 : G l1 = none := sg.free hl1
    have gl2 : G l2 = none := sg.free hl2'
    have hC2 : Choir K G (upd (upd H l1 (.lst (rgV 0 n))) l2 (.lst [])) p T := ⟨q0, cs0, t0, r0, by rw [upd_ne np2, upd_ne np1]; exact hp, gp, hrest⟩
    have erg : rgV 0 (n : Int) = ((List.range n).map fun (i : Nat) => (i : Int)).map V.int := by
      unfold rgV
      rw [List.map_map]
      have e : ((n : Int) - 0).toNat = n := by omega
      rw [e]
      refine List.map_congr_left fun i _ => ?_
      show V.int (0 + (i : Int)) = V.int (i : Int)
      rw [Int.zero_add]
    refine while_by (fun σ H2 => ∃ ls ps : List Int, σ = [some (.ref p), some (.int n), some (.ref l1), some (.ref l2), none, none, none, none] ∧ H2 l1 = some (.lst (ls.map V.int)) ∧ H2 l2 = some (.lst (ps.map V.int)) ∧ ls.length + ps.length = n ∧ Bnd 7 ls ∧ Bnd 7 ps ∧ Stp [p] G H G H2 ∧ Choir K G H2 p (T + ps.length))
      (fun _ H2 => match H2 l1 with | some (.lst xs) => xs.length | _ => 0) ?_ ?_ ?_
    · refine ⟨(List.range n).map fun (i : Nat) => (i : Int), [], rfl, ?_, upd_same, by simp, ?_, (fun x hx => nomatch hx), st2, by simpa using hC2⟩
      · rw [upd_ne n12, upd_same, erg]
      · intro x hx
        obtain ⟨i, hi, rfl⟩ := List.mem_map.mp hx
        have := List.mem_range.mp hi
        omega
    · rintro σ H2 ⟨ls, ps, rfl, e1, e2, hlen, bl, bp, st, hC3⟩
      refine ⟨_, rfl, (by show 0 ≤ sizeLine; decide), fun el hel => ?_⟩
      have st3 := st.priv (o := HO.lst []) hel
      have e1' : upd H2 el (.lst []) l1 = some (.lst (ls.map V.int)) := by rw [upd_ne (ne_of_none e1 hel)]; exact e1
      have e2' : upd H2 el (.lst []) l2 = some (.lst (ps.map V.int)) := by rw [upd_ne (ne_of_none e2 hel)]; exact e2
      have hC4 : Choir K G (upd H2 el (.lst [])) p (T + ps.length) := Choir.keep (ms := []) ((Stp.refl st.sub).priv hel) (fun z => nomatch z) hC3
      refine ⟨.list (ls.map PyData.int), .list [], .lst (SqL.of e1') (DpAll.ints ls), .lst (SqL.of upd_same) .nil, shaped_intsL _ (lay_ints _) (depth_ints _), by decide +kernel, _, rfl, ?_⟩
      cases ls with
      | nil =>
        refine iteF ?_
        have hpn : ps.length = n := by simpa using hlen
        refine ⟨_, rfl, p, 4, T + ps.length, G, rfl, hC4, st3.sub, by omega, by omega, by omega, fun r H3 hr0 hr1 st4 hC5 => ?_⟩
        refine ⟨r, rfl, by omega, by omega, ?_⟩
        have e2'' := st4.at (fun z => np2 (List.mem_singleton.mp z).symm) e2'
        have e1'' := st4.at (fun z => np1 (List.mem_singleton.mp z).symm) e1'
        refine for_range (lo := 0) (n := r.toNat) (fun i σ H4 => ∃ (qs : List Int) (o4 o5 o6 o7 : Option V), σ = [some (.ref p), some (.int n), some (.ref l1), some (.ref l2), o4, o5, o6, o7] ∧ H4 l2 = some (.lst (qs.map V.int)) ∧ qs.length = n ∧ Bnd (7 + 28 * i) qs ∧ Stp [p] G H G H4 ∧ Choir K G H4 p (T + n + 1 + 3 * i))
          ⟨ps, _, _, _, _, rfl, e2'', hpn, fun x hx => by have := bp x hx; omega, st3.trans st4, hC5.le (by omega)⟩ ?_ ?_
        · rintro i σ H4 hi ⟨qs, o4, o5, o6, o7, rfl, f2, hqn, bq, st5, hC6⟩
          have hmem : ∀ {l : Addr}, p ≠ l → l ∉ [p] := fun h z => h (List.mem_singleton.mp z).symm
          refine ⟨_, rfl, _, rfl, p, (n : Int), _, G, rfl, hC6, st5.sub, by omega, by omega, by omega, fun a H5 ha0 ha1 st6 hC7 => ?_⟩
          refine ⟨_, rfl, _, rfl, p, (n : Int), _, G, rfl, hC7, st6.sub, by omega, by omega, by omega, fun b H6 hb0 hb1 st7 hC8 => ?_⟩
          refine ⟨_, _, rfl, ?_⟩
          refine ⟨_, rfl, _, rfl, p, 2, _, G, rfl, hC8, st7.sub, by omega, by omega, by omega, fun c H7 hc0 hc1 st8 hC9 => ?_⟩
          have bn := mul_le (a := (n : Int)) (b := 1 + c) (A := 7) (B := 2) (by omega) (by omega) (by omega) (by omega)
          refine ⟨_, _, rfl, rfl, _, _, rfl, rfl, .inl ⟨by omega, by omega⟩, _, rfl, _, rfl, rfl, .inr ⟨_, rfl, _, _, rfl, rfl, .inl ⟨by omega, by omega⟩, ?_⟩⟩
          have f3 := (st6.trans (st7.trans st8)).at (hmem np2) f2
          refine pin (P := fun z => gName 7 (V.int z) _ _ _) ((n : Int) * (1 + c) * (if !decide (V.int a = V.int b) then 1 else 0)) fun y hy => ?_
          have hby : 0 ≤ y ∧ y ≤ 14 := by
            rw [hy]
            split
            · omega
            · omega
          have ba := bnd_at bq (i := a.toNat) (by omega)
          refine ⟨_, rfl, _, rfl, l2, _, a, .int (qs.getD a.toNat 0), rfl, rfl, SqL.of f3, atI_i ha0 (by omega), _, rfl, _, _, rfl, rfl, _, rfl, _, rfl, l2, _, a, a.toNat, rfl, rfl, f3, by rw [List.length_map]; exact ixN_i ha0 (by omega), ?_⟩
          rw [map_set_int]
          have bq1 : Bnd (7 + 28 * i + 14) (qs.set a.toNat (qs.getD a.toNat 0 + y)) := bnd_set bq (by omega) (by omega)
          have hl1 : (qs.set a.toNat (qs.getD a.toNat 0 + y)).length = n := by rw [List.length_set]; exact hqn
          have bb := bnd_at bq1 (i := b.toNat) (by omega)
          refine ⟨_, rfl, _, rfl, l2, _, b, .int _, rfl, rfl, SqL.of upd_same, atI_i hb0 (by omega), _, rfl, _, _, rfl, rfl, _, rfl, _, rfl, l2, _, b, b.toNat, rfl, rfl, upd_same, by rw [List.length_map]; exact ixN_i hb0 (by omega), ?_⟩
          rw [map_set_int]
          have st9 := ((st5.trans (st6.trans (st7.trans st8))).write (o := HO.lst ((qs.set a.toNat (qs.getD a.toNat 0 + y)).map V.int)) gl2 (.inr hl2')).write (o := HO.lst (((qs.set a.toNat (qs.getD a.toNat 0 + y)).set b.toNat ((qs.set a.toNat (qs.getD a.toNat 0 + y)).getD b.toNat 0 - y)).map V.int)) gl2 (.inr hl2')
          refine ⟨_, _, _, _, _, rfl, upd_same, by rw [List.length_set]; exact hl1, bnd_set bq1 (by omega) (by omega), st9, ?_⟩
          obtain ⟨q5, cs5, t5, r5, h5, g5, hr5⟩ := hC9.le (T' := T + n + 1 + 3 * ((i + 1 : Nat) : Int)) (by omega)
          exact ⟨q5, cs5, t5, r5, by rw [upd_ne np2, upd_ne np2]; exact h5, g5, hr5⟩
        · rintro σ H4 ⟨qs, o4, o5, o6, o7, rfl, f2, hqn, bq, st5, hC6⟩
          have st6 := st5.freeze hl2' f2 gl2
          refine ⟨_, rfl, ?_⟩
          refine k l2 qs _ H4 hqn (fun x hx => by have := bq x hx; omega) st6 ?_ (SqL.of upd_same)
          obtain ⟨q5, cs5, t5, r5, h5, g5, s5, hr5⟩ := hC6.le (T' := T + 100) (by omega)
          exact ⟨q5, cs5, t5, r5, h5, by rw [upd_ne np2]; exact g5, SqL.ext s5 (same_new gl2), hr5⟩
      | cons c0 cs =>
        refine iteT ?_
        have hln : LenV K (.ref l1) (upd H2 el (.lst [])) (c0 :: cs).length := by
          have := LenV.sq (lst_sq e1' : Sq K _ l1 _)
          rwa [List.length_map] at this
        simp only [List.length_cons] at hlen hln
        refine ⟨_, rfl, .inl ⟨rfl, _, SqL.of e2'⟩, _, rfl, .inl ⟨rfl, _, SqL.of e1'⟩, _, rfl, _, rfl, _, _, rfl, hln, p, ((cs.length + 1 : Nat) : Int), T + ps.length, G, rfl, hC4, st3.sub, by omega, by omega, by omega, fun r H3 hr0 hr1 st4 hC5 => ?_⟩
        have e1'' := st4.at (fun z => np1 (List.mem_singleton.mp z).symm) e1'
        have e2'' := st4.at (fun z => np2 (List.mem_singleton.mp z).symm) e2'
        have hrl : r.toNat < (c0 :: cs).length := by simp only [List.length_cons]; omega
        have er : r = (r.toNat : Int) := (Int.toNat_of_nonneg hr0).symm
        have hix : ixN ((c0 :: cs).map V.int).length r = some r.toNat := by
          rw [List.length_map, er]
          exact ixN_n hrl
        refine ⟨l1, _, r, r.toNat, .int ((c0 :: cs).getD r.toNat 0), rfl, rfl, e1'', by omega, by omega, (ixN_seq hix).1, ints_at hrl, ?_⟩
        have e2b : upd H3 l1 (.lst (((c0 :: cs).map V.int).eraseIdx r.toNat)) l2 = some (.lst (ps.map V.int)) := by rw [upd_ne n12.symm]; exact e2''
        refine ⟨l2, _, _, rfl, rfl, e2b, by rw [List.length_map, sizeLine_eq]; omega, ?_⟩
        have em : ((c0 :: cs).map V.int).eraseIdx r.toNat = ((c0 :: cs).eraseIdx r.toNat).map V.int := erase_map _ _
        have el1 : ((c0 :: cs).eraseIdx r.toNat).length = cs.length := by rw [List.length_eraseIdx, if_pos hrl]; rfl
        have st5 : Stp [p] G H G (upd (upd H3 l1 (.lst (((c0 :: cs).map V.int).eraseIdx r.toNat))) l2 (.lst (ps.map V.int ++ [.int ((c0 :: cs).getD r.toNat 0)]))) := ((st3.trans st4).write gl1 (.inr hl1)).write gl2 (.inr hl2')
        refine ⟨⟨(c0 :: cs).eraseIdx r.toNat, ps ++ [(c0 :: cs).getD r.toNat 0], rfl, ?_, ?_, ?_, ?_, ?_, st5, ?_⟩, ?_⟩
        · rw [upd_ne n12, upd_same, em]
        · rw [upd_same, List.map_append]; rfl
        · rw [el1, List.length_append]; simp only [List.length_cons, List.length_nil]; omega
        · exact fun x hx => bl x (List.mem_of_mem_eraseIdx hx)
        · intro x hx
          rcases List.mem_append.mp hx with hx | hx
          · exact bp x hx
          · rw [List.mem_singleton.mp hx]
            exact bnd_at bl hrl
        · obtain ⟨q5, cs5, t5, r5, h5, g5, hr5⟩ := hC5
          have e5 : T + ((ps ++ [(c0 :: cs).getD r.toNat 0]).length : Int) = T + ps.length + 1 := by rw [List.length_append]; simp only [List.length_cons, List.length_nil]; omega
          rw [e5]
          exact ⟨q5, cs5, t5, r5, by rw [upd_ne np2, upd_ne np1]; exact h5, g5, hr5⟩
        · show (match upd (upd H3 l1 _) l2 _ l1 with | some (.lst xs) => xs.length | _ => 0) < (match H2 l1 with | some (.lst xs) => xs.length | _ => 0)
          rw [upd_ne n12, upd_same, e1]
          show (((c0 :: cs).map V.int).eraseIdx r.toNat).length < ((c0 :: cs).map V.int).length
          rw [em, List.length_map, List.length_map, el1, List.length_cons]
          omega
    · rintro σ H2 Q1 Q2 hQ ⟨v, e, h0, kk⟩
      exact ⟨v, e, h0, fun el hel => let ⟨d, e, a1, a2, a3, a4, b, hb, q⟩ := kk el hel; ⟨d, e, a1, a2, a3, a4, b, hb, hQ _ _ q⟩⟩
end
end B90
set_option Elab.async false
set_option linter.all false
set_option maxRecDepth 100000
set_option maxHeartbeats 4000000
namespace B90
open PySem L2 BayE
abbrev s_entry : Stmt := topS 30
/-! ### sums over laps, in plain Lean -/
def sumF (f : Int → Int) (lo : Int) : Nat → Int
  | 0 => 0
  | m + 1 => sumF f lo m + f (lo + m)
def lapT (n a b k : Int) : Int := (if decide (a + k * n > 0) && decide (b + k * n < 0) then 1 else 0) - (if decide (a + k * n < 0) && decide (b + k * n > 0) then 1 else 0)
def absI (x : Int) : Int := if x < 0 then -x else x
def maxA : List Int → Int
  | [] => 0
  | x :: xs => if maxA xs ≤ absI x then absI x else maxA xs
def farP (P : List Int) : Int := 3 + maxA P
def lent (P : List Int) (i j : Nat) : Int := sumF (lapT P.length ((j : Int) - i) (pat P j - pat P i)) (-farP P) (farP P + 1 - -farP P).toNat
theorem absI_nn (x : Int) : 0 ≤ absI x := by unfold absI; split <;> omega
theorem maxA_nn : ∀ P : List Int, 0 ≤ maxA P
  | [] => Int.le_refl _
  | x :: xs => by
    unfold maxA
    split
    · exact absI_nn x
    · exact maxA_nn xs
theorem maxA_le : ∀ {P : List Int} {x : Int}, x ∈ P → absI x ≤ maxA P
  | y :: ys, x, h => by
    unfold maxA
    rcases List.mem_cons.mp h with rfl | h
    · split <;> omega
    · have := maxA_le h
      split <;> omega
theorem maxA_mem : ∀ {P : List Int}, P ≠ [] → ∃ x ∈ P, maxA P = absI x
  | [x], _ => ⟨x, List.mem_singleton.mpr rfl, by
    unfold maxA
    rw [if_pos (show maxA [] ≤ absI x from absI_nn x)]⟩
  | x :: y :: ys, _ => by
    obtain ⟨z, hz, e⟩ := maxA_mem (P := y :: ys) (by simp)
    unfold maxA
    split
    · exact ⟨x, List.mem_cons_self, rfl⟩
    · exact ⟨z, List.mem_cons_of_mem _ hz, e⟩
theorem maxA_eq {P : List Int} {m : Int} (h1 : m ∈ P.map absI) (h2 : ∀ x ∈ P.map absI, x ≤ m) : maxA P = m := by
  obtain ⟨x, hx, rfl⟩ := List.mem_map.mp h1
  have a1 := maxA_le hx
  obtain ⟨y, hy, e⟩ := maxA_mem (P := P) (fun z => by subst z; cases hx)
  have a2 := h2 _ (List.mem_map.mpr ⟨y, hy, rfl⟩)
  omega
theorem maxA_bnd {P : List Int} {B : Int} (hB : 0 ≤ B) (h : Bnd B P) : maxA P ≤ B := by
  by_cases e : P = []
  · subst e; exact hB
  · obtain ⟨x, hx, e⟩ := maxA_mem e
    have := h x hx
    rw [e]
    unfold absI
    split <;> omega
theorem sumF_congr {f g : Int → Int} {lo : Int} : ∀ {m : Nat}, (∀ k : Nat, k < m → f (lo + k) = g (lo + k)) → sumF f lo m = sumF g lo m
  | 0, _ => rfl
  | m + 1, h => by
    unfold sumF
    rw [sumF_congr (m := m) fun k hk => h k (by omega), h m (by omega)]
theorem sumF_front (f : Int → Int) (lo : Int) : ∀ m : Nat, sumF f lo (m + 1) = f lo + sumF f (lo + 1) m
  | 0 => by simp [sumF]
  | m + 1 => by
    have e := sumF_front f lo m
    have e1 : sumF f lo (m + 1 + 1) = sumF f lo (m + 1) + f (lo + ((m + 1 : Nat) : Int)) := rfl
    have e2 : sumF f (lo + 1) (m + 1) = sumF f (lo + 1) m + f (lo + 1 + (m : Int)) := rfl
    have e3 : lo + ((m + 1 : Nat) : Int) = lo + 1 + (m : Int) := by omega
    rw [e1, e2, e, e3]
    omega
theorem sumF_rev (f : Int → Int) : ∀ (m : Nat) (lo : Int), sumF f lo m = sumF (fun x => f (-x)) (-(lo + m - 1)) m
  | 0, _ => rfl
  | m + 1, lo => by
    rw [sumF_front, sumF_rev f m (lo + 1)]
    have e1 : sumF (fun x => f (-x)) (-(lo + ((m + 1 : Nat) : Int) - 1)) (m + 1) = sumF (fun x => f (-x)) (-(lo + ((m + 1 : Nat) : Int) - 1)) m + f (-(-(lo + ((m + 1 : Nat) : Int) - 1) + (m : Int))) := rfl
    rw [e1]
    have e2 : -(-(lo + ((m + 1 : Nat) : Int) - 1) + (m : Int)) = lo := by omega
    have e3 : -(lo + 1 + (m : Int) - 1) = -(lo + ((m + 1 : Nat) : Int) - 1) := by omega
    rw [e2, e3]
    omega
theorem sumF_neg (f : Int → Int) (lo : Int) : ∀ m : Nat, sumF (fun x => - f x) lo m = - sumF f lo m
  | 0 => rfl
  | m + 1 => by
    have e1 : sumF (fun x => - f x) lo (m + 1) = sumF (fun x => - f x) lo m + - f (lo + m) := rfl
    have e2 : sumF f lo (m + 1) = sumF f lo m + f (lo + m) := rfl
    rw [e1, e2, sumF_neg f lo m]
    omega
theorem sumF_bnd {f : Int → Int} (lo : Int) (h : ∀ x, -1 ≤ f x ∧ f x ≤ 1) : ∀ m : Nat, -(m : Int) ≤ sumF f lo m ∧ sumF f lo m ≤ m
  | 0 => by simp [sumF]
  | m + 1 => by
    have a := sumF_bnd lo h m
    have b := h (lo + m)
    have e2 : sumF f lo (m + 1) = sumF f lo m + f (lo + m) := rfl
    rw [e2]
    omega
theorem lapT_bnd (n a b k : Int) : -1 ≤ lapT n a b k ∧ lapT n a b k ≤ 1 := by
  unfold lapT
  constructor <;> split <;> split <;> decide
theorem lapT_neg (n a b k : Int) : lapT n (-a) (-b) (-k) = - lapT n a b k := by
  unfold lapT
  have e : -k * n = -(k * n) := Int.neg_mul _ _
  rw [e]
  have h1 : decide (-a + -(k * n) > 0) = decide (a + k * n < 0) := decide_eq_decide.mpr (by omega)
  have h2 : decide (-b + -(k * n) < 0) = decide (b + k * n > 0) := decide_eq_decide.mpr (by omega)
  have h3 : decide (-a + -(k * n) < 0) = decide (a + k * n > 0) := decide_eq_decide.mpr (by omega)
  have h4 : decide (-b + -(k * n) > 0) = decide (b + k * n < 0) := decide_eq_decide.mpr (by omega)
  rw [h1, h2, h3, h4]
  omega
theorem lent_neg (P : List Int) (i j : Nat) : lent P i j = - lent P j i := by
  unfold lent
  have hf := maxA_nn P
  have hF : 0 ≤ farP P := by unfold farP; omega
  rw [← sumF_neg, sumF_rev]
  have e1 : -(-farP P + ((farP P + 1 - -farP P).toNat : Int) - 1) = -farP P := by omega
  rw [e1]
  refine sumF_congr fun k hk => ?_
  show lapT _ _ _ (-(-farP P + (k : Int))) = - lapT _ _ _ (-farP P + (k : Int))
  rw [← lapT_neg]
  congr 1 <;> omega
theorem lent_bnd {P : List Int} {B : Int} (hB : 0 ≤ B) (h : Bnd B P) (i j : Nat) : -(2 * B + 7) ≤ lent P i j ∧ lent P i j ≤ 2 * B + 7 := by
  have a := sumF_bnd (-farP P) (lapT_bnd P.length ((j : Int) - i) (pat P j - pat P i)) (farP P + 1 - -farP P).toNat
  have b := maxA_bnd hB h
  have c := maxA_nn P
  unfold lent
  unfold farP at *
  omega
/-- how many laps stand at or behind c -/
theorem sumF_step (c lo : Int) : ∀ m : Nat, sumF (fun k => if c ≤ k then 1 else 0) lo m = if c ≤ lo then (m : Int) else if lo + m ≤ c then 0 else lo + m - c
  | 0 => by
    show (0 : Int) = _
    split
    · rfl
    · rw [if_pos (by omega)]
  | m + 1 => by
    have e2 : sumF (fun k => if c ≤ k then 1 else 0) lo (m + 1) = sumF (fun k => if c ≤ k then 1 else 0) lo m + (if c ≤ lo + (m : Int) then 1 else 0) := rfl
    rw [e2, sumF_step c lo m]
    split
    · rw [if_pos (by omega)]; omega
    · split
      · split
        · rw [if_neg (by omega)]; omega
        · rw [if_pos (by omega)]; rfl
      · rw [if_pos (by omega), if_neg (by omega)]; omega
theorem sumF_sub (f g : Int → Int) (lo : Int) : ∀ m : Nat, sumF (fun x => f x - g x) lo m = sumF f lo m - sumF g lo m
  | 0 => rfl
  | m + 1 => by
    have e1 : sumF (fun x => f x - g x) lo (m + 1) = sumF (fun x => f x - g x) lo m + (f (lo + m) - g (lo + m)) := rfl
    have e2 : sumF f lo (m + 1) = sumF f lo m + f (lo + m) := rfl
    have e3 : sumF g lo (m + 1) = sumF g lo m + g (lo + m) := rfl
    rw [e1, e2, e3, sumF_sub f g lo m]
    omega
theorem above {n a k : Int} (hn : 0 < n) (ha : a % n ≠ 0) : (a + k * n > 0 ↔ -(a / n) ≤ k) ∧ (a + k * n < 0 ↔ ¬ -(a / n) ≤ k) := by
  have h1 := Int.emod_nonneg a (show n ≠ 0 by omega)
  have h2 := Int.emod_lt_of_pos a hn
  have h3 := Int.mul_ediv_add_emod a n
  have e : a + k * n = n * (a / n + k) + a % n := by
    rw [Int.mul_add, Int.mul_comm k n]
    omega
  rw [e]
  have key : 0 ≤ a / n + k → 0 ≤ n * (a / n + k) := fun h => Int.mul_nonneg (by omega) h
  have key2 : a / n + k ≤ -1 → n * (a / n + k) ≤ -n := fun h => by
    have := Int.mul_le_mul_of_nonneg_left h (show 0 ≤ n by omega)
    omega
  by_cases h : -(a / n) ≤ k
  · have := key (by omega)
    omega
  · have := key2 (by omega)
    omega
theorem lapT_split {n a b : Int} (hn : 0 < n) (ha : a % n ≠ 0) (hb : b % n ≠ 0) (k : Int) : lapT n a b k = (if -(a / n) ≤ k then 1 else 0) - (if -(b / n) ≤ k then 1 else 0) := by
  obtain ⟨a1, a2⟩ := above (k := k) hn ha
  obtain ⟨b1, b2⟩ := above (k := k) hn hb
  unfold lapT
  rw [show decide (a + k * n > 0) = decide (-(a / n) ≤ k) from decide_eq_decide.mpr a1, show decide (a + k * n < 0) = decide (¬ -(a / n) ≤ k) from decide_eq_decide.mpr a2, show decide (b + k * n > 0) = decide (-(b / n) ≤ k) from decide_eq_decide.mpr b1, show decide (b + k * n < 0) = decide (¬ -(b / n) ≤ k) from decide_eq_decide.mpr b2]
  by_cases h1 : -(a / n) ≤ k <;> by_cases h2 : -(b / n) ≤ k <;> simp [h1, h2]
theorem lent_ent {P : List Int} {i j : Nat} (h3 : 3 ≤ P.length) (hij : i < j) (hj : j < P.length) (hb : (pat P j - pat P i) % (P.length : Int) ≠ 0) : lent P i j = ent P i j := by
  have hn : (0 : Int) < (P.length : Int) := by omega
  have ha : ((j : Int) - i) % (P.length : Int) ≠ 0 := by
    rw [Int.emod_eq_of_lt (by omega) (by omega)]
    omega
  have hmem : ∀ k, k < P.length → absI (pat P k) ≤ maxA P := fun k hk => by
    refine maxA_le ?_
    unfold pat
    rw [List.getD_eq_getElem?_getD, List.getElem?_eq_getElem hk]
    exact List.getElem_mem _
  have hi := hmem i (by omega)
  have hj' := hmem j hj
  have hM := maxA_nn P
  unfold lent
  rw [sumF_congr (g := fun k => (if -(((j : Int) - i) / (P.length : Int)) ≤ k then 1 else 0) - (if -((pat P j - pat P i) / (P.length : Int)) ≤ k then 1 else 0)) fun k _ => lapT_split hn ha hb _]
  rw [sumF_sub, sumF_step, sumF_step]
  have qa : ((j : Int) - i) / (P.length : Int) = 0 := Int.ediv_eq_zero_of_lt (by omega) (by omega)
  unfold ent
  rw [qa]
  have hF : farP P = 3 + maxA P := rfl
  have bd : -(maxA P + 1) ≤ (pat P j - pat P i) / (P.length : Int) ∧ (pat P j - pat P i) / (P.length : Int) ≤ maxA P + 1 := by
    have u1 : -(2 * maxA P) ≤ pat P j - pat P i ∧ pat P j - pat P i ≤ 2 * maxA P := by
      unfold absI at hi hj'
      split at hi <;> split at hj' <;> omega
    have v1 := Int.mul_ediv_add_emod (pat P j - pat P i) (P.length : Int)
    have v2 := Int.emod_nonneg (pat P j - pat P i) (show (P.length : Int) ≠ 0 by omega)
    have v3 := Int.emod_lt_of_pos (pat P j - pat P i) hn
    obtain ⟨q, hq⟩ : ∃ q, q = (pat P j - pat P i) / (P.length : Int) := ⟨_, rfl⟩
    rw [← hq] at v1 ⊢
    constructor
    · by_cases hc : q ≤ -(maxA P + 2)
      · have w := Int.mul_le_mul_of_nonneg_left hc (show 0 ≤ (P.length : Int) by omega)
        have w2 := Int.mul_le_mul_of_nonneg_right (show (3 : Int) ≤ (P.length : Int) by omega) (show 0 ≤ maxA P + 1 by omega)
        have w3 : (P.length : Int) * -(maxA P + 2) = -((P.length : Int) * (maxA P + 1)) - P.length := by
          rw [show -(maxA P + 2) = -(maxA P + 1) - 1 by omega, Int.mul_sub, Int.mul_neg]
          omega
        omega
      · omega
    · by_cases hc : maxA P + 2 ≤ q
      · have w := Int.mul_le_mul_of_nonneg_left hc (show 0 ≤ (P.length : Int) by omega)
        have w2 := Int.mul_le_mul_of_nonneg_right (show (3 : Int) ≤ (P.length : Int) by omega) (show 0 ≤ maxA P + 2 by omega)
        omega
      · omega
  rw [if_neg (by omega), if_neg (by omega), if_neg (by omega), if_neg (by omega)]
  omega
end B90
set_option Elab.async false
set_option linter.all false
set_option maxRecDepth 100000
set_option maxHeartbeats 4000000
namespace B90
open PySem L2 BayE
section
variable {P : Program} {w : World} {K : PySem.W.Frag} {mg : Str → Option Value} {base : Heap}
abbrev psEnt : List Str := ["_law_many", "_law_places", "_law_one", "_law_other"]
abbrev Nent : List Str := ["_law_many", "_law_places", "_law_one", "_law_other", "_law_far", "_law_total", "_law_place", "_law_lap", "_law_first", "_law_last"]
theorem sc_entry : FnScope Nent psEnt (defScope s_entry) := ⟨rfl, rfl, rfl, by decide +kernel, rfl, by decide +kernel, by decide +kernel⟩
def sp_entry (K : PySem.W.Frag) : Sp := fun vs H Q _ => ∃ (a : Addr) (ps : List Int) (i j : Nat) (G : Hp), vs = [.int ps.length, .ref a, .int i, .int j] ∧ Sq K G a (ps.map V.int) ∧ Same G H ∧ 1 ≤ ps.length ∧ ps.length ≤ 400 ∧ Bnd 1000000 ps ∧ i < ps.length ∧ j < ps.length ∧ ∀ G' H', Stp [] G H G' H' → Q (.int (lent ps i j)) H'
theorem ok_entry {f : Addr} {fd : FuncData} (F : Fun K "_law_entry" "_law_entry" s_entry f fd) (m1 : mg "max" = none) (m2 : mg "range" = none) (m3 : mg "abs" = none) (m4 : mg "int" = none) : FnOk P w K mg base CX0 1 f fd psEnt (sp_entry K) := by
  refine F.ok sc_entry (fun vs H Q E h => ?_) (fun cdv A outer s H vs Q E hr h => ?_)
  · obtain ⟨a, ps, i, j, G, rfl, _⟩ := h
    rfl
  · obtain ⟨a, ps, i, j, G, rfl, hS, sg, hn1, hn4, hB, hi, hj, k⟩ := h
    refine ⟨_, pss_cons (ps_par (i := 4) (j := 5) (by rfl) sc_entry.nd rfl rfl (by decide) rfl rfl (pa_cons (pe_op op_add pe_int (pe_callB (cr_max rfl) (by rfl) m1 (by decide +kernel) (pa_cons (pe_lc (own := [("_law_place", 6)]) (g := gName 6) (tt := tYes) (by rfl) sc_entry.nd (pi_sq (pv 1)) (blkOk_by (own := [("_law_place", 6)]) (N := Nent) (sc := defScope s_entry) (by decide +kernel)) (fun _ _ _ _ _ => pg_name (i := 6) sc_entry.nd rfl (Or.inl rfl)) (fun _ _ _ _ _ => pts_nil)
          (fun _ _ _ _ _ => pe_callB call_abs (by rfl) m3 (by decide +kernel) (pa_cons (pv 6) pa_nil))) pa_nil))) (pa_cons pe_int pa_nil)) (by rfl))
      (pss_cons (ps_for PassesOwn.never rfl (pi_range2 rfl m2 (pa_cons (pe_un un_neg (pv 4)) (pa_cons (pe_op op_add (pv 4) pe_int) pa_nil))) (pg_name (i := 7) sc_entry.nd rfl (Or.inl rfl))
        (pss_cons (ps_par (i := 8) (j := 9) (by rfl) sc_entry.nd rfl rfl (by decide) rfl rfl (pa_cons (pe_op op_sub (pe_op op_add (pv 3) (pe_op op_mul (pv 7) (pv 0))) (pv 2)) (pa_cons (pe_op op_sub (pe_op op_add (pe_ix ix_seq (pv 1) (pv 3) (fun _ _ => rfl)) (pe_op op_mul (pv 7) (pv 0))) (pe_ix ix_seq (pv 1) (pv 2) (fun _ _ => rfl))) pa_nil)) (by rfl))
        (pss_one (ps_set (i := 5) sc_entry.nd rfl (Or.inl rfl) (pe_op op_sub (pe_op op_add (pv 5) (pe_callTy call_int1 (by rfl) m4 (by decide +kernel) (pa_cons (pe_and (pe_cmpR op_gt (pv 8) pe_int (nomark _)) (pe_one (pe_cmpR op_lt (pv 9) pe_int (nomark _)))) pa_nil)))
          (pe_callTy call_int1 (by rfl) m4 (by decide +kernel) (pa_cons (pe_and (pe_cmpR op_lt (pv 8) pe_int (nomark _)) (pe_one (pe_cmpR op_gt (pv 9) pe_int (nomark _)))) pa_nil)))))))
      (pss_one (ps_ret (pv 5)))), ?_⟩
    refine ⟨_, rfl, a, _, G, rfl, hS, sg, fun J wJ Dl hDl => ?_⟩
    refine lc_pure wJ (fun i v _ => ((ps.map absI).map V.int)[i]? = some v) (fun i v G G' s h => h) (by rw [List.length_map]; omega) sg hDl (fun G H st => st.gg.trans st.sub) ?_ ?_
    · rintro l x G3 H3 H4 Qy hl st3 ⟨rfl, hx⟩ hq
      rw [List.length_map] at hl
      rw [ints_at hl] at hx
      cases hx
      refine ⟨rfl, _, rfl, _, rfl, hq _ G3 _ (Stp.refl st3.sub) ?_⟩
      rw [List.map_map, List.getElem?_map, List.getElem?_eq_getElem hl, List.getD_eq_getElem?_getD, List.getElem?_eq_getElem hl]
      rfl
    · intro G3 H3 ys st3 hl hg hlen hrel
      have eys : ys = (ps.map absI).map V.int := by
        refine List.ext_getElem? fun i => ?_
        by_cases hi : i < ys.length
        · rw [List.getElem?_eq_getElem hi, hrel i ys[i] (List.getElem?_eq_getElem hi)]
        · have e1 : ys[i]? = none := List.getElem?_eq_none (by omega)
          have e2 : ((ps.map absI).map V.int)[i]? = none := List.getElem?_eq_none (by simp only [List.length_map] at hlen ⊢; omega)
          rw [e1, e2]
      subst eys
      have st4 : Stp [] G H G3 H3 := Stp.own (Stp.refl sg) hDl st3
      refine ⟨Dl, ps.map absI, rfl, SqL.of hl, by rw [List.length_map]; omega, fun m hm hle => ?_⟩
      have em := maxA_eq hm hle
      subst em
      have hmx := maxA_bnd (by decide) hB
      have hm0 := maxA_nn ps
      refine ⟨_, _, rfl, rfl, _, _, rfl, ?_⟩
      refine ⟨_, rfl, _, rfl, _, rfl, _, _, rfl, rfl, -(3 + maxA ps), 3 + maxA ps + 1, rfl, ⟨by omega, by omega, by omega, by omega⟩, ?_⟩
      refine for_range (lo := -(3 + maxA ps)) (n := (3 + maxA ps + 1 - -(3 + maxA ps)).toNat) (fun l σ H4 => H4 = H3 ∧ ∃ o7 o8 o9 : Option V, σ = [some (.int ps.length), some (.ref a), some (.int i), some (.int j), some (.int (3 + maxA ps)), some (.int (sumF (lapT ps.length ((j : Int) - i) (pat ps j - pat ps i)) (-(3 + maxA ps)) l)), none, o7, o8, o9]) ⟨rfl, _, _, _, rfl⟩ ?_ ?_
      · rintro l σ H4 hl2 ⟨rfl, o7, o8, o9, rfl⟩
        have hS4 := Sq.up (st4.gg.trans st4.sub) hS
        refine ⟨_, rfl, _, rfl, _, rfl, _, _, rfl, rfl, .inl ⟨by omega, by omega⟩, _, _, rfl, rfl, _, rfl, _, _, rfl, rfl, ?_⟩
        refine ⟨_, rfl, _, rfl, rIx_sq hS4 (atI_nat (ints_at hj)) ?_⟩
        refine ⟨_, rfl, _, rfl, _, _, rfl, rfl, .inl ⟨by omega, by omega⟩, _, _, rfl, rfl, ?_⟩
        refine ⟨_, rfl, _, rfl, rIx_sq hS4 (atI_nat (ints_at hi)) ?_⟩
        refine ⟨_, _, rfl, rfl, ?_⟩
        obtain ⟨fi, hfi⟩ : ∃ fi : Int, fi = (j : Int) + (-(3 + maxA ps) + (l : Int)) * (ps.length : Int) - (i : Int) := ⟨_, rfl⟩
        obtain ⟨la, hla⟩ : ∃ la : Int, la = ps.getD j 0 + (-(3 + maxA ps) + (l : Int)) * (ps.length : Int) - ps.getD i 0 := ⟨_, rfl⟩
        refine ⟨.int fi, .int la, by rw [hfi, hla], ?_⟩
        have hT : lapT (ps.length : Int) ((j : Int) - i) (pat ps j - pat ps i) (-(3 + maxA ps) + (l : Int)) = (if decide (fi > 0) && decide (la < 0) then 1 else 0) - (if decide (fi < 0) && decide (la > 0) then 1 else 0) := by
          unfold lapT pat
          have z1 : (j : Int) - i + (-(3 + maxA ps) + (l : Int)) * (ps.length : Int) = fi := by rw [hfi]; omega
          have z2 : ps.getD j 0 - ps.getD i 0 + (-(3 + maxA ps) + (l : Int)) * (ps.length : Int) = la := by rw [hla]; omega
          rw [z1, z2]
        have hsum : sumF (lapT (ps.length : Int) ((j : Int) - i) (pat ps j - pat ps i)) (-(3 + maxA ps)) (l + 1) = sumF (lapT (ps.length : Int) ((j : Int) - i) (pat ps j - pat ps i)) (-(3 + maxA ps)) l + ((if decide (fi > 0) && decide (la < 0) then 1 else 0) - (if decide (fi < 0) && decide (la > 0) then 1 else 0)) := by
          rw [← hT]; rfl
        refine ⟨_, rfl, _, rfl, _, _, rfl, rfl, _, rfl, ?_⟩
        rcases Int.lt_trichotomy fi 0 with h | h | h
        · rw [decide_eq_false (show ¬ 0 < fi by omega)]
          refine iteF (.inr ⟨_, rfl, _, _, rfl, rfl, _, rfl, _, _, rfl, rfl, _, rfl, ?_⟩)
          rw [decide_eq_true h]
          refine iteT ⟨_, rfl, _, _, rfl, rfl, .inr ⟨_, rfl, _, _, rfl, rfl, ?_⟩⟩
          refine pin (P := fun z => gName 5 (V.int z) _ _ _) _ fun y hy => ?_
          have e : y = sumF (lapT (ps.length : Int) ((j : Int) - i) (pat ps j - pat ps i)) (-(3 + maxA ps)) (l + 1) := by
            rw [hsum, decide_eq_false (show ¬ fi > 0 by omega), decide_eq_true h, hy]
            simp only [Bool.false_and, Bool.true_and, gt_iff_lt]
            split <;> split <;> first | omega | simp_all
          subst e
          exact ⟨rfl, _, _, _, rfl⟩
        · rw [decide_eq_false (show ¬ 0 < fi by omega)]
          refine iteF (.inr ⟨_, rfl, _, _, rfl, rfl, _, rfl, _, _, rfl, rfl, _, rfl, ?_⟩)
          rw [decide_eq_false (show ¬ fi < 0 by omega)]
          refine iteF (.inr ⟨_, rfl, _, _, rfl, rfl, ?_⟩)
          refine pin (P := fun z => gName 5 (V.int z) _ _ _) _ fun y hy => ?_
          have e : y = sumF (lapT (ps.length : Int) ((j : Int) - i) (pat ps j - pat ps i)) (-(3 + maxA ps)) (l + 1) := by
            rw [hsum, decide_eq_false (show ¬ fi > 0 by omega), decide_eq_false (show ¬ fi < 0 by omega), hy]
            simp
          subst e
          exact ⟨rfl, _, _, _, rfl⟩
        · rw [decide_eq_true (show 0 < fi by omega)]
          refine iteT ⟨_, rfl, _, _, rfl, rfl, .inr ⟨_, rfl, _, _, rfl, rfl, _, rfl, _, _, rfl, rfl, _, rfl, ?_⟩⟩
          rw [decide_eq_false (show ¬ fi < 0 by omega)]
          refine iteF (.inr ⟨_, rfl, _, _, rfl, rfl, ?_⟩)
          refine pin (P := fun z => gName 5 (V.int z) _ _ _) _ fun y hy => ?_
          have e : y = sumF (lapT (ps.length : Int) ((j : Int) - i) (pat ps j - pat ps i)) (-(3 + maxA ps)) (l + 1) := by
            rw [hsum, decide_eq_true (show fi > 0 by omega), decide_eq_false (show ¬ fi < 0 by omega), hy]
            simp
            try omega
          subst e
          exact ⟨rfl, _, _, _, rfl⟩
      · rintro σ H4 ⟨rfl, o7, o8, o9, rfl⟩
        exact ⟨_, rfl, k _ _ st4⟩
end
end B90
set_option Elab.async false
set_option linter.all false
set_option maxRecDepth 100000
set_option maxHeartbeats 4000000
namespace B90
open PySem L2 BayE
/-! ### a table that is being made -/
def put2 (t : List (List Int)) (i j : Nat) (v : Int) : List (List Int) := t.set i ((row t i).set j v)
theorem put2_len (t : List (List Int)) (i j : Nat) (v : Int) : (put2 t i j v).length = t.length := by unfold put2; rw [List.length_set]
theorem row_set {t : List (List Int)} {i k : Nat} {r : List Int} (hi : i < t.length) : row (t.set i r) k = if k = i then r else row t k := by
  unfold row
  rw [List.getD_eq_getElem?_getD, List.getD_eq_getElem?_getD, List.getElem?_set]
  by_cases h : i = k
  · subst h
    rw [if_pos rfl, if_pos hi, if_pos rfl]
    rfl
  · rw [if_neg h, if_neg (fun z => h z.symm)]
theorem row_put2 {t : List (List Int)} {i j k : Nat} {v : Int} (hi : i < t.length) : row (put2 t i j v) k = if k = i then (row t i).set j v else row t k := row_set hi
theorem at2_put2 {t : List (List Int)} {i j a b : Nat} {v : Int} (hi : i < t.length) (hj : j < (row t i).length) : at2 (put2 t i j v) a b = if a = i ∧ b = j then v else at2 t a b := by
  unfold at2
  rw [row_put2 hi]
  by_cases h : a = i
  · subst h
    rw [if_pos rfl, List.getD_eq_getElem?_getD, List.getElem?_set]
    by_cases h2 : j = b
    · subst h2
      rw [if_pos rfl, if_pos hj, if_pos ⟨rfl, rfl⟩]
      rfl
    · rw [if_neg h2, if_neg (fun z => h2 z.2.symm), List.getD_eq_getElem?_getD]
  · rw [if_neg h, if_neg (fun z => h z.1)]
structure Tab (n : Nat) (B : Int) (t : List (List Int)) : Prop where
  ln : t.length = n
  sq : ∀ k, k < n → (row t k).length = n
  op : ∀ i j, i < n → j < n → at2 t i j = - at2 t j i
  bd : ∀ i j, i < n → j < n → -B ≤ at2 t i j ∧ at2 t i j ≤ B
theorem Tab.le {n : Nat} {B C : Int} {t : List (List Int)} (h : Tab n B t) (l : B ≤ C) : Tab n C t := ⟨h.ln, h.sq, h.op, fun i j hi hj => by have := h.bd i j hi hj; omega⟩
theorem Tab.set {n : Nat} {B : Int} {t : List (List Int)} (h : Tab n B t) {a b : Nat} {e : Int} (ha : a < n) (hb : b < n) (he : -B ≤ e ∧ e ≤ B) (h0 : a = b → e = 0) : Tab n B (put2 (put2 t a b e) b a (-e)) := by
  have la := h.sq a ha
  have lb := h.sq b hb
  have hl := h.ln
  have l1 : (put2 t a b e).length = t.length := put2_len t a b e
  have ra : ∀ k, k < n → (row (put2 t a b e) k).length = n := fun k hk => by
    rw [row_put2 (by omega)]
    split
    · rw [List.length_set]; exact la
    · exact h.sq k hk
  have val : ∀ i j, at2 (put2 (put2 t a b e) b a (-e)) i j = if i = b ∧ j = a then -e else if i = a ∧ j = b then e else at2 t i j := fun i j => by
    rw [at2_put2 (by omega) (by rw [ra b hb]; exact ha), at2_put2 (by omega) (by omega)]
  refine ⟨by rw [put2_len, l1]; exact hl, fun k hk => ?_, fun i j hi hj => ?_, fun i j hi hj => ?_⟩
  · rw [row_put2 (by omega)]
    split
    · rw [List.length_set]; exact ra b hb
    · exact ra k hk
  · rw [val, val]
    have := h.op i j hi hj
    by_cases c1 : i = b ∧ j = a
    · obtain ⟨rfl, rfl⟩ := c1
      rw [if_pos ⟨rfl, rfl⟩]
      by_cases c2 : j = i
      · have := h0 c2
        subst c2
        rw [if_pos ⟨rfl, rfl⟩]
        omega
      · rw [if_neg (fun z => c2 z.1), if_pos ⟨rfl, rfl⟩]
    · rw [if_neg c1]
      by_cases c2 : i = a ∧ j = b
      · obtain ⟨rfl, rfl⟩ := c2
        rw [if_pos ⟨rfl, rfl⟩, if_pos ⟨rfl, rfl⟩]
        omega
      · rw [if_neg c2, if_neg (fun z => c2 ⟨z.2, z.1⟩), if_neg (fun z => c1 ⟨z.2, z.1⟩)]
        exact this
  · rw [val]
    have := h.bd i j hi hj
    split
    · omega
    · split <;> omega
section
variable {K : PySem.W.Frag} {mg : Str → Option Value}
def RowsP (H0 H : Hp) (rs : List Addr) (t : List (List Int)) : Prop := rs.length = t.length ∧ (∀ i, i < t.length → ∃ b, rs[i]? = some b ∧ H b = some (.lst ((row t i).map V.int)) ∧ H0 b = none) ∧ ∀ (i j : Nat) (b : Addr), rs[i]? = some b → rs[j]? = some b → i = j
theorem RowsP.mem {H0 H : Hp} {rs : List Addr} {t : List (List Int)} (h : RowsP H0 H rs t) {b : Addr} (hb : b ∈ rs) : ∃ i, i < t.length ∧ rs[i]? = some b ∧ H b = some (.lst ((row t i).map V.int)) ∧ H0 b = none := by
  obtain ⟨i, hi⟩ := List.mem_iff_getElem?.mp hb
  have hl : i < rs.length := (List.getElem?_eq_some_iff.mp hi).1
  obtain ⟨c, h1, h2, h3⟩ := h.2.1 i (by rw [← h.1]; exact hl)
  rw [hi] at h1
  cases h1
  exact ⟨i, by rw [← h.1]; exact hl, hi, h2, h3⟩
theorem RowsP.step {H0 H H' : Hp} {rs : List Addr} {t : List (List Int)} (h : RowsP H0 H rs t) (k : ∀ b o, H0 b = none → H b = some o → H' b = some o) : RowsP H0 H' rs t :=
  ⟨h.1, fun i hi => let ⟨b, h1, h2, h3⟩ := h.2.1 i hi; ⟨b, h1, k b _ h3 h2, h3⟩, h.2.2⟩
theorem RowsP.upd {H0 H : Hp} {rs : List Addr} {t : List (List Int)} (h : RowsP H0 H rs t) {x : Addr} {o : HO} (hx : x ∉ rs) : RowsP H0 (upd H x o) rs t :=
  ⟨h.1, fun i hi => let ⟨b, h1, h2, h3⟩ := h.2.1 i hi; ⟨b, h1, by
    have hb : b ∈ rs := List.mem_iff_getElem?.mpr ⟨i, h1⟩
    have ne : b ≠ x := fun z => by subst z; exact hx hb
    rw [upd_ne ne]; exact h2, h3⟩, h.2.2⟩
theorem RowsP.set {H0 H : Hp} {rs : List Addr} {t : List (List Int)} (h : RowsP H0 H rs t) {i j : Nat} {b : Addr} {v : Int} (hi : i < t.length) (hb : rs[i]? = some b) : RowsP H0 (L2.upd H b (.lst (((row t i).map V.int).set j (.int v)))) rs (put2 t i j v) := by
  refine ⟨by rw [put2_len]; exact h.1, fun k hk => ?_, h.2.2⟩
  rw [put2_len] at hk
  obtain ⟨c, h1, h2, h3⟩ := h.2.1 k hk
  refine ⟨c, h1, ?_, h3⟩
  rw [row_put2 hi]
  by_cases e : k = i
  · subst e
    rw [hb] at h1
    cases h1
    rw [if_pos rfl, upd_same, map_set_int]
  · rw [if_neg e, upd_ne (fun z => e (h.2.2 k i b (by rw [h1, z]) hb))]
    exact h2
theorem row_push {t : List (List Int)} {ns : List Int} {i : Nat} : row (t ++ [ns]) i = if i = t.length then ns else row t i := by
  unfold row
  rw [List.getD_eq_getElem?_getD, List.getD_eq_getElem?_getD]
  by_cases h : i < t.length
  · rw [List.getElem?_append_left h, if_neg (by omega)]
  · by_cases e : i = t.length
    · subst e
      rw [if_pos rfl]
      simp
    · rw [if_neg e, List.getElem?_eq_none (by simp; omega), List.getElem?_eq_none (by omega)]
theorem RowsP.push {H0 H : Hp} {rs : List Addr} {t : List (List Int)} (h : RowsP H0 H rs t) {b : Addr} {ns : List Int} (hb : b ∉ rs) (h0 : H0 b = none) (hH : H b = some (.lst (ns.map V.int))) : RowsP H0 H (rs ++ [b]) (t ++ [ns]) := by
  have hl := h.1
  refine ⟨by simp [hl], fun k hk => ?_, fun i j c hi hj => ?_⟩
  · rw [row_push]
    by_cases e : k = t.length
    · subst e
      rw [if_pos rfl]
      refine ⟨b, ?_, hH, h0⟩
      rw [← hl]
      simp
    · rw [if_neg e]
      have hk2 : k < t.length := by simp only [List.length_append, List.length_singleton] at hk; omega
      obtain ⟨c, h1, h2, h3⟩ := h.2.1 k hk2
      exact ⟨c, by rw [List.getElem?_append_left (by omega)]; exact h1, h2, h3⟩
  · have lt : ∀ {i : Nat} {c : Addr}, (rs ++ [b])[i]? = some c → (i < rs.length ∧ rs[i]? = some c) ∨ (i = rs.length ∧ c = b) := fun {i c} hi => by
      have := (List.getElem?_eq_some_iff.mp hi).1
      simp only [List.length_append, List.length_singleton] at this
      by_cases e : i < rs.length
      · rw [List.getElem?_append_left e] at hi
        exact .inl ⟨e, hi⟩
      · have e2 : i = rs.length := by omega
        subst e2
        simp at hi
        exact .inr ⟨rfl, hi.symm⟩
    rcases lt hi with ⟨a1, a2⟩ | ⟨a1, a2⟩ <;> rcases lt hj with ⟨b1, b2⟩ | ⟨b1, b2⟩
    · exact h.2.2 i j c a2 b2
    · subst b2; exact (hb (List.mem_iff_getElem?.mpr ⟨i, a2⟩)).elim
    · subst a2; exact (hb (List.mem_iff_getElem?.mpr ⟨j, b2⟩)).elim
    · omega
/-- what was made becomes data -/
theorem freezeL {ms : List Addr} {G H G1 H1 : Hp} (a : Stp ms G H G1 H1) (bs : List Addr) (h : ∀ b ∈ bs, H b = none) : ∃ G', Stp ms G H G' H1 ∧ Same G1 G' ∧ (∀ b ∈ bs, ∀ o, H1 b = some o → G1 b = none → G' b = some o) ∧ ∀ c, c ∉ bs → G1 c = none → G' c = none := by
  refine ⟨fun c => match G1 c with | some o => some o | none => if c ∈ bs then H1 c else none, ⟨fun b o e => ?_, fun b o e => ?_, a.keep, a.dom, fun b e => ?_⟩, fun b o e => ?_, fun b hb o h1 h2 => ?_, fun c hc h2 => ?_⟩
  · show (match G1 b with | some o => some o | none => if b ∈ bs then H1 b else none) = some o
    rw [a.gg b o e]
  · have e : (match G1 b with | some o => some o | none => if b ∈ bs then H1 b else none) = some o := e
    cases e1 : G1 b with
    | some u => rw [e1] at e; cases e; exact a.sub b _ e1
    | none =>
      rw [e1] at e
      have e : (if b ∈ bs then H1 b else none) = some o := e
      by_cases hb : b ∈ bs
      · rw [if_pos hb] at e; exact e
      · rw [if_neg hb] at e; cases e
  · have e : (match G1 b with | some o => some o | none => if b ∈ bs then H1 b else none) ≠ none := e
    cases e1 : G1 b with
    | some u => exact a.new b (by rw [e1]; exact fun z => nomatch z)
    | none =>
      rw [e1] at e
      have e : (if b ∈ bs then H1 b else none) ≠ none := e
      by_cases hb : b ∈ bs
      · exact .inr (h b hb)
      · rw [if_neg hb] at e; exact (e rfl).elim
  · show (match G1 b with | some o => some o | none => if b ∈ bs then H1 b else none) = some o
    rw [e]
  · show (match G1 b with | some o => some o | none => if b ∈ bs then H1 b else none) = some o
    rw [h2]
    show (if b ∈ bs then H1 b else none) = some o
    rw [if_pos hb]
    exact h1
  · show (match G1 c with | some o => some o | none => if c ∈ bs then H1 c else none) = none
    rw [h2]
    show (if c ∈ bs then H1 c else none) = none
    rw [if_neg hc]
theorem Choir.grow {G G' H : Hp} {p : Addr} {T : Int} (h : Choir K G H p T) (s : Same G G') (g : G' p = none) : Choir K G' H p T :=
  let ⟨q, cs, t, r, h1, h2, h3, h4, h5, h6⟩ := h; ⟨q, cs, t, r, h1, g, SqL.ext h3 s, h4, h5, h6⟩
end
end B90
set_option Elab.async false
set_option linter.all false
set_option maxRecDepth 100000
set_option maxHeartbeats 4000000
namespace B90
open PySem L2 BayE
abbrev s_table : Stmt := topS 31
section
variable {P : Program} {w : World} {K : PySem.W.Frag} {mg : Str → Option Value} {base : Heap}
abbrev Ntab : List Str := ["_law_choir_here", "_law_many", "_law_table_here", "_law_one", "_law_turn", "_law_other", "_law_entry_here", "_law_places", "_law_by"]
theorem sc_table : FnScope Ntab psSing (defScope s_table) := ⟨rfl, rfl, rfl, by decide +kernel, rfl, by decide +kernel, by decide +kernel⟩
/-- the outer comprehension's scope -/
abbrev scTabIn : Scope := { kind := .function, names := [(".0", .local), ("_law_one", .cell), ("range", .globalImplicit), ("_law_many", .cell), ("_law_places", .cell)], isGenerator := false, isCoroutine := false }
def sp_table (K : PySem.W.Frag) : Sp := fun vs H Q _ => ∃ (p : Addr) (n : Nat) (T : Int) (G : Hp), vs = [.ref p, .int n] ∧ Choir K G H p T ∧ Same G H ∧ 3 ≤ n ∧ n ≤ 7 ∧ T ≤ 9000 ∧ ∀ (l : Addr) (us : List V) (t : List (List Int)) (G' H' : Hp), Tab n 1000 t → Stp [p] G H G' H' → Choir K G' H' p (T + 200) → SqL K G' l us → us.length = n → (∀ i, i < n → ∃ b, us[i]? = some (.ref b) ∧ SqL K G' b ((row t i).map V.int)) → Q (.ref l) H'
theorem yesT {σ : L2.St} {H : Hp} {A B : Hp → Prop} (h : A H) : tYes σ H fun b H3 => if b = true then A H3 else B H3 := (iteT h : if true = true then A H else B H)
theorem Stp.shrink {ms : List Addr} {G H G' H' : Hp} (a : Stp ms G H G' H') : Stp ms G H G H' := ⟨Same.refl G, a.gg.trans a.sub, a.keep, a.dom, fun _ e => .inl e⟩
def TS (H0 H : Hp) (l : Addr) (t : List (List Int)) : Prop := ∃ rs : List Addr, H l = some (.lst (rs.map V.ref)) ∧ RowsP H0 H rs t ∧ H0 l = none ∧ l ∉ rs
theorem TS.step {H0 G1 H G2 H' : Hp} {p l : Addr} {t : List (List Int)} (h : TS H0 H l t) (st : Stp [p] G1 H G2 H') (hp : H0 p ≠ none) : TS H0 H' l t := by
  obtain ⟨rs, h1, h2, h3, h4⟩ := h
  have ne : ∀ {b : Addr}, H0 b = none → b ∉ [p] := fun {b} hb z => by rw [List.mem_singleton.mp z] at hb; exact hp hb
  exact ⟨rs, st.at (ne h3) h1, h2.step fun b o hb ho => st.at (ne hb) ho, h3, h4⟩
theorem TS.row {H0 H : Hp} {l : Addr} {t : List (List Int)} (h : TS H0 H l t) {i : Nat} (hi : i < t.length) : ∃ us b, H l = some (.lst us) ∧ us.length = t.length ∧ us[i]? = some (V.ref b) ∧ H b = some (.lst ((row t i).map V.int)) ∧ H0 b = none ∧ ∀ j v, TS H0 (upd H b (.lst (((row t i).map V.int).set j (.int v)))) l (put2 t i j v) := by
  obtain ⟨rs, h1, h2, h3, h4⟩ := h
  obtain ⟨b, b1, b2, b3⟩ := h2.2.1 i hi
  have hm : b ∈ rs := List.mem_iff_getElem?.mpr ⟨i, b1⟩
  have ne : l ≠ b := fun z => by subst z; exact h4 hm
  refine ⟨rs.map V.ref, b, h1, by rw [List.length_map]; exact h2.1, by rw [List.getElem?_map, b1]; rfl, b2, b3, fun j v => ⟨rs, by rw [upd_ne ne]; exact h1, h2.set hi b1, h3, h4⟩⟩
theorem TS.freeze {ms : List Addr} {G H G1 H0 H1 : Hp} {l : Addr} {t : List (List Int)} (h : TS H0 H1 l t) (a : Stp ms G H G1 H1) (hH : ∀ b, H0 b = none → H b = none) (hG : ∀ b, H0 b = none → G1 b = none) : ∃ G' us, Stp ms G H G' H1 ∧ SqL K G' l us ∧ us.length = t.length ∧ (∀ i, i < t.length → ∃ b, us[i]? = some (V.ref b) ∧ SqL K G' b ((B90.row t i).map V.int)) ∧ Same G1 G' ∧ ∀ c, H0 c ≠ none → G1 c = none → G' c = none := by
  obtain ⟨rs, h1, h2, h3, h4⟩ := h
  have hall : ∀ b ∈ l :: rs, H0 b = none := fun b hb => by
    rcases List.mem_cons.mp hb with z | z
    · rw [z]; exact h3
    · obtain ⟨_, _, _, _, q⟩ := h2.mem z
      exact q
  obtain ⟨G', s1, s2, s3, s4⟩ := freezeL a (l :: rs) (fun b hb => hH b (hall b hb))
  refine ⟨G', rs.map V.ref, s1, SqL.of (s3 l List.mem_cons_self _ h1 (hG l h3)), by rw [List.length_map]; exact h2.1, fun i hi => ?_, s2, fun c hc hg => s4 c (fun z => hc (hall c z)) hg⟩
  obtain ⟨b, b1, b2, b3⟩ := h2.2.1 i hi
  exact ⟨b, by rw [List.getElem?_map, b1]; rfl, SqL.of (s3 b (List.mem_cons_of_mem _ (List.mem_iff_getElem?.mpr ⟨i, b1⟩)) _ b2 (hG b b3))⟩
theorem RowsP.nil {H0 H : Hp} : RowsP H0 H [] [] := ⟨rfl, fun i hi => absurd hi (Nat.not_lt_zero _), fun i j b hi => by simp at hi⟩
theorem RowsP.rebase {H0 H0' H : Hp} {rs : List Addr} {t : List (List Int)} (h : RowsP H0 H rs t) (k : ∀ b, H0 b = none → H0' b = none) : RowsP H0' H rs t := ⟨h.1, fun i hi => let ⟨b, h1, h2, h3⟩ := h.2.1 i hi; ⟨b, h1, h2, k b h3⟩, h.2.2⟩
theorem tab0 (n : Nat) : Tab n 0 (List.replicate n (List.replicate n 0)) := by
  have r : ∀ k, k < n → row (List.replicate n (List.replicate n (0 : Int))) k = List.replicate n 0 := fun k hk => by
    unfold row
    rw [List.getD_eq_getElem?_getD, List.getElem?_replicate, if_pos hk]
    rfl
  have a : ∀ i j, i < n → j < n → at2 (List.replicate n (List.replicate n (0 : Int))) i j = 0 := fun i j hi hj => by
    unfold at2
    rw [r i hi, List.getD_eq_getElem?_getD, List.getElem?_replicate, if_pos hj]
    rfl
  exact ⟨by simp, fun k hk => by rw [r k hk]; simp, fun i j hi hj => by rw [a i j hi hj, a j i hj hi]; rfl, fun i j hi hj => by rw [a i j hi hj]; omega⟩
theorem tab_lent {ps : List Int} (hB : Bnd 100 ps) : Tab ps.length 207 ((List.range ps.length).map fun i => (List.range ps.length).map fun j => if i = j then 0 else lent ps i j) := by
  have r : ∀ k, k < ps.length → row ((List.range ps.length).map fun i => (List.range ps.length).map fun j => if i = j then 0 else lent ps i j) k = (List.range ps.length).map fun j => if k = j then 0 else lent ps k j := fun k hk => by
    unfold row
    rw [List.getD_eq_getElem?_getD, List.getElem?_map, List.getElem?_range hk]
    rfl
  have a : ∀ i j, i < ps.length → j < ps.length → at2 ((List.range ps.length).map fun i => (List.range ps.length).map fun j => if i = j then 0 else lent ps i j) i j = if i = j then 0 else lent ps i j := fun i j hi hj => by
    unfold at2
    rw [r i hi, List.getD_eq_getElem?_getD, List.getElem?_map, List.getElem?_range hj]
    rfl
  refine ⟨by simp, fun k hk => by rw [r k hk]; simp, fun i j hi hj => ?_, fun i j hi hj => ?_⟩
  · rw [a i j hi hj, a j i hj hi]
    by_cases e : i = j
    · rw [if_pos e, if_pos e.symm]; rfl
    · rw [if_neg e, if_neg (fun z => e z.symm)]
      exact lent_neg ps i j
  · rw [a i j hi hj]
    split
    · omega
    · have := lent_bnd (by decide) hB i j
      omega
theorem atI_v {us : List V} {a : Int} {v : V} (h0 : 0 ≤ a) (h : us[a.toNat]? = some v) : atI us a = some v := by
  have e : a = (a.toNat : Int) := (Int.toNat_of_nonneg h0).symm
  rw [e]
  exact atI_nat h
theorem ixN_row {t : List (List Int)} {n : Nat} {i : Nat} {c : Int} (h : (row t i).length = n) (h0 : 0 ≤ c) (h1 : c < n) : ixN ((row t i).map V.int).length c = some c.toNat := by
  rw [List.length_map, h]
  exact ixN_i h0 h1
theorem ok_table {f g1 g2 g3 g4 : Addr} {fd gd1 gd2 gd3 gd4 : FuncData} (F : Fun K "_law_table" "_law_table" s_table f fd) (S : SingF P w K mg base g1 gd1) (D2 : DefT K mg "_law_drawn" s_drawn g2 gd2) (G2 : FnOk P w K mg base CX0 2 g2 gd2 psSing (sp_drawn K))
    (D3 : DefT K mg "_law_entry" s_entry g3 gd3) (G3 : FnOk P w K mg base CX0 1 g3 gd3 psEnt (sp_entry K)) (D4 : DefT K mg "_law_pick" s_pick g4 gd4) (G4 : FnOk P w K mg base CX0 2 g4 gd4 ["_law_choir_here", "_law_some"] (sp_pick K))
    (m1 : mg "range" = none) (m4 : mg "int" = none) : FnOk P w K mg base CX0 3 f fd psSing (sp_table K) := by
  have b2 : Binds K gd2 psSing [] := D2.F.binds fun _ _ _ _ _ _ us hl => match us, hl with | [_, _], _ => rfl
  have b3 : Binds K gd3 psEnt [] := D3.F.binds fun _ _ _ _ _ _ us hl => match us, hl with | [_, _, _, _], _ => rfl
  have b4 : Binds K gd4 ["_law_choir_here", "_law_some"] [] := D4.F.binds fun _ _ _ _ _ _ us hl => match us, hl with | [_, _], _ => rfl
  refine F.ok sc_table (fun vs H Q E h => ?_) (fun cdv A outer s H vs Q E hr h => ?_)
  · obtain ⟨p, n, T, G, rfl, _⟩ := h
    rfl
  · obtain ⟨p, n, T, G, rfl, hC, sg, hn3, hn7, hT, k⟩ := h
    have hr1 := hr.mono (show 1 ≤ 2 by decide)
    refine ⟨_, pss_cons (ps_if (pt_cmpR op_eq (pe_call S.G hr1 rfl S.D.g S.D.F.kp S.b .nil pass0 (pa_cons (pv 0) (pa_cons pe_int pa_nil))) pe_int (nomark _))
        (pss_cons (ps_setLc (i := 2) (own := [("_law_one", 3)]) (g := gName 3) (tt := tYes) (by rfl) sc_table.nd rfl rfl (sw_true rfl rfl rfl (by decide +kernel)) (pi_range1 rfl m1 (pa_cons (pv 1) pa_nil)) (blkOk_by (own := [("_law_one", 3)]) (N := Ntab) (sc := defScope s_table) (by decide +kernel)) (fun _ _ _ _ _ => pg_name (i := 3) sc_table.nd rfl (Or.inl rfl)) (fun _ _ _ _ _ => pts_nil)
            (fun _ _ _ _ _ => pe_op op_rep (pe_lst (pa_cons pe_int pa_nil)) (pv 1)))
        (pss_cons (ps_for PassesOwn.never rfl (pi_range1 rfl m1 (pa_cons (pe_call S.G hr1 rfl S.D.g S.D.F.kp S.b .nil pass0 (pa_cons (pv 0) (pa_cons pe_int pa_nil))) pa_nil)) (pg_name (i := 4) sc_table.nd rfl (Or.inl rfl))
          (pss_cons (ps_par (i := 3) (j := 5) (by rfl) sc_table.nd rfl rfl (by decide) rfl rfl (pa_cons (pe_call S.G hr1 rfl S.D.g S.D.F.kp S.b .nil pass0 (pa_cons (pv 0) (pa_cons (pv 1) pa_nil))) (pa_cons (pe_call S.G hr1 rfl S.D.g S.D.F.kp S.b .nil pass0 (pa_cons (pv 0) (pa_cons (pv 1) pa_nil))) pa_nil)) (by rfl))
          (pss_cons (ps_set (i := 6) sc_table.nd rfl (Or.inl rfl) (pe_op op_mul (pe_op op_sub (pe_call S.G hr1 rfl S.D.g S.D.F.kp S.b .nil pass0 (pa_cons (pv 0) (pa_cons pe_int pa_nil))) pe_int) (pe_callTy call_int1 (by rfl) m4 (by decide +kernel) (pa_cons (pe_cmpR op_ne (pv 3) (pv 5) (nomark _)) pa_nil))))
          (pss_cons (ps_asg (pv 6) (pg_sub (pe_ix ix_list (pv 2) (pv 3) (fun _ _ => rfl)) (pv 5) set_list))
          (pss_one (ps_asg (pe_un un_neg (pv 6)) (pg_sub (pe_ix ix_list (pv 2) (pv 5) (fun _ _ => rfl)) (pv 3) set_list)))))))
        (pss_one (ps_ret (pv 2))))) pss_nil)
      (pss_cons (ps_set (i := 7) sc_table.nd rfl (Or.inr rfl) (pe_call G2 hr rfl D2.g D2.F.kp b2 .nil pass0 (pa_cons (pv 0) (pa_cons (pv 1) pa_nil))))
      (pss_cons (ps_setLc (i := 2) (own := [("_law_one", 3)]) (g := gName 3) (tt := tYes) (by rfl) sc_table.nd rfl rfl (sw_true rfl rfl rfl (by decide +kernel)) (pi_range1 rfl m1 (pa_cons (pv 1) pa_nil)) (blkOk_by (own := [("_law_one", 3)]) (N := Ntab) (sc := defScope s_table) (by decide +kernel)) (fun _ _ _ _ _ => pg_name (i := 3) sc_table.nd rfl (Or.inr rfl)) (fun _ _ _ _ _ => pts_nil)
          (fun _ _ _ _ _ => pe_lc (own := [("_law_other", 5)]) (g := gName 5) (tt := tYes) (by rfl) sc_table.nd (pi_range1 rfl m1 (pa_cons (pv 1) pa_nil)) (blkOk_by (own := [("_law_other", 5)]) (N := Ntab) (sc := scTabIn) (by decide +kernel)) (fun _ _ _ _ _ => pg_name (i := 5) sc_table.nd rfl (Or.inl rfl)) (fun _ _ _ _ _ => pts_nil)
            (fun _ _ _ _ _ => pe_ifExp (pt_cmpR op_ne (pv 3) (pv 5) (nomark _)) (pe_call G3 hr1 rfl D3.g D3.F.kp b3 .nil pass0 (pa_cons (pv 1) (pa_cons (pv 7) (pa_cons (pv 3) (pa_cons (pv 5) pa_nil))))) pe_int)))
      (pss_cons (ps_if (pt_cmpR op_eq (pe_call S.G hr1 rfl S.D.g S.D.F.kp S.b .nil pass0 (pa_cons (pv 0) (pa_cons pe_int pa_nil))) pe_int (nomark _))
        (pss_cons (ps_par (i := 3) (j := 5) (by rfl) sc_table.nd rfl rfl (by decide) rfl rfl (pa_cons (pe_call S.G hr1 rfl S.D.g S.D.F.kp S.b .nil pass0 (pa_cons (pv 0) (pa_cons (pv 1) pa_nil))) (pa_cons (pe_call S.G hr1 rfl S.D.g S.D.F.kp S.b .nil pass0 (pa_cons (pv 0) (pa_cons (pv 1) pa_nil))) pa_nil)) (by rfl))
        (pss_cons (ps_set (i := 8) sc_table.nd rfl (Or.inl rfl) (pe_op op_mul (pe_call G4 hr rfl D4.g D4.F.kp b4 .nil pass0 (pa_cons (pv 0) (pa_cons (pe_lst (pa_cons pe_int (pa_cons (pe_un un_neg pe_int) (pa_cons pe_int pa_nil)))) pa_nil))) (pe_callTy call_int1 (by rfl) m4 (by decide +kernel) (pa_cons (pe_cmpR op_ne (pv 3) (pv 5) (nomark _)) pa_nil))))
        (pss_cons (ps_asg (pe_op op_add (pe_ix ix_list (pe_ix ix_list (pv 2) (pv 3) (fun _ _ => rfl)) (pv 5) (fun _ _ => rfl)) (pv 8)) (pg_sub (pe_ix ix_list (pv 2) (pv 3) (fun _ _ => rfl)) (pv 5) set_list))
        (pss_one (ps_asg (pe_op op_sub (pe_ix ix_list (pe_ix ix_list (pv 2) (pv 5) (fun _ _ => rfl)) (pv 3) (fun _ _ => rfl)) (pv 8)) (pg_sub (pe_ix ix_list (pv 2) (pv 5) (fun _ _ => rfl)) (pv 3) set_list)))))) pss_nil)
      (pss_one (ps_ret (pv 2)))))), ?_⟩
    have hmemp : ∀ {H' : Hp} {o : HO} {b : Addr}, H' p = some o → H' b = none → b ≠ p := fun {H' o b} hp hb z => by rw [z, hp] at hb; cases hb
    have hpn : ∀ {Ga Ha : Hp} {T' : Int}, Choir K Ga Ha p T' → Ha p ≠ none := fun {Ga Ha T'} ⟨_, _, _, _, h, _⟩ z => by rw [h] at z; cases z
    have hpg : ∀ {Ga Ha : Hp} {T' : Int}, Choir K Ga Ha p T' → Ga p = none := fun {Ga Ha T'} ⟨_, _, _, _, _, h, _⟩ => h
    refine ⟨_, rfl, p, 4, T, G, rfl, hC, sg, by omega, by omega, by omega, fun r H1 hr0 hr1' st1 hC1 => ?_⟩
    refine ⟨rfl, _, rfl, ?_⟩
    refine ite2 (fun _ => ?_) (fun _ => ?_)
    · -- a table of few marks
      refine ⟨_, rfl, (n : Int), rfl, by omega, by omega, fun Dl hDl => ?_⟩
      have en : ((n : Int)).toNat = n := by omega
      have sg1 : Same G H1 := st1.sub
      have gD : G Dl = none := sg1.free hDl
      refine lc_it walk_range (fun i H2 => ∃ rs : List Addr, H2 Dl = some (.lst (rs.map V.ref)) ∧ RowsP (upd H1 Dl (.lst [])) H2 rs (List.replicate i (List.replicate n 0)) ∧ Stp [Dl] G (upd H1 Dl (.lst [])) G H2)
        ⟨[], upd_same, RowsP.nil, Stp.refl (same_upd sg1 gD)⟩ (fun _ _ _ _ => trivial) ?_ ?_
      · rintro i x H2 H3 hi ⟨rs, f1, f2, st2⟩ ⟨rfl, rfl⟩
        refine ⟨rfl, ?_⟩
        refine yesT ?_
        refine ⟨(by show 1 ≤ sizeLine; decide), fun b1 hb1 => ⟨_, rfl, b1, (n : Int), _, rfl, rfl, upd_same, by omega, by omega, by rw [sizeLine_eq]; simp only [List.length_cons, List.length_nil]; omega, fun b hb => ?_⟩⟩
        have nb1 : Dl ≠ b1 := ne_of_none f1 hb1
        have hb' : H3 b = none := (Stp.hn (ms := []) ((Stp.refl st2.sub).priv hb1) hb)
        have nb : Dl ≠ b := ne_of_none f1 hb'
        have hbr : b ∉ rs := fun z => by
          obtain ⟨_, _, _, q, _⟩ := f2.mem z
          rw [hb'] at q; cases q
        have hbr1 : b1 ∉ rs := fun z => by
          obtain ⟨_, _, _, q, _⟩ := f2.mem z
          rw [hb1] at q; cases q
        have hDr : Dl ∉ rs := fun z => by
          obtain ⟨_, _, _, _, q⟩ := f2.mem z
          rw [upd_same] at q; cases q
        have el : (List.replicate ((n : Int)).toNat [V.int 0]).flatten = (List.replicate n (0 : Int)).map V.int := by
          rw [en, List.map_replicate]
          clear hn3 hn7
          induction n with
          | zero => rfl
          | succ n ih => simp [List.replicate_succ]
        rw [el]
        refine ⟨rs.map V.ref, by rw [upd_ne nb, upd_ne nb1]; exact f1, by rw [List.length_map, f2.1, List.length_replicate, sizeLine_eq]; omega, rs ++ [b], by rw [upd_same, List.map_append]; rfl, ?_, ?_⟩
        · rw [show List.replicate (i + 1) (List.replicate n (0 : Int)) = List.replicate i (List.replicate n 0) ++ [List.replicate n 0] from List.replicate_succ']
          refine ((((f2.upd hbr1).upd hbr).upd hDr).push hbr (st2.hn hb') ?_)
          rw [upd_ne nb.symm, upd_same]
        · exact ((st2.priv hb1).priv hb).write gD (.inl (List.mem_singleton.mpr rfl))
      · rintro H2 ⟨rs, f1, f2, st2⟩
        rw [en] at f2
        have hD0 : H1 Dl = none := hDl
        have hDr : Dl ∉ rs := fun z => by
          obtain ⟨_, _, _, _, q⟩ := f2.mem z
          rw [upd_same] at q; cases q
        have ts : TS H1 H2 Dl (List.replicate n (List.replicate n 0)) := ⟨rs, f1, f2.rebase fun b hb => by
          by_cases e : b = Dl
          · rw [e]; exact hD0
          · rwa [upd_ne e] at hb, hD0, hDr⟩
        have st3 : Stp [p] G H G H2 := Stp.shrink (Stp.own st1 hDl st2)
        have npD : Dl ≠ p := fun z => by rw [z] at hD0; exact hpn hC1 hD0
        have hC2 : Choir K G H2 p (T + 1) := by
          obtain ⟨q5, cs5, t5, r5, h5, hr5⟩ := hC1
          exact ⟨q5, cs5, t5, r5, st2.at (fun z => npD (List.mem_singleton.mp z).symm) (by rw [upd_ne npD.symm]; exact h5), hr5⟩
        have hb0 : ∀ b, H1 b = none → H b = none := fun b hb => st1.hn hb
        have hg0 : ∀ b, H1 b = none → G b = none := fun b hb => sg1.free hb
        have hp1 := hpn hC1
        refine ⟨_, rfl, p, 5, T + 1, G, rfl, hC2, st3.sub, by omega, by omega, by omega, fun r2 H3 h20 h21 st4 hC3 => ?_⟩
        refine ⟨r2, rfl, by omega, by omega, ?_⟩
        refine for_range (lo := 0) (n := r2.toNat) (fun i σ H4 => ∃ (t : List (List Int)) (o3 o4 o5 o6 : Option V), σ = [some (.ref p), some (.int n), some (.ref Dl), o3, o4, o5, o6, none, none] ∧ Tab n 2 t ∧ TS H1 H4 Dl t ∧ Stp [p] G H G H4 ∧ Choir K G H4 p (T + 2 + 3 * i))
          ⟨_, _, _, _, _, rfl, (tab0 n).le (by decide), ts.step st4 hp1, st3.trans st4, hC3.le (by omega)⟩ ?_ ?_
        · rintro i σ H4 hi ⟨t, o3, o4, o5, o6, rfl, tb, tsx, st5, hC4⟩
          refine ⟨_, rfl, _, rfl, p, (n : Int), _, G, rfl, hC4, st5.sub, by omega, by omega, by omega, fun a H5 ha0 ha1 st6 hC5 => ?_⟩
          refine ⟨_, rfl, _, rfl, p, (n : Int), _, G, rfl, hC5, st6.sub, by omega, by omega, by omega, fun c H6 hc0 hc1 st7 hC6 => ?_⟩
          refine ⟨_, _, rfl, ?_⟩
          refine ⟨_, rfl, p, 5, _, G, rfl, hC6, st7.sub, by omega, by omega, by omega, fun e H7 he0 he1 st8 hC7 => ?_⟩
          refine ⟨_, _, rfl, rfl, _, rfl, _, rfl, rfl, .inr ⟨_, rfl, _, _, rfl, rfl, .inl ⟨by omega, by omega⟩, ?_⟩⟩
          refine pin (P := fun z => gName 6 (V.int z) _ _ _) ((e - 2) * (if !decide (V.int a = V.int c) then 1 else 0)) fun y hy => ?_
          have hye : (-2 ≤ y ∧ y ≤ 2) ∧ (a.toNat = c.toNat → y = 0) := by
            rw [hy, dcInt]
            by_cases eac : a = c
            · rw [decide_eq_true eac]
              exact ⟨by simp, fun _ => by simp⟩
            · rw [decide_eq_false eac]
              exact ⟨by simp; omega, fun z => by omega⟩
          have ts7 := ((tsx.step st6 hp1).step st7 hp1).step st8 hp1
          have st9 := st5.trans (st6.trans (st7.trans st8))
          have ln := tb.ln
          obtain ⟨us, b, u1, u2, u3, u4, u5, u6⟩ := ts7.row (i := a.toNat) (by omega)
          refine ⟨_, rfl, _, rfl, _, rfl, Dl, us, a, .ref b, rfl, rfl, SqL.of u1, atI_v ha0 u3, _, rfl, b, _, c, c.toNat, rfl, rfl, u4, ixN_row (tb.sq _ (by omega)) hc0 hc1, ?_⟩
          have ts8 := u6 c.toNat y
          have st10 := st9.write (o := HO.lst (((row t a.toNat).map V.int).set c.toNat (.int y))) (hg0 b u5) (.inr (hb0 b u5))
          obtain ⟨us2, b2, v1, v2, v3, v4, v5, v6⟩ := ts8.row (i := c.toNat) (by rw [put2_len]; omega)
          have ts9 := v6 a.toNat (-y)
          have tb2 := tb.set (a := a.toNat) (b := c.toNat) (e := y) (by omega) (by omega) hye.1 hye.2
          have sq2 : (row (put2 t a.toNat c.toNat y) c.toNat).length = n := by
            rw [row_put2 (by omega)]
            split
            · rw [List.length_set]; exact tb.sq _ (by omega)
            · exact tb.sq _ (by omega)
          refine ⟨_, rfl, _, rfl, _, rfl, _, rfl, Dl, us2, c, .ref b2, rfl, rfl, SqL.of v1, atI_v hc0 v3, _, rfl, b2, _, a, a.toNat, rfl, rfl, v4, ixN_row sq2 ha0 ha1, ?_⟩
          have st11 := st10.write (o := HO.lst (((row (put2 t a.toNat c.toNat y) c.toNat).map V.int).set a.toNat (.int (-y)))) (hg0 b2 v5) (.inr (hb0 b2 v5))
          refine ⟨_, _, _, _, _, rfl, tb2, ts9, st11, ?_⟩
          have hnb : p ≠ b := fun z => by rw [← z] at u5; exact hp1 u5
          have hnb2 : p ≠ b2 := fun z => by rw [← z] at v5; exact hp1 v5
          obtain ⟨q5, cs5, t5, r5, h5, g5, hr5⟩ := hC7.le (T' := T + 2 + 3 * ((i + 1 : Nat) : Int)) (by omega)
          exact ⟨q5, cs5, t5, r5, by rw [upd_ne hnb2, upd_ne hnb]; exact h5, g5, hr5⟩
        · rintro σ H4 ⟨t, o3, o4, o5, o6, rfl, tb, tsx, st5, hC4⟩
          obtain ⟨G', us, w1, w2, w3, w4, w5, w6⟩ := tsx.freeze (K := K) st5 hb0 hg0
          have ln := tb.ln
          refine ⟨_, rfl, k Dl us t G' H4 (tb.le (by decide)) w1 (Choir.grow (hC4.le (T' := T + 200) (by omega)) w5 (w6 p hp1 (hpg hC4))) w2 (by omega) fun i hi => w4 i (by omega)⟩
    · -- the table of drawn places
      refine ⟨_, rfl, _, rfl, p, n, T + 1, G, rfl, hC1, st1.sub, hn3, hn7, by omega, fun l0 ns G1 H2 hlen hB st2 hC2 hS => ?_⟩
      subst hlen
      have st12 := st1.trans st2
      have sg2 : Same G1 H2 := st2.sub
      refine ⟨_, rfl, (ns.length : Int), rfl, by omega, by omega, fun Dl hDl => ?_⟩
      have en : ((ns.length : Int)).toNat = ns.length := by omega
      have gD : G1 Dl = none := sg2.free hDl
      refine lc_it walk_range (fun i H3 => ∃ rs : List Addr, H3 Dl = some (.lst (rs.map V.ref)) ∧ RowsP (upd H2 Dl (.lst [])) H3 rs ((List.range i).map fun i => (List.range ns.length).map fun j => if i = j then 0 else lent ns i j) ∧ Stp [Dl] G1 (upd H2 Dl (.lst [])) G1 H3)
        ⟨[], upd_same, RowsP.nil, Stp.refl (same_upd sg2 gD)⟩ (fun _ _ _ _ => trivial) ?_ ?_
      · rintro i x H3 H4 hi ⟨rs, f1, f2, st3⟩ ⟨rfl, rfl⟩
        rw [en] at hi
        refine ⟨rfl, ?_⟩
        refine yesT ?_
        refine ⟨_, rfl, (ns.length : Int), rfl, by omega, by omega, fun D2 hD2 => ?_⟩
        refine lc_pure (G0 := G1) walk_range (fun j v _ => v = V.int (if i = j then 0 else lent ns i j)) (fun i v G G' s h => h) (by omega) st3.sub hD2 (fun _ _ _ => trivial) ?_ ?_
        · rintro j x G4 H5 H6 Qy hj st4 ⟨rfl, rfl⟩ hq
          rw [en] at hj
          refine ⟨rfl, _, rfl, _, rfl, rfl, _, rfl, ?_⟩
          rw [dcInt]
          by_cases e : i = j
          · rw [decide_eq_true (show 0 + (i : Int) = 0 + (j : Int) by omega)]
            refine iteF ?_
            refine hq _ G4 _ (Stp.refl st4.sub) ?_
            rw [if_pos e]
          · rw [decide_eq_false (show ¬ 0 + (i : Int) = 0 + (j : Int) by omega)]
            refine iteT ?_
            refine ⟨_, rfl, _, rfl, _, rfl, _, rfl, l0, ns, i, j, G4, ?_, .inr (SqL.ext hS st4.gg), st4.sub, by omega, by omega, fun x hx => by have := hB x hx; omega, hi, hj, fun G5 H7 st5 => hq _ G5 H7 st5 ?_⟩
            · show [V.int (ns.length : Int), V.ref l0, V.int (0 + (i : Int)), V.int (0 + (j : Int))] = _
              rw [Int.zero_add, Int.zero_add]
            · rw [if_neg e]
        · intro G4 H5 ys st4 hl hg hyl hrel
          rw [en] at hyl
          have eys : ys = ((List.range ns.length).map fun j => if i = j then 0 else lent ns i j).map V.int := by
            refine List.ext_getElem? fun j => ?_
            by_cases hj : j < ns.length
            · have h1 : j < ys.length := by omega
              rw [List.getElem?_eq_getElem h1, hrel j ys[j] (List.getElem?_eq_getElem h1), List.getElem?_map, List.getElem?_map, List.getElem?_range hj]
              rfl
            · rw [List.getElem?_eq_none (by omega), List.getElem?_eq_none (by simp; omega)]
          subst eys
          have st5 : Stp [Dl] G1 (upd H2 Dl (.lst [])) G1 H5 := Stp.shrink (Stp.own st3 hD2 st4)
          have nD : Dl ≠ D2 := ne_of_none f1 hD2
          have keep : ∀ (b : Addr) (o : HO), b ≠ D2 → H4 b = some o → H5 b = some o := fun b o hb ho => st4.at (fun z => hb (List.mem_singleton.mp z)) (by rw [upd_ne hb]; exact ho)
          have hbr : D2 ∉ rs := fun z => by
            obtain ⟨_, _, _, q, _⟩ := f2.mem z
            rw [hD2] at q; cases q
          have hDr : Dl ∉ rs := fun z => by
            obtain ⟨_, _, _, _, q⟩ := f2.mem z
            rw [upd_same] at q; cases q
          have h0D2 : upd H2 Dl (.lst []) D2 = none := st3.hn hD2
          have f3 : RowsP (upd H2 Dl (.lst [])) H5 rs ((List.range i).map fun i => (List.range ns.length).map fun j => if i = j then 0 else lent ns i j) := ⟨f2.1, fun k hk => let ⟨b, h1, h2, h3⟩ := f2.2.1 k hk; ⟨b, h1, keep b _ (fun z => by rw [z, hD2] at h2; cases h2) h2, h3⟩, f2.2.2⟩
          refine ⟨rs.map V.ref, keep _ _ nD f1, by rw [List.length_map, f2.1, List.length_map, List.length_range, sizeLine_eq]; omega, rs ++ [D2], by rw [upd_same, List.map_append]; rfl, ?_, ?_⟩
          · rw [List.range_succ, List.map_append]
            refine (f3.upd hDr).push hbr h0D2 ?_
            rw [upd_ne nD.symm]
            exact hl
          · exact st5.write gD (.inl (List.mem_singleton.mpr rfl))
      · rintro H3 ⟨rs, f1, f2, st3⟩
        rw [en] at f2
        have hD0 : H2 Dl = none := hDl
        have hDr : Dl ∉ rs := fun z => by
          obtain ⟨_, _, _, _, q⟩ := f2.mem z
          rw [upd_same] at q; cases q
        have ts : TS H2 H3 Dl ((List.range ns.length).map fun i => (List.range ns.length).map fun j => if i = j then 0 else lent ns i j) := ⟨rs, f1, f2.rebase fun b hb => by
          by_cases e : b = Dl
          · rw [e]; exact hD0
          · rwa [upd_ne e] at hb, hD0, hDr⟩
        have st4 : Stp [p] G1 H2 G1 H3 := Stp.shrink (Stp.own (Stp.refl sg2) hDl st3)
        have npD : Dl ≠ p := fun z => by rw [z] at hD0; exact hpn hC2 hD0
        have hC3 : Choir K G1 H3 p (T + 1 + 100) := by
          obtain ⟨q5, cs5, t5, r5, h5, hr5⟩ := hC2
          exact ⟨q5, cs5, t5, r5, st3.at (fun z => npD (List.mem_singleton.mp z).symm) (by rw [upd_ne npD.symm]; exact h5), hr5⟩
        have hb0 : ∀ b, H2 b = none → H b = none := fun b hb => st12.hn hb
        have hg0 : ∀ b, H2 b = none → G1 b = none := fun b hb => sg2.free hb
        have hp1 := hpn hC2
        have tb := tab_lent hB
        have fin : ∀ {H' : Hp} {t : List (List Int)} {T' : Int}, Tab ns.length 209 t → TS H2 H' Dl t → Stp [p] G1 H2 G1 H' → Choir K G1 H' p T' → T' ≤ T + 200 → Q (.ref Dl) H' := fun {H' t T'} tb' ts' st' hC' hT' => by
          obtain ⟨G', us, w1, w2, w3, w4, w5, w6⟩ := ts'.freeze (K := K) (st12.trans st') hb0 hg0
          have ln := tb'.ln
          exact k Dl us t G' H' (tb'.le (by decide)) w1 (Choir.grow (hC'.le hT') w5 (w6 p hp1 (hpg hC'))) w2 (by omega) fun i hi => w4 i (by omega)
        refine ⟨_, rfl, p, 2, _, G1, rfl, hC3, st4.sub, by omega, by omega, by omega, fun r2 H4 h20 h21 st5 hC4 => ?_⟩
        refine ⟨rfl, _, rfl, ?_⟩
        refine ite2 (fun _ => ?_) (fun _ => ?_)
        · refine ⟨_, rfl, _, rfl, p, (ns.length : Int), _, G1, rfl, hC4, st5.sub, by omega, by omega, by omega, fun a H5 ha0 ha1 st6 hC5 => ?_⟩
          refine ⟨_, rfl, _, rfl, p, (ns.length : Int), _, G1, rfl, hC5, st6.sub, by omega, by omega, by omega, fun c H6 hc0 hc1 st7 hC6 => ?_⟩
          refine ⟨_, _, rfl, ?_⟩
          have ts6 := ((ts.step st5 hp1).step st6 hp1).step st7 hp1
          have st8 := st4.trans (st5.trans (st6.trans st7))
          refine ⟨_, rfl, _, rfl, (by show 3 ≤ sizeLine; decide), fun al hal => ?_⟩
          have st9 := st8.priv (o := HO.lst [V.int 1, V.int (-1), V.int 2]) hal
          have npa : al ≠ p := fun z => by rw [z] at hal; exact hpn hC6 hal
          have hC7 : Choir K G1 (upd H6 al (.lst [V.int 1, V.int (-1), V.int 2])) p (T + 1 + 100 + 1 + 1 + 1) := by
            obtain ⟨q5, cs5, t5, r5, h5, hr5⟩ := hC6
            exact ⟨q5, cs5, t5, r5, by rw [upd_ne npa.symm]; exact h5, hr5⟩
          refine ⟨p, al, [1, -1, 2], _, G1, rfl, hC7, st9.sub, upd_same, npa, (by decide), (by decide), by omega, fun e H7 he st10 hC8 => ?_⟩
          have he2 : -2 ≤ e ∧ e ≤ 2 := by
            simp only [List.mem_cons, List.not_mem_nil, or_false] at he
            omega
          have ts7 : TS H2 H7 Dl _ := (by
            obtain ⟨rs', h1, h2, h3, h4⟩ := ts6
            have nal : al ≠ Dl := fun z => by rw [z, h1] at hal; cases hal
            have : TS H2 (upd H6 al (.lst [V.int 1, V.int (-1), V.int 2])) Dl _ := ⟨rs', by rw [upd_ne nal.symm]; exact h1, h2.upd (fun z => by
              obtain ⟨_, _, _, q, _⟩ := h2.mem z
              rw [hal] at q; cases q), h3, h4⟩
            exact this.step st10 hp1)
          have st11 := st9.trans st10
          refine ⟨_, rfl, _, rfl, rfl, .inr ⟨_, rfl, _, _, rfl, rfl, .inl ⟨by omega, by omega⟩, ?_⟩⟩
          refine pin (P := fun z => gName 8 (V.int z) _ _ _) (e * (if !decide (V.int a = V.int c) then 1 else 0)) fun y hy => ?_
          have hye : (-2 ≤ y ∧ y ≤ 2) ∧ (a.toNat = c.toNat → y = 0) := by
            rw [hy, dcInt]
            by_cases eac : a = c
            · rw [decide_eq_true eac]
              exact ⟨by simp, fun _ => by simp⟩
            · rw [decide_eq_false eac]
              exact ⟨by simp; omega, fun z => by omega⟩
          have ln := tb.ln
          obtain ⟨t, ht⟩ : ∃ t, t = ((List.range ns.length).map fun i => (List.range ns.length).map fun j => if i = j then 0 else lent ns i j) := ⟨_, rfl⟩
          rw [← ht] at ts7 tb ln
          have hac := tb.op a.toNat c.toNat (by omega) (by omega)
          have hbd := tb.bd a.toNat c.toNat (by omega) (by omega)
          obtain ⟨us, b, u1, u2, u3, u4, u5, u6⟩ := ts7.row (i := a.toNat) (by omega)
          have sqa := tb.sq a.toNat (by omega)
          refine ⟨_, rfl, _, rfl, Dl, us, a, .ref b, rfl, rfl, SqL.of u1, atI_v ha0 u3, _, rfl, b, _, c, .int (at2 t a.toNat c.toNat), rfl, rfl, SqL.of u4, atI_i hc0 (by omega), _, rfl, _, _, rfl, rfl, ?_⟩
          refine ⟨_, rfl, _, rfl, Dl, us, a, .ref b, rfl, rfl, SqL.of u1, atI_v ha0 u3, _, rfl, b, _, c, c.toNat, rfl, rfl, u4, ixN_row sqa hc0 hc1, ?_⟩
          have ts8 := u6 c.toNat (at2 t a.toNat c.toNat + y)
          have st12' := st11.write (o := HO.lst (((row t a.toNat).map V.int).set c.toNat (.int (at2 t a.toNat c.toNat + y)))) (hg0 b u5) (.inr u5)
          obtain ⟨us2, b2, v1, v2, v3, v4, v5, v6⟩ := ts8.row (i := c.toNat) (by rw [put2_len]; omega)
          have sq2 : (row (put2 t a.toNat c.toNat (at2 t a.toNat c.toNat + y)) c.toNat).length = ns.length := by
            rw [row_put2 (by omega)]
            split
            · rw [List.length_set]; exact sqa
            · exact tb.sq _ (by omega)
          refine ⟨_, rfl, _, rfl, Dl, us2, c, .ref b2, rfl, rfl, SqL.of v1, atI_v hc0 v3, _, rfl, b2, _, a, .int (at2 (put2 t a.toNat c.toNat (at2 t a.toNat c.toNat + y)) c.toNat a.toNat), rfl, rfl, SqL.of v4, atI_i ha0 (by omega), _, rfl, _, _, rfl, rfl, ?_⟩
          have ev : at2 (put2 t a.toNat c.toNat (at2 t a.toNat c.toNat + y)) c.toNat a.toNat - y = -(at2 t a.toNat c.toNat + y) := by
            rw [at2_put2 (by omega) (by omega)]
            by_cases ec : c.toNat = a.toNat
            · have y0 := hye.2 ec.symm
              rw [if_pos ⟨ec, ec.symm⟩]
              rw [ec] at hac ⊢
              omega
            · rw [if_neg (fun z => ec z.1)]
              omega
          refine ⟨_, rfl, _, rfl, Dl, us2, c, .ref b2, rfl, rfl, SqL.of v1, atI_v hc0 v3, _, rfl, b2, _, a, a.toNat, rfl, rfl, v4, ixN_row sq2 ha0 ha1, ?_⟩
          have st13 := st12'.write (o := HO.lst (((row (put2 t a.toNat c.toNat (at2 t a.toNat c.toNat + y)) c.toNat).map V.int).set a.toNat (.int (at2 (put2 t a.toNat c.toNat (at2 t a.toNat c.toNat + y)) c.toNat a.toNat - y)))) (hg0 b2 v5) (.inr v5)
          have ts9 := v6 a.toNat (at2 (put2 t a.toNat c.toNat (at2 t a.toNat c.toNat + y)) c.toNat a.toNat - y)
          have hnb : p ≠ b := fun z => by rw [← z] at u5; exact hp1 u5
          have hnb2 : p ≠ b2 := fun z => by rw [← z] at v5; exact hp1 v5
          refine ⟨_, rfl, fin (T' := T + 1 + 100 + 1 + 1 + 1 + 1) ?_ ts9 st13 ?_ (by omega)⟩
          · rw [ev]
            refine (tb.le (C := 209) (by decide)).set (by omega) (by omega) (by omega) fun z => ?_
            have y0 := hye.2 z
            rw [z] at hac ⊢
            omega
          · obtain ⟨q5, cs5, t5, r5, h5, g5, hr5⟩ := hC8
            exact ⟨q5, cs5, t5, r5, by rw [upd_ne hnb2, upd_ne hnb]; exact h5, g5, hr5⟩
        · exact ⟨_, rfl, fin (T' := T + 1 + 100 + 1) (tb.le (by decide)) (ts.step st5 hp1) (st4.trans st5) hC4 (by omega)⟩
end
end B90
set_option Elab.async false
set_option linter.all false
set_option maxRecDepth 100000
set_option maxHeartbeats 4000000
namespace BayE
open PySem PySem.Spec PyProof.Rows L2
/-! ### a def's call at one known surrounding (so the guards in progress may be told) -/
theorem fn_at {P : Program} {w : World} {K : PySem.W.Frag} {mg : Str → Option Value} {base : Heap} {k : Nat} {f : Addr} {name qual : Str} {params : Arguments} {body : List Stmt} {scope : Scope} {dV kV doc pm cdv ct oc : Value} {an od : Option Addr}
    {osl : Array (Option Value)} {N ps : List Str} {A : Around} {outer : List Env} {s : Shared} {H : Hp} {args : Args} {us : List Value} {vs : List V} {Q : VK} {E : XK}
    (lk : K.lookup f = some ⟨oc, od, .func (PySem.W.fnOf name qual params body scope dV kV doc pm an cdv ct), osl⟩) (cod : PySem.W.codeIn K cdv qual = true) (S : FnScope N ps scope) (room : Room (k + 1) A) (e0 : Env0 P w K mg base A outer s H)
    (bnd : BindsTo s (PySem.W.fnOf name qual params body scope dV kV doc pm an cdv ct) args (ps.zip us)) (rel : Vals vs us) (len : vs.length = ps.length)
    (go : ∃ t, PSs (cxOf CX0 P w K mg base N qual scope f cdv A outer s H E).nox body t ∧ t { nx := fun _ H' => Q .non H', rt := Q } (start N vs) H) :
    codeAny (model P w) A (.call (.ref f) args) (CR CX0 outer P w H s Q E) s := by
  have inK := e0.mod.kin.keeps fun b o z => (e0.bs b o z).1
  have noLim := e0.mod.nolimit.keeps fun b o z => (e0.bs b o z).1
  have kinds : ∀ y ∈ ps.zip us, scope.names.lookup y.1 = some .local ∨ (scope.names.lookup y.1 = some .cell ∧ ((cellsFrom (s.heap.objs.size + 1) scope.names []).lookup y.1).isSome = true) := by
    rintro ⟨n, v⟩ hy
    rcases S.par n (List.of_mem_zip hy).1 with z | z
    · exact .inl z
    · exact .inr ⟨z, PySem.W.cellsFrom_some _ _ _ (.inl z)⟩
  obtain ⟨t, steps0, goal⟩ := go
  have steps := steps0.nox
  refine codeAny_call_function room.depth (inK _ _ lk) rfl S.co S.gen rfl (PySem.W.codeRec_of inK cod) (bnd _ _ _ _ ?_)
  refine wpAny_newFunctionEnv_cells S.kind kinds fun env he s1 x => ?_
  subst he
  refine ⟨noLim.keeps x.toInCall.keep, codeAny_func ?_⟩
  have I := inv_start (CX := CX0) (E := E) S room.hd e0 len rel x
  refine wpAny_mono (steps.run [] s1 (start N vs) H _ I goal) (fun fl s' hs => ?_) fun e s' hs => hs
  have done : ∀ {σ' : L2.St} {H' : Hp} {v : V} {u : Value}, Inv (cxOf CX0 P w K mg base N qual scope f cdv A outer s H E) [] σ' H' s' → RelV v u → Q v H' → CE outer P w H s Q u s' :=
    fun {σ' H' v u} J rv q => ⟨v, H', J.os, J.bare, J.base, J.hok, rv, q⟩
  match fl, hs with
  | .ret u, ⟨v, σ', H', J, rv, q⟩ => exact done J rv q
  | .next, ⟨σ', H', J, q⟩ => exact done (v := V.non) (u := Value.none) J rfl q
  | .brk, ⟨_, _, _, q⟩ => exact q.elim
  | .cont, ⟨_, _, _, q⟩ => exact q.elim
/-- what is to be shown of the law's def: it hands back True, in the claim's own surrounding -/
def LawRun (P : Program) (w : World) (K : PySem.W.Frag) (mg : Str → Option Value) (base : Heap) (fa : Addr) (n : Nat) : Prop :=
  ∀ (s : Shared) (H : Hp) (a : Addr) (ns : List Int), Env0 P w K mg base callerA [] s H → SqL K H a (ns.map V.int) → ns.length ≤ n →
    codeAny (model P w) callerA (.call (.ref fa) ⟨[.ref a], []⟩) (CR CX0 [] P w H s (fun v _ => v = .bl true) fun _ _ _ => False) s
/-- the heap that tells the script (where the module doesn't hold it itself) -/
def soleH (K : PySem.W.Frag) (a : Addr) (o : Obj) (xs : List V) : Hp := fun b => if b = a ∧ K.lookup a = none then some (.frz o (.lst xs)) else none
theorem soleH_some {K : PySem.W.Frag} {a b : Addr} {o : Obj} {xs : List V} {u : HO} (h : soleH K a o xs b = some u) : b = a ∧ K.lookup a = none ∧ u = .frz o (.lst xs) := by
  unfold soleH at h
  by_cases c : b = a ∧ K.lookup a = none
  · rw [if_pos c] at h
    cases h
    exact ⟨c.1, c.2, rfl⟩
  · rw [if_neg c] at h
    cases h
theorem run_at {P : Program} {w : World} {K : PySem.W.Frag} {mg mb : Str → Option Value} {fa a : Addr} {n : Nat} {z : Shared} {vs : List Value} {ns : List Int} (inK : K.In z.heap) (glob : z.heap.Ns mainGlobals mg) (blt : z.heap.Ns builtinsNs mb)
    (boot : ∀ x : Str, x ≠ "__name__" → mb x = bootBuiltins x) (noLim : z.heap.NoLimit) (gens : z.gens = #[]) (obj : z.heap.get? a = some { cls := .type "list", data := .seq vs.toArray }) (isI : IntsAre vs ns) (hn : n ≤ sizeLine) (hl : ns.length ≤ n)
    (R : ∀ base : Heap, K.In base → base.Ns mainGlobals mg → LawRun P w K mg base fa n) :
    codeAny (model P w) callerA (.call (.ref fa) ⟨[.ref a], []⟩) (fun r s' => r = .ok (.ret (.bool true)) ∧ OldK z.heap s'.heap ∧ s'.os = z.os ∧ AllBare s'.gens) z := by
  obtain ⟨H, eH⟩ : ∃ H, H = soleH K a { cls := .type "list", data := .seq vs.toArray } (ns.map V.int) := ⟨_, rfl⟩
  have told : ∀ {b u}, H b = some u → b = a ∧ K.lookup a = none ∧ u = .frz { cls := .type "list", data := .seq vs.toArray } (.lst (ns.map V.int)) := fun {b u} q => by
    rw [eH] at q
    exact soleH_some q
  have free : ∀ {b : Addr} {o : Obj}, z.heap.get? b = some o → o.data ≠ Data.seq vs.toArray → H b = none := fun {b o} e ne => by
    cases q : H b with
    | none => rfl
    | some u =>
      obtain ⟨eb, _⟩ := told q
      rw [eb, obj] at e
      cases e
      exact (ne rfl).elim
  have rv := vals_ints isI
  have hok : HOk P w H z.heap := fun b u q => by
    obtain ⟨rfl, _, rfl⟩ := told q
    exact ⟨obj, by rw [List.length_map]; exact Nat.le_trans hl hn, vs, _, rv, obj⟩
  have names : ∀ {b : Addr} {m : Str → Option Value}, z.heap.Ns b m → (hidT z.heap H).Ns b m := fun {b m} ⟨o, es, ep, e, d, r⟩ => ⟨o, es, ep, hidT_get e (free e fun q => by rw [d] at q; cases q), d, r⟩
  have inB : K.In (hidT z.heap H) := fun b o e => hidT_get (inK b o e) (by
    cases q : H b with
    | none => rfl
    | some u =>
      obtain ⟨rfl, h2, _⟩ := told q
      rw [h2] at e
      cases e)
  have e0 : Env0 P w K mg (hidT z.heap H) callerA [] z H :=
    { frames := rfl, mod := ⟨inB, names glob, ⟨mb, names blt, boot⟩, let ⟨mc, h1, h2⟩ := noLim; ⟨mc, names h1, h2⟩⟩, bs := fun b o e => of_hidT e, bsz := Nat.le_of_eq (hidT_size _ _), funs := trivial,
      frf := fun b q => absurd (show b ∈ ([] : List Addr) from q) (by simp), hok := hok, bare := .of_eq gens }
  have script : SqL K H a (ns.map V.int) := by
    cases q : K.lookup a with
    | some o =>
      have e := inK a o q
      rw [obj] at e
      cases e
      exact .inr ⟨_, vs.toArray, _, q, rfl, rfl, rfl, by rw [List.size_toArray, isI.length]; exact Nat.le_trans hl hn, by simpa using rv⟩
    | none => exact .inl (.inr ⟨{ cls := .type "list", data := .seq vs.toArray }, by rw [eH]; exact if_pos ⟨rfl, q⟩⟩)
  refine codeAny_mono (R _ inB (names glob) z H a ns e0 script hl) fun r s' h => ?_
  match r, h with
  | .ok (.ret u), h =>
    obtain ⟨v, H', os, bare, un, hok', rel, ev⟩ := h
    have ev' : v = .bl true := ev
    subst ev'
    obtain rfl : u = Value.bool true := rel
    refine ⟨rfl, OldK.of_keep fun b o e => ?_, os, bare⟩
    cases q : H b with
    | none => exact un.keep b o e q (fun m => absurd (show b ∈ ([] : List Addr) from m) (by simp)) (by simp)
    | some u =>
      obtain ⟨rfl, _, rfl⟩ := told q
      rw [obj] at e
      cases e
      exact (hok' _ _ (un.frzs _ _ _ q)).1
  | .ok .next, h => exact h.elim
  | .ok .brk, h => exact h.elim
  | .ok .cont, h => exact h.elim
  | .error e, h => exact h.elim
theorem walkG {l : PySem.W.OpenLaw} {n : Nat} {q : Program} {loose : List Str} {XP : (Str → Option Value) → Heap → Prop} {YP : World → Heap → Prop} {d : DefRec} {K : Params → PySem.W.Frag}
    (most : l.most = some n) (small : n ≤ sizeLine) (plain : d.params.defaults = []) (held : ∀ (w : World) (h : Heap), YP w h → (K w.params).In h)
    (R : ∀ (w : World) (mg : Str → Option Value) (fa : Addr) (h : Heap), (K w.params).In h → h.Ns mainGlobals mg → mg d.name = some (.ref fa) → ∀ base : Heap, (K w.params).In base → base.Ns mainGlobals mg → LawRun l.prog w (K w.params) mg base fa n) :
    PySem.W.WalkO q loose XP YP l.row.toRowW d [] (fun f vs => PySem.call f vs) :=
  Att.attach_call most plain fun w s₀ s₁ mg mb fa o pm cd doc a vs ns G Y ho hd hcd hmg hobj hints hlen hg =>
    run_at (held w _ Y) G.T.g G.T.b G.T.builtins G.T.nolimit hg hobj hints small hlen (R w mg fa _ (held w _ Y) G.T.g hmg)
end BayE
set_option Elab.async false
set_option linter.all false
set_option maxRecDepth 100000
set_option maxHeartbeats 4000000
namespace B90
open PySem L2 BayE
def tabD (t : List (List Int)) : PyData := .list (t.map fun r => PyData.list (r.map PyData.int))
theorem show_ints : ∀ {ns : List Int}, Bnd 2000 ns → PyData.showableAll (ns.map PyData.int) = true ∧ PyData.hasDictAll (ns.map PyData.int) = false ∧ PyData.leavesShortAll 13 (ns.map PyData.int) = true ∧ PyData.weightAll (ns.map PyData.int) ≤ 13 * ns.length
  | [], _ => ⟨rfl, rfl, rfl, Nat.le_refl _⟩
  | n :: ns, h => by
    obtain ⟨h1, h2, h3, h4⟩ := show_ints (ns := ns) fun x hx => h x (List.mem_cons_of_mem _ hx)
    have hn := h n List.mem_cons_self
    have hl : n.natAbs.log2 < 12 := by
      by_cases e : n.natAbs = 0
      · rw [e]; decide
      · exact (Nat.log2_lt e).mpr (by omega)
    refine ⟨?_, ?_, ?_, ?_⟩
    · simp only [List.map_cons, PyData.showableAll, PyData.showable, h1, Bool.and_true, decide_eq_true_eq]; omega
    · simp only [List.map_cons, PyData.hasDictAll, PyData.hasDict, h2, Bool.or_false]
    · have := PyData.shown_int_le (i := n) (by omega)
      simp only [List.map_cons, PyData.leavesShortAll, PyData.leavesShort, h3, Bool.and_true, decide_eq_true_eq]
      exact this
    · simp only [List.map_cons, PyData.weightAll, PyData.weight, List.length_cons]
      split <;> omega
theorem show_rows : ∀ {t : List (List Int)}, (∀ r ∈ t, Bnd 2000 r ∧ r.length ≤ 7) → PyData.showableAll (t.map fun r => PyData.list (r.map PyData.int)) = true ∧ PyData.hasDictAll (t.map fun r => PyData.list (r.map PyData.int)) = false ∧ PyData.leavesShortAll 13 (t.map fun r => PyData.list (r.map PyData.int)) = true ∧ PyData.weightAll (t.map fun r => PyData.list (r.map PyData.int)) ≤ 100 * t.length ∧ PyData.depthAll (t.map fun r => PyData.list (r.map PyData.int)) ≤ 2
  | [], _ => ⟨rfl, rfl, rfl, Nat.le_refl _, by simp [PyData.depthAll]⟩
  | r :: t, h => by
    obtain ⟨h1, h2, h3, h4, h5⟩ := show_rows (t := t) fun x hx => h x (List.mem_cons_of_mem _ hx)
    obtain ⟨hb, hl⟩ := h r List.mem_cons_self
    obtain ⟨g1, g2, g3, g4⟩ := show_ints hb
    have g5 := depth_ints r
    refine ⟨?_, ?_, ?_, ?_, ?_⟩
    · simp only [List.map_cons, PyData.showableAll, PyData.showable, h1, g1, Bool.and_true]
    · simp only [List.map_cons, PyData.hasDictAll, PyData.hasDict, h2, g2, Bool.or_false]
    · simp only [List.map_cons, PyData.leavesShortAll, PyData.leavesShort, h3, g3, Bool.and_true]
    · simp only [List.map_cons, PyData.weightAll, PyData.weight, List.length_cons]; omega
    · simp only [List.map_cons, PyData.depthAll, PyData.depth]; omega
theorem tab_rows {n : Nat} {t : List (List Int)} (h : Tab n 1000 t) (hn : n ≤ 7) : ∀ r ∈ t, Bnd 2000 r ∧ r.length ≤ 7 := by
  intro r hr
  obtain ⟨i, hi, e⟩ := List.mem_iff_getElem.mp hr
  have hl := h.ln
  have er : row t i = r := by
    unfold row
    rw [List.getD_eq_getElem?_getD, List.getElem?_eq_getElem hi]
    exact e
  have hs := h.sq i (by omega)
  rw [er] at hs
  refine ⟨fun x hx => ?_, by omega⟩
  obtain ⟨j, hj, e2⟩ := List.mem_iff_getElem.mp hx
  have hb := h.bd i j (by omega) (by omega)
  have ea : at2 t i j = x := by
    unfold at2
    rw [er, List.getD_eq_getElem?_getD, List.getElem?_eq_getElem hj]
    exact e2
  rw [ea] at hb
  omega
theorem tab_show {n : Nat} {t : List (List Int)} (h : Tab n 1000 t) (hn : n ≤ 7) : (tabD t).showable = true ∧ (tabD t).hasDict = false ∧ (tabD t).depth ≤ 60 ∧ (tabD t).shown.length ≤ sizeLine := by
  obtain ⟨h1, h2, h3, h4, h5⟩ := show_rows (tab_rows h hn)
  have hl := h.ln
  refine ⟨?_, ?_, ?_, ?_⟩
  · simp only [tabD, PyData.showable, h1]
  · simp only [tabD, PyData.hasDict, h2]
  · simp only [tabD, PyData.depth]; omega
  · refine PyData.shown_fits (B := 13) (by decide) (by decide) ?_ ?_
    · simp only [tabD, PyData.leavesShort, h3]
    · simp only [tabD, PyData.weight]
      have : (2 : Nat) ^ 20 = 1048576 := by decide
      omega
theorem dpRows {K : PySem.W.Frag} {G : Hp} : ∀ {us : List V} {t : List (List Int)}, us.length = t.length → (∀ i, i < t.length → ∃ b, us[i]? = some (V.ref b) ∧ SqL K G b ((row t i).map V.int)) → DpAll K G us (t.map fun r => PyData.list (r.map PyData.int))
  | [], [], _, _ => .nil
  | u :: us, r :: t, hl, h => by
    obtain ⟨b, h1, h2⟩ := h 0 (by simp)
    simp at h1
    subst h1
    refine .cons (.lst h2 (DpAll.ints _)) (dpRows (by simpa using hl) fun i hi => ?_)
    obtain ⟨c, g1, g2⟩ := h (i + 1) (by simpa using hi)
    exact ⟨c, by simpa using g1, g2⟩
/-! ### pairs -/
def pairD (p : Int × Int) : PyData := .tuple [.int p.1, .int p.2]
theorem lay_pairs : ∀ ps : List (Int × Int), PyData.canLayAll0 (ps.map pairD) = true
  | [] => rfl
  | p :: ps => by simp [PyData.canLayAll0, PyData.canLay0, pairD, lay_pairs ps]
theorem depth_pairs : ∀ ps : List (Int × Int), PyData.depthAll (ps.map pairD) ≤ 2
  | [] => by simp [PyData.depthAll]
  | p :: ps => by
    have := depth_pairs ps
    simp only [List.map_cons, PyData.depthAll, PyData.depth, pairD]
    omega
theorem shaped_of {d : PyData} (h1 : d.canLay0 = true) (h2 : d.depth ≤ 5) : SeqAt.shaped d = true := by
  unfold SeqAt.shaped
  rw [Bool.and_eq_true, decide_eq_true_eq]
  exact ⟨h1, by omega⟩
theorem shaped_pairs (ps : List (Int × Int)) : SeqAt.shaped (.list (ps.map pairD)) = true := by
  have := depth_pairs ps
  refine shaped_of (by simp only [PyData.canLay0]; exact lay_pairs ps) ?_
  simp only [PyData.depth]; omega
theorem shaped_pair (p : Int × Int) : SeqAt.shaped (pairD p) = true := shaped_of rfl (by simp only [pairD, PyData.depth, PyData.depthAll]; omega)
theorem shaped_partsO (ns : List Int) : SeqAt.shaped (.tuple [.tuple (ns.map PyData.int)]) = true := by
  have := depth_ints ns
  refine shaped_of ?_ ?_
  · simp only [PyData.canLay0, PyData.canLayAll0, lay_ints ns, Bool.and_true]
  · simp only [PyData.depth, PyData.depthAll]; omega
theorem eqv_partsO (ns : List Int) : PyData.eqv (.tuple [.tuple (ns.map PyData.int)]) (.tuple [.tuple (ns.map PyData.int)]) = true := by
  have := eqv_ints ns ns
  simp only [PyData.eqv, PyData.eqvAll, Bool.and_true] at this ⊢
  rw [this]
  simp
theorem eqv_pair (a b c d : Int) : PyData.eqv (pairD (a, b)) (pairD (c, d)) = (decide (a = c) && decide (b = d)) := by
  simp [pairD, PyData.eqv, PyData.eqvAll]
  rfl
theorem any_pair (ps : List (Int × Int)) (a b : Int) : ((ps.map pairD).any fun z => PyData.eqv z (pairD (a, b))) = decide ((a, b) ∈ ps) := by
  induction ps with
  | nil => simp
  | cons p ps ih =>
    obtain ⟨c, d⟩ := p
    rw [List.map_cons, List.any_cons, ih, eqv_pair]
    by_cases h : (a, b) = (c, d)
    · cases h; simp
    · have : ¬ (c = a ∧ d = b) := fun z => h (by rw [z.1, z.2])
      have e : (decide (c = a) && decide (d = b)) = false := by
        rw [← Bool.decide_and, decide_eq_false this]
      rw [e, Bool.false_or]
      simp [h]
theorem eqv_nil (ps : List (Int × Int)) : PyData.eqv (.list (ps.map pairD)) (.list []) = decide (ps = []) := by
  cases ps with
  | nil => rfl
  | cons p ps => simp [PyData.eqv, PyData.eqvAll]
end B90
set_option Elab.async false
set_option linter.all false
set_option maxRecDepth 100000
set_option maxHeartbeats 4000000
namespace BayE
open PySem PySem.Spec PyProof.Rows L2
section
variable {prog : Program} {w : World}
theorem bool_own_meets {a : Addr} : MeetsIn prog w (Builtin.«bool.__new__» ⟨[.type "bool", .ref a], []⟩) (fun A R s => wpAny (model prog w) A.in1 (truthy (.ref a)) (fun b s' => R (.ok (.ret (.bool b))) s') (fun e s' => R (.error e) s') s) :=
  MeetsIn.of_wp fun A R s h => by
    obtain ⟨hp, g, d, tk, os⟩ := s
    have f1 := F.conv_sub_bool
    repeat (any_goals (first | assumption | (refine wpAny_bind (wpAny_mono h (fun b s' hb => ?_) fun _ _ x => x)) | wp_step))
    exact ⟨_, rfl, hb⟩
theorem call_bool_ref {A : Around} {E : Value → Shared → Prop} {s : Shared} {a : Addr} {Q : Value → Shared → Prop} (h : wpAny (model prog w) A.in1.in1 (truthy (.ref a)) (fun b s' => Q (.bool b) s') E s) : wpAny (model prog w) A (call (.type "bool") [.ref a]) Q E s :=
  callType_newIn F.called_bool F.newNe_bool (F.typeCall_bool_1 _) (F.newCall_bool_1 _) (fun obj => F.args_object_init_2 obj _) F.entry_bool_new bool_own_meets (by
    refine wpAny_mono h (fun b s' hb => ?_) fun e s' he => he
    exact ⟨rfl, hb⟩)
end
section
variable {X : Cx}
/-- repr of True, False -/
theorem call_reprB : CallR X (.builtin "repr") (fun xs H Q => ∃ b : Bool, xs = [.bl b] ∧ Q (.str (if b then "True" else "False")) H) := by
  intro pins s σ H xs us Q I r h
  obtain ⟨b, rfl, q⟩ := h
  cases r with
  | cons r rr =>
    cases rr
    cases r
    exact P.repr_of_bool ⟨.str (if b then "True" else "False"), H, I.tok _, ⟨_, rfl⟩, q⟩
/-- bool(x), x an instance of one of two classes with their own __bool__ -/
theorem call_boolOwn {CX : CXT} {C f : Addr} {fd : FuncData} {n : Nat} {E : XK} {b : Bool} (F : FnOk X.prog X.w X.K X.mg X.base CX n f fd ["self"] (spBool b)) (hs : PySem.W.findIn X.K (.ref C) "__bool__" = some (some (.ref f))) (hf : PySem.W.isFn X.K (.ref f) = true)
    (hb : Binds X.K fd ["self"] []) (hx : Passes CX X E) (hr : Room (n + 2) X.A) :
    CallR X (.type "bool") (fun xs H Q => ∃ (a dx : Addr) (fs : List (Str × V)), xs = [.ref a] ∧ H a = some (.ins C dx fs) ∧ Q (.bl b) H) := by
  intro pins s σ H xs us Q I r h
  obtain ⟨a, dx, fs, rfl, ha, q⟩ := h
  obtain rfl := Vals.ref1 r
  refine call_bool_ref ?_
  exact truthy_own (A := X.A.in1.in1) F hs hf hb hx (hr.in1.in1) rfl I ha fun s' I' => ⟨.bl b, H, I', rfl, q⟩
/-- either of two promises of a call -/
theorem call_or {v : Value} {r1 r2 : List V → Hp → VK → Prop} (h1 : CallR X v r1) (h2 : CallR X v r2) : CallR X v (fun xs H Q => r1 xs H Q ∨ r2 xs H Q) := fun pins s σ H xs us Q I r h => h.elim (h1 pins s σ H xs us Q I r) (h2 pins s σ H xs us Q I r)
end
end BayE
set_option Elab.async false
set_option linter.all false
set_option maxRecDepth 100000
set_option maxHeartbeats 4000000
namespace B90
open PySem L2 BayE
section
variable {P : Program} {w : World} {K : PySem.W.Frag} {mg : Str → Option Value} {base : Heap}
theorem Tab.okT {n : Nat} {B : Int} {t : List (List Int)} (h : Tab n B t) (h3 : 3 ≤ n) (h7 : n ≤ 400) : TabOk t :=
  ⟨by have := h.ln; omega, by have := h.ln; omega, fun k hk => by have := h.ln; rw [h.sq k (by omega)]; omega, fun i j hi hj => by have := h.ln; exact h.op i j (by omega) (by omega)⟩
/-- what order_of hands back -/
def Told (K : PySem.W.Frag) (CO CT : Addr) (G : Hp) (x : Addr) (t : List (List Int)) : Prop :=
  (OrdV K CO G x (.tuple ((plc t).map PyData.int)) ∧ noTorn t = true) ∨ ∃ i j : Nat, TrnV K CT G x (.int i) (.int j) ∧ First t i j
theorem Told.up {CO CT x : Addr} {G H : Hp} {t : List (List Int)} (s : Same G H) (h : Told K CO CT G x t) : Told K CO CT H x t := h.elim (fun ⟨a, b⟩ => .inl ⟨a.up s, b⟩) fun ⟨i, j, a, b⟩ => .inr ⟨i, j, a.up s, b⟩
def sp_told (K : PySem.W.Frag) (CO CT : Addr) : Sp := fun vs H Q _ => ∃ (tv : V) (t : List (List Int)) (G : Hp), vs = [tv] ∧ TabV K G tv t ∧ Same G H ∧ TabOk t ∧ ∀ x G' H', Stp [] G H G' H' → Told K CO CT G' x t → Q (.ref x) H'
theorem told_of {CO CT g : Addr} {gd : FuncData} {k : Nat} (F : FnOk P w K mg base CX0 k g gd ["table"] (sp_order_of K CO CT)) : FnOk P w K mg base CX0 k g gd ["table"] (sp_told K CO CT) :=
  F.imp fun vs H Q E ⟨tv, t, G, h1, h2, h3, h4, h5⟩ => ⟨tv, t, G, h1, h2, h3, h4, fun x G' H' st ho hn => h5 x G' H' st (.inl ⟨ho, decide_eq_true fun i hi j hj hij => hn i j hij hj⟩), fun x i j G' H' st ht hf => h5 x G' H' st (.inr ⟨i, j, ht, hf⟩)⟩
/-- what shows_order says of a value -/
def Verd (K : PySem.W.Frag) (CO CT : Addr) (G : Hp) (v : V) (t : List (List Int)) (b : Bool) : Prop :=
  (∃ x d, v = .ref x ∧ OrdV K CO G x d ∧ TupOr d ∧ b = isOrd t d) ∨ (∃ x d e, v = .ref x ∧ TrnV K CT G x d e ∧ b = isTrn t d e) ∨ ∃ d, Dp K G v d ∧ PlainD d ∧ b = false
theorem Verd.up {CO CT : Addr} {G H : Hp} {v : V} {t : List (List Int)} {b : Bool} (s : Same G H) (h : Verd K CO CT G v t b) : Verd K CO CT H v t b := by
  rcases h with ⟨x, d, h1, h2, h3, h4⟩ | ⟨x, d, e, h1, h2, h3⟩ | ⟨d, h1, h2, h3⟩
  · exact .inl ⟨x, d, h1, h2.up s, h3, h4⟩
  · exact .inr (.inl ⟨x, d, e, h1, h2.up s, h3⟩)
  · exact .inr (.inr ⟨d, Dp.up s h1, h2, h3⟩)
def sp_verd (K : PySem.W.Frag) (CO CT : Addr) : Sp := fun vs H Q _ => ∃ (tv v : V) (t : List (List Int)) (G : Hp) (b : Bool), vs = [tv, v] ∧ TabV K G tv t ∧ Same G H ∧ TabOk t ∧ Verd K CO CT G v t b ∧ ∀ G' H', Stp [] G H G' H' → Q (.bl b) H'
theorem verd_of {CO CT g : Addr} {gd : FuncData} {k : Nat} (F : FnOk P w K mg base CX0 k g gd ["table", "value"] (sp_shows_order K CO CT)) : FnOk P w K mg base CX0 k g gd ["table", "value"] (sp_verd K CO CT) :=
  F.imp fun vs H Q E ⟨tv, v, t, G, b, h1, h2, h3, h4, h5, h6⟩ => ⟨tv, v, t, G, h1, h2, h3, h4, by
    rcases h5 with ⟨x, d, g1, g2, g3, rfl⟩ | ⟨x, d, e, g1, g2, rfl⟩ | ⟨d, g1, g2, rfl⟩
    · exact .inl ⟨x, d, g1, g2, g3, h6⟩
    · exact .inr (.inl ⟨x, d, e, g1, g2, h6⟩)
    · exact .inr (.inr ⟨d, g1, g2, h6⟩)⟩
/-! ### the pairs one by one -/
theorem mem_next {n j : Nat} {T : Nat → Nat → Bool} {tp : List (Nat × Nat)} (hn : 0 < n) (h : ∀ a b, (a, b) ∈ tp ↔ (a < b ∧ b < n ∧ T a b = true ∧ a * n + b < j)) :
    ((j / n < j % n ∧ T (j / n) (j % n) = true) → ∀ a b, (a, b) ∈ tp ++ [(j / n, j % n)] ↔ (a < b ∧ b < n ∧ T a b = true ∧ a * n + b < j + 1)) ∧
    (¬ (j / n < j % n ∧ T (j / n) (j % n) = true) → ∀ a b, (a, b) ∈ tp ↔ (a < b ∧ b < n ∧ T a b = true ∧ a * n + b < j + 1)) := by
  have hj : j / n * n + j % n = j := by have := Nat.div_add_mod j n; rw [Nat.mul_comm] at this; exact this
  have hm := Nat.mod_lt j hn
  have key : ∀ a b, b < n → a * n + b = j → a = j / n ∧ b = j % n := fun a b hb e => by
    subst e
    refine ⟨?_, ?_⟩
    · rw [Nat.mul_comm, Nat.mul_add_div hn, Nat.div_eq_of_lt hb]; rfl
    · rw [Nat.mul_comm, Nat.mul_add_mod, Nat.mod_eq_of_lt hb]
  refine ⟨fun g a b => ?_, fun g a b => ?_⟩
  · rw [List.mem_append, h a b, List.mem_singleton]
    constructor
    · rintro (⟨h1, h2, h3, h4⟩ | e)
      · exact ⟨h1, h2, h3, by omega⟩
      · cases e
        exact ⟨g.1, hm, g.2, by omega⟩
    · rintro ⟨h1, h2, h3, h4⟩
      by_cases e : a * n + b = j
      · obtain ⟨rfl, rfl⟩ := key a b h2 e
        exact .inr rfl
      · exact .inl ⟨h1, h2, h3, by omega⟩
  · rw [h a b]
    constructor
    · rintro ⟨h1, h2, h3, h4⟩
      exact ⟨h1, h2, h3, by omega⟩
    · rintro ⟨h1, h2, h3, h4⟩
      by_cases e : a * n + b = j
      · obtain ⟨rfl, rfl⟩ := key a b h2 e
        exact (g ⟨h1, h3⟩).elim
      · exact ⟨h1, h2, h3, by omega⟩
def castP (p : Nat × Nat) : Int × Int := (p.1, p.2)
theorem sum_bnd {B : Int} : ∀ {ns : List Int}, Bnd B ns → -(B * ns.length) ≤ ns.sum ∧ ns.sum ≤ B * ns.length
  | [], _ => by simp
  | n :: ns, h => by
    have a := sum_bnd (ns := ns) fun x hx => h x (List.mem_cons_of_mem _ hx)
    have b := h n List.mem_cons_self
    rw [List.sum_cons, List.length_cons]
    have e : B * ((ns.length + 1 : Nat) : Int) = B * ns.length + B := by rw [Int.natCast_add, Int.mul_add]; simp
    rw [e]
    omega
theorem plc_bnd {n : Nat} {t : List (List Int)} (h : Tab n 1000 t) (hn : n ≤ 7) : Bnd 20000 (plc t) := by
  intro x hx
  obtain ⟨i, hi, e⟩ := List.mem_iff_getElem.mp hx
  rw [plc_len] at hi
  have e1 := plc_get hi
  rw [List.getElem?_eq_getElem (by rw [plc_len]; exact hi), e] at e1
  have hl := h.ln
  have hr : row t i ∈ t := by
    unfold row
    rw [List.getD_eq_getElem?_getD, List.getElem?_eq_getElem hi]
    exact List.getElem_mem _
  obtain ⟨b1, b2⟩ := tab_rows h hn _ hr
  have b3 := sum_bnd b1
  have e2 := Option.some.inj e1
  have : (2000 : Int) * (row t i).length ≤ 2000 * 7 := by omega
  omega
/-! ### what the values mean -/
theorem isOrd_plc (t : List (List Int)) : isOrd t (.tuple ((plc t).map PyData.int)) = noTorn t := by
  simp only [isOrd, intsD_ints, decide_true, Bool.true_and]
theorem noTorn_first {t : List (List Int)} {i j : Nat} (h : First t i j) : noTorn t = false := by
  refine decide_eq_false fun z => ?_
  have := z i (by have := h.1; have := h.2.1; omega) j h.2.1 h.1
  rw [h.2.2.1] at this
  cases this
theorem isTrn_first {t : List (List Int)} {i j : Nat} (h : First t i j) : isTrn t (.int i) (.int j) = true := by
  obtain ⟨h1, h2, h3, _⟩ := h
  simp only [isTrn, Int.toNat_natCast, h3, Bool.and_true]
  rw [decide_eq_true (show (0 : Int) ≤ i by omega), decide_eq_true (show (i : Int) ≤ t.length - 1 by omega), decide_eq_true (show (0 : Int) ≤ j by omega), decide_eq_true (show (j : Int) ≤ t.length - 1 by omega), decide_eq_true (show (i : Int) < j by omega)]
  rfl
theorem told_verd {CO CT x : Addr} {G : Hp} {t : List (List Int)} (ok : t.length ≤ 400) (h : Told K CO CT G x t) : Verd K CO CT G (.ref x) t true := by
  rcases h with ⟨h1, h2⟩ | ⟨i, j, h1, h2⟩
  · exact .inl ⟨x, _, rfl, h1, .inr ⟨_, rfl, by rw [List.length_map, plc_len]; omega⟩, by rw [isOrd_plc, h2]⟩
  · exact .inr (.inl ⟨x, _, _, rfl, h1, (isTrn_first h2).symm⟩)
/-- the list of the torn pairs -/
def TornL (t : List (List Int)) (ps : List (Int × Int)) : Prop := ∀ x y : Int, (x, y) ∈ ps ↔ ∃ a b : Nat, x = a ∧ y = b ∧ a < b ∧ b < t.length ∧ torn t (plc t) a b = true
theorem TornL.nil {t : List (List Int)} {ps : List (Int × Int)} (h : TornL t ps) : decide (ps = []) = noTorn t := by
  unfold noTorn
  refine decide_eq_decide.mpr ⟨fun e i hi j hj hij => ?_, fun z => ?_⟩
  · cases q : torn t (plc t) i j with
    | false => rfl
    | true =>
      have := (h i j).mpr ⟨i, j, rfl, rfl, hij, hj, q⟩
      rw [e] at this
      cases this
  · cases ps with
    | nil => rfl
    | cons p ps =>
      obtain ⟨a, b, _, _, h1, h2, h3⟩ := (h p.1 p.2).mp List.mem_cons_self
      rw [z a (by omega) b h2 h1] at h3
      cases h3
theorem TornL.trn {t : List (List Int)} {ps : List (Int × Int)} (h : TornL t ps) (x y : Int) : isTrn t (.int x) (.int y) = decide ((x, y) ∈ ps) := by
  by_cases c : (0 ≤ x ∧ x ≤ (t.length : Int) - 1) ∧ (0 ≤ y ∧ y ≤ (t.length : Int) - 1) ∧ x < y
  · obtain ⟨⟨c1, c2⟩, ⟨c3, c4⟩, c5⟩ := c
    have e : isTrn t (.int x) (.int y) = torn t (plc t) x.toNat y.toNat := by
      show (decide (0 ≤ x) && decide (x ≤ (t.length : Int) - 1) && (decide (0 ≤ y) && decide (y ≤ (t.length : Int) - 1)) && decide (x < y) && torn t (plc t) x.toNat y.toNat) = _
      rw [decide_eq_true c1, decide_eq_true c2, decide_eq_true c3, decide_eq_true c4, decide_eq_true c5]
      rfl
    rw [e]
    cases q : torn t (plc t) x.toNat y.toNat with
    | true => exact (decide_eq_true ((h x y).mpr ⟨x.toNat, y.toNat, (Int.toNat_of_nonneg c1).symm, (Int.toNat_of_nonneg c3).symm, by omega, by omega, q⟩)).symm
    | false =>
      refine (decide_eq_false fun z => ?_).symm
      obtain ⟨a, b, rfl, rfl, h1, h2, h3⟩ := (h x y).mp z
      rw [Int.toNat_natCast, Int.toNat_natCast, h3] at q
      cases q
  · have e : isTrn t (.int x) (.int y) = false := by
      cases q : isTrn t (.int x) (.int y) with
      | false => rfl
      | true =>
        have q' : (decide (0 ≤ x) && decide (x ≤ (t.length : Int) - 1) && (decide (0 ≤ y) && decide (y ≤ (t.length : Int) - 1)) && decide (x < y) && torn t (plc t) x.toNat y.toNat) = true := q
        simp only [Bool.and_eq_true, decide_eq_true_eq] at q'
        exact (c ⟨q'.1.1.1, q'.1.1.2, q'.1.2⟩).elim
    rw [e]
    refine (decide_eq_false fun z => c ?_).symm
    obtain ⟨a, b, rfl, rfl, h1, h2, h3⟩ := (h x y).mp z
    omega
theorem ord_all {CO x : Addr} {G : Hp} {d : PyData} (h : OrdV K CO G x d) : ∃ dx fs v p, G x = some (.ins CO dx fs) ∧ fs.lookup ("word" : Str) = some (.str "order") ∧ fs.lookup ("parts" : Str) = some (.ref p) ∧ SqT K G p [v] ∧ Dp K G v d := by
  obtain ⟨dx, v, p, h1, h2, h3⟩ := h
  refine ⟨dx, _, v, p, h1, ?_, ?_, h2, h3⟩
  · rw [lookup_putF, if_neg (by decide +kernel), lookup_putF, if_neg (by decide +kernel), lookup_putF, if_pos rfl]
  · rw [lookup_putF, if_neg (by decide +kernel), lookup_putF, if_pos rfl]
theorem trn_all {CT x : Addr} {G : Hp} {d e : PyData} (h : TrnV K CT G x d e) : ∃ dx fs u v p, G x = some (.ins CT dx fs) ∧ fs.lookup ("word" : Str) = some (.str "torn") ∧ fs.lookup ("parts" : Str) = some (.ref p) ∧ SqT K G p [u, v] ∧ Dp K G u d ∧ Dp K G v e ∧ fs.lookup ("one" : Str) = some u ∧ fs.lookup ("other" : Str) = some v := by
  obtain ⟨dx, u, v, p, h1, h2, h3, h4⟩ := h
  refine ⟨dx, _, u, v, p, h1, ?_, ?_, h2, h3, h4, ?_, ?_⟩
  · rw [lookup_putF, if_neg (by decide +kernel), lookup_putF, if_neg (by decide +kernel), lookup_putF, if_neg (by decide +kernel), lookup_putF, if_pos rfl]
  · rw [lookup_putF, if_neg (by decide +kernel), lookup_putF, if_neg (by decide +kernel), lookup_putF, if_pos rfl]
  · rw [lookup_putF, if_neg (by decide +kernel), lookup_putF, if_pos rfl]
  · rw [lookup_putF, if_pos rfl]
/-- two of what order_of hands back for one table -/
theorem told_two {CO CT x y : Addr} {G : Hp} {t : List (List Int)} (h : Told K CO CT G x t) (g : Told K CO CT G y t) : ∃ C dx dy fs gs wd u v d, (C = CO ∨ C = CT) ∧ G x = some (.ins C dx fs) ∧ G y = some (.ins C dy gs) ∧ fs.lookup ("word" : Str) = some (.str wd) ∧ gs.lookup ("word" : Str) = some (.str wd) ∧
    fs.lookup ("parts" : Str) = some u ∧ gs.lookup ("parts" : Str) = some v ∧ Dp K G u d ∧ Dp K G v d ∧ SeqAt.shaped d = true ∧ PyData.eqv d d = true := by
  rcases h with ⟨h1, h2⟩ | ⟨i, j, h1, h2⟩ <;> rcases g with ⟨g1, g2⟩ | ⟨a, b, g1, g2⟩
  · obtain ⟨dx, fs, v, p, e1, e2, e3, e4, e5⟩ := ord_all h1
    obtain ⟨dy, gs, u, q, c1, c2, c3, c4, c5⟩ := ord_all g1
    exact ⟨CO, dx, dy, fs, gs, _, _, _, .tuple [.tuple ((plc t).map PyData.int)], .inl rfl, e1, c1, e2, c2, e3, c3, .tup e4 (.cons e5 .nil), .tup c4 (.cons c5 .nil), shaped_partsO _, eqv_partsO _⟩
  · rw [noTorn_first g2] at h2; cases h2
  · rw [noTorn_first h2] at g2; cases g2
  · obtain ⟨rfl, rfl⟩ := h2.uniq g2
    obtain ⟨dx, fs, v, v', p, e1, e2, e3, e4, e5, e6, _⟩ := trn_all h1
    obtain ⟨dy, gs, u, u', q, c1, c2, c3, c4, c5, c6, _⟩ := trn_all g1
    exact ⟨CT, dx, dy, fs, gs, _, _, _, pairD (i, j), .inr rfl, e1, c1, e2, c2, e3, c3, .tup e4 (.cons e5 (.cons e6 .nil)), .tup c4 (.cons c5 (.cons c6 .nil)), shaped_pair _, by rw [eqv_pair]; simp⟩
theorem Choir.same {ms : List Addr} {G H G' H' : Hp} {p : Addr} {T : Int} (h : Choir K G H p T) (st : Stp ms G H G' H') (hm : p ∉ ms) : Choir K G H' p T := Choir.keep (Stp.shrink st) hm h
end
end B90
set_option Elab.async false
set_option linter.all false
set_option maxRecDepth 100000
set_option maxHeartbeats 4000000
namespace B90
open PySem L2 BayE
section
variable {P : Program} {w : World} {K : PySem.W.Frag} {mg : Str → Option Value} {base : Heap}
theorem mk_order {CO x dx : Addr} {G H : Hp} {u : V} {d : PyData} {R : Hp → Prop} {E : XK} (nx : H x = none) (ndx : H dx = none) (nex : dx ≠ x) (sg : Same G H) (hu : Dp K G u d) (hk : okd 1 d) (k : ∀ G' H', Stp [] G H G' H' → OrdV K CO G' x (fix d) → R H') :
    sp_OI K CO 1 [.ref x, u] (upd (upd H dx (.own x)) x (.ins CO dx [])) (fun v H' => v = .non ∧ R H') E := by
  obtain ⟨ms, gx⟩ := make_same (C := CO) sg nx ndx nex
  refine ⟨x, dx, u, G, d, rfl, upd_same, gx, ms, hu, hk, fun Gd Hd sd hg ho => ⟨rfl, ?_⟩⟩
  obtain ⟨dx', v, q, ho1, ho2, ho3⟩ := ho
  have s4 := made (Stp.refl sg) nx ndx nex sd hg ho1
  exact k _ _ s4 ⟨dx', v, q, upd_same, SqT.ext ho2 (same_new hg), Dp.up (same_new hg) ho3⟩
theorem mk_torn {CT x dx : Addr} {G H : Hp} {u v : V} {d e : PyData} {R : Hp → Prop} {E : XK} (nx : H x = none) (ndx : H dx = none) (nex : dx ≠ x) (sg : Same G H) (hu : Dp K G u d) (hv : Dp K G v e) (hk : okd 1 d) (hk2 : okd 1 e) (k : ∀ G' H', Stp [] G H G' H' → TrnV K CT G' x (fix d) (fix e) → R H') :
    sp_TI K CT 1 [.ref x, u, v] (upd (upd H dx (.own x)) x (.ins CT dx [])) (fun v H' => v = .non ∧ R H') E := by
  obtain ⟨ms, gx⟩ := make_same (C := CT) sg nx ndx nex
  refine ⟨x, dx, u, v, G, d, e, rfl, upd_same, gx, ms, hu, hv, hk, hk2, fun Gd Hd sd hg ho => ⟨rfl, ?_⟩⟩
  obtain ⟨dx', u', v', q, ho1, ho2, ho3, ho4⟩ := ho
  have s4 := made (Stp.refl sg) nx ndx nex sd hg ho1
  exact k _ _ s4 ⟨dx', u', v', q, upd_same, SqT.ext ho2 (same_new hg), Dp.up (same_new hg) ho3, Dp.up (same_new hg) ho4⟩
theorem Choir.hp {G H H' : Hp} {p : Addr} {T : Int} (h : Choir K G H p T) (k : ∀ o, H p = some o → H' p = some o) : Choir K G H' p T := let ⟨q, cs, t, r, h1, h2⟩ := h; ⟨q, cs, t, r, k _ h1, h2⟩
theorem ife_by {b : Bool} {A B : VK → Prop} {Q : VK} (S : VK) (hA : b = true → (∀ v H, S v H → Q v H) → A Q) (hB : b = false → (∀ v H, S v H → Q v H) → B Q) (k : ∀ v H, S v H → Q v H) : if b = true then A Q else B Q := by
  cases b with
  | true => exact iteT (hA rfl k)
  | false => exact iteF (hB rfl k)
/-- a list that is no right order -/
def Bent (K : PySem.W.Frag) (G : Hp) (v : V) (t : List (List Int)) : Prop := ∃ ds, Dp K G v (.list ds) ∧ okd 1 (.list ds) ∧ ds.length ≤ 1000 ∧ isOrd t (.tuple (fixAll ds)) = false
theorem Bent.up {G H : Hp} {v : V} {t : List (List Int)} (s : Same G H) (h : Bent K G v t) : Bent K H v t := let ⟨ds, h1, h2⟩ := h; ⟨ds, Dp.up s h1, h2⟩
theorem bent_ints {G : Hp} {a : Addr} {t : List (List Int)} {ms : List Int} (h : SqL K G a (ms.map V.int)) (hl : ms.length ≤ 1000) (hne : ms ≠ plc t) : Bent K G (.ref a) t := by
  refine ⟨ms.map PyData.int, .lst h (DpAll.ints _), ⟨by rw [List.length_map]; omega, fun d hd => ?_⟩, by rw [List.length_map]; exact hl, ?_⟩
  · obtain ⟨z, _, rfl⟩ := List.mem_map.mp hd
    trivial
  · rw [fixAll_ints]
    simp only [isOrd, intsD_ints, decide_eq_false hne, Bool.false_and]
theorem dp_nones {G : Hp} : ∀ n : Nat, DpAll K G (List.replicate n V.non) (List.replicate n PyData.none)
  | 0 => .nil
  | n + 1 => .cons .non (dp_nones n)
theorem fix_nones : ∀ n : Nat, fixAll (List.replicate n PyData.none) = List.replicate n PyData.none
  | 0 => rfl
  | n + 1 => by
    show fix .none :: fixAll (List.replicate n PyData.none) = _
    rw [fix_nones n]
    rfl
theorem bent_nones {G : Hp} {a : Addr} {t : List (List Int)} {n : Nat} (h : SqL K G a (List.replicate (n + 1) V.non)) (hl : n + 1 ≤ 1000) : Bent K G (.ref a) t := by
  refine ⟨List.replicate (n + 1) PyData.none, .lst h (dp_nones _), ⟨by rw [List.length_replicate]; omega, fun d hd => ?_⟩, by rw [List.length_replicate]; exact hl, ?_⟩
  · rw [List.eq_of_mem_replicate hd]
    trivial
  · rw [fix_nones]
    rfl
theorem cut_to (ns : List Int) (k : Nat) (h : k ≤ ns.length) : cutV (ns.map V.int) none (some (k : Int)) = (ns.take k).map V.int := by
  unfold cutV
  rw [HT.sIx_none, HT.sIx_nat, List.length_map, Nat.min_eq_left h, List.map_take]
  rfl
theorem cut_from (ns : List Int) (k : Nat) (h : k ≤ ns.length) : cutV (ns.map V.int) (some (k : Int)) none = (ns.drop k).map V.int := by
  unfold cutV
  rw [HT.sIx_none, HT.sIx_nat, List.length_map, Nat.min_eq_left h, List.map_drop]
  rw [List.take_of_length_le]
  rw [List.length_drop, List.length_map]
  exact Nat.le_refl _
theorem cut_last (ns : List Int) : cutV (ns.map V.int) none (some (-1)) = (ns.take (ns.length - 1)).map V.int := by
  unfold cutV
  have e : HT.sIx (ns.map V.int).length (ns.map V.int).length (some (-1)) = ns.length - 1 := by
    rw [List.length_map]
    show (if (-1 : Int) < 0 then (-1 + (ns.length : Int)).toNat else min (-1 : Int).toNat ns.length) = ns.length - 1
    rw [if_pos (by decide)]
    omega
  rw [HT.sIx_none, e, List.map_take]
  rfl
theorem bump_ne (ns : List Int) {k : Nat} (h : k < ns.length) : ns.take k ++ [ns.getD k 0 + 1] ++ ns.drop (k + 1) ≠ ns := by
  intro z
  have e : (ns.take k ++ [ns.getD k 0 + 1] ++ ns.drop (k + 1))[k]? = some (ns.getD k 0 + 1) := by
    have hl : (ns.take k).length = k := by rw [List.length_take]; omega
    rw [List.append_assoc, List.getElem?_append_right (by omega), hl, Nat.sub_self]
    rfl
  rw [z, List.getElem?_eq_getElem h, List.getD_eq_getElem?_getD, List.getElem?_eq_getElem h] at e
  have := Option.some.inj e
  simp at this
  omega
theorem isTrn_1 {t : List (List Int)} {e : PyData} : isTrn t .none e = false := rfl
theorem shaped_intsL' (ns : List Int) : SeqAt.shaped (.list (ns.map PyData.int)) = true := shaped_intsL _ (lay_ints _) (depth_ints _)
theorem eqv_intsL (ns ms : List Int) : PyData.eqv (.list (ns.map PyData.int)) (.list (ms.map PyData.int)) = decide (ns = ms) := by
  simp only [PyData.eqv]
  exact eqvAll_ints ns ms
end
end B90
set_option Elab.async false
set_option linter.all false
set_option maxRecDepth 100000
set_option maxHeartbeats 4000000
namespace B90
open PySem L2 BayE
abbrev s_law : Stmt := topS 32
section
variable {P : Program} {w : World} {K : PySem.W.Frag} {mg : Str → Option Value} {base : Heap}
abbrev Nlaw : List Str := ["_law_script", "_law_choir_here", "_law_turn", "_law_many", "_law_table_here", "_law_places", "_law_torn", "_law_code", "_law_one", "_law_other", "_law_told", "_law_kept", "_law_row", "_law_lap", "_law_pair", "_law_at", "_law_bent", "_law_odd", "_law_value"]
theorem sc_law : FnScope Nlaw ["_law_script"] (defScope s_law) := ⟨rfl, rfl, rfl, by decide +kernel, rfl, by decide +kernel, by decide +kernel⟩
def rTupOf (K : PySem.W.Frag) : List V → Hp → VK → Prop := fun xs H Q => ∃ p ys, xs = [.ref p] ∧ ((SqL K H p ys ∧ ∀ l, H l = none → Q (.ref l) (upd H l (.tup ys))) ∨ (SqT K H p ys ∧ Q (.ref p) H))
/-- what the law's def is said to know of the text -/
structure LawF (P : Program) (w : World) (K : PySem.W.Frag) (mg : Str → Option Value) (base : Heap) (CO CT fO fT fE fBO fBT CP : Addr) (dO dT dE dBO dBT : FuncData) : Prop where
  C : Cls2 P w K mg base CO CT fO fT dO dT
  IC : IsiC K CO CT
  eqO : EqTxt K CO fE
  eqT : EqTxt K CT fE
  nfO : PySem.W.notFirst K CO (.ref CO) = true
  nfT : PySem.W.notFirst K CT (.ref CT) = true
  kpO : PySem.W.kitOne K (.ref CO) (.ref CP) = some true
  kpT : PySem.W.kitOne K (.ref CT) (.ref CP) = some true
  bE : Binds K dE ["self", "other"] []
  FE : FnOk P w K mg base CX0 1 fE dE ["self", "other"] (sp_PEq K CP)
  sO : PySem.W.findIn K (.ref CO) "__bool__" = some (some (.ref fBO))
  sT : PySem.W.findIn K (.ref CT) "__bool__" = some (some (.ref fBT))
  iO : PySem.W.isFn K (.ref fBO) = true
  iT : PySem.W.isFn K (.ref fBT) = true
  bBO : Binds K dBO ["self"] []
  bBT : Binds K dBT ["self"] []
  FBO : FnOk P w K mg base CX0 1 fBO dBO ["self"] (spBool true)
  FBT : FnOk P w K mg base CX0 1 fBT dBT ["self"] (spBool false)
  kT : KBn K dT ["self", "one", "other"] 1 ["other", "one"] (fun us ws => us ++ ws.reverse) (fun us ws => us ++ ws.reverse)
theorem LawF.of {CO CT fO fT fE fBO fBT CP : Addr} {dO dT dE dBO dBT : FuncData} (L : LawF P w K mg base CO CT fO fT fE fBO fBT CP dO dT dE dBO dBT) {C : Addr} (h : C = CO ∨ C = CT) : ∃ nm, PapC K C ∧ NameC K C nm ∧ PySem.W.kitOne K (.ref C) (.ref CP) = some true ∧ EqTxt K C fE ∧ PySem.W.notFirst K C (.ref C) = true := by
  rcases h with rfl | rfl
  · exact ⟨_, L.C.pO, L.C.nO, L.kpO, L.eqO, L.nfO⟩
  · exact ⟨_, L.C.pT, L.C.nT, L.kpT, L.eqT, L.nfT⟩
theorem run_law {f g1 g2 g3 g4 g5 g6 CO CT fO fT fE fBO fBT CP : Addr} {fd gd1 gd2 gd3 gd4 gd5 gd6 dO dT dE dBO dBT : FuncData} (L : LawF P w K mg base CO CT fO fT fE fBO fBT CP dO dT dE dBO dBT) (F : Fun K "law" "law" s_law f fd) (S : SingF P w K mg base g1 gd1)
    (D2 : DefT K mg "_law_choir" s_choir g2 gd2) (G2 : FnOk P w K mg base CX0 1 g2 gd2 ["_law_script"] (sp_choir K)) (D3 : DefT K mg "_law_table" s_table g3 gd3) (G3 : FnOk P w K mg base CX0 3 g3 gd3 psSing (sp_table K))
    (D4 : DefT K mg "_law_entry" s_entry g4 gd4) (G4 : FnOk P w K mg base CX0 1 g4 gd4 psEnt (sp_entry K)) (D5 : DefT K mg "order_of" s_order_of g5 gd5) (G5 : FnOk P w K mg base CX0 7 g5 gd5 ["table"] (sp_order_of K CO CT))
    (D6 : DefT K mg "shows_order" s_shows_order g6 gd6) (G6 : FnOk P w K mg base CX0 5 g6 gd6 ["table", "value"] (sp_shows_order K CO CT))
    (k5 : KBinds K gd5 ["table"] ["table"] (fun us ws => us ++ ws) (fun us ws => us ++ ws)) (k6 : KBinds K gd6 ["table", "value"] ["value", "table"] (fun us ws => us ++ ws.reverse) (fun us ws => us ++ ws.reverse))
    (m1 : mg "range" = none) (m2 : mg "sum" = none) (m3 : mg "int" = none) (m4 : mg "repr" = none) (m5 : mg "tuple" = none) (m6 : mg "bool" = none) (m7 : mg "isinstance" = none) : LawRun P w K mg base f 63 := by
  have b2 : Binds K gd2 ["_law_script"] [] := D2.F.binds fun _ _ _ _ _ _ us hl => match us, hl with | [_], _ => rfl
  have b3 : Binds K gd3 psSing [] := D3.F.binds fun _ _ _ _ _ _ us hl => match us, hl with | [_, _], _ => rfl
  have b4 : Binds K gd4 psEnt [] := D4.F.binds fun _ _ _ _ _ _ us hl => match us, hl with | [_, _, _, _], _ => rfl
  have b5 : Binds K gd5 ["table"] [] := D5.F.binds fun _ _ _ _ _ _ us hl => match us, hl with | [_], _ => rfl
  have b6 : Binds K gd6 ["table", "value"] [] := D6.F.binds fun _ _ _ _ _ _ us hl => match us, hl with | [_, _], _ => rfl
  have b0 : ∀ (s : Shared) (u : Value), BindsTo s fd ⟨[u], []⟩ [("_law_script", u)] := by
    obtain ⟨oc, od, kV, doc, pm, an, cdv, ct, osl, rfl, lk, cod⟩ := F.ex
    exact fun s u => .of_eq rfl
  intro s H a ns e0 hS hlen
  obtain ⟨oc, od, kV, doc, pm, an, cdv, ct, osl, rfl, lk, cod⟩ := F.ex
  refine fn_at (k := 7) (N := Nlaw) (ps := ["_law_script"]) (vs := [.ref a]) (us := [.ref a]) lk cod sc_law ⟨rfl, by decide, by decide⟩ e0 (b0 s _) (.cons rfl .nil) rfl ?_
  have hr : Room 7 (callerA.deeper (PyProof.Rows.envOfC "law" (defScope s_law) s.heap.objs.size f cdv)) := Room.deeper (k := 7) ⟨rfl, by decide, by decide⟩ _
  have hr1 := hr.mono (show 1 ≤ 7 by decide)
  have T5 := told_of G5
  have V6 := verd_of G6
  have hu65 : (callerA.deeper (PyProof.Rows.envOfC "law" (defScope s_law) s.heap.objs.size f cdv)).units + 65 < cLine := by have := hr.un; omega
  have cB : CallR (cxOf CX0 P w K mg base Nlaw "law" (defScope s_law) f cdv callerA [] s H (fun _ _ _ => False)).nox (.type "bool") _ := call_or (call_boolOwn (E := E0) L.FBO L.sO L.iO L.bBO pass0 (hr.mono (by decide))) (call_boolOwn (E := E0) L.FBT L.sT L.iT L.bBT pass0 (hr.mono (by decide)))
  refine ⟨_, pss_cons (ps_set (i := 1) sc_law.nd rfl (Or.inl rfl) (pe_call G2 hr1 rfl D2.g D2.F.kp b2 .nil pass0 (pa_cons (pv 0) pa_nil)))
    (pss_cons (ps_for PassesOwn.never rfl (pi_range1 rfl m1 (pa_cons pe_int pa_nil)) (pg_name (i := 2) sc_law.nd rfl (Or.inl rfl))
      (pss_cons (ps_set (i := 3) sc_law.nd rfl (Or.inl rfl) (pe_op op_add pe_int (pe_call S.G hr1 rfl S.D.g S.D.F.kp S.b .nil pass0 (pa_cons (pv 1) (pa_cons pe_int pa_nil)))))
      (pss_cons (ps_set (i := 4) sc_law.nd rfl (Or.inr rfl) (pe_call G3 (hr.mono (by decide)) rfl D3.g D3.F.kp b3 .nil pass0 (pa_cons (pv 1) (pa_cons (pv 3) pa_nil))))
      (pss_cons (ps_setLc (i := 5) (own := [("_law_one", 8)]) (g := gName 8) (tt := tYes) (by rfl) sc_law.nd rfl rfl (sw_true rfl rfl rfl (by decide +kernel)) (pi_range1 rfl m1 (pa_cons (pv 3) pa_nil)) (blkOk_by (own := [("_law_one", 8)]) (N := Nlaw) (sc := defScope s_law) (by decide +kernel)) (fun _ _ _ _ _ => pg_name (i := 8) sc_law.nd rfl (Or.inl rfl)) (fun _ _ _ _ _ => pts_nil)
        (fun _ _ _ _ _ => pe_op op_add (pv 8) (pe_callB (r := rSumT K) (id := "sum") (cr_sumA rfl) (by rfl) m2 (by decide +kernel) (pa_cons (pe_ix (r := rIx K) ix_seq (pv 4) (pv 8) (fun _ _ => rfl)) pa_nil))))
      (pss_cons (ps_set (i := 6) sc_law.nd rfl (Or.inl rfl) (pe_lst pa_nil))
      (pss_cons (ps_for PassesOwn.never rfl (pi_range1 rfl m1 (pa_cons (pe_op op_mul (pv 3) (pv 3)) pa_nil)) (pg_name (i := 7) sc_law.nd rfl (Or.inl rfl))
        (pss_cons (ps_par (i := 8) (j := 9) (by rfl) sc_law.nd rfl rfl (by decide) rfl rfl (pa_cons (pe_op op_fdiv (pv 7) (pv 3)) (pa_cons (pe_op op_mod (pe_callTy call_int1 (by rfl) m3 (by decide +kernel) (pa_cons (pv 7) pa_nil)) (pv 3)) pa_nil)) (by rfl))
        (pss_one (ps_if (PW.pt (pw_and (pt_cmpR op_lt (pv 8) (pv 9) (nomark _)) (pw_and1 (PW.pt (pw_or (pt_cmpR op_eq (pe_op op_mod (pe_callTy call_int1 (by rfl) m3 (by decide +kernel) (pa_cons (pe_op op_sub (pe_ix ix_list (pv 5) (pv 9) (fun _ _ => rfl)) (pe_ix ix_list (pv 5) (pv 8) (fun _ _ => rfl))) pa_nil)) (pv 3)) pe_int (nomark _))
            (pw_or1 (pt_cmpR op_ne (pe_ix ix_list (pe_ix ix_list (pv 4) (pv 8) (fun _ _ => rfl)) (pv 9) (fun _ _ => rfl)) (pe_call G4 hr1 rfl D4.g D4.F.kp b4 .nil pass0 (pa_cons (pv 3) (pa_cons (pv 5) (pa_cons (pv 8) (pa_cons (pv 9) pa_nil))))) (nomark _))))))))
          (pss_one (ps_expr (pe_bm PySem.F.plainAttrs_list PySem.F.slot_list_append PySem.F.type_list_append mt_append (pv 6) (pa_cons (pe_tup (pa_cons (pv 8) (pa_cons (pv 9) pa_nil))) pa_nil)))) pss_nil))))
      (pss_cons (ps_par (i := 10) (j := 11) (by rfl) sc_law.nd rfl rfl (by decide) rfl rfl (pa_cons (pe_call T5 hr rfl D5.g D5.F.kp b5 .nil pass0 (pa_cons (pv 4) pa_nil)) (pa_cons (pe_callB (call_reprD rfl hr.units) (by rfl) m4 (by decide +kernel) (pa_cons (pv 4) pa_nil)) pa_nil)) (by rfl))
      (C8.pss_cut (ps_if (PW.pt (pw_or (pt_cmpR (op_neOwn (E := E0) L.FE L.bE pass0 (hr.mono (by decide))) (pe_callK0 T5 hr rfl D5.g D5.F.kp k5 pass0 (pk_cons (pe_callTy call_tuple_of (by rfl) m5 (by decide +kernel) (pa_cons (pe_lc (own := [("_law_row", 12)]) (g := gName 12) (tt := tYes) (by rfl) sc_law.nd (pi_sq (pv 4)) (blkOk_by (own := [("_law_row", 12)]) (N := Nlaw) (sc := defScope s_law) (by decide +kernel)) (fun _ _ _ _ _ => pg_name (i := 12) sc_law.nd rfl (Or.inl rfl)) (fun _ _ _ _ _ => pts_nil)
              (fun _ _ _ _ _ => pe_callTy (r := rTupOf K) (T := "tuple") call_tuple_of (by rfl) m5 (by decide +kernel) (pa_cons (pv 12) pa_nil))) pa_nil)) pk_nil)) (pv 10) (nomark _))
          (pw_or (pt_cmpR op_ne (pe_callB (call_reprD rfl hr.units) (by rfl) m4 (by decide +kernel) (pa_cons (pv 4) pa_nil)) (pv 11) (nomark _))
          (pw_or1 (pt_cmpR op_ne (pe_callTy cB (by rfl) m6 (by decide +kernel) (pa_cons (pv 10) pa_nil)) (pe_cmpR (op_eqD hr.units) (pv 6) (pe_lst pa_nil) (nomark _)) (nomark _)))))) (pss_one (ps_ret pe_bl)) pss_nil)
      (C8.pss_cut (ps_if (PW.pt (pw_and (pt_cmpR (op_eqD hr.units) (pv 6) (pe_lst pa_nil) (nomark _)) (pw_and1 (PW.pt (pw_or (pt_not (pt_val (pe_callB call_isi (by rfl) m7 (by decide +kernel) (pa_cons (pv 10) (pa_cons (pe_glob (v := .ref CO) rfl L.C.gO rfl) pa_nil)))))
          (pw_or (pt_cmpR (op_neD hr.units) (pe_fld (pv 10) rfl) (pe_tup (pa_cons (pe_callTy call_tuple_of (by rfl) m5 (by decide +kernel) (pa_cons (pv 5) pa_nil)) pa_nil)) (nomark _)) (pw_or1 (pt_cmpR op_ne (pe_fld (pv 10) rfl) pe_str (nomark _))))))))) (pss_one (ps_ret pe_bl)) pss_nil)
      (C8.pss_cut (ps_if (PW.pt (pw_and (pt_cmpR (op_neD hr.units) (pv 6) (pe_lst pa_nil) (nomark _)) (pw_and1 (PW.pt (pw_or (pt_not (pt_val (pe_callB call_isi (by rfl) m7 (by decide +kernel) (pa_cons (pv 10) (pa_cons (pe_glob (v := .ref CT) rfl L.C.gT rfl) pa_nil)))))
          (pw_or (pt_cmpR (op_notInD hu65) (pe_tup (pa_cons (pe_fld (pv 10) rfl) (pa_cons (pe_fld (pv 10) rfl) pa_nil))) (pv 6) (by rfl)) (pw_or1 (pt_cmpR op_ne (pe_fld (pv 10) rfl) pe_str (nomark _))))))))) (pss_one (ps_ret pe_bl)) pss_nil)
      (C8.pss_cut (ps_if (pt_cmpR op_ne (pe_callB (call_reprD rfl hr.units) (by rfl) m4 (by decide +kernel) (pa_cons (pe_lst (pa_cons (pe_callK0 V6 (hr.mono (by decide)) rfl D6.g D6.F.kp k6 pass0 (pk_cons (pv 10) (pk_cons (pv 4) pk_nil))) (pa_cons (pe_call V6 (hr.mono (by decide)) rfl D6.g D6.F.kp b6 .nil pass0 (pa_cons (pv 4) (pa_cons (pe_make L.C.mO L.C.FO (hr.mono (by decide)) rfl L.C.gO L.C.bO .nil pass0 (pa_cons (pv 5) pa_nil)) pa_nil))) pa_nil))) pa_nil)) (pe_callB (call_reprD rfl hr.units) (by rfl) m4 (by decide +kernel) (pa_cons (pe_lst (pa_cons pe_bl (pa_cons (pe_cmpR (op_eqD hr.units) (pv 6) (pe_lst pa_nil) (nomark _)) pa_nil))) pa_nil)) (nomark _)) (pss_one (ps_ret pe_bl)) pss_nil)
      (C8.pss_cut (ps_for PassesOwn.never rfl (pi_range1 rfl m1 (pa_cons pe_int pa_nil)) (pg_name (i := 13) sc_law.nd rfl (Or.inl rfl))
        (pss_cons (ps_set (i := 14) sc_law.nd rfl (Or.inl rfl) (pe_tup (pa_cons (pe_op op_sub (pe_call S.G hr1 rfl S.D.g S.D.F.kp S.b .nil pass0 (pa_cons (pv 1) (pa_cons (pe_op op_add (pv 3) pe_int) pa_nil))) (pe_callTy call_int1 (by rfl) m3 (by decide +kernel) (pa_cons (pe_cmpR op_eq (pv 13) pe_int (nomark _)) pa_nil))) (pa_cons (pe_call S.G hr1 rfl S.D.g S.D.F.kp S.b .nil pass0 (pa_cons (pv 1) (pa_cons (pe_op op_add (pv 3) pe_int) pa_nil))) pa_nil))))
        (pss_one (ps_if (pt_cmpR op_ne (pe_callB call_reprB (by rfl) m4 (by decide +kernel) (pa_cons (pe_call V6 (hr.mono (by decide)) rfl D6.g D6.F.kp b6 .nil pass0 (pa_cons (pv 4) (pa_cons (pe_makeK0 L.C.mT L.C.FT (hr.mono (by decide)) rfl L.C.gT L.kT pass0 (pk_cons (pe_ix ix_tup (pv 14) pe_int (fun _ _ => rfl)) (pk_cons (pe_ix ix_tup (pv 14) pe_int (fun _ _ => rfl)) pk_nil))) pa_nil))) pa_nil)) (pe_callB call_reprB (by rfl) m4 (by decide +kernel) (pa_cons (pe_cmpR (op_inD hu65) (pv 14) (pv 6) (by rfl)) pa_nil)) (nomark _)) (pss_one (ps_ret pe_bl)) pss_nil))))
      (pss_cons (ps_set (i := 15) sc_law.nd rfl (Or.inl rfl) (pe_call S.G hr1 rfl S.D.g S.D.F.kp S.b .nil pass0 (pa_cons (pv 1) (pa_cons (pv 3) pa_nil))))
      (pss_cons (ps_set (i := 16) sc_law.nd rfl (Or.inl rfl) (pe_lst (pa_cons (pe_op op_cat (pe_op op_cat (pe_slice sl_list (pv 5) po_none (po_some (pv 15))) (pe_lst (pa_cons (pe_op op_add (pe_ix ix_list (pv 5) (pv 15) (fun _ _ => rfl)) pe_int) pa_nil))) (pe_slice sl_list (pv 5) (po_some (pe_op op_add (pv 15) pe_int)) po_none)) (pa_cons (pe_slice sl_list (pv 5) po_none (po_some (pe_un un_neg pe_int))) (pa_cons (pe_op op_cat (pv 5) (pe_lst (pa_cons pe_int pa_nil))) (pa_cons (pe_ifExp (pt_cmpR (op_neD hr.units) (pe_revL (pv 5)) (pv 5) (nomark _)) (pe_revL (pv 5)) (pe_lst pa_nil)) (pa_cons (pe_op op_rep (pe_lst (pa_cons pe_non pa_nil)) (pv 3)) pa_nil)))))))
      (pss_cons (ps_set (i := 17) sc_law.nd rfl (Or.inl rfl) (pe_op op_cat (pe_lc (own := [("_law_value", 18)]) (g := gName 18) (by rfl) sc_law.nd (pi_sq (pv 16)) (blkOk_by (own := [("_law_value", 18)]) (N := Nlaw) (sc := defScope s_law) (by decide +kernel)) (fun _ _ _ _ _ => pg_name (i := 18) sc_law.nd rfl (Or.inl rfl)) (fun _ _ _ _ _ => pts_nil)
        (fun _ _ _ _ _ => (pe_make L.C.mO L.C.FO (hr.mono (by decide)) rfl L.C.gO L.C.bO .nil pass0 (pa_cons (pv 18) pa_nil)))) (pe_lst (pa_cons (pe_make L.C.mT L.C.FT (hr.mono (by decide)) rfl L.C.gT L.C.bT .nil pass0 (pa_cons pe_non (pa_cons pe_int pa_nil))) (pa_cons (pe_make L.C.mT L.C.FT (hr.mono (by decide)) rfl L.C.gT L.C.bT .nil pass0 (pa_cons pe_bl (pa_cons pe_int pa_nil))) (pa_cons (pe_make L.C.mT L.C.FT (hr.mono (by decide)) rfl L.C.gT L.C.bT .nil pass0 (pa_cons pe_str (pa_cons pe_str pa_nil))) (pa_cons (pe_make L.C.mO L.C.FO (hr.mono (by decide)) rfl L.C.gO L.C.bO .nil pass0 (pa_cons pe_non pa_nil)) (pa_cons (pe_make L.C.mO L.C.FO (hr.mono (by decide)) rfl L.C.gO L.C.bO .nil pass0 (pa_cons pe_int pa_nil)) (pa_cons pe_non (pa_cons pe_int (pa_cons (pe_callTy call_tuple_of (by rfl) m5 (by decide +kernel) (pa_cons (pv 5) pa_nil)) (pa_cons pe_str pa_nil))))))))))))
      (pss_one (ps_if (pt_cmpR (op_neD hr.units) (pe_lc (own := [("_law_value", 18)]) (g := gName 18) (by rfl) sc_law.nd (pi_sq (pv 17)) (blkOk_by (own := [("_law_value", 18)]) (N := Nlaw) (sc := defScope s_law) (by decide +kernel)) (fun _ _ _ _ _ => pg_name (i := 18) sc_law.nd rfl (Or.inl rfl)) (fun _ _ _ _ _ => (pts_one (pt_cmpR op_notBl (pe_call V6 (hr.mono (by decide)) rfl D6.g D6.F.kp b6 .nil pass0 (pa_cons (pv 4) (pa_cons (pv 18) pa_nil))) pe_bl (nomark _))))
        (fun _ _ _ _ _ => (pv 18))) (pe_lst pa_nil) (nomark _)) (pss_one (ps_ret pe_bl)) pss_nil)
      ))))))))))))))))
    (pss_one (ps_ret pe_bl))), ?_⟩
  refine ⟨_, rfl, a, ns, H, rfl, hS, Same.refl H, hlen, fun p G1 H1 st1 hp0 hC1 => ?_⟩
  refine ⟨3, rfl, by decide, by decide, ?_⟩
  refine for_range (lo := 0) (n := 3) (fun i σ H2 => ∃ (G2 : Hp) (o2 o3 o4 o5 o6 o7 o8 o9 o10 o11 o13 o14 o15 o16 o17 : Option V), σ = [some (.ref a), some (.ref p), o2, o3, o4, o5, o6, o7, o8, o9, o10, o11, none, o13, o14, o15, o16, o17, none] ∧ Stp [p] G1 H1 G2 H2 ∧ Choir K G2 H2 p (1000 * i))
    ⟨G1, _, _, _, _, _, _, _, _, _, _, _, _, _, _, _, rfl, Stp.refl st1.sub, hC1.le (by omega)⟩ ?_ ?_
  · rintro i σ H2 hi ⟨G2, o2, o3, o4, o5, o6, o7, o8, o9, o10, o11, o13, o14, o15, o16, o17, rfl, st2, hC2⟩
    have hpn : ∀ {Ga Ha : Hp} {T' : Int}, Choir K Ga Ha p T' → Ha p ≠ none := fun {Ga Ha T'} ⟨_, _, _, _, h, _⟩ z => by rw [h] at z; cases z
    have hpg : ∀ {Ga Ha : Hp} {T' : Int}, Choir K Ga Ha p T' → Ga p = none := fun {Ga Ha T'} ⟨_, _, _, _, _, h, _⟩ => h
    -- how many places
    refine ⟨_, rfl, p, 5, _, G2, rfl, hC2, st2.sub, by omega, by omega, by omega, fun r H3 hr0 hr5 st3 hC3 => ?_⟩
    refine ⟨_, _, rfl, rfl, ?_⟩
    refine pin (P := fun z => gName 3 (V.int z) _ _ _) (3 + r) fun y hy => ?_
    obtain ⟨n, ey⟩ : ∃ n : Nat, y = n := ⟨y.toNat, by omega⟩
    subst ey
    have hn3 : 3 ≤ n := by omega
    have hn7 : n ≤ 7 := by omega
    -- the table
    refine ⟨_, rfl, _, rfl, p, n, _, G2, rfl, hC3, st3.sub, hn3, hn7, by omega, fun tb us t G4 H4 tab st4 hC4 hT hul hrows => ?_⟩
    have ln := tab.ln
    subst ln
    have ln : t.length = t.length := rfl
    have ok : TabOk t := tab.okT hn3 (by omega)
    have tv4 : TabV K G4 (.ref tb) t := ⟨tb, us, rfl, .inr hT, hul.trans ln.symm, fun i hi => let ⟨b, h1, h2⟩ := hrows i (by omega); ⟨b, h1, .inr h2⟩⟩
    have dp4 : Dp K G4 (.ref tb) (tabD t) := .lst hT (dpRows (hul.trans ln.symm) fun i hi => hrows i (by omega))
    have sg4 := st4.sub
    -- the places told
    refine ⟨_, rfl, (t.length : Int), rfl, by omega, by omega, fun Dl hDl => ?_⟩
    have en : ((t.length : Int)).toNat = t.length := by omega
    refine lc_pure (G0 := G4) walk_range (fun j v _ => v = V.int ((j : Int) + (row t j).sum)) (fun i v G G' s h => h) (by omega) sg4 hDl (fun _ _ _ => trivial) ?_ ?_
    · rintro j x G5 H5 H6 Qy hj st5 ⟨rfl, rfl⟩ hq
      rw [en] at hj
      obtain ⟨b, b1, b2⟩ := hrows j hj
      have up := st5.gg.trans st5.sub
      refine ⟨rfl, _, rfl, _, rfl, _, rfl, rIx_sq (.inr (SqL.ext hT up)) (atI_v (by omega) (by rw [show (0 + (j : Int)).toNat = j by omega]; exact b1)) ?_⟩
      refine ⟨b, row t j, rfl, .inl (SqL.ext b2 up), _, _, rfl, rfl, hq _ G5 _ (Stp.refl st5.sub) ?_⟩
      show V.int (0 + (j : Int) + (row t j).sum) = _
      rw [Int.zero_add]
    · intro G5 H5 ys st5 hl hg hyl hrel
      rw [en] at hyl
      have hpl := plc_len t
      have eys : ys = (plc t).map V.int := by
        refine List.ext_getElem? fun j => ?_
        by_cases hj : j < t.length
        · rw [List.getElem?_eq_getElem (by omega), hrel j ys[j] (List.getElem?_eq_getElem (by omega)), List.getElem?_map, plc_get (by omega)]
          rfl
        · rw [List.getElem?_eq_none (by omega), List.getElem?_eq_none (by rw [List.length_map]; omega)]
      subst eys
      have st5' : Stp [] G4 H4 G5 H5 := Stp.own (Stp.refl sg4) hDl st5
      have st6 := (st5'.freeze hDl hl hg)
      have gP : upd G5 Dl (.lst ((plc t).map V.int)) Dl = some (.lst ((plc t).map V.int)) := upd_same
      obtain ⟨G6, hG6⟩ : ∃ G6, G6 = upd G5 Dl (.lst ((plc t).map V.int)) := ⟨_, rfl⟩
      rw [← hG6] at st6 gP
      have hC5 : Choir K G6 H5 p (1000 * i + 1 + 200) := Choir.keep st6 (fun z => nomatch z) hC4
      have tv6 := tv4.up st6.gg
      have dp6 := Dp.up st6.gg dp4
      have st06 : Stp [p] G1 H1 G6 H5 := st2.trans (st3.trans (st4.trans st6.nil))
      -- the torn pairs
      refine ⟨(by show 0 ≤ sizeLine; decide), fun tl htl => ?_⟩
      have hbn := plc_bnd tab hn7
      have g6tl : G6 tl = none := st6.sub.free htl
      have eNN : ((t.length : Int) * (t.length : Int)).toNat = t.length * t.length := by rw [← Int.natCast_mul]; exact Int.toNat_natCast _
      have bNN := mul_le (a := (t.length : Int)) (b := (t.length : Int)) (A := 7) (B := 7) (by omega) (by omega) (by omega) (by omega)
      refine ⟨_, rfl, _, rfl, _, _, rfl, rfl, .inl ⟨by omega, by omega⟩, (t.length : Int) * (t.length : Int), rfl, by omega, by omega, ?_⟩
      refine for_range (lo := 0) (n := ((t.length : Int) * (t.length : Int)).toNat) (fun j σ H7 => ∃ (G7 : Hp) (tp : List (Nat × Nat)) (vs : List V) (x7 x8 x9 : Option V), σ = [some (.ref a), some (.ref p), some (.int (0 + (i : Int))), some (.int t.length), some (.ref tb), some (.ref Dl), some (.ref tl), x7, x8, x9, o10, o11, none, o13, o14, o15, o16, o17, none] ∧
          H7 tl = some (.lst vs) ∧ G7 tl = none ∧ DpAll K G7 vs ((tp.map castP).map pairD) ∧ Stp [] G6 H5 G7 H7 ∧ tp.length ≤ j ∧ ∀ a b, (a, b) ∈ tp ↔ (a < b ∧ b < t.length ∧ torn t (plc t) a b = true ∧ a * t.length + b < j))
        ⟨G6, [], [], _, _, _, rfl, upd_same, g6tl, .nil, (Stp.refl st6.sub).priv htl, Nat.le_refl _, fun a b => ⟨(fun z => nomatch z), fun z => absurd z.2.2.2 (Nat.not_lt_zero _)⟩⟩ ?_ ?_
      · rintro j σ H7 hj ⟨G7, tp, vs, x7, x8, x9, rfl, f1, f2, f3, st7, f4, f5⟩
        rw [eNN] at hj
        have hnp : 0 < t.length := by omega
        have hb := Nat.mod_lt j hnp
        have ha : j / t.length < t.length := Nat.div_lt_of_lt_mul hj
        obtain ⟨nx1, nx2⟩ := mem_next hnp f5
        refine ⟨_, rfl, _, rfl, _, _, rfl, rfl, ⟨by omega, by omega⟩, _, rfl, .inl ⟨_, rfl, _, rfl, _, _, rfl, rfl, (show (0 : Int) < (t.length : Int) by omega), ?_⟩⟩
        refine ⟨.int ((j / t.length : Nat) : Int), .int ((j % t.length : Nat) : Int), ?_, ?_⟩
        · show [V.int ((0 + (j : Int)) / (t.length : Int)), V.int ((0 + (j : Int)) % (t.length : Int))] = _
          rw [Int.zero_add, Int.natCast_ediv, Int.natCast_emod]
        have up7 := st7.gg.trans st7.sub
        have pl7 : SqL K H7 Dl ((plc t).map V.int) := SqL.of (up7 _ _ gP)
        have hvl : vs.length = tp.length := by
          have := DpAll.len f3
          rwa [List.length_map, List.length_map] at this
        have app : ∀ {G8 H8 : Hp} {q : Addr}, Stp [] G7 H7 G8 H8 → H8 q = none → j / t.length < j % t.length → torn t (plc t) (j / t.length) (j % t.length) = true →
            upd H8 q (.tup [V.int ((j / t.length : Nat) : Int), V.int ((j % t.length : Nat) : Int)]) tl = some (.lst vs) ∧ ∃ (G9 : Hp) (tp' : List (Nat × Nat)) (vs' : List V),
              upd (upd H8 q (.tup [V.int ((j / t.length : Nat) : Int), V.int ((j % t.length : Nat) : Int)])) tl (.lst (vs ++ [.ref q])) tl = some (.lst vs') ∧ G9 tl = none ∧ DpAll K G9 vs' ((tp'.map castP).map pairD) ∧ Stp [] G6 H5 G9 (upd (upd H8 q (.tup [V.int ((j / t.length : Nat) : Int), V.int ((j % t.length : Nat) : Int)])) tl (.lst (vs ++ [.ref q]))) ∧ tp'.length ≤ j + 1 ∧ ∀ a b, (a, b) ∈ tp' ↔ (a < b ∧ b < t.length ∧ torn t (plc t) a b = true ∧ a * t.length + b < j + 1) := fun {G8 H8 q} st8 hq h1 h2 => by
          have f1' := st8.same _ _ f1
          have ntq : tl ≠ q := ne_of_none f1' hq
          have g8 : G8 tl = none := st8.gn f2 f1
          refine ⟨by rw [upd_ne ntq]; exact f1', upd G8 q (.tup [V.int ((j / t.length : Nat) : Int), V.int ((j % t.length : Nat) : Int)]), tp ++ [(j / t.length, j % t.length)], vs ++ [.ref q], upd_same, by rw [upd_ne ntq]; exact g8, ?_, ?_, by rw [List.length_append, List.length_singleton]; omega, nx1 ⟨h1, h2⟩⟩
          · rw [List.map_append, List.map_append]
            have sgu : Same G7 (upd G8 q (.tup [V.int ((j / t.length : Nat) : Int), V.int ((j % t.length : Nat) : Int)])) := st8.gg.trans (same_new (st8.gnew hq))
            exact DpAll.app (DpAll.up sgu f3) (.cons (.tup (SqT.of upd_same) (.cons (.int _) (.cons (.int _) .nil))) .nil)
          · exact ((st7.trans st8).data hq).write (by rw [upd_ne ntq]; exact g8) (.inr htl)
        refine ⟨_, rfl, _, rfl, _, _, rfl, rfl, _, rfl, ?_⟩
        by_cases hab : j / t.length < j % t.length
        · rw [decide_eq_true (show ((j / t.length : Nat) : Int) < ((j % t.length : Nat) : Int) by omega)]
          refine iteT ?_
          refine ⟨_, rfl, _, rfl, Dl, _, _, _, rfl, rfl, pl7, atI_nat (ints_at (by omega)), _, rfl, _, rfl, Dl, _, _, _, rfl, rfl, pl7, atI_nat (ints_at (by omega)), _, _, rfl, rfl, .inl ⟨_, rfl, _, rfl, _, _, rfl, rfl, (show (0 : Int) < (t.length : Int) by omega), rfl, _, rfl, ?_⟩⟩
          rw [dcInt]
          have eT : torn t (plc t) (j / t.length) (j % t.length) = (decide ((pat (plc t) (j % t.length) - pat (plc t) (j / t.length)) % ((plc t).length : Int) = 0) || !decide (at2 t (j / t.length) (j % t.length) = ent (plc t) (j / t.length) (j % t.length))) := rfl
          by_cases hg0 : (pat (plc t) (j % t.length) - pat (plc t) (j / t.length)) % (t.length : Int) = 0
          · have e0 : (((plc t).getD (j % t.length) 0 - (plc t).getD (j / t.length) 0) % (t.length : Int) = 0) := hg0
            rw [decide_eq_true e0]
            refine iteT ?_
            have hto : torn t (plc t) (j / t.length) (j % t.length) = true := by rw [eT, hpl, decide_eq_true hg0, Bool.true_or]
            refine ⟨_, rfl, .inl ⟨rfl, _, SqL.of f1⟩, _, rfl, _, rfl, (by show 2 ≤ sizeLine; decide), fun q hq => ?_⟩
            obtain ⟨q1, G9, tp', vs', q2, q3, q4, q5, q6, q7⟩ := app (Stp.refl st7.sub) hq hab hto
            exact ⟨tl, vs, .ref q, rfl, rfl, q1, by rw [hvl, sizeLine_eq]; omega, G9, tp', vs', _, _, _, rfl, q2, q3, q4, q5, q6, q7⟩
          · have e0 : ¬ (((plc t).getD (j % t.length) 0 - (plc t).getD (j / t.length) 0) % (t.length : Int) = 0) := hg0
            rw [decide_eq_false e0]
            refine iteF ?_
            obtain ⟨b, b1, b2⟩ := hrows _ ha
            have up47 : Same G4 H7 := (st6.gg.trans up7)
            refine ⟨_, rfl, _, rfl, tb, us, _, .ref b, rfl, rfl, SqL.ext hT up47, atI_nat b1, _, rfl, b, _, _, .int (at2 t (j / t.length) (j % t.length)), rfl, rfl, SqL.ext b2 up47, atI_nat (ints_at (by rw [ok.sq _ ha]; exact hb)), ?_⟩
            refine ⟨_, rfl, _, rfl, _, rfl, _, rfl, Dl, plc t, j / t.length, j % t.length, G7, by rw [hpl]; rfl, .inr (SqL.of (st7.gg _ _ gP)), st7.sub, by omega, by omega, fun x hx => by have := hbn x hx; omega, by omega, by omega, fun G8 H8 st8 => ?_⟩
            refine ⟨rfl, _, rfl, ?_⟩
            rw [dcInt]
            have eL : lent (plc t) (j / t.length) (j % t.length) = ent (plc t) (j / t.length) (j % t.length) := lent_ent (by omega) hab (by omega) (by rw [hpl]; exact hg0)
            rw [eL]
            by_cases hE : at2 t (j / t.length) (j % t.length) = ent (plc t) (j / t.length) (j % t.length)
            · rw [decide_eq_true hE]
              refine iteF ?_
              have hto : torn t (plc t) (j / t.length) (j % t.length) = false := by rw [eT, hpl, decide_eq_false hg0, decide_eq_true hE]; rfl
              exact ⟨G8, tp, vs, _, _, _, rfl, st8.same _ _ f1, st8.gn f2 f1, DpAll.up st8.gg f3, st7.trans st8, by omega, nx2 fun z => by rw [hto] at z; exact Bool.noConfusion z.2⟩
            · rw [decide_eq_false hE]
              refine iteT ?_
              have hto : torn t (plc t) (j / t.length) (j % t.length) = true := by rw [eT, hpl, decide_eq_false hg0, decide_eq_false hE]; rfl
              refine ⟨_, rfl, .inl ⟨rfl, _, SqL.of (st8.same _ _ f1)⟩, _, rfl, _, rfl, (by show 2 ≤ sizeLine; decide), fun q hq => ?_⟩
              obtain ⟨q1, G9, tp', vs', q2, q3, q4, q5, q6, q7⟩ := app st8 hq hab hto
              exact ⟨tl, vs, .ref q, rfl, rfl, q1, by rw [hvl, sizeLine_eq]; omega, G9, tp', vs', _, _, _, rfl, q2, q3, q4, q5, q6, q7⟩
        · rw [decide_eq_false (show ¬ ((j / t.length : Nat) : Int) < ((j % t.length : Nat) : Int) by omega)]
          refine iteF ?_
          exact ⟨G7, tp, vs, _, _, _, rfl, f1, f2, f3, st7, by omega, nx2 fun z => hab z.1⟩
      · rintro σ H7 ⟨G7, tp, vs, x7, x8, x9, rfl, f1, f2, f3, st7, f4, f5⟩
        rw [eNN] at f5
        have tl7 : TornL t (tp.map castP) := fun x y => by
          rw [List.mem_map]
          constructor
          · rintro ⟨⟨c, d⟩, hcd, e⟩
            obtain ⟨h1, h2, h3, _⟩ := (f5 c d).mp hcd
            cases e
            exact ⟨c, d, rfl, rfl, h1, h2, h3⟩
          · rintro ⟨c, d, rfl, rfl, h1, h2, h3⟩
            refine ⟨(c, d), (f5 c d).mpr ⟨h1, h2, h3, ?_⟩, rfl⟩
            have h4 : (c + 1) * t.length ≤ t.length * t.length := Nat.mul_le_mul_right _ (by omega)
            rw [Nat.add_mul] at h4
            omega
        have st8 := st7.freeze htl f1 f2
        obtain ⟨G8, hG8⟩ : ∃ G8, G8 = upd G7 tl (.lst vs) := ⟨_, rfl⟩
        have dpt : Dp K G8 (.ref tl) (.list ((tp.map castP).map pairD)) := by
          rw [hG8]
          exact .lst (SqL.of upd_same) (DpAll.up (same_new f2) f3)
        rw [← hG8] at st8
        have tv8 := tv6.up st8.gg
        -- what order_of says
        refine ⟨_, rfl, .ref tb, t, G8, rfl, tv8, st8.sub, ok, fun x G9 H9 st9 told => ?_⟩
        have tv9 := tv8.up st9.gg
        have dp9 := Dp.up (st8.gg.trans st9.gg) dp6
        have dpt9 := Dp.up st9.gg dpt
        have gP9 := st9.gg _ _ (st8.gg _ _ gP)
        have hT9 : SqL K G9 tb us := SqL.ext hT ((st6.gg.trans st8.gg).trans st9.gg)
        have hrows9 : ∀ i, i < t.length → ∃ b, us[i]? = some (V.ref b) ∧ SqL K G9 b ((row t i).map V.int) := fun i hi => let ⟨b, h1, h2⟩ := hrows i hi; ⟨b, h1, SqL.ext h2 ((st6.gg.trans st8.gg).trans st9.gg)⟩
        obtain ⟨sh1, sh2, sh3, sh4⟩ := tab_show tab hn7
        refine ⟨_, rfl, tb, tabD t, rfl, Dp.up st9.sub dp9, sh1, sh2, sh3, sh4, ?_⟩
        refine ⟨_, _, rfl, ?_⟩
        have hC9 : Choir K G9 H9 p (1000 * i + 1 + 200) := Choir.keep (st8.trans st9) (fun z => nomatch z) hC5
        have st09 : Stp [p] G1 H1 G9 H9 := st06.trans (st8.trans st9).nil
        obtain ⟨σ0, hσ0⟩ : ∃ σ0 : L2.St, σ0 = [some (.ref a), some (.ref p), some (.int (0 + (i : Int))), some (.int t.length), some (.ref tb), some (.ref Dl), some (.ref tl), x7, x8, x9, some (.ref x), some (.str (tabD t).shown), none, o13, o14, o15, o16, o17, none] := ⟨_, rfl⟩
        refine ⟨fun σ H' => σ = σ0 ∧ Stp [] G9 H9 G9 H', ?_, ?_⟩
        · -- the same for tuples; the table stands; the truth
          refine ⟨_, rfl, tb, us, G9, rfl, .inr hT9, st9.sub, fun J wJ D hD => ?_⟩
          refine lc_pure wJ (fun j v G => ∃ b, v = .ref b ∧ SqT K G b ((row t j).map V.int)) (fun j v G G' s h => let ⟨b, h1, h2⟩ := h; ⟨b, h1, SqT.ext h2 s⟩) (by omega) st9.sub hD (fun G H st => st.gg.trans st.sub) ?_ ?_
          · rintro j y Ga Ha Hb Qy hj sta ⟨rfl, hx⟩ hq
            obtain ⟨b, b1, b2⟩ := hrows9 j (by omega)
            rw [b1] at hx
            cases hx
            exact ⟨rfl, _, rfl, b, _, rfl, .inl ⟨SqL.ext b2 (sta.gg.trans sta.sub), fun l hl => hq _ (upd Ga l (.tup ((row t j).map V.int))) _ ((Stp.refl sta.sub).data hl) ⟨l, rfl, SqT.of upd_same⟩⟩⟩
          · intro Ga Ha ys sta hl hg hyl hrel
            have sta' : Stp [] G9 H9 Ga Ha := Stp.own (Stp.refl st9.sub) hD sta
            refine ⟨D, ys, rfl, .inl ⟨SqL.of hl, fun q hq => ?_⟩⟩
            have stq := sta'.data (o := HO.tup ys) hq
            refine ⟨.ref q, t, upd Ga q (.tup ys), rfl, ⟨q, ys, rfl, tup_sq upd_same, by omega, fun j hj => ?_⟩, stq.sub, ok, fun x2 Gb Hb stb told2 => ?_⟩
            · have hjy : j < ys.length := by omega
              obtain ⟨b, e1, e2⟩ := hrel j ys[j] (List.getElem?_eq_getElem hjy)
              exact ⟨b, by rw [List.getElem?_eq_getElem hjy, e1], .inl (SqT.ext e2 (same_new (sta.gnew hq)))⟩
            · have st10 : Stp [] G9 H9 Gb Hb := stq.trans stb
              obtain ⟨C, dx, dy, fs, gs, wd, u, v, d, hC, c1, c2, c3, c4, c5, c6, c7, c8, c9, c10⟩ := told_two told2 (told.up st10.gg)
              obtain ⟨nm, l1, l2, l3, l4, l5⟩ := L.of hC
              refine ⟨_, rfl, x2, x, C, C, dx, dy, fs, gs, rfl, rfl, st10.sub _ _ c1, st10.sub _ _ c2, l4, l5, x2, x, C, dx, dy, fs, gs, wd, nm, u, v, d, rfl, st10.sub _ _ c1, st10.sub _ _ c2, l1, l2, l3, c3, c4, c5, c6, Dp.up st10.sub c7, Dp.up st10.sub c8, c9, c10, true, rfl, _, rfl, ?_⟩
              refine iteF ?_
              refine ⟨_, rfl, tb, tabD t, rfl, Dp.up (st10.gg.trans st10.sub) dp9, sh1, sh2, sh3, sh4, _, rfl, rfl, _, rfl, ?_⟩
              refine iteNS rfl ?_
              have fin : ∀ {el : Addr}, Hb el = none → Stp [] G9 H9 G9 (upd Hb el (.lst [])) := fun hel => Stp.shrink (st10.priv hel)
              rcases told with ⟨w1, w2⟩ | ⟨ti, tj, w1, w2⟩
              · obtain ⟨dz, hs, _, _, z1, _⟩ := ord_all w1
                refine ⟨_, rfl, .inl ⟨x, dz, hs, rfl, (st10.gg.trans st10.sub) _ _ z1, ?_⟩⟩
                refine ⟨_, rfl, (by show 0 ≤ sizeLine; decide), fun el hel => ⟨_, _, Dp.up ((st10.gg.trans st10.sub).trans ((Stp.refl (ms := []) (Same.refl Hb)).priv hel).same) dpt9, .lst (SqL.of upd_same) .nil, shaped_pairs _, by decide +kernel, ?_⟩⟩
                rw [eqv_nil, tl7.nil, w2]
                exact ⟨rfl, _, rfl, iteNS rfl ⟨hσ0.symm, fin hel⟩⟩
              · obtain ⟨dz, hs, _, _, _, z1, _⟩ := trn_all w1
                refine ⟨_, rfl, .inr ⟨x, dz, hs, rfl, (st10.gg.trans st10.sub) _ _ z1, ?_⟩⟩
                refine ⟨_, rfl, (by show 0 ≤ sizeLine; decide), fun el hel => ⟨_, _, Dp.up ((st10.gg.trans st10.sub).trans ((Stp.refl (ms := []) (Same.refl Hb)).priv hel).same) dpt9, .lst (SqL.of upd_same) .nil, shaped_pairs _, by decide +kernel, ?_⟩⟩
                rw [eqv_nil, tl7.nil, noTorn_first w2]
                exact ⟨rfl, _, rfl, iteNS rfl ⟨hσ0.symm, fin hel⟩⟩
        rintro σ Ha ⟨rfl, sta⟩
        subst hσ0
        obtain ⟨σ0, hσ0⟩ : ∃ σ0 : L2.St, σ0 = [some (.ref a), some (.ref p), some (.int (0 + (i : Int))), some (.int t.length), some (.ref tb), some (.ref Dl), some (.ref tl), x7, x8, x9, some (.ref x), some (.str (tabD t).shown), none, o13, o14, o15, o16, o17, none] := ⟨_, rfl⟩
        refine ⟨fun σ H' => σ = σ0 ∧ Stp [] G9 H9 G9 H', ?_, ?_⟩
        · -- an order: its parts, its word
          refine ⟨_, rfl, (by show 0 ≤ sizeLine; decide), fun el hel => ⟨_, _, Dp.up (sta.priv hel).sub dpt9, .lst (SqL.of upd_same) .nil, shaped_pairs _, by decide +kernel, _, rfl, ?_⟩⟩
          have stb := sta.priv (o := HO.lst []) hel
          rw [eqv_nil, tl7.nil]
          rcases told with ⟨w1, w2⟩ | ⟨ti, tj, w1, w2⟩
          · rw [w2]
            refine iteT ?_
            obtain ⟨dz, hs, v, pp, z1, z2, z3, z4, z5⟩ := ord_all w1
            refine ⟨_, rfl, .ref x, .ref CO, .ref CO, .ref CO, true, rfl, .own _, NameC.ty L.C.nO (stb.sub _ _ z1), L.IC.oo, true, rfl, ?_⟩
            refine iteF ?_
            refine ⟨_, rfl, x, CO, dz, hs, .ref pp, rfl, stb.sub _ _ z1, L.C.pO.cl, L.C.pO.nP, z3, _, rfl, Dl, _, rfl, .inl ⟨SqL.of (stb.sub _ _ gP9), fun q hq => ⟨(by show 1 ≤ sizeLine; decide), fun q2 hq2 => ?_⟩⟩⟩
            have stc := (stb.priv (o := HO.tup ((plc t).map V.int)) hq).priv (o := HO.tup [.ref q]) hq2
            have nq : q ≠ q2 := ne_of_none upd_same hq2
            refine ⟨.tuple [.tuple ((plc t).map PyData.int)], .tuple [.tuple ((plc t).map PyData.int)], .tup (SqT.ext z4 stc.sub) (.cons (Dp.up stc.sub z5) .nil), .tup (SqT.of upd_same) (.cons (.tup (SqT.of (by rw [upd_ne nq]; exact upd_same)) (DpAll.ints _)) .nil), shaped_partsO _, shaped_partsO _, _, rfl, ?_⟩
            rw [eqv_partsO]
            refine iteF ?_
            refine ⟨_, rfl, x, CO, dz, hs, .str "order", rfl, stc.sub _ _ z1, L.C.pO.cl, L.C.pO.nW, z2, rfl, _, rfl, ?_⟩
            exact iteNS rfl ⟨hσ0.symm, Stp.shrink stc⟩
          · rw [noTorn_first w2]
            exact iteF ⟨hσ0.symm, Stp.shrink stb⟩
        rintro σ Hb ⟨rfl, sta⟩
        subst hσ0
        obtain ⟨σ0, hσ0⟩ : ∃ σ0 : L2.St, σ0 = [some (.ref a), some (.ref p), some (.int (0 + (i : Int))), some (.int t.length), some (.ref tb), some (.ref Dl), some (.ref tl), x7, x8, x9, some (.ref x), some (.str (tabD t).shown), none, o13, o14, o15, o16, o17, none] := ⟨_, rfl⟩
        refine ⟨fun σ H' => σ = σ0 ∧ Stp [] G9 H9 G9 H', ?_, ?_⟩
        · -- torn: its pair, its word
          refine ⟨_, rfl, (by show 0 ≤ sizeLine; decide), fun el hel => ⟨_, _, Dp.up (sta.priv hel).sub dpt9, .lst (SqL.of upd_same) .nil, shaped_pairs _, by decide +kernel, _, rfl, ?_⟩⟩
          have stb := sta.priv (o := HO.lst []) hel
          rw [eqv_nil, tl7.nil]
          rcases told with ⟨w1, w2⟩ | ⟨ti, tj, w1, w2⟩
          · rw [w2]
            exact iteF ⟨hσ0.symm, Stp.shrink stb⟩
          · rw [noTorn_first w2]
            refine iteT ?_
            obtain ⟨dz, hs, u, v, pp, z1, z2, z3, z4, z5, z6, z7, z8⟩ := trn_all w1
            cases z5
            cases z6
            refine ⟨_, rfl, .ref x, .ref CT, .ref CT, .ref CT, true, rfl, .own _, NameC.ty L.C.nT (stb.sub _ _ z1), L.IC.tt, true, rfl, ?_⟩
            refine iteF ?_
            refine ⟨_, rfl, x, CT, dz, hs, _, rfl, stb.sub _ _ z1, L.C.pT.cl, L.C.pT.n1, z7, _, rfl, x, CT, dz, hs, _, rfl, stb.sub _ _ z1, L.C.pT.cl, L.C.pT.n2, z8, (by show 2 ≤ sizeLine; decide), fun q hq => ?_⟩
            have stc := stb.priv (o := HO.tup [.int ti, .int tj]) hq
            refine ⟨_, rfl, pairD (ti, tj), _, .tup (SqT.of upd_same) (.cons (.int _) (.cons (.int _) .nil)), Dp.up stc.sub dpt9, shaped_pair _, shaped_pairs _, _, rfl, ?_⟩
            rw [any_pair, decide_eq_true ((tl7 ti tj).mpr ⟨ti, tj, rfl, rfl, w2.1, w2.2.1, w2.2.2.1⟩)]
            refine iteF ?_
            refine ⟨_, rfl, x, CT, dz, hs, .str "torn", rfl, stc.sub _ _ z1, L.C.pT.cl, L.C.pT.nW, z2, rfl, _, rfl, ?_⟩
            exact iteNS rfl ⟨hσ0.symm, Stp.shrink stc⟩
        rintro σ Hc ⟨rfl, sta⟩
        subst hσ0
        obtain ⟨σ0, hσ0⟩ : ∃ σ0 : L2.St, σ0 = [some (.ref a), some (.ref p), some (.int (0 + (i : Int))), some (.int t.length), some (.ref tb), some (.ref Dl), some (.ref tl), x7, x8, x9, some (.ref x), some (.str (tabD t).shown), none, o13, o14, o15, o16, o17, none] := ⟨_, rfl⟩
        have made1 : ∀ {Gx Hx Gy Hy : Hp} {C z dz : Addr} {o : HO}, Stp [] G9 H9 Gx Hx → Hx z = none → Hx dz = none → dz ≠ z → Stp [z] Gx (upd (upd Hx dz (.own z)) z (.ins C dz [])) Gy Hy → Gy z = none → Hy z = some o → Stp [] G9 H9 (upd Gy z o) Hy := fun a b c d e f g => made a b c d e f g
        have okp : okd 1 (.list ((plc t).map PyData.int)) := ⟨by rw [List.length_map, hpl]; omega, fun d hd => by
          obtain ⟨z, _, rfl⟩ := List.mem_map.mp hd
          trivial⟩
        refine ⟨fun σ H' => σ = σ0 ∧ Stp [] G9 H9 G9 H', ?_, ?_⟩
        · -- what shows_order says of it, and of an order of the places
          refine ⟨_, rfl, _, rfl, .ref tb, .ref x, t, G9, true, rfl, tv9, sta.sub, ok, told_verd (by omega) told, fun Gd Hd std => ?_⟩
          have st10 := sta.trans std
          refine ⟨_, rfl, _, rfl, ?_⟩
          intro y dy ny ndy ney
          obtain ⟨ms, gx⟩ := make_same (C := CO) st10.sub ny ndy ney
          refine ⟨y, dy, .ref Dl, Gd, .list ((plc t).map PyData.int), rfl, upd_same, gx, ms, .lst (SqL.of (st10.gg _ _ gP9)) (DpAll.ints _), okp, fun Ge He ste hg ho => ⟨rfl, ?_⟩⟩
          obtain ⟨dx', v, q, ho1, ho2, ho3⟩ := ho
          have st11 := made st10 ny ndy ney ste hg ho1
          have hov : OrdV K CO (upd Ge y (.ins CO dx' (putF "places" v (putF "parts" (.ref q) (putF "word" (.str "order") []))))) y (.tuple ((plc t).map PyData.int)) := ⟨dx', v, q, upd_same, SqT.ext ho2 (same_new hg), by
            have := Dp.up (same_new (o := .ins CO dx' (putF "places" v (putF "parts" (.ref q) (putF "word" (.str "order") [])))) hg) ho3
            rwa [show fix (.list ((plc t).map PyData.int)) = .tuple ((plc t).map PyData.int) by simp [fix, fixAll_ints]] at this⟩
          refine ⟨.ref tb, .ref y, t, _, noTorn t, rfl, tv9.up st11.gg, st11.sub, ok, .inl ⟨y, _, rfl, hov, .inr ⟨_, rfl, by rw [List.length_map, hpl]; omega⟩, (isOrd_plc t).symm⟩, fun Gf Hf stf => ?_⟩
          have st12 := st11.trans stf
          refine ⟨(by show 2 ≤ sizeLine; decide), fun l hl => ?_⟩
          have st13 := st12.priv (o := HO.lst [.bl true, .bl (noTorn t)]) hl
          have shb : ∀ b : Bool, (PyData.list [.bool true, .bool b]).showable = true ∧ (PyData.list [.bool true, .bool b]).hasDict = false ∧ (PyData.list [.bool true, .bool b]).depth ≤ 60 ∧ (PyData.list [.bool true, .bool b]).shown.length ≤ sizeLine := fun b => by cases b <;> exact ⟨by decide +kernel, by decide +kernel, by decide +kernel, by decide +kernel⟩
          obtain ⟨s1, s2, s3, s4⟩ := shb (noTorn t)
          refine ⟨l, .list [.bool true, .bool (noTorn t)], rfl, .lst (SqL.of upd_same) (.cons (.bl _) (.cons (.bl _) .nil)), s1, s2, s3, s4, ?_⟩
          refine ⟨_, rfl, (by show 0 ≤ sizeLine; decide), fun el hel => ⟨_, _, Dp.up (st13.priv hel).sub (Dp.up st13.gg dpt9), .lst (SqL.of upd_same) .nil, shaped_pairs _, by decide +kernel, ?_⟩⟩
          have st14 := st13.priv (o := HO.lst []) hel
          rw [eqv_nil, tl7.nil]
          refine ⟨(by show 2 ≤ sizeLine; decide), fun l2 hl2 => ?_⟩
          have st15 := st14.priv (o := HO.lst [.bl true, .bl (noTorn t)]) hl2
          refine ⟨l2, .list [.bool true, .bool (noTorn t)], rfl, .lst (SqL.of upd_same) (.cons (.bl _) (.cons (.bl _) .nil)), s1, s2, s3, s4, rfl, _, rfl, ?_⟩
          exact iteNS rfl ⟨hσ0.symm, Stp.shrink st15⟩
        rintro σ Hd ⟨rfl, sta⟩
        subst hσ0
        refine ⟨fun σ H' => ∃ q13 q14 : Option V, σ = [some (.ref a), some (.ref p), some (.int (0 + (i : Int))), some (.int t.length), some (.ref tb), some (.ref Dl), some (.ref tl), x7, x8, x9, some (.ref x), some (.str (tabD t).shown), none, q13, q14, o15, o16, o17, none] ∧ Stp [p] G9 H9 G9 H' ∧ Choir K G9 H' p (1000 * i + 1 + 200 + 12), ?_, ?_⟩
        · -- six pairs
          refine ⟨6, rfl, by decide, by decide, ?_⟩
          refine for_range (lo := 0) (n := 6) (fun l σ H' => ∃ q13 q14 : Option V, σ = [some (.ref a), some (.ref p), some (.int (0 + (i : Int))), some (.int t.length), some (.ref tb), some (.ref Dl), some (.ref tl), x7, x8, x9, some (.ref x), some (.str (tabD t).shown), none, q13, q14, o15, o16, o17, none] ∧ Stp [p] G9 H9 G9 H' ∧ Choir K G9 H' p (1000 * i + 1 + 200 + 2 * l)) ⟨_, _, rfl, sta.nil, Choir.le (Choir.same hC9 sta (fun z => nomatch z)) (by omega)⟩ ?_ ?_
          · rintro l σ He hl ⟨q13, q14, rfl, ste, hCe⟩
            refine ⟨_, rfl, _, rfl, _, _, rfl, rfl, p, _, _, G9, rfl, hCe, ste.sub, by omega, by omega, by omega, fun r1 Hf h10 h11 stf hCf => ?_⟩
            refine ⟨_, rfl, rfl, .inr ⟨_, rfl, _, _, rfl, rfl, ?_⟩⟩
            refine ⟨_, rfl, _, rfl, _, _, rfl, rfl, p, _, _, G9, rfl, hCf, stf.sub, by omega, by omega, by omega, fun r2 Hg h20 h21 stg hCg => ?_⟩
            refine ⟨(by show 2 ≤ sizeLine; decide), fun q hq => ?_⟩
            obtain ⟨r0, hr0'⟩ : ∃ r0 : Int, r0 = r1 - (if decide (V.int (0 + (l : Int)) = V.int 0) then 1 else 0) := ⟨_, rfl⟩
            have e0 : ∀ z : Int, r1 - (if decide (V.int (0 + (l : Int)) = V.int 0) then 1 else 0) = z → HO.tup [V.int (r1 - (if decide (V.int (0 + (l : Int)) = V.int 0) then 1 else 0)), V.int r2] = HO.tup [V.int z, V.int r2] := fun z e => by rw [e]
            have st10 := (ste.trans (stf.trans stg)).data (o := HO.tup [V.int (r1 - (if decide (V.int (0 + (l : Int)) = V.int 0) then 1 else 0)), V.int r2]) hq
            have hqq : upd Hg q (HO.tup [V.int (r1 - (if decide (V.int (0 + (l : Int)) = V.int 0) then 1 else 0)), V.int r2]) q = some (.tup [V.int r0, V.int r2]) := by rw [upd_same, e0 r0 hr0'.symm]
            have gqq : upd G9 q (HO.tup [V.int (r1 - (if decide (V.int (0 + (l : Int)) = V.int 0) then 1 else 0)), V.int r2]) q = some (.tup [V.int r0, V.int r2]) := by rw [upd_same, e0 r0 hr0'.symm]
            have npq : p ≠ q := fun z => by rw [← z] at hq; exact hpn hCg hq
            have hCh : Choir K G9 (upd Hg q (HO.tup [V.int (r1 - (if decide (V.int (0 + (l : Int)) = V.int 0) then 1 else 0)), V.int r2])) p (1000 * i + 1 + 200 + 2 * l + 1 + 1) := by
              obtain ⟨q5, cs5, t5, r5, h5, hr5⟩ := hCg
              exact ⟨q5, cs5, t5, r5, by rw [upd_ne npq]; exact h5, hr5⟩
            refine ⟨_, rfl, _, rfl, q, _, _, .int r2, rfl, rfl, SqT.of hqq, atI_nat (j := 1) rfl, _, rfl, q, _, _, .int r0, rfl, rfl, SqT.of hqq, atI_nat (j := 0) rfl, rfl, rfl, ?_⟩
            intro y dy ny ndy ney
            refine mk_torn ny ndy ney st10.sub (.int r0) (.int r2) (okd_int _ _) (okd_int _ _) fun Gh Hh sth hT2 => ?_
            have st11 := st10.trans sth.nil
            refine ⟨.ref tb, .ref y, t, Gh, isTrn t (.int r0) (.int r2), rfl, tv9.up (st10.gg.trans sth.gg), sth.sub, ok, .inr (.inl ⟨y, _, _, rfl, hT2, rfl⟩), fun Gi Hi sti => ?_⟩
            have st12 := st11.trans sti.nil
            have up10 := (sth.trans sti)
            refine ⟨_, rfl, ?_⟩
            refine ⟨_, rfl, _, rfl, pairD (r0, r2), _, .tup (SqT.of (up10.same _ _ hqq)) (.cons (.int _) (.cons (.int _) .nil)), Dp.up (st12.gg.trans st12.sub) dpt9, shaped_pair _, shaped_pairs _, _, rfl, ?_⟩
            rw [any_pair, tl7.trn]
            refine ⟨rfl, _, rfl, ?_⟩
            refine iteNS rfl ?_
            refine ⟨_, _, rfl, Stp.shrink st12, Choir.le (Choir.hp hCh fun o h => up10.same _ _ h) (by omega)⟩
          · rintro σ He ⟨q13, q14, rfl, ste, hCe⟩
            exact ⟨_, _, rfl, ste, hCe.le (by omega)⟩
        rintro σ He ⟨q13, q14, rfl, ste, hCe⟩
        -- the place that is bent
        refine ⟨_, rfl, _, rfl, p, _, _, G9, rfl, hCe, ste.sub, by omega, by omega, by omega, fun r1 Hf h10 h11 stf hCf => ?_⟩
        have sA := ste.trans stf
        obtain ⟨k, rfl⟩ : ∃ k : Nat, r1 = k := ⟨r1.toNat, (Int.toNat_of_nonneg h10).symm⟩
        have hk : k < (plc t).length := by omega
        have s0 : Stp [] G9 Hf G9 Hf := Stp.refl sA.sub
        have pl : ∀ {Gz Hz : Hp}, Stp [] G9 Hf Gz Hz → Hz Dl = some (.lst ((plc t).map V.int)) := fun st => (st.gg.trans st.sub) _ _ gP9
        have nw : ∀ {Gz Hz : Hp} {c : Addr} {o : HO}, Stp [] G9 Hf Gz Hz → Hz c = none → Same Gz (upd Gz c o) := fun st h => same_new (st.gnew h)
        -- the first: one place is one more
        refine ⟨_, rfl, _, rfl, _, rfl, Dl, _, rfl, SqL.of (pl s0), fun c1 hc1 => ?_⟩
        have s1 := s0.data (o := HO.lst (cutV ((plc t).map V.int) none (some (k : Int)))) hc1
        refine ⟨_, rfl, _, rfl, Dl, _, _, .int ((plc t).getD k 0), rfl, rfl, SqL.of (pl s1), atI_nat (ints_at hk), _, _, rfl, rfl, (by show 1 ≤ sizeLine; decide), fun c2 hc2 => ?_⟩
        have s2 := s1.data (o := HO.lst [V.int ((plc t).getD k 0 + 1)]) hc2
        have cl1 := cutV_length ((plc t).map V.int) none (some (k : Int))
        rw [List.length_map] at cl1
        refine ⟨c1, c2, _, _, rfl, rfl, s2.sub _ _ (nw s1 hc2 _ _ upd_same), upd_same, by rw [sizeLine_eq]; simp only [List.length_cons, List.length_nil]; omega, fun c3 hc3 => ?_⟩
        have s3 := s2.data (o := HO.lst (cutV ((plc t).map V.int) none (some (k : Int)) ++ [V.int ((plc t).getD k 0 + 1)])) hc3
        refine ⟨_, rfl, _, rfl, _, _, rfl, rfl, _, rfl, Dl, _, rfl, SqL.of (pl s3), fun c4 hc4 => ?_⟩
        have s4 := s3.data (o := HO.lst (cutV ((plc t).map V.int) (some ((k : Int) + 1)) none)) hc4
        have cl2 := cutV_length ((plc t).map V.int) (some ((k : Int) + 1)) none
        rw [List.length_map] at cl2
        refine ⟨c3, c4, _, _, rfl, rfl, s4.sub _ _ (nw s3 hc4 _ _ upd_same), upd_same, by rw [sizeLine_eq]; simp only [List.length_append, List.length_cons, List.length_nil]; omega, fun c5 hc5 => ?_⟩
        have s5 := s4.data (o := HO.lst (cutV ((plc t).map V.int) none (some (k : Int)) ++ [V.int ((plc t).getD k 0 + 1)] ++ cutV ((plc t).map V.int) (some ((k : Int) + 1)) none)) hc5
        have e5 : cutV ((plc t).map V.int) none (some (k : Int)) ++ [V.int ((plc t).getD k 0 + 1)] ++ cutV ((plc t).map V.int) (some ((k : Int) + 1)) none = ((plc t).take k ++ [(plc t).getD k 0 + 1] ++ (plc t).drop (k + 1)).map V.int := by
          rw [show ((k : Int) + 1) = ((k + 1 : Nat) : Int) by omega, cut_to _ _ (by omega), cut_from _ _ (by omega), List.map_append, List.map_append]
          rfl
        have w5 : ∀ Gz : Hp, Bent K (upd Gz c5 (HO.lst (cutV ((plc t).map V.int) none (some (k : Int)) ++ [V.int ((plc t).getD k 0 + 1)] ++ cutV ((plc t).map V.int) (some ((k : Int) + 1)) none))) (.ref c5) t := fun Gz => bent_ints (ms := (plc t).take k ++ [(plc t).getD k 0 + 1] ++ (plc t).drop (k + 1)) (by rw [← e5]; exact SqL.of upd_same) (by simp only [List.length_append, List.length_take, List.length_drop, List.length_cons, List.length_nil]; omega) (bump_ne _ hk)
        -- the second: the last is lacking
        refine ⟨_, rfl, _, rfl, _, rfl, Dl, _, rfl, SqL.of (pl s5), fun c6 hc6 => ?_⟩
        have s6 := s5.data (o := HO.lst (cutV ((plc t).map V.int) none (some (-1)))) hc6
        have w6 : ∀ Gz : Hp, Bent K (upd Gz c6 (HO.lst (cutV ((plc t).map V.int) none (some (-1))))) (.ref c6) t := fun Gz => bent_ints (ms := (plc t).take ((plc t).length - 1)) (by rw [← cut_last]; exact SqL.of upd_same) (by rw [List.length_take]; omega) (fun z => by have := congrArg List.length z; rw [List.length_take] at this; omega)
        -- the third: one more
        refine ⟨_, rfl, (by show 1 ≤ sizeLine; decide), fun c7 hc7 => ?_⟩
        have s7 := s6.data (o := HO.lst [V.int 0]) hc7
        refine ⟨Dl, c7, _, _, rfl, rfl, pl s7, upd_same, by rw [sizeLine_eq, List.length_map]; simp only [List.length_cons, List.length_nil]; omega, fun c8 hc8 => ?_⟩
        have s8 := s7.data (o := HO.lst ((plc t).map V.int ++ [V.int 0])) hc8
        have w8 : ∀ Gz : Hp, Bent K (upd Gz c8 (HO.lst ((plc t).map V.int ++ [V.int 0]))) (.ref c8) t := fun Gz => bent_ints (ms := plc t ++ [0]) (by rw [List.map_append]; exact SqL.of upd_same) (by simp only [List.length_append, List.length_cons, List.length_nil]; omega) (fun z => by have := congrArg List.length z; simp only [List.length_append, List.length_cons, List.length_nil] at this; omega)
        -- the fourth: from behind
        refine ⟨_, rfl, Dl, _, rfl, SqL.of (pl s8), fun c9 hc9 => ?_⟩
        have s9 := s8.data (o := HO.lst ((plc t).map V.int).reverse) hc9
        refine ⟨_, rfl, .list ((plc t).reverse.map PyData.int), .list ((plc t).map PyData.int), .lst (xs := ((plc t).reverse).map V.int) (by rw [List.map_reverse]; exact SqL.of upd_same) (DpAll.ints _), .lst (SqL.of (pl s9)) (DpAll.ints _), shaped_intsL' _, shaped_intsL' _, _, rfl, ?_⟩
        rw [eqv_intsL]
        refine ife_by (fun v H' => ∃ (Gz : Hp) (c : Addr), v = .ref c ∧ Stp [] G9 Hf Gz H' ∧ Bent K Gz (.ref c5) t ∧ Bent K Gz (.ref c6) t ∧ Bent K Gz (.ref c8) t ∧ Bent K Gz (.ref c) t) (fun hne k2 => ?_) (fun heq k2 => ?_) ?_
        · have hne' : (plc t).reverse ≠ plc t := fun z => by rw [decide_eq_true z] at hne; cases hne
          refine ⟨_, rfl, Dl, _, rfl, SqL.of (pl s9), fun c10 hc10 => k2 _ _ ?_⟩
          have s10 := s9.data (o := HO.lst ((plc t).map V.int).reverse) hc10
          have g9 := nw (o := HO.lst ((plc t).map V.int).reverse) s9 hc10
          have g8 := (nw s8 hc9).trans g9
          have g6 := ((nw s6 hc7).trans (nw s7 hc8)).trans g8
          exact ⟨_, c10, rfl, s10, (w5 _).up ((nw s5 hc6).trans g6), (w6 _).up g6, (w8 _).up g8, bent_ints (ms := (plc t).reverse) (by rw [List.map_reverse]; exact SqL.of upd_same) (by rw [List.length_reverse]; omega) hne'⟩
        · refine ⟨(by show 0 ≤ sizeLine; decide), fun c10 hc10 => k2 _ _ ?_⟩
          have s10 := s9.data (o := HO.lst []) hc10
          have g9 := nw (o := HO.lst []) s9 hc10
          have g8 := (nw s8 hc9).trans g9
          have g6 := ((nw s6 hc7).trans (nw s7 hc8)).trans g8
          exact ⟨_, c10, rfl, s10, (w5 _).up ((nw s5 hc6).trans g6), (w6 _).up g6, (w8 _).up g8, bent_ints (ms := []) (SqL.of upd_same) (by simp) (fun z => by rw [← z] at hpl; simp at hpl; omega)⟩
        rintro v10 H10 ⟨Gx, c10, rfl, s10, x5, x6, x8', x10⟩
        -- the fifth: None all along
        refine ⟨(by show 1 ≤ sizeLine; decide), fun c11 hc11 => ⟨_, rfl, c11, (t.length : Int), _, rfl, rfl, upd_same, by omega, by omega, by rw [sizeLine_eq]; simp only [List.length_cons, List.length_nil]; omega, fun c12 hc12 => ?_⟩⟩
        have s11 := s10.data (o := HO.lst [V.non]) hc11
        have s12 := s11.data (o := HO.lst (List.replicate ((t.length : Int)).toNat [V.non]).flatten) hc12
        have e12 : (List.replicate ((t.length : Int)).toNat [V.non]).flatten = List.replicate (t.length - 1 + 1) V.non := by
          rw [Int.toNat_natCast, show t.length - 1 + 1 = t.length by omega]
          generalize t.length = m
          induction m with
          | zero => rfl
          | succ m ih => rw [List.replicate_succ, List.replicate_succ, List.flatten_cons, ih]; rfl
        have x12 : ∀ Gz : Hp, Bent K (upd Gz c12 (HO.lst (List.replicate ((t.length : Int)).toNat [V.non]).flatten)) (.ref c12) t := fun Gz => bent_nones (n := t.length - 1) (by rw [← e12]; exact SqL.of upd_same) (by omega)
        refine ⟨(by show 5 ≤ sizeLine; decide), fun bl hbl => ?_⟩
        have s13 := s12.data (o := HO.lst [.ref c5, .ref c6, .ref c8, .ref c10, .ref c12]) hbl
        have g12 := nw (o := HO.lst [.ref c5, .ref c6, .ref c8, .ref c10, .ref c12]) s12 hbl
        have g10 := ((nw s10 hc11).trans (nw s11 hc12)).trans g12
        obtain ⟨Gy, hGy⟩ : ∃ Gy, Gy = upd (upd (upd Gx c11 (HO.lst [V.non])) c12 (HO.lst (List.replicate ((t.length : Int)).toNat [V.non]).flatten)) bl (HO.lst [V.ref c5, V.ref c6, V.ref c8, V.ref c10, V.ref c12]) := ⟨_, rfl⟩
        have gbl : Gy bl = some (HO.lst [V.ref c5, V.ref c6, V.ref c8, V.ref c10, V.ref c12]) := by rw [hGy]; exact upd_same
        rw [← hGy] at s13 g12 g10
        have ball : ∀ (j : Nat) (v : V), [V.ref c5, V.ref c6, V.ref c8, V.ref c10, V.ref c12][j]? = some v → Bent K Gy v t := fun j v hv => by
          have hm := List.mem_of_getElem? hv
          simp only [List.mem_cons, List.not_mem_nil, or_false] at hm
          rcases hm with rfl | rfl | rfl | rfl | rfl
          · exact x5.up g10
          · exact x6.up g10
          · exact x8'.up g10
          · exact x10.up g10
          · exact (x12 _).up g12
        -- the odd ones
        refine ⟨_, rfl, bl, _, Gy, rfl, lst_sq gbl, s13.sub, fun J wJ D hD => ?_⟩
        refine lc_pure wJ (fun j v G => Verd K CO CT G v t false) (fun j v G G' s h => h.up s) (show 5 ≤ 1000000 by decide) s13.sub hD (fun G H st => st.gg.trans st.sub) ?_ ?_
        · rintro j z Ga Ha Hb Qy hj sta ⟨rfl, hx⟩ hq
          obtain ⟨ds, d1, d2, d3, d4⟩ := ball j z hx
          refine ⟨rfl, _, rfl, ?_⟩
          intro y dy ny ndy ney
          refine mk_order ny ndy ney sta.sub (Dp.up sta.gg d1) d2 fun Gc Hc stc ho => hq _ Gc Hc stc (.inl ⟨y, _, rfl, ho, ?_, ?_⟩)
          · exact .inr ⟨fixAll ds, by simp [fix], by rw [fixAll_len]; exact d3⟩
          · rw [show fix (.list ds) = .tuple (fixAll ds) by simp [fix]]
            exact d4.symm
        · intro Ga Ha ys sta hl hg hyl hrel
          have s14 : Stp [] G9 Hf Ga Ha := Stp.own s13 hD sta
          intro y1 d1 a1 b1' c1'
          refine mk_torn a1 b1' c1' s14.sub .non (.int 1) trivial (okd_int _ _) fun Gb Hb stb ht1 => ?_
          intro y2 d2 a2 b2' c2'
          refine mk_torn a2 b2' c2' stb.sub (.bl true) (.int 2) trivial (okd_int _ _) fun Gc Hc stc ht2 => ?_
          intro y3 d3 a3 b3' c3'
          refine mk_torn a3 b3' c3' stc.sub (.str _) (.str _) trivial trivial fun Gd Hd' std ht3 => ?_
          intro y4 d4 a4 b4' c4'
          refine mk_order a4 b4' c4' std.sub .non trivial fun Ge He' ste4 ho4 => ?_
          intro y5 d5 a5 b5' c5'
          refine mk_order a5 b5' c5' ste4.sub (.int 5) (okd_int _ _) fun Gf Hf' stf5 ho5 => ?_
          have t3 := (stb.trans stc).trans std
          have t5 := (t3.trans ste4).trans stf5
          have s15 := s14.trans t5
          refine ⟨_, rfl, Dl, _, rfl, .inl ⟨SqL.of (pl s15), fun q hq => ?_⟩⟩
          have s16 := s15.data (o := HO.tup ((plc t).map V.int)) hq
          refine ⟨(by show 9 ≤ sizeLine; decide), fun l9 h9 => ?_⟩
          have s17 := s16.data (o := HO.lst [.ref y1, .ref y2, .ref y3, .ref y4, .ref y5, .non, .int 5, .ref q, .str "order"]) h9
          have hD2 : Hf' D = some (.lst ys) := t5.same _ _ hl
          have nDq : D ≠ q := ne_of_none hD2 hq
          have hD3 : upd Hf' q (HO.tup ((plc t).map V.int)) D = some (.lst ys) := by rw [upd_ne nDq]; exact hD2
          have nD9 : D ≠ l9 := ne_of_none hD3 h9
          refine ⟨D, l9, ys, _, rfl, rfl, by rw [upd_ne nD9]; exact hD3, upd_same, by rw [hyl, sizeLine_eq]; simp only [List.length_cons, List.length_nil]; omega, fun od hod => ?_⟩
          have s18 := s17.data (o := HO.lst (ys ++ [.ref y1, .ref y2, .ref y3, .ref y4, .ref y5, .non, .int 5, .ref q, .str "order"])) hod
          have g17 := nw (o := HO.lst (ys ++ [.ref y1, .ref y2, .ref y3, .ref y4, .ref y5, .non, .int 5, .ref q, .str "order"])) s17 hod
          have g16 := (nw (o := HO.lst [.ref y1, .ref y2, .ref y3, .ref y4, .ref y5, .non, .int 5, .ref q, .str "order"]) s16 h9).trans g17
          have g15 := (nw (o := HO.tup ((plc t).map V.int)) s15 hq).trans g16
          obtain ⟨Gz, hGz⟩ : ∃ Gz, Gz = upd (upd (upd Gf q (HO.tup ((plc t).map V.int))) l9 (HO.lst [V.ref y1, V.ref y2, V.ref y3, V.ref y4, V.ref y5, V.non, V.int 5, V.ref q, V.str "order"])) od (HO.lst (ys ++ [V.ref y1, V.ref y2, V.ref y3, V.ref y4, V.ref y5, V.non, V.int 5, V.ref q, V.str "order"])) := ⟨_, rfl⟩
          have god : Gz od = some (HO.lst (ys ++ [V.ref y1, V.ref y2, V.ref y3, V.ref y4, V.ref y5, V.non, V.int 5, V.ref q, V.str "order"])) := by rw [hGz]; exact upd_same
          have gq : upd (upd Gf q (HO.tup ((plc t).map V.int))) l9 (HO.lst [V.ref y1, V.ref y2, V.ref y3, V.ref y4, V.ref y5, V.non, V.int 5, V.ref q, V.str "order"]) q = some (.tup ((plc t).map V.int)) := nw s16 h9 _ _ upd_same
          have gq2 := g17 _ _ gq
          rw [← hGz] at s18 g17 g16 g15 gq2
          have call : ∀ v ∈ ys ++ [V.ref y1, V.ref y2, V.ref y3, V.ref y4, V.ref y5, V.non, V.int 5, V.ref q, V.str "order"], Verd K CO CT Gz v t false := fun v hv => by
            rcases List.mem_append.mp hv with hv | hv
            · obtain ⟨j, hj⟩ := List.mem_iff_getElem?.mp hv
              exact (hrel j v hj).up (t5.gg.trans g15)
            · simp only [List.mem_cons, List.not_mem_nil, or_false] at hv
              rcases hv with rfl | rfl | rfl | rfl | rfl | rfl | rfl | rfl | rfl
              · exact .inr (.inl ⟨y1, _, _, rfl, ht1.up ((((stc.gg.trans std.gg).trans ste4.gg).trans stf5.gg).trans g15), rfl⟩)
              · exact .inr (.inl ⟨y2, _, _, rfl, ht2.up (((std.gg.trans ste4.gg).trans stf5.gg).trans g15), rfl⟩)
              · exact .inr (.inl ⟨y3, _, _, rfl, ht3.up ((ste4.gg.trans stf5.gg).trans g15), rfl⟩)
              · exact .inl ⟨y4, _, rfl, ho4.up (stf5.gg.trans g15), .inl rfl, rfl⟩
              · exact .inl ⟨y5, _, rfl, ho5.up g15, .inl rfl, rfl⟩
              · exact .inr (.inr ⟨.none, .non, trivial, rfl⟩)
              · exact .inr (.inr ⟨.int 5, .int 5, trivial, rfl⟩)
              · exact .inr (.inr ⟨.tuple ((plc t).map PyData.int), .tup (SqT.of gq2) (DpAll.ints _), trivial, rfl⟩)
              · exact .inr (.inr ⟨.str _, .str _, trivial, rfl⟩)
          -- none of them is shown
          have tvz := tv9.up s18.gg
          refine ⟨_, rfl, od, _, Gz, rfl, lst_sq god, s18.sub, fun J2 wJ2 D2 hD2' => ?_⟩
          have gD2 : Gz D2 = none := s18.gnew hD2'
          refine lc_it wJ2 (fun j H => H D2 = some (.lst []) ∧ ∃ G', Stp [D2] Gz (upd _ D2 (.lst [])) G' H) ⟨upd_same, Gz, Stp.refl (same_upd s18.sub gD2)⟩ (fun j H _ ⟨_, G', st⟩ => st.gg.trans st.sub) ?_ ?_
          · rintro j z H20 H21 hj ⟨h1, G', sta2⟩ ⟨rfl, hx⟩
            refine ⟨rfl, ?_⟩
            have hz := call z (List.mem_of_getElem? hx)
            refine ⟨_, rfl, _, rfl, .ref tb, z, t, G', false, rfl, tvz.up sta2.gg, sta2.sub, ok, hz.up sta2.gg, fun G'' H22 stb2 => ⟨false, false, rfl, rfl, _, rfl, ?_⟩⟩
            refine iteF ?_
            exact ⟨stb2.same _ _ h1, G'', sta2.trans stb2.nil⟩
          · rintro H20 ⟨h1, G', sta2⟩
            refine ⟨(by show 0 ≤ sizeLine; decide), fun el hel => ?_⟩
            have nDe : D2 ≠ el := ne_of_none h1 hel
            refine ⟨.list [], .list [], .lst (SqL.of (by rw [upd_ne nDe]; exact h1)) .nil, .lst (SqL.of upd_same) .nil, by decide +kernel, by decide +kernel, _, rfl, ?_⟩
            refine iteF ?_
            have s19 : Stp [] G9 Hf G' H20 := Stp.own s18 hD2' sta2
            have s20 := s19.priv (o := HO.lst []) hel
            have stE := (st09.trans sA).trans s20.nil
            exact ⟨G', _, _, _, _, _, _, _, _, _, _, _, _, _, _, _, rfl, stE, Choir.le (Choir.keep s20 (fun z => nomatch z) hCf) (by omega)⟩
  · rintro σ H2 ⟨G2, o2, o3, o4, o5, o6, o7, o8, o9, o10, o11, o13, o14, o15, o16, o17, rfl, st2, hC2⟩
    exact rfl
end
end B90
set_option Elab.async false
set_option linter.all false
set_option maxRecDepth 100000
set_option maxHeartbeats 4000000
namespace B90
open PySem L2 BayE
theorem kit_self {K : PySem.W.Frag} (C : Addr) : PySem.W.kitOne K (.ref C) (.ref C) = some true := by
  unfold PySem.W.kitOne
  rw [if_pos (beq_self_eq_true _)]
theorem kit_sub {K : PySem.W.Frag} {t : Value} {C : Addr} {cd : ClassData} {b : Bool} (h1 : PySem.W.clsIn K C = some cd) (h2 : PySem.W.typeIn K (.ref C) = some (.type "type")) (h3 : PySem.W.subIn K t (.ref C) = some b) (h4 : (t == .ref C) = false) : PySem.W.kitOne K t (.ref C) = some b := by
  unfold PySem.W.kitOne PySem.W.kitCls
  rw [h4, if_neg Bool.false_ne_true]
  show (if ((PySem.W.clsIn K C).isSome && PySem.W.typeIn K (.ref C) == some (.type "type")) = true then PySem.W.subIn K t (.ref C) else none) = some b
  rw [h1, h2, if_pos (by rfl)]
  exact h3
theorem kb_order {K : PySem.W.Frag} {kV doc pm cdv ct : Value} {an : Option Addr} : KBinds K (PySem.W.fnOf "order_of" "order_of" (defArgs s_order_of) (defBody s_order_of) (defScope s_order_of) .none kV doc pm an cdv ct) ["table"] ["table"] (fun us ws => us ++ ws) (fun us ws => us ++ ws) :=
  ⟨fun s us ws _ hl => match us, ws, hl with
    | [], [_], _ => .of_eq rfl
    | [_], [], _ => .of_eq rfl, fun {vs us zs ws} r1 r2 => r1.append r2⟩
theorem kb_shows {K : PySem.W.Frag} {kV doc pm cdv ct : Value} {an : Option Addr} : KBinds K (PySem.W.fnOf "shows_order" "shows_order" (defArgs s_shows_order) (defBody s_shows_order) (defScope s_shows_order) .none kV doc pm an cdv ct) ["table", "value"] ["value", "table"] (fun us ws => us ++ ws.reverse) (fun us ws => us ++ ws.reverse) :=
  ⟨fun s us ws _ hl => match us, ws, hl with
    | [], [_, _], _ => .of_eq rfl
    | [_], [_], _ => .of_eq rfl
    | [_, _], [], _ => .of_eq rfl
    | [], [], hl => by simp at hl
    | [], [_], hl => by simp at hl
    | [], _ :: _ :: _ :: _, hl => by simp at hl
    | [_], [], hl => by simp at hl
    | [_], _ :: _ :: _, hl => by simp at hl
    | [_, _], _ :: _, hl => by simp at hl
    | _ :: _ :: _ :: _, _, hl => by simp at hl, fun {vs us zs ws} r1 r2 => r1.append r2.reverse⟩
theorem kb_torn {K : PySem.W.Frag} {cc cda : Addr} {doc pm ctv : Value} : KBn K ((NFT cc cda).fd doc pm ctv) ["self", "one", "other"] 1 ["other", "one"] (fun us ws => us ++ ws.reverse) (fun us ws => us ++ ws.reverse) :=
  ⟨fun s us ws _ h1 h2 => match us, ws, h1, h2 with
    | [_], [_, _], _, _ => .of_eq rfl, fun {vs us zs ws} r1 r2 => r1.append r2.reverse⟩
theorem all_mk {l : PySem.W.OpenLaw} {w : World} {K : PySem.W.Frag} {h : Heap} {mg : Str → Option Value} {fa : Addr} (X : K.In h) (G : h.Ns mainGlobals mg) (hfa : mg "law" = some (.ref fa))
    {f0 : Addr} {od0 an0 : Option Addr} {sl0 : Array (Option Value)} {oc0 kV0 dc0 pm0 cd0 ct0 : Value}
    {f1 : Addr} {od1 an1 : Option Addr} {sl1 : Array (Option Value)} {oc1 kV1 dc1 pm1 cd1 ct1 : Value}
    {f2 : Addr} {od2 an2 : Option Addr} {sl2 : Array (Option Value)} {oc2 kV2 dc2 pm2 cd2 ct2 : Value}
    {f3 : Addr} {od3 an3 : Option Addr} {sl3 : Array (Option Value)} {oc3 kV3 dc3 pm3 cd3 ct3 : Value}
    {f4 : Addr} {od4 an4 : Option Addr} {sl4 : Array (Option Value)} {oc4 kV4 dc4 pm4 cd4 ct4 : Value}
    {f5 : Addr} {od5 an5 : Option Addr} {sl5 : Array (Option Value)} {oc5 kV5 dc5 pm5 cd5 ct5 : Value}
    {f6 : Addr} {od6 an6 : Option Addr} {sl6 : Array (Option Value)} {oc6 kV6 dc6 pm6 cd6 ct6 : Value}
    {f7 : Addr} {od7 an7 : Option Addr} {sl7 : Array (Option Value)} {oc7 kV7 dc7 pm7 cd7 ct7 : Value}
    {f8 : Addr} {od8 an8 : Option Addr} {sl8 : Array (Option Value)} {oc8 kV8 dc8 pm8 cd8 ct8 : Value}
    {f9 : Addr} {od9 an9 : Option Addr} {sl9 : Array (Option Value)} {oc9 kV9 dc9 pm9 cd9 ct9 : Value}
    {f10 : Addr} {od10 an10 : Option Addr} {sl10 : Array (Option Value)} {oc10 kV10 dc10 pm10 cd10 ct10 : Value}
    {f11 : Addr} {od11 an11 : Option Addr} {sl11 : Array (Option Value)} {oc11 kV11 dc11 pm11 cd11 ct11 : Value}
    {f12 : Addr} {od12 an12 : Option Addr} {sl12 : Array (Option Value)} {oc12 kV12 dc12 pm12 cd12 ct12 : Value}
    {f13 : Addr} {od13 an13 : Option Addr} {sl13 : Array (Option Value)} {oc13 kV13 dc13 pm13 cd13 ct13 : Value}
    {f14 : Addr} {od14 an14 : Option Addr} {sl14 : Array (Option Value)} {oc14 kV14 dc14 pm14 cd14 ct14 : Value}
    {f15 : Addr} {od15 an15 : Option Addr} {sl15 : Array (Option Value)} {oc15 kV15 dc15 pm15 cd15 ct15 : Value}
    {f16 : Addr} {od16 an16 : Option Addr} {sl16 : Array (Option Value)} {oc16 kV16 dc16 pm16 cd16 ct16 : Value}
    {f17 : Addr} {od17 an17 : Option Addr} {sl17 : Array (Option Value)} {oc17 kV17 dc17 pm17 cd17 ct17 : Value}
    {f18 : Addr} {od18 an18 : Option Addr} {sl18 : Array (Option Value)} {oc18 kV18 dc18 pm18 cd18 ct18 : Value}
    {CO CT CP : Addr} {cdO cdT cdP : ClassData}
    {obO : Obj} {tkO : Tok}
    {fiO cciO caiO : Addr} {odiO : Option Addr} {sliO : Array (Option Value)} {ociO dciO pmiO ctiO : Value}
    {xaO : Value} {xbO : Option Addr} {xvO : Array Value} {xcO : Array (Option Value)} {xsO : Str} {xtO : Tok}
    {yaO : Value} {ybO : Option Addr} {ycO : Array (Option Value)}
    {fpi : Addr} {odpi anpi : Option Addr} {slpi : Array (Option Value)} {ocpi kVpi dcpi pmpi cdpi ctpi : Value}
    {obT : Obj} {tkT : Tok}
    {fiT cciT caiT : Addr} {odiT : Option Addr} {sliT : Array (Option Value)} {ociT dciT pmiT ctiT : Value}
    {xaT : Value} {xbT : Option Addr} {xvT : Array Value} {xcT : Array (Option Value)} {xsT : Str} {xtT : Tok}
    {yaT : Value} {ybT : Option Addr} {ycT : Array (Option Value)}
    {fpe : Addr} {odpe anpe : Option Addr} {slpe : Array (Option Value)} {ocpe kVpe dcpe pmpe cdpe ctpe : Value}
    {fpb : Addr} {odpb anpb : Option Addr} {slpb : Array (Option Value)} {ocpb kVpb dcpb pmpb cdpb ctpb : Value}
    {fdb : Addr} {oddb andb : Option Addr} {sldb : Array (Option Value)} {ocdb kVdb dcdb pmdb cddb ctdb : Value}
    {tLR tMR : Tok}
    (a0 : PySem.W.nsIn K mainGlobals "is_integer" = some (some (.ref f0)))
    (l0 : K.lookup f0 = some ⟨oc0, od0, .func (PySem.W.fnOf "is_integer" "is_integer" (defArgs s_is_integer) (defBody s_is_integer) (defScope s_is_integer) .none kV0 dc0 pm0 an0 cd0 ct0), sl0⟩)
    (c0 : PySem.W.codeIn K cd0 "is_integer" = true)
    (k0 : PySem.W.keepIn K (.ref f0) = true)
    (a1 : PySem.W.nsIn K mainGlobals "is_within" = some (some (.ref f1)))
    (l1 : K.lookup f1 = some ⟨oc1, od1, .func (PySem.W.fnOf "is_within" "is_within" (defArgs s_is_within) (defBody s_is_within) (defScope s_is_within) .none kV1 dc1 pm1 an1 cd1 ct1), sl1⟩)
    (c1 : PySem.W.codeIn K cd1 "is_within" = true)
    (k1 : PySem.W.keepIn K (.ref f1) = true)
    (a2 : PySem.W.nsIn K mainGlobals "fixed" = some (some (.ref f2)))
    (l2 : K.lookup f2 = some ⟨oc2, od2, .func (PySem.W.fnOf "fixed" "fixed" (defArgs s_fixed) (defBody s_fixed) (defScope s_fixed) .none kV2 dc2 pm2 an2 cd2 ct2), sl2⟩)
    (c2 : PySem.W.codeIn K cd2 "fixed" = true)
    (k2 : PySem.W.keepIn K (.ref f2) = true)
    (a3 : PySem.W.nsIn K mainGlobals "entry_in" = some (some (.ref f3)))
    (l3 : K.lookup f3 = some ⟨oc3, od3, .func (PySem.W.fnOf "entry_in" "entry_in" (defArgs s_entry_in) (defBody s_entry_in) (defScope s_entry_in) .none kV3 dc3 pm3 an3 cd3 ct3), sl3⟩)
    (c3 : PySem.W.codeIn K cd3 "entry_in" = true)
    (k3 : PySem.W.keepIn K (.ref f3) = true)
    (a4 : PySem.W.nsIn K mainGlobals "places_told" = some (some (.ref f4)))
    (l4 : K.lookup f4 = some ⟨oc4, od4, .func (PySem.W.fnOf "places_told" "places_told" (defArgs s_places_told) (defBody s_places_told) (defScope s_places_told) .none kV4 dc4 pm4 an4 cd4 ct4), sl4⟩)
    (c4 : PySem.W.codeIn K cd4 "places_told" = true)
    (k4 : PySem.W.keepIn K (.ref f4) = true)
    (a5 : PySem.W.nsIn K mainGlobals "is_torn" = some (some (.ref f5)))
    (l5 : K.lookup f5 = some ⟨oc5, od5, .func (PySem.W.fnOf "is_torn" "is_torn" (defArgs s_is_torn) (defBody s_is_torn) (defScope s_is_torn) .none kV5 dc5 pm5 an5 cd5 ct5), sl5⟩)
    (c5 : PySem.W.codeIn K cd5 "is_torn" = true)
    (k5 : PySem.W.keepIn K (.ref f5) = true)
    (a6 : PySem.W.nsIn K mainGlobals "torn_in" = some (some (.ref f6)))
    (l6 : K.lookup f6 = some ⟨oc6, od6, .func (PySem.W.fnOf "torn_in" "torn_in" (defArgs s_torn_in) (defBody s_torn_in) (defScope s_torn_in) .none kV6 dc6 pm6 an6 cd6 ct6), sl6⟩)
    (c6 : PySem.W.codeIn K cd6 "torn_in" = true)
    (k6 : PySem.W.keepIn K (.ref f6) = true)
    (a7 : PySem.W.nsIn K mainGlobals "is_table" = some (some (.ref f7)))
    (l7 : K.lookup f7 = some ⟨oc7, od7, .func (PySem.W.fnOf "is_table" "is_table" (defArgs s_is_table) (defBody s_is_table) (defScope s_is_table) .none kV7 dc7 pm7 an7 cd7 ct7), sl7⟩)
    (c7 : PySem.W.codeIn K cd7 "is_table" = true)
    (k7 : PySem.W.keepIn K (.ref f7) = true)
    (a8 : PySem.W.nsIn K mainGlobals "need_table" = some (some (.ref f8)))
    (l8 : K.lookup f8 = some ⟨oc8, od8, .func (PySem.W.fnOf "need_table" "need_table" (defArgs s_need_table) (defBody s_need_table) (defScope s_need_table) .none kV8 dc8 pm8 an8 cd8 ct8), sl8⟩)
    (c8 : PySem.W.codeIn K cd8 "need_table" = true)
    (k8 : PySem.W.keepIn K (.ref f8) = true)
    (a9 : PySem.W.nsIn K mainGlobals "order_of" = some (some (.ref f9)))
    (l9 : K.lookup f9 = some ⟨oc9, od9, .func (PySem.W.fnOf "order_of" "order_of" (defArgs s_order_of) (defBody s_order_of) (defScope s_order_of) .none kV9 dc9 pm9 an9 cd9 ct9), sl9⟩)
    (c9 : PySem.W.codeIn K cd9 "order_of" = true)
    (k9 : PySem.W.keepIn K (.ref f9) = true)
    (a10 : PySem.W.nsIn K mainGlobals "is_order" = some (some (.ref f10)))
    (l10 : K.lookup f10 = some ⟨oc10, od10, .func (PySem.W.fnOf "is_order" "is_order" (defArgs s_is_order) (defBody s_is_order) (defScope s_is_order) .none kV10 dc10 pm10 an10 cd10 ct10), sl10⟩)
    (c10 : PySem.W.codeIn K cd10 "is_order" = true)
    (k10 : PySem.W.keepIn K (.ref f10) = true)
    (a11 : PySem.W.nsIn K mainGlobals "shows_order" = some (some (.ref f11)))
    (l11 : K.lookup f11 = some ⟨oc11, od11, .func (PySem.W.fnOf "shows_order" "shows_order" (defArgs s_shows_order) (defBody s_shows_order) (defScope s_shows_order) .none kV11 dc11 pm11 an11 cd11 ct11), sl11⟩)
    (c11 : PySem.W.codeIn K cd11 "shows_order" = true)
    (k11 : PySem.W.keepIn K (.ref f11) = true)
    (a12 : PySem.W.nsIn K mainGlobals "_law_choir" = some (some (.ref f12)))
    (l12 : K.lookup f12 = some ⟨oc12, od12, .func (PySem.W.fnOf "_law_choir" "_law_choir" (defArgs s_choir) (defBody s_choir) (defScope s_choir) .none kV12 dc12 pm12 an12 cd12 ct12), sl12⟩)
    (c12 : PySem.W.codeIn K cd12 "_law_choir" = true)
    (k12 : PySem.W.keepIn K (.ref f12) = true)
    (a13 : PySem.W.nsIn K mainGlobals "_law_sing" = some (some (.ref f13)))
    (l13 : K.lookup f13 = some ⟨oc13, od13, .func (PySem.W.fnOf "_law_sing" "_law_sing" (defArgs s_sing) (defBody s_sing) (defScope s_sing) .none kV13 dc13 pm13 an13 cd13 ct13), sl13⟩)
    (c13 : PySem.W.codeIn K cd13 "_law_sing" = true)
    (k13 : PySem.W.keepIn K (.ref f13) = true)
    (a14 : PySem.W.nsIn K mainGlobals "_law_pick" = some (some (.ref f14)))
    (l14 : K.lookup f14 = some ⟨oc14, od14, .func (PySem.W.fnOf "_law_pick" "_law_pick" (defArgs s_pick) (defBody s_pick) (defScope s_pick) .none kV14 dc14 pm14 an14 cd14 ct14), sl14⟩)
    (c14 : PySem.W.codeIn K cd14 "_law_pick" = true)
    (k14 : PySem.W.keepIn K (.ref f14) = true)
    (a15 : PySem.W.nsIn K mainGlobals "_law_drawn" = some (some (.ref f15)))
    (l15 : K.lookup f15 = some ⟨oc15, od15, .func (PySem.W.fnOf "_law_drawn" "_law_drawn" (defArgs s_drawn) (defBody s_drawn) (defScope s_drawn) .none kV15 dc15 pm15 an15 cd15 ct15), sl15⟩)
    (c15 : PySem.W.codeIn K cd15 "_law_drawn" = true)
    (k15 : PySem.W.keepIn K (.ref f15) = true)
    (a16 : PySem.W.nsIn K mainGlobals "_law_entry" = some (some (.ref f16)))
    (l16 : K.lookup f16 = some ⟨oc16, od16, .func (PySem.W.fnOf "_law_entry" "_law_entry" (defArgs s_entry) (defBody s_entry) (defScope s_entry) .none kV16 dc16 pm16 an16 cd16 ct16), sl16⟩)
    (c16 : PySem.W.codeIn K cd16 "_law_entry" = true)
    (k16 : PySem.W.keepIn K (.ref f16) = true)
    (a17 : PySem.W.nsIn K mainGlobals "_law_table" = some (some (.ref f17)))
    (l17 : K.lookup f17 = some ⟨oc17, od17, .func (PySem.W.fnOf "_law_table" "_law_table" (defArgs s_table) (defBody s_table) (defScope s_table) .none kV17 dc17 pm17 an17 cd17 ct17), sl17⟩)
    (c17 : PySem.W.codeIn K cd17 "_law_table" = true)
    (k17 : PySem.W.keepIn K (.ref f17) = true)
    (a18 : PySem.W.nsIn K mainGlobals "law" = some (some (.ref f18)))
    (l18 : K.lookup f18 = some ⟨oc18, od18, .func (PySem.W.fnOf "law" "law" (defArgs s_law) (defBody s_law) (defScope s_law) .none kV18 dc18 pm18 an18 cd18 ct18), sl18⟩)
    (c18 : PySem.W.codeIn K cd18 "law" = true)
    (k18 : PySem.W.keepIn K (.ref f18) = true)
    (aCO : PySem.W.nsIn K mainGlobals "Order" = some (some (.ref CO)))
    (aCT : PySem.W.nsIn K mainGlobals "Torn" = some (some (.ref CT)))
    (aCP : PySem.W.nsIn K mainGlobals "Paper" = some (some (.ref CP)))
    (clO : PySem.W.clsIn K CO = some cdO)
    (tyO : PySem.W.typeIn K (.ref CO) = some (.type "type"))
    (pgO : PySem.W.plainGet K CO Str.empty = true)
    (hdO : PySem.W.hasDictIn K CO = true)
    (poO : PySem.W.plainOver K CO = true)
    (saO : PySem.W.findIn K (.ref CO) "__setattr__" = some (some (.builtin "object.__setattr__")))
    (nWO : PySem.W.findIn K (.ref CO) "word" = some none)
    (nPO : PySem.W.findIn K (.ref CO) "parts" = some none)
    (nPlO : PySem.W.findIn K (.ref CO) "places" = some none)
    (n1O : PySem.W.findIn K (.ref CO) "one" = some none)
    (n2O : PySem.W.findIn K (.ref CO) "other" = some none)
    (nhaO : PySem.W.findIn K (.ref CO) "__class__" = some (some (.builtin "object.__class__")))
    (nhmO : PySem.W.mroIn K CO (.type "object") = some true)
    (nrdO : PySem.W.readsIn K CO (.type "type") = true)
    (nfcO : PySem.W.findCls K (.ref CO) (.type "type") "__name__" = some (.get (.builtin "getset_descriptor.__get__") (.builtin "type.__name__") (.ref CO) (.type "type")))
    (nobO : K.lookup CO = some obO)
    (nslO : (obO.slots[2]?).join = some (.str "Order" tkO))
    (mkO : PySem.W.makesIn K CO = true)
    (kpO : PySem.W.keepIn K (.ref CO) = true)
    (inO : PySem.W.findIn K (.ref CO) "__init__" = some (some (.ref fiO)))
    (ifO : PySem.W.isFn K (.ref fiO) = true)
    (liO : K.lookup fiO = some ⟨ociO, odiO, .func ((NFO cciO caiO).fd dciO pmiO ctiO), sliO⟩)
    (ciO : PySem.W.codeIn K (.ref caiO) "Order.__init__" = true)
    (flO : K.lookup caiO = some ⟨xaO, xbO, .fields xvO, xcO⟩)
    (fvO : xvO[2]? = some (.str xsO xtO))
    (ffO : ((l.prog.main.file : Str) == xsO) = true)
    (ceO : K.lookup cciO = some ⟨yaO, ybO, .cell (some (.ref CO)), ycO⟩)
    (sbO : PySem.W.mroIn K CO (.ref CO) = some true)
    (foO : PySem.W.ks_superIn K CO CO "__init__" = some (some (.ref fpi)))
    (clT : PySem.W.clsIn K CT = some cdT)
    (tyT : PySem.W.typeIn K (.ref CT) = some (.type "type"))
    (pgT : PySem.W.plainGet K CT Str.empty = true)
    (hdT : PySem.W.hasDictIn K CT = true)
    (poT : PySem.W.plainOver K CT = true)
    (saT : PySem.W.findIn K (.ref CT) "__setattr__" = some (some (.builtin "object.__setattr__")))
    (nWT : PySem.W.findIn K (.ref CT) "word" = some none)
    (nPT : PySem.W.findIn K (.ref CT) "parts" = some none)
    (nPlT : PySem.W.findIn K (.ref CT) "places" = some none)
    (n1T : PySem.W.findIn K (.ref CT) "one" = some none)
    (n2T : PySem.W.findIn K (.ref CT) "other" = some none)
    (nhaT : PySem.W.findIn K (.ref CT) "__class__" = some (some (.builtin "object.__class__")))
    (nhmT : PySem.W.mroIn K CT (.type "object") = some true)
    (nrdT : PySem.W.readsIn K CT (.type "type") = true)
    (nfcT : PySem.W.findCls K (.ref CT) (.type "type") "__name__" = some (.get (.builtin "getset_descriptor.__get__") (.builtin "type.__name__") (.ref CT) (.type "type")))
    (nobT : K.lookup CT = some obT)
    (nslT : (obT.slots[2]?).join = some (.str "Torn" tkT))
    (mkT : PySem.W.makesIn K CT = true)
    (kpT : PySem.W.keepIn K (.ref CT) = true)
    (inT : PySem.W.findIn K (.ref CT) "__init__" = some (some (.ref fiT)))
    (ifT : PySem.W.isFn K (.ref fiT) = true)
    (liT : K.lookup fiT = some ⟨ociT, odiT, .func ((NFT cciT caiT).fd dciT pmiT ctiT), sliT⟩)
    (ciT : PySem.W.codeIn K (.ref caiT) "Torn.__init__" = true)
    (flT : K.lookup caiT = some ⟨xaT, xbT, .fields xvT, xcT⟩)
    (fvT : xvT[2]? = some (.str xsT xtT))
    (ffT : ((l.prog.main.file : Str) == xsT) = true)
    (ceT : K.lookup cciT = some ⟨yaT, ybT, .cell (some (.ref CT)), ycT⟩)
    (sbT : PySem.W.mroIn K CT (.ref CT) = some true)
    (foT : PySem.W.ks_superIn K CT CT "__init__" = some (some (.ref fpi)))
    (hn : PySem.W.specialIn K (.builtin "object.__class__") "__get__" = some (some (.builtin "getset_descriptor.__get__")))
    (htk : PySem.W.takesIn K (.builtin "object.__class__") = some true)
    (top : (l.prog.main.scope.names.lookup ("super" : Str)).isSome = false)
    (ext : PySem.W.nsIn K PySem.cStatics "thirdparty.any" = some none)
    (typi : PySem.W.typeIn K (.ref fpi) = some (.type "function"))
    (fipi : PySem.W.fnIn K fpi = true)
    (lpi : K.lookup fpi = some ⟨ocpi, odpi, .func (PySem.W.fnOf "__init__" "Paper.__init__" (defArgs s_PInit) (defBody s_PInit) (defScope s_PInit) .none kVpi dcpi pmpi anpi cdpi ctpi), slpi⟩)
    (cpi : PySem.W.codeIn K cdpi "Paper.__init__" = true)
    (kpi : PySem.W.keepIn K (.ref fpi) = true)
    (eqO : PySem.W.findIn K (.ref CO) "__eq__" = some (some (.ref fpe)))
    (eqT : PySem.W.findIn K (.ref CT) "__eq__" = some (some (.ref fpe)))
    (neO : PySem.W.findIn K (.ref CO) "__ne__" = some (some (.builtin "object.__ne__")))
    (neT : PySem.W.findIn K (.ref CT) "__ne__" = some (some (.builtin "object.__ne__")))
    (ife : PySem.W.isFn K (.ref fpe) = true)
    (lpe : K.lookup fpe = some ⟨ocpe, odpe, .func (PySem.W.fnOf "__eq__" "Paper.__eq__" (defArgs s_PEq) (defBody s_PEq) (defScope s_PEq) .none kVpe dcpe pmpe anpe cdpe ctpe), slpe⟩)
    (cpe : PySem.W.codeIn K cdpe "Paper.__eq__" = true)
    (kpe : PySem.W.keepIn K (.ref fpe) = true)
    (boO : PySem.W.findIn K (.ref CO) "__bool__" = some (some (.ref fpb)))
    (ifb : PySem.W.isFn K (.ref fpb) = true)
    (lpb : K.lookup fpb = some ⟨ocpb, odpb, .func (PySem.W.fnOf "__bool__" "Paper.__bool__" (defArgs s_PBool) (defBody s_PBool) (defScope s_PBool) .none kVpb dcpb pmpb anpb cdpb ctpb), slpb⟩)
    (cpb : PySem.W.codeIn K cdpb "Paper.__bool__" = true)
    (kpb : PySem.W.keepIn K (.ref fpb) = true)
    (boT : PySem.W.findIn K (.ref CT) "__bool__" = some (some (.ref fdb)))
    (ifd : PySem.W.isFn K (.ref fdb) = true)
    (ldb : K.lookup fdb = some ⟨ocdb, oddb, .func (PySem.W.fnOf "__bool__" "Denial.__bool__" (defArgs s_DBool) (defBody s_DBool) (defScope s_DBool) .none kVdb dcdb pmdb andb cddb ctdb), sldb⟩)
    (cdb : PySem.W.codeIn K cddb "Denial.__bool__" = true)
    (kdb : PySem.W.keepIn K (.ref fdb) = true)
    (nfO : PySem.W.notFirst K CO (.ref CO) = true)
    (nfT : PySem.W.notFirst K CT (.ref CT) = true)
    (clP : PySem.W.clsIn K CP = some cdP)
    (tyP : PySem.W.typeIn K (.ref CP) = some (.type "type"))
    (suop : PySem.W.subIn K (.ref CO) (.ref CP) = some true)
    (snop : ((Value.ref CO : Value) == .ref CP) = false)
    (sutp : PySem.W.subIn K (.ref CT) (.ref CP) = some true)
    (sntp : ((Value.ref CT : Value) == .ref CP) = false)
    (suto : PySem.W.subIn K (.ref CT) (.ref CO) = some false)
    (snto : ((Value.ref CT : Value) == .ref CO) = false)
    (sunCO : PySem.W.subIn K (.type "NoneType") (.ref CO) = some false)
    (snnCO : ((Value.type "NoneType" : Value) == .ref CO) = false)
    (suiCO : PySem.W.subIn K (.type "int") (.ref CO) = some false)
    (sniCO : ((Value.type "int" : Value) == .ref CO) = false)
    (susCO : PySem.W.subIn K (.type "str") (.ref CO) = some false)
    (snsCO : ((Value.type "str" : Value) == .ref CO) = false)
    (sutCO : PySem.W.subIn K (.type "tuple") (.ref CO) = some false)
    (sntCO : ((Value.type "tuple" : Value) == .ref CO) = false)
    (sunCT : PySem.W.subIn K (.type "NoneType") (.ref CT) = some false)
    (snnCT : ((Value.type "NoneType" : Value) == .ref CT) = false)
    (suiCT : PySem.W.subIn K (.type "int") (.ref CT) = some false)
    (sniCT : ((Value.type "int" : Value) == .ref CT) = false)
    (susCT : PySem.W.subIn K (.type "str") (.ref CT) = some false)
    (snsCT : ((Value.type "str" : Value) == .ref CT) = false)
    (sutCT : PySem.W.subIn K (.type "tuple") (.ref CT) = some false)
    (sntCT : ((Value.type "tuple" : Value) == .ref CT) = false)
    (gL : PySem.W.nsIn K mainGlobals "LEAST_ROWS" = some (some (.int 3 tLR)))
    (gM : PySem.W.nsIn K mainGlobals "MOST_ROWS" = some (some (.int 400 tMR)))
    (z_super : PySem.W.nsIn K mainGlobals "super" = some none)
    (z_isinstance : PySem.W.nsIn K mainGlobals "isinstance" = some none)
    (z_int : PySem.W.nsIn K mainGlobals "int" = some none)
    (z_bool : PySem.W.nsIn K mainGlobals "bool" = some none)
    (z_list : PySem.W.nsIn K mainGlobals "list" = some none)
    (z_tuple : PySem.W.nsIn K mainGlobals "tuple" = some none)
    (z_len : PySem.W.nsIn K mainGlobals "len" = some none)
    (z_range : PySem.W.nsIn K mainGlobals "range" = some none)
    (z_all : PySem.W.nsIn K mainGlobals "all" = some none)
    (z_sum : PySem.W.nsIn K mainGlobals "sum" = some none)
    (z_enumerate : PySem.W.nsIn K mainGlobals "enumerate" = some none)
    (z_max : PySem.W.nsIn K mainGlobals "max" = some none)
    (z_abs : PySem.W.nsIn K mainGlobals "abs" = some none)
    (z_repr : PySem.W.nsIn K mainGlobals "repr" = some none)
    : ∀ base : Heap, K.In base → base.Ns mainGlobals mg → LawRun l.prog w K mg base fa 63 := by
  have e := hfa.symm.trans (PySem.W.mg_of X G a18)
  cases e
  have D0 : DefT K mg "is_integer" s_is_integer _ _ := ⟨fun_mk (st := s_is_integer) l0 c0 k0, PySem.W.mg_of X G a0⟩
  have D1 : DefT K mg "is_within" s_is_within _ _ := ⟨fun_mk (st := s_is_within) l1 c1 k1, PySem.W.mg_of X G a1⟩
  have D2 : DefT K mg "fixed" s_fixed _ _ := ⟨fun_mk (st := s_fixed) l2 c2 k2, PySem.W.mg_of X G a2⟩
  have D3 : DefT K mg "entry_in" s_entry_in _ _ := ⟨fun_mk (st := s_entry_in) l3 c3 k3, PySem.W.mg_of X G a3⟩
  have D4 : DefT K mg "places_told" s_places_told _ _ := ⟨fun_mk (st := s_places_told) l4 c4 k4, PySem.W.mg_of X G a4⟩
  have D5 : DefT K mg "is_torn" s_is_torn _ _ := ⟨fun_mk (st := s_is_torn) l5 c5 k5, PySem.W.mg_of X G a5⟩
  have D6 : DefT K mg "torn_in" s_torn_in _ _ := ⟨fun_mk (st := s_torn_in) l6 c6 k6, PySem.W.mg_of X G a6⟩
  have D7 : DefT K mg "is_table" s_is_table _ _ := ⟨fun_mk (st := s_is_table) l7 c7 k7, PySem.W.mg_of X G a7⟩
  have D8 : DefT K mg "need_table" s_need_table _ _ := ⟨fun_mk (st := s_need_table) l8 c8 k8, PySem.W.mg_of X G a8⟩
  have D9 : DefT K mg "order_of" s_order_of _ _ := ⟨fun_mk (st := s_order_of) l9 c9 k9, PySem.W.mg_of X G a9⟩
  have D10 : DefT K mg "is_order" s_is_order _ _ := ⟨fun_mk (st := s_is_order) l10 c10 k10, PySem.W.mg_of X G a10⟩
  have D11 : DefT K mg "shows_order" s_shows_order _ _ := ⟨fun_mk (st := s_shows_order) l11 c11 k11, PySem.W.mg_of X G a11⟩
  have D12 : DefT K mg "_law_choir" s_choir _ _ := ⟨fun_mk (st := s_choir) l12 c12 k12, PySem.W.mg_of X G a12⟩
  have D13 : DefT K mg "_law_sing" s_sing _ _ := ⟨fun_mk (st := s_sing) l13 c13 k13, PySem.W.mg_of X G a13⟩
  have D14 : DefT K mg "_law_pick" s_pick _ _ := ⟨fun_mk (st := s_pick) l14 c14 k14, PySem.W.mg_of X G a14⟩
  have D15 : DefT K mg "_law_drawn" s_drawn _ _ := ⟨fun_mk (st := s_drawn) l15 c15 k15, PySem.W.mg_of X G a15⟩
  have D16 : DefT K mg "_law_entry" s_entry _ _ := ⟨fun_mk (st := s_entry) l16 c16 k16, PySem.W.mg_of X G a16⟩
  have D17 : DefT K mg "_law_table" s_table _ _ := ⟨fun_mk (st := s_table) l17 c17 k17, PySem.W.mg_of X G a17⟩
  have D18 : DefT K mg "law" s_law _ _ := ⟨fun_mk (st := s_law) l18 c18 k18, PySem.W.mg_of X G a18⟩
  have m_super := PySem.W.mg_none_of X G z_super
  have m_isinstance := PySem.W.mg_none_of X G z_isinstance
  have m_int := PySem.W.mg_none_of X G z_int
  have m_bool := PySem.W.mg_none_of X G z_bool
  have m_list := PySem.W.mg_none_of X G z_list
  have m_tuple := PySem.W.mg_none_of X G z_tuple
  have m_len := PySem.W.mg_none_of X G z_len
  have m_range := PySem.W.mg_none_of X G z_range
  have m_all := PySem.W.mg_none_of X G z_all
  have m_sum := PySem.W.mg_none_of X G z_sum
  have m_enumerate := PySem.W.mg_none_of X G z_enumerate
  have m_max := PySem.W.mg_none_of X G z_max
  have m_abs := PySem.W.mg_none_of X G z_abs
  have m_repr := PySem.W.mg_none_of X G z_repr
  have gO := PySem.W.mg_of X G aCO
  have gT := PySem.W.mg_of X G aCT
  have gP := PySem.W.mg_of X G aCP
  have papO : PapC K CO := ⟨⟨pgO, hdO, poO, saO⟩, nWO, nPO, nPlO, n1O, n2O⟩
  have namO : NameC K CO "Order" := ⟨papO.cl, nhaO, hn, htk, nhmO, nrdO, nfcO, tyO, _, _, nobO, nslO⟩
  have papT : PapC K CT := ⟨⟨pgT, hdT, poT, saT⟩, nWT, nPT, nPlT, n1T, n2T⟩
  have namT : NameC K CT "Torn" := ⟨papT.cl, nhaT, hn, htk, nhmT, nrdT, nfcT, tyT, _, _, nobT, nslT⟩
  have IC : IsiC K CO CT := ⟨kit_self CO, kit_sub clO tyO suto snto, kit_self CT, kit_sub clO tyO sunCO snnCO, kit_sub clO tyO suiCO sniCO, kit_sub clO tyO susCO snsCO, kit_sub clO tyO sutCO sntCO, kit_sub clT tyT sunCT snnCT, kit_sub clT tyT suiCT sniCT, kit_sub clT tyT susCT snsCT, kit_sub clT tyT sutCT sntCT⟩
  have SO : SuperTxt l.prog K mg "__init__" (NFO cciO caiO) fiO cciO CO CO fpi := ⟨⟨_, _, _, _, _, _, liO⟩, rfl, ciO, ⟨_, _, _, _, _, _, flO, fvO, ffO⟩, ⟨_, _, _, ceO⟩, by rw [clO]; rfl, by rw [clO]; rfl, sbO, m_super, top, ext, foO, typi, fipi, by rfl⟩
  have ST : SuperTxt l.prog K mg "__init__" (NFT cciT caiT) fiT cciT CT CT fpi := ⟨⟨_, _, _, _, _, _, liT⟩, rfl, ciT, ⟨_, _, _, _, _, _, flT, fvT, ffT⟩, ⟨_, _, _, ceT⟩, by rw [clT]; rfl, by rw [clT]; rfl, sbT, m_super, top, ext, foT, typi, fipi, by rfl⟩
  have Fpi := fun_mk (st := s_PInit) lpi cpi kpi
  have Fpe := fun_mk (st := s_PEq) lpe cpe kpe
  have Fpb := fun_mk (st := s_PBool) lpb cpb kpb
  have Fdb := fun_mk (st := s_DBool) ldb cdb kdb
  intro base _ _
  have G0 := ok_is_integer (P := l.prog) (w := w) (base := base) D0.F m_isinstance m_int m_bool
  have G1 := ok_is_within (P := l.prog) (w := w) (base := base) D1.F D0 G0
  have G2 := ok_fixed (P := l.prog) (w := w) (base := base) D2 m_isinstance m_list m_tuple
  have G3 := ok_entry_in (P := l.prog) (w := w) (base := base) D3.F m_len
  have G4 := ok_places_told (P := l.prog) (w := w) (base := base) D4.F m_tuple m_sum m_enumerate
  have G5 := ok_is_torn (P := l.prog) (w := w) (base := base) D5.F D3 G3 m_len
  have G6 := ok_torn_in (P := l.prog) (w := w) (base := base) D6.F D4 G4 D5 G5 m_len m_range
  have G7 := ok_is_table (P := l.prog) (w := w) (base := base) D7.F D0 G0 m_isinstance m_list m_tuple m_len m_range m_all ⟨_, PySem.W.mg_of X G gL⟩ ⟨_, PySem.W.mg_of X G gM⟩
  have G8 := ok_need_table (P := l.prog) (w := w) (base := base) D8.F D7 G7
  have Gpi := ok_PInit (P := l.prog) (w := w) (base := base) (n := 2) Fpi D2 (G2 3)
  obtain ⟨dO, GO, docO', pmO', ctO', eO⟩ := ok_OInit (n := 1) SO papO Gpi
  obtain ⟨dT, GT, docT', pmT', ctT', eT⟩ := ok_TInit (n := 1) ST papT Gpi
  subst eO
  subst eT
  have C2 : Cls2 l.prog w K mg base CO CT fiO fiT _ _ := ⟨papO, papT, namO, namT, gO, gT, ⟨mkO, inO, ifO, kpO⟩, ⟨mkT, inT, ifT, kpT⟩, .all fun us hl => match us, hl with | [_, _], _ => rfl, .all fun us hl => match us, hl with | [_, _, _], _ => rfl, GO, GT⟩
  have G9 := ok_order_of (P := l.prog) (w := w) (base := base) D9.F D8 G8 D6 G6 D4 G4 C2
  have G10 := ok_is_order (P := l.prog) (w := w) (base := base) D10.F D0 G0 D6 G6 D4 G4 m_isinstance m_list m_tuple m_all
  have G11 := ok_shows_order (P := l.prog) (w := w) (base := base) D11.F D8 G8 D10 G10 D1 G1 D5 G5 D4 G4 papO papT namO namT gO gT IC m_isinstance m_len
  have G12 := ok_choir (P := l.prog) (w := w) (base := base) D12.F m_int
  have G13 := ok_sing (P := l.prog) (w := w) (base := base) D13.F m_int m_len m_abs
  have S : SingF l.prog w K mg base _ _ := ⟨D13, G13⟩
  have G14 := ok_pick (P := l.prog) (w := w) (base := base) D14.F S m_len
  have G15 := ok_drawn (P := l.prog) (w := w) (base := base) D15.F S m_len m_range m_list m_int
  have G16 := ok_entry (P := l.prog) (w := w) (base := base) D16.F m_max m_range m_abs m_int
  have G17 := ok_table (P := l.prog) (w := w) (base := base) D17.F S D15 G15 D16 G16 D14 G14 m_range m_int
  have Gpe := ok_PEq (P := l.prog) (w := w) (base := base) Fpe m_isinstance gP m_bool
  have Gpb := ok_PBool (mg := mg) (P := l.prog) (w := w) (base := base) Fpb
  have Gdb := ok_DBool (mg := mg) (P := l.prog) (w := w) (base := base) Fdb
  have L : LawF l.prog w K mg base CO CT fiO fiT fpe fpb fdb CP _ _ _ _ _ := ⟨C2, IC, ⟨neO, nhmO, eqO, ife⟩, ⟨neT, nhmT, eqT, ife⟩, nfO, nfT, kit_sub clP tyP suop snop, kit_sub clP tyP sutp sntp, Fpe.binds fun _ _ _ _ _ _ us hl => match us, hl with | [_, _], _ => rfl, Gpe, boO, boT, ifb, ifd, Fpb.binds fun _ _ _ _ _ _ us hl => match us, hl with | [_], _ => rfl, Fdb.binds fun _ _ _ _ _ _ us hl => match us, hl with | [_], _ => rfl, Gpb, Gdb, kb_torn⟩
  exact run_law L D18.F S D12 G12 D17 G17 D16 G16 D9 G9 D11 G11 kb_order kb_shows m_range m_sum m_int m_repr m_tuple m_bool m_isinstance
end B90
set_option Elab.async false
set_option maxRecDepth 100000
open PySem PySem.W PyProof.Rows
set_option maxRecDepth 100000 in
set_option maxHeartbeats 0 in
theorem PySem.Challenge.cw_baysout_k90_whole_orders_of_tables_holds : PySem.Challenge.rw_baysout_k90_whole_orders_of_tables.Holds := by
  w_on; o_law; k_head; (case hw => w_witness2)
  k_fill
  refine BayE.walkG (l := PySem.Challenge.rw_baysout_k90_whole_orders_of_tables) (n := 63) rfl (by decide) rfl (fun w h Y => PySem.W.kIn_of Y) ?F
  case F =>
    intro w mg fa h KX G hmg
    refine' B90.all_mk KX G hmg ?a0 ?l0 ?c0 ?k0 ?a1 ?l1 ?c1 ?k1 ?a2 ?l2 ?c2 ?k2 ?a3 ?l3 ?c3 ?k3 ?a4 ?l4 ?c4 ?k4 ?a5 ?l5 ?c5 ?k5 ?a6 ?l6 ?c6 ?k6 ?a7 ?l7 ?c7 ?k7 ?a8 ?l8 ?c8 ?k8 ?a9 ?l9 ?c9 ?k9 ?a10 ?l10 ?c10 ?k10 ?a11 ?l11 ?c11 ?k11 ?a12 ?l12 ?c12 ?k12 ?a13 ?l13 ?c13 ?k13 ?a14 ?l14 ?c14 ?k14 ?a15 ?l15 ?c15 ?k15 ?a16 ?l16 ?c16 ?k16 ?a17 ?l17 ?c17 ?k17 ?a18 ?l18 ?c18 ?k18 ?aCO ?aCT ?aCP ?clO ?tyO ?pgO ?hdO ?poO ?saO ?nWO ?nPO ?nPlO ?n1O ?n2O ?nhaO ?nhmO ?nrdO ?nfcO ?nobO ?nslO ?mkO ?kpO ?inO ?ifO ?liO ?ciO ?flO ?fvO ?ffO ?ceO ?sbO ?foO ?clT ?tyT ?pgT ?hdT ?poT ?saT ?nWT ?nPT ?nPlT ?n1T ?n2T ?nhaT ?nhmT ?nrdT ?nfcT ?nobT ?nslT ?mkT ?kpT ?inT ?ifT ?liT ?ciT ?flT ?fvT ?ffT ?ceT ?sbT ?foT ?hn ?htk ?top ?ext ?typi ?fipi ?lpi ?cpi ?kpi ?eqO ?eqT ?neO ?neT ?ife ?lpe ?cpe ?kpe ?boO ?ifb ?lpb ?cpb ?kpb ?boT ?ifd ?ldb ?cdb ?kdb ?nfO ?nfT ?clP ?tyP ?suop ?snop ?sutp ?sntp ?suto ?snto ?sunCO ?snnCO ?suiCO ?sniCO ?susCO ?snsCO ?sutCO ?sntCO ?sunCT ?snnCT ?suiCT ?sniCT ?susCT ?snsCT ?sutCT ?sntCT ?gL ?gM ?z_super ?z_isinstance ?z_int ?z_bool ?z_list ?z_tuple ?z_len ?z_range ?z_all ?z_sum ?z_enumerate ?z_max ?z_abs ?z_repr
    (case a0 => k_is)
    (case l0 => k_is)
    (case c0 => k_is)
    (case k0 => k_is)
    (case a1 => k_is)
    (case l1 => k_is)
    (case c1 => k_is)
    (case k1 => k_is)
    (case a2 => k_is)
    (case l2 => k_is)
    (case c2 => k_is)
    (case k2 => k_is)
    (case a3 => k_is)
    (case l3 => k_is)
    (case c3 => k_is)
    (case k3 => k_is)
    (case a4 => k_is)
    (case l4 => k_is)
    (case c4 => k_is)
    (case k4 => k_is)
    (case a5 => k_is)
    (case l5 => k_is)
    (case c5 => k_is)
    (case k5 => k_is)
    (case a6 => k_is)
    (case l6 => k_is)
    (case c6 => k_is)
    (case k6 => k_is)
    (case a7 => k_is)
    (case l7 => k_is)
    (case c7 => k_is)
    (case k7 => k_is)
    (case a8 => k_is)
    (case l8 => k_is)
    (case c8 => k_is)
    (case k8 => k_is)
    (case a9 => k_is)
    (case l9 => k_is)
    (case c9 => k_is)
    (case k9 => k_is)
    (case a10 => k_is)
    (case l10 => k_is)
    (case c10 => k_is)
    (case k10 => k_is)
    (case a11 => k_is)
    (case l11 => k_is)
    (case c11 => k_is)
    (case k11 => k_is)
    (case a12 => k_is)
    (case l12 => k_is)
    (case c12 => k_is)
    (case k12 => k_is)
    (case a13 => k_is)
    (case l13 => k_is)
    (case c13 => k_is)
    (case k13 => k_is)
    (case a14 => k_is)
    (case l14 => k_is)
    (case c14 => k_is)
    (case k14 => k_is)
    (case a15 => k_is)
    (case l15 => k_is)
    (case c15 => k_is)
    (case k15 => k_is)
    (case a16 => k_is)
    (case l16 => k_is)
    (case c16 => k_is)
    (case k16 => k_is)
    (case a17 => k_is)
    (case l17 => k_is)
    (case c17 => k_is)
    (case k17 => k_is)
    (case a18 => k_is)
    (case l18 => k_is)
    (case c18 => k_is)
    (case k18 => k_is)
    (case aCO => k_is)
    (case aCT => k_is)
    (case aCP => k_is)
    (case clO => k_is)
    (case tyO => k_is)
    (case pgO => k_is)
    (case hdO => k_is)
    (case poO => k_is)
    (case saO => k_is)
    (case nWO => k_is)
    (case nPO => k_is)
    (case nPlO => k_is)
    (case n1O => k_is)
    (case n2O => k_is)
    (case nhaO => k_is)
    (case nhmO => k_is)
    (case nrdO => k_is)
    (case nfcO => k_is)
    (case nobO => k_is)
    (case nslO => rfl)
    (case mkO => k_is)
    (case kpO => k_is)
    (case inO => k_is)
    (case ifO => k_is)
    (case liO => k_is)
    (case ciO => k_is)
    (case flO => k_is)
    (case fvO => rfl)
    (case ffO => rfl)
    (case ceO => k_is)
    (case sbO => k_is)
    (case foO => ks_is)
    (case clT => k_is)
    (case tyT => k_is)
    (case pgT => k_is)
    (case hdT => k_is)
    (case poT => k_is)
    (case saT => k_is)
    (case nWT => k_is)
    (case nPT => k_is)
    (case nPlT => k_is)
    (case n1T => k_is)
    (case n2T => k_is)
    (case nhaT => k_is)
    (case nhmT => k_is)
    (case nrdT => k_is)
    (case nfcT => k_is)
    (case nobT => k_is)
    (case nslT => rfl)
    (case mkT => k_is)
    (case kpT => k_is)
    (case inT => k_is)
    (case ifT => k_is)
    (case liT => k_is)
    (case ciT => k_is)
    (case flT => k_is)
    (case fvT => rfl)
    (case ffT => rfl)
    (case ceT => k_is)
    (case sbT => k_is)
    (case foT => ks_is)
    (case hn => k_is)
    (case htk => k_is)
    (case top => rfl)
    (case ext => k_is)
    (case typi => k_is)
    (case fipi => k_is)
    (case lpi => k_is)
    (case cpi => k_is)
    (case kpi => k_is)
    (case eqO => k_is)
    (case eqT => k_is)
    (case neO => k_is)
    (case neT => k_is)
    (case ife => k_is)
    (case lpe => k_is)
    (case cpe => k_is)
    (case kpe => k_is)
    (case boO => k_is)
    (case ifb => k_is)
    (case lpb => k_is)
    (case cpb => k_is)
    (case kpb => k_is)
    (case boT => k_is)
    (case ifd => k_is)
    (case ldb => k_is)
    (case cdb => k_is)
    (case kdb => k_is)
    (case nfO => k_is)
    (case nfT => k_is)
    (case clP => k_is)
    (case tyP => k_is)
    (case suop => k_is)
    (case snop => rfl)
    (case sutp => k_is)
    (case sntp => rfl)
    (case suto => k_is)
    (case snto => rfl)
    (case sunCO => k_is)
    (case snnCO => rfl)
    (case suiCO => k_is)
    (case sniCO => rfl)
    (case susCO => k_is)
    (case snsCO => rfl)
    (case sutCO => k_is)
    (case sntCO => rfl)
    (case sunCT => k_is)
    (case snnCT => rfl)
    (case suiCT => k_is)
    (case sniCT => rfl)
    (case susCT => k_is)
    (case snsCT => rfl)
    (case sutCT => k_is)
    (case sntCT => rfl)
    (case gL => k_is)
    (case gM => k_is)
    (case z_super => k_is)
    (case z_isinstance => k_is)
    (case z_int => k_is)
    (case z_bool => k_is)
    (case z_list => k_is)
    (case z_tuple => k_is)
    (case z_len => k_is)
    (case z_range => k_is)
    (case z_all => k_is)
    (case z_sum => k_is)
    (case z_enumerate => k_is)
    (case z_max => k_is)
    (case z_abs => k_is)
    (case z_repr => k_is)
#print axioms PySem.Challenge.cw_baysout_k90_whole_orders_of_tables_holds
