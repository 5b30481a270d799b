import PyProof.Rows.All
import Wide.All
import OpenK.AllK
import Wide.FinOn
import KE.KExcIs
import KE.DataMinMax
import HandS.ForExc
import HandS.ExcInit
import HandS.ExcField
import HandS.ExcIs
import HandS.CallSlots
import HandS.Defaults
import HandS.TupLe
import HandS.FStrTup
import PySem.Challenge.RW_asforetold_k01_instants
set_option Elab.async false
set_option linter.all false
set_option maxRecDepth 100000
set_option maxHeartbeats 4000000
/-! ## 1. min of two tuples of whole numbers: the layer has min of two numbers alone -/
namespace K01
open PySem PySem.Spec PyProof.Rows L2
section
variable {prog : Program} {w : World} {A : Around} {E : Value → Shared → Prop} {s : Shared}
theorem min_pair {a b : Addr} {ia ib : Array Value} {ns ms : List Int} {Q : Value → Shared → Prop} (hh : A.handled = none) (hu : A.units + 1 < cLine)
    (pa : IsTup s.heap a ia) (pb : IsTup s.heap b ib) (ha : IntsAre ia.toList ns) (hb : IntsAre ib.toList ms)
    (h : ∀ h' tk, (∀ c o, s.heap.get? c = some o → h'.get? c = some o) → Q (.ref (if HT.lexLt ms ns = true then b else a)) { s with heap := h', toks := tk }) :
    wpAny (model prog w) A (call (.builtin "min") [.ref a, .ref b]) Q E s := by
  have nm : (toString "min" ++ toString ".loop" : String) = "min.loop" := by decide
  refine call_function_tree F.kind_min F.plain_min F.entry_min (F.args_min2 _ _) ?_
  show wpAny _ A.in1 (Builtin.Builtins.bindParams "min" ["key", "default"] 0 ⟨[], []⟩ >>= _) _ _ s
  refine wpAny_bind (wpAny_of_eq (a := [none, none]) rfl ?_)
  show wpAny _ A.in1 (newTuple [.ref a, .ref b] >>= _) _ _ s
  refine wpAny_bind (wpAny_newObj_type ?_)
  have pair : (s.heap.push { cls := .type "tuple", data := .seq #[.ref a, .ref b] }).IsTuple s.heap.objs.size #[.ref a, .ref b] := ⟨_, Heap.get?_push_size _ rfl, rfl, 0, rfl⟩
  refine wpAny_bind (PySem.W.iter_tupleW (A := A.in1) hh pair fun s2 e2 W st hfp hw hk => ?_)
  refine wpAny_bind (wpAny_newObj_type ?_)
  have fresh : s2.heap.objs.size ∉ [(s.heap.push { cls := .type "tuple", data := .seq #[Value.ref a, Value.ref b] }).objs.size, s.heap.objs.size] := fun hm => Nat.lt_irrefl _ (hfp _ hm)
  have cmp : CmpIn prog w A.in1 .Lt (s.heap.push { cls := .type "tuple", data := .seq #[Value.ref a, Value.ref b] }) (fun i v => (#[Value.ref a, Value.ref b] : Array Value)[i]? = some v)
      (fun i j => HT.lexLt (if i = 0 then ns else ms) (if j = 0 then ns else ms)) := by
    intro i j vi vj s' Q' E' keep hi hj hq
    have old : ∀ c o, s.heap.get? c = some o → s'.heap.get? c = some o := fun c o e => keep c o (Heap.get?_push_of_some _ e)
    have ta : IsTup s'.heap a ia := by
      obtain ⟨o, e, r⟩ := pa
      exact ⟨o, old a o e, r⟩
    have tb : IsTup s'.heap b ib := by
      obtain ⟨o, e, r⟩ := pb
      exact ⟨o, old b o e, r⟩
    match i, j, hi, hj with
    | 0, 0, hi, hj =>
      obtain rfl : Value.ref a = vi := Option.some.inj hi
      obtain rfl : Value.ref a = vj := Option.some.inj hj
      exact HT.lt_tupInts ta ta ha ha hu hq
    | 0, 1, hi, hj =>
      obtain rfl : Value.ref a = vi := Option.some.inj hi
      obtain rfl : Value.ref b = vj := Option.some.inj hj
      exact HT.lt_tupInts ta tb ha hb hu hq
    | 1, 0, hi, hj =>
      obtain rfl : Value.ref b = vi := Option.some.inj hi
      obtain rfl : Value.ref a = vj := Option.some.inj hj
      exact HT.lt_tupInts tb ta hb ha hu hq
    | 1, 1, hi, hj =>
      obtain rfl : Value.ref b = vi := Option.some.inj hi
      obtain rfl : Value.ref b = vj := Option.some.inj hj
      exact HT.lt_tupInts tb tb hb hb hu hq
    | i + 2, _, hi, _ => simp at hi
    | 0, j + 2, _, hj => simp at hj
    | 1, j + 2, _, hj => simp at hj
  rw [nm]
  refine wpAny_pure ⟨plainId_quiet F.plain_min_loop _, codeAny_min_loop_firstH W _ hw _ cmp s2.heap.objs.size fresh (fresh_in hk) _ (Nat.zero_lt_succ _) (fun c o e => Heap.get?_push_of_some _ (hk c o e))
    (W.frame 0 s2 _ s2.toks st (Nat.le_refl _) fun c _ o e => Heap.get?_push_of_some _ e) (Heap.get?_push_size _ rfl) fun v s' hP hm => ?_⟩
  obtain ⟨h', tk, rfl, hk'⟩ := PySem.W.moved_old e2 rfl (Moved.drop_new (tk := s2.toks) hm (Nat.le_refl _))
  have q := h h' tk fun c o e => hk' c o (Heap.get?_push_of_some _ e)
  have ev : v = .ref (if HT.lexLt ms ns = true then b else a) := by
    have hP' : (#[Value.ref a, Value.ref b] : Array Value)[if HT.lexLt ms ns = true then 1 else 0]? = some v := hP
    by_cases c : HT.lexLt ms ns = true
    · rw [if_pos c] at hP' ⊢
      exact (Option.some.inj hP').symm
    · rw [if_neg c] at hP' ⊢
      exact (Option.some.inj hP').symm
  rw [ev]
  exact q
end
def rMinT (K : PySem.W.Frag) : List V → Hp → VK → Prop := fun xs H Q => ∃ (a b : Addr) (ns ms : List Int), xs = [.ref a, .ref b] ∧ SqT K H a (ns.map V.int) ∧ SqT K H b (ms.map V.int) ∧ Q (.ref (if HT.lexLt ms ns = true then b else a)) H
theorem call_minT {X : Cx} (hc : X.calm = true) (hu : X.A.units + 1 < cLine) : CallR X (.builtin "min") (rMinT X.K) := by
  intro pins s σ H xs us Q I r h
  obtain ⟨a, b, ns, ms, rfl, ha, hb, q⟩ := h
  obtain ⟨u, u', rfl, r1, r2⟩ := vals2 r
  cases r1
  cases r2
  obtain ⟨its, v1, p1, _⟩ := I.tuple ha
  obtain ⟨its2, v2, p2, _⟩ := I.tuple hb
  have i1 : IntsAre its.toArray.toList ns := intsAre_of v1
  have i2 : IntsAre its2.toArray.toList ms := intsAre_of v2
  exact min_pair (I.ok.hd hc) hu p1 p2 i1 i2 fun h' tk k => ⟨.ref (if HT.lexLt ms ns = true then b else a), H, I.kept k, rfl, q⟩

/-! ## 2. repr of None, a truth value, a tuple: which guards stand on the stack has to be known (a tuple under way shows as dots) -/
/-- such data has a text that fits -/
structure Plainly (d : PyData) : Prop where
  shows : d.showable = true
  nodict : d.hasDict = false
  low : d.depth ≤ 60
  fits : d.shown.length ≤ sizeLine
  kind : d = .none ∨ (∃ b, d = .bool b) ∨ ∃ ds, d = .tuple ds
def rRepr (K : PySem.W.Frag) : List V → Hp → VK → Prop := fun xs H Q => ∃ (x : V) (d : PyData), xs = [x] ∧ Dp K H x d ∧ Plainly d ∧ Q (.str d.shown) H
theorem call_repr {X : Cx} (hg : X.A.guards = some []) (hu : X.A.units + 64 < cLine) : CallR X (.builtin "repr") (rRepr X.K) := by
  intro pins s σ H xs us Q I r h
  obtain ⟨x, d, rfl, hd, pl, q⟩ := h
  obtain ⟨u, rfl, r1⟩ := vals1 r
  obtain ⟨as, rr⟩ := Dp.reads I d x u hd r1
  rcases pl.kind with e | ⟨b, e⟩ | ⟨ds, e⟩
  · subst e
    cases rr
    exact PySem.P.repr_of_none ⟨.str _, H, I.tok _, ⟨_, rfl⟩, q⟩
  · subst e
    cases rr
    exact PySem.P.repr_of_bool ⟨.str _, H, I.tok _, ⟨_, rfl⟩, q⟩
  · subst e
    cases hd with
    | tup hs ha =>
      cases r1
      have lw := pl.low
      exact repr_of_reads' rr pl.shows (PyData.noDict_hsm pl.nodict) hg (by omega) (fun _ _ e => e) (fun h' t tk hk => ⟨.str _, H, I.kept hk, ⟨t, rfl⟩, q⟩) pl.fits

/-! ## 3. isinstance of a caught error that has a dict of its own -/
structure IsX (K : PySem.W.Frag) (D : Addr) : Prop where
  cl : (PySem.W.clsIn K D).isSome = true
  ga : PySem.W.findIn K (.ref D) "__getattribute__" = some (some (.builtin "BaseException.__getattribute__"))
  gt : PySem.W.findIn K (.ref D) "__getattr__" = some none
  su : PySem.W.subIn K (.ref D) (.type "BaseException") = some true
  at_ : PySem.W.findIn K (.ref D) "__class__" = some (some (.builtin "object.__class__"))
  sp : PySem.W.specialIn K (.builtin "object.__class__") "__get__" = some (some (.builtin "getset_descriptor.__get__"))
  tk : PySem.W.takesIn K (.builtin "object.__class__") = some true
  mr : PySem.W.mroIn K D (.type "object") = some true
def rIsX (K : PySem.W.Frag) (a : Addr) (cls : Value) (d : Option Addr) (D : Addr) : List V → Hp → VK → Prop := fun xs H Q =>
  ∃ (c : Addr) (b : Bool) (dd : Addr) (fs : List (Str × V)), xs = [.ref a, .ref c] ∧ cls = .ref D ∧ d = some dd ∧ PySem.W.kitOne K (.ref D) (.ref c) = some b ∧ H dd = some (.xd fs) ∧ Q (.bl b) H
theorem call_isX {X : Cx} {a D : Addr} {oe : Obj} {cls : Value} {d : Option Addr} {pn : List (Addr × Obj)} (C : IsX X.K D) (hz : Zc cls d oe) (hf : ∃ vs, oe.data = .fields vs) :
    CallR (X.suite a ((a, oe) :: pn)) (.builtin "isinstance") (rIsX X.K a cls d D) := by
  intro pins s σ H xs us Q I r h
  obtain ⟨c, b, dd, fs, rfl, rfl, rfl, e, he, q⟩ := h
  obtain ⟨u, u', rfl, r1, r2⟩ := vals2 r
  cases r1
  cases r2
  obtain ⟨hget, _⟩ := I.pin (a, oe) (List.mem_append_left _ List.mem_cons_self)
  obtain ⟨vs, hv⟩ := hf
  have hx : ObjOk X.prog X.w H s.heap dd (.xd fs) := I.hok dd _ he
  obtain ⟨mA, hns, _⟩ := hx
  obtain ⟨od, ho, _⟩ := lookIn_ns hns
  have J : PySem.W.InstAt s.heap a oe D (some od) := ⟨hget, hz.1, by unfold PySem.W.notCls; rw [hv] <;> rfl, by rw [hz.2]; exact ho⟩
  exact PySem.W.kia_one (PySem.W.kitx_exc C.cl C.ga C.gt C.su C.at_ C.sp C.tk C.mr) I.kIn J e (fun z => nomatch z) fun tk => ⟨.bl b, H, I.tok _, rfl, q⟩

/-! ## 4. a def's promise where no guard stands on the stack (the layer's promises say nothing of guards) -/
structure FnG (P : Program) (w : World) (K : PySem.W.Frag) (mg : Str → Option Value) (base : Heap) (k : Nat) (f : Addr) (fd : FuncData) (ps : List Str) (sp : Sp) : Prop where
  len : ∀ vs H Q E, sp vs H Q E → vs.length = ps.length
  go : ∀ (A : Around) (outer : List Env) (s : Shared) (H : Hp) (args : Args) (us : List Value) (vs : List V) (Q : VK) (E : XK), A.guards = some [] → Room k A → Env0 P w K mg base A outer s H →
    BindsTo s fd args (ps.zip us) → Vals vs us → sp vs H Q E → codeAny (model P w) A (.call (.ref f) args) (CR CX0 outer P w H s Q E) s
section
variable {P : Program} {w : World} {K : PySem.W.Frag} {mg : Str → Option Value} {base : Heap}
theorem fnG {x qual : Str} {st : Stmt} {f : Addr} {fd : FuncData} {N ps : List Str} {k : Nat} {sp : Sp} (F : Fun K x qual st f fd) (S : FnScope N ps (defScope st)) (len : ∀ vs H Q E, sp vs H Q E → vs.length = ps.length)
    (body : ∀ (cdv : Value) (A : Around) (outer : List Env) (s : Shared) (H : Hp) (vs : List V) (Q : VK) (E : XK), A.guards = some [] → Room k (A.deeper (envOfC qual (defScope st) s.heap.objs.size f cdv)) → sp vs H Q E →
      ∃ t, PSs (cxOf CX0 P w K mg base N qual (defScope st) f cdv A outer s H E).nox (defBody st) t ∧ t { nx := fun _ H' => Q .non H', rt := Q } (start N vs) H) : FnG P w K mg base (k + 1) f fd ps sp := by
  obtain ⟨oc, od, kV, doc, pm, an, cdv, ct, osl, rfl, lk, hcd⟩ := F.ex
  refine ⟨len, fun A outer s H args us vs Q E hg hr e0 hb r hsp => ?_⟩
  have KX : K.In s.heap := e0.mod.kin.keeps fun b o e => (e0.bs b o e).1
  have lim : s.heap.NoLimit := e0.mod.nolimit.keeps fun b o e => (e0.bs b o e).1
  refine codeAny_call_function hr.depth (KX _ _ lk) rfl S.co S.gen rfl (PySem.W.codeRec_of KX hcd) (hb _ _ _ _ ?_)
  refine wpAny_newFunctionEnv_cells S.kind (fun y hy => ?_) fun env he s1 x => ?_
  · obtain ⟨n, v⟩ := y
    rcases S.par n (List.of_mem_zip hy).1 with q | q
    · exact .inl q
    · exact .inr ⟨q, PySem.W.cellsFrom_some _ _ _ (.inl q)⟩
  subst he
  refine ⟨lim.keeps x.toInCall.keep, codeAny_func ?_⟩
  obtain ⟨t, ht, hq⟩ := body cdv A outer s H vs Q E hg (hr.deeper _) hsp
  have I : Inv (cxOf CX0 P w K mg base N qual (defScope st) f cdv A outer s H E) [] (start N vs) H s1 := inv_start S hr.hd e0 (len _ _ _ _ hsp) r x
  refine wpAny_mono (ht.nox.run [] s1 (start N vs) H _ I hq) (fun fl s' hs => ?_) fun _ _ hs => hs
  cases fl with
  | ret u =>
    obtain ⟨v, σ', H', J, rv, q⟩ := hs
    exact ⟨v, H', J.os, J.bare, J.base, J.hok, rv, q⟩
  | next =>
    obtain ⟨σ', H', J, q⟩ := hs
    exact ⟨.non, H', J.os, J.bare, J.base, J.hok, rfl, q⟩
  | brk =>
    obtain ⟨_, _, _, q⟩ := hs
    exact False.elim q
  | cont =>
    obtain ⟨_, _, _, q⟩ := hs
    exact False.elim q
end
/-- f(e, ..) of such a def -/
theorem pe_callG {X : Cx} {k : Nat} {f : Addr} {fd : FuncData} {ps : List Str} {sp : Sp} {x : Str} {p pos : Pos} {e : Expr} {es : List Expr} {t : TA} (F : FnG X.prog X.w X.K X.mg X.base k f fd ps sp) (hG : X.A.guards = some []) (hr : Room k X.A)
    (hg : Gl X x) (hm : X.mg x = some (.ref f)) (hk : PySem.W.keepIn X.K (.ref f) = true) (hb : Binds X.K fd ps []) (ha : PA X (e :: es) t) (hdb : (x == ("__debug__" : Str)) = false := by decide)
    (he : starEach (e :: es) X.env = (false, eval e X.env) :: starEach es X.env := by rfl) (hpl : (backTo pos (starEach es X.env)).any (·.1) = false := by rfl) :
    PE X (.Call (.Name x p) (e :: es) [] pos) (tCall sp [] E0 t) := by
  refine ⟨fun pins s σ H Q I h => ?_⟩
  refine wpAny_Call_Name_kw (ld_glob I hg hm ?_ hdb)
  refine PySem.W.callWith_K (h₀ := X.base) I.ok.mod.kin hk (thn (ha.run pos pins s σ H _ I h) fun us s1 ⟨vs, H1, I1, r, q⟩ => ⟨I1.kIn, ?_⟩) he hpl
  have r2 : Vals (vs ++ []) (us ++ []) := r.append .nil
  have hl : (us ++ []).length = ps.length := by rw [← r2.length]; exact F.len _ _ _ _ q
  refine wpAny_call (codeAny_mono (F.go X.A X.stack s1 H1 ⟨us, []⟩ (us ++ []) (vs ++ []) Q E0 hG hr I1.env0 (hb s1 us I1.kIn hl) r2 q) fun r s' hq => ?_)
  match r, hq with
  | .error e, hq => exact False.elim hq
  | .ok (.ret u), hq => exact I1.after hq
  | .ok .next, hq => exact False.elim hq
  | .ok .brk, hq => exact False.elim hq
  | .ok .cont, hq => exact False.elim hq
end K01
/-! ## 5. the law's call, its guards known to be none -/
namespace K01
open PySem PySem.Spec PyProof.Rows L2
/-- the script alone is tracked, and it is no object of the module -/
def Lone (K : PySem.W.Frag) (a : Addr) (H : Hp) : Prop := ∀ b u, H b = some u → b = a ∧ K.lookup a = none ∧ ∃ o xs, u = .frz o (.lst xs)
theorem law_runs {P : Program} {w : World} {K : PySem.W.Frag} {mg mb : Str → Option Value} {k : Nat} {fa a : Addr} {fd : FuncData} {x : Str} {sp : Sp} {s : Shared} {vs : List Value} {H : Hp}
    (KX : K.In s.heap) (gl : s.heap.Ns mainGlobals mg) (bl : s.heap.Ns builtinsNs mb) (bb : ∀ x : Str, x ≠ "__name__" → mb x = bootBuiltins x) (lim : s.heap.NoLimit) (gn : s.gens = #[])
    (ha : s.heap.get? a = some { cls := .type "list", data := .seq vs.toArray }) (hr : Room k callerA) (F : ∀ base : Heap, K.In base → base.Ns mainGlobals mg → FnG P w K mg base k fa fd [x] sp)
    (hbind : ∀ (s : Shared) (u : Value), BindsTo s fd ⟨[u], []⟩ [(x, u)]) (hok : HOk P w H s.heap) (lone : Lone K a H) (hsp : sp [.ref a] H (fun v _ => v = .bl true) fun _ _ _ => False) :
    codeAny (model P w) callerA (.call (.ref fa) ⟨[.ref a], []⟩) (fun r s' => r = .ok (.ret (.bool true)) ∧ OldK s.heap s'.heap ∧ s'.os = s.os ∧ AllBare s'.gens) s := by
  have free : ∀ {b : Addr} {o : Obj}, s.heap.get? b = some o → (∀ n, o.data ≠ .seq vs.toArray n) → H b = none := fun {b o} e d => by
    cases q : H b with
    | none => rfl
    | some u =>
      obtain ⟨rfl, _⟩ := lone b u q
      rw [ha] at e
      obtain rfl := Option.some.inj e
      exact absurd rfl (d _)
  have ns_ : ∀ {b : Addr} {m : Str → Option Value}, s.heap.Ns b m → (hidT s.heap H).Ns b m := fun {b m} ⟨o, es, ep, e, d, r⟩ => ⟨o, es, ep, hidT_get e (free e fun n z => by rw [d] at z; cases z), d, r⟩
  have KB : K.In (hidT s.heap H) := fun b o e => by
    refine hidT_get (KX b o e) ?_
    cases q : H b with
    | none => rfl
    | some u =>
      obtain ⟨rfl, n, _⟩ := lone b u q
      rw [n] at e
      cases e
  have M : Mod K mg (hidT s.heap H) := by
    refine ⟨KB, ns_ gl, ⟨mb, ns_ bl, bb⟩, ?_⟩
    obtain ⟨mc, h1, h2⟩ := lim
    exact ⟨mc, ns_ h1, h2⟩
  have e0 : Env0 P w K mg (hidT s.heap H) callerA [] s H := ⟨rfl, M, fun b o e => of_hidT e, Nat.le_of_eq (hidT_size _ _), trivial, fun b hb => absurd (show b ∈ ([] : List Addr) from hb) (by simp), hok, .of_eq gn⟩
  refine codeAny_mono ((F _ KB (ns_ gl)).go callerA [] s H ⟨[.ref a], []⟩ [.ref a] [.ref a] _ _ rfl hr e0 (hbind s (.ref a)) (.cons rfl .nil) hsp) fun r s' h => ?_
  match r, h with
  | .error e, h => exact False.elim h
  | .ok .next, h => exact False.elim h
  | .ok .brk, h => exact False.elim h
  | .ok .cont, h => exact False.elim h
  | .ok (.ret u), h =>
    obtain ⟨v, H', os, bare, un, hok', r', q⟩ := h
    have q' : v = .bl true := q
    subst q'
    obtain rfl : u = Value.bool true := r'
    refine ⟨rfl, OldK.of_keep fun b o e => ?_, os, bare⟩
    cases z : H b with
    | none => exact un.keep b o e z (fun y => absurd (show b ∈ ([] : List Addr) from y) (by simp)) (by simp)
    | some u =>
      obtain ⟨_, _, ob, xs, rfl⟩ := lone b u z
      obtain ⟨e1, _⟩ := hok b _ z
      obtain ⟨e2, _⟩ := hok' b _ (un.frzs b ob _ z)
      rw [e] at e1
      obtain rfl := Option.some.inj e1
      exact e2
theorem walkG {l : PySem.W.OpenLaw} {n k : Nat} {q : Program} {loose : List Str} {XP : (Str → Option Value) → Heap → Prop} {YP : World → Heap → Prop} {d : DefRec} {K : Params → PySem.W.Frag} {sp : PySem.W.Frag → Sp} {x : Str}
    (hn : l.most = some n) (hn2 : n ≤ sizeLine) (hdf : d.params.defaults = []) (hr : Room k callerA) (hY : ∀ (w : World) (h : Heap), YP w h → (K w.params).In h)
    (F : ∀ (w : World) (mg : Str → Option Value) (fa : Addr) (h : Heap), (K w.params).In h → h.Ns mainGlobals mg → mg d.name = some (.ref fa) →
      ∃ fd : FuncData, (∀ (s : Shared) (u : Value), BindsTo s fd ⟨[u], []⟩ [(x, u)]) ∧ ∀ base : Heap, (K w.params).In base → base.Ns mainGlobals mg → FnG l.prog w (K w.params) mg base k fa fd [x] (sp (K w.params)))
    (hsp : ∀ (K : PySem.W.Frag) (H : Hp) (a : Addr) (ns : List Int), ns.length ≤ n → SqL K H a (ns.map V.int) → sp K [.ref a] H (fun v _ => v = .bl true) fun _ _ _ => False) :
    PySem.W.WalkO q loose XP YP l.row.toRowW d [] (fun f vs => PySem.call f vs) := by
  refine Att.attach_call hn hdf fun w s₀ s mg mb fa o pm cd doc a vs ns G Y ho hd hcd hmg hobj hints hlen hg => ?_
  have KX := hY w _ Y
  obtain ⟨fd, hb, hF⟩ := F w mg fa _ KX G.T.g hmg
  have rv := vals_ints hints
  have hl : ns.length ≤ sizeLine := Nat.le_trans hlen hn2
  have go : ∀ H : Hp, HOk l.prog w H s.heap → Lone (K w.params) a H → SqL (K w.params) H a (ns.map V.int) → codeAny (model l.prog w) callerA (.call (.ref fa) ⟨[.ref a], []⟩) _ s := fun H h1 h2 h3 =>
    law_runs KX G.T.g G.T.b G.T.builtins G.T.nolimit hg hobj hr hF hb h1 h2 (hsp _ H a ns hlen h3)
  cases hk : (K w.params).lookup a with
  | some ob =>
    have e := KX a ob hk
    rw [hobj] at e
    obtain rfl := Option.some.inj e
    exact go (fun _ => none) (fun b u z => nomatch z) (fun b u z => nomatch z) (.inr ⟨_, vs.toArray, _, hk, rfl, rfl, rfl, by rw [List.size_toArray, hints.length]; exact hl, by simpa using rv⟩)
  | none =>
    have at_ : ∀ {b : Addr} {u : HO}, upd (fun _ => none) a (.frz { cls := .type "list", data := .seq vs.toArray } (.lst (ns.map V.int))) b = some u → b = a ∧ u = .frz { cls := .type "list", data := .seq vs.toArray } (.lst (ns.map V.int)) := fun {b u} z => by
      by_cases e : b = a
      · subst e
        rw [upd_same] at z
        exact ⟨rfl, (Option.some.inj z).symm⟩
      · rw [upd_ne e] at z
        cases z
    refine go (upd (fun _ => none) a (.frz { cls := .type "list", data := .seq vs.toArray } (.lst (ns.map V.int)))) (fun b u z => ?_) (fun b u z => ?_) (.inl (.inr ⟨_, upd_same⟩))
    · obtain ⟨rfl, rfl⟩ := at_ z
      exact ⟨hobj, by rw [List.length_map]; exact hl, vs, _, rv, hobj⟩
    · obtain ⟨e1, e2⟩ := at_ z
      exact ⟨e1, hk, _, _, e2⟩
end K01
/-! ## 6. the mathematics: instants as pairs -/
namespace K01
abbrev In2 := Int × Int
def leI (a b : In2) : Bool := decide (a.1 < b.1) || (decide (a.1 = b.1) && decide (a.2 ≤ b.2))
def minI (a b : In2) : In2 := if leI a b = true then a else b
def minO : Option In2 → Option In2 → Option In2
  | none, b => b
  | some a, none => some a
  | some a, some b => some (minI a b)
def notAfter (a : In2) : Option In2 → Bool
  | none => true
  | some b => leI a b
def laterI (a : In2) (n : Int) : In2 := if n = 0 then a else (a.1 + n, 0)
def goodI (a : In2) : Bool := (decide (0 ≤ a.1) && decide (a.1 ≤ 1000000)) && (decide (0 ≤ a.2) && decide (a.2 ≤ 1000))
theorem leI_iff {a b : In2} : leI a b = true ↔ a.1 < b.1 ∨ (a.1 = b.1 ∧ a.2 ≤ b.2) := by
  simp [leI]
theorem leI_not {a b : In2} (h : ¬ leI a b = true) : leI b a = true := by
  rw [leI_iff] at *
  omega
theorem leI_anti {a b : In2} (h : leI a b = true) (h' : leI b a = true) : a = b := by
  rw [leI_iff] at *
  obtain ⟨a1, a2⟩ := a
  obtain ⟨b1, b2⟩ := b
  simp only at *
  have e1 : a1 = b1 := by omega
  have e2 : a2 = b2 := by omega
  rw [e1, e2]
theorem minI_comm (a b : In2) : minI a b = minI b a := by
  unfold minI
  by_cases h : leI a b = true
  · rw [if_pos h]
    by_cases h' : leI b a = true
    · rw [if_pos h', leI_anti h h']
    · rw [if_neg h']
  · rw [if_neg h, if_pos (leI_not h)]
theorem minO_comm (a b : Option In2) : minO a b = minO b a := by
  cases a <;> cases b <;> first | rfl | exact congrArg some (minI_comm _ _)
/-- it is the first one exactly if the first one is not after the second one -/
theorem minI_is (a b : In2) : minI a b = a ↔ leI a b = true := by
  unfold minI
  by_cases h : leI a b = true
  · rw [if_pos h]
    exact ⟨fun _ => h, fun _ => rfl⟩
  · rw [if_neg h]
    exact ⟨fun e => by rw [e] at h; exact absurd (leI_iff.mpr (.inr ⟨rfl, Int.le_refl _⟩)) h, fun e => absurd e h⟩
theorem lexLt_le (a b : In2) : HT.lexLt [b.1, b.2] [a.1, a.2] = !leI a b := by
  obtain ⟨a1, a2⟩ := a
  obtain ⟨b1, b2⟩ := b
  show (if b1 = a1 then (if b2 = a2 then false else decide (b2 < a2)) else decide (b1 < a1)) = !(decide (a1 < b1) || (decide (a1 = b1) && decide (a2 ≤ b2)))
  by_cases h1 : b1 = a1
  · rw [if_pos h1]
    subst h1
    by_cases h2 : b2 = a2
    · subst h2
      simp
    · rw [if_neg h2]
      by_cases h3 : b2 < a2
      · have h4 : ¬ a2 ≤ b2 := by omega
        simp [h3, h4]
      · have h4 : a2 ≤ b2 := by omega
        simp [h3, h4]
  · rw [if_neg h1]
    by_cases h3 : b1 < a1
    · have h4 : ¬ a1 < b1 := by omega
      have h5 : ¬ a1 = b1 := by omega
      simp [h3, h4, h5]
    · have h4 : a1 < b1 := by omega
      simp [h3, h4]
theorem lexAt_le (a b : In2) : Ob.lexAt (fun j => decide ([a.1, a.2].getD j 0 = [b.1, b.2].getD j 0)) (fun j => decide ([a.1, a.2].getD j 0 ≤ [b.1, b.2].getD j 0)) (decide ([a.1, a.2].length ≤ [b.1, b.2].length)) 0 (min [a.1, a.2].length [b.1, b.2].length) = leI a b := by
  obtain ⟨a1, a2⟩ := a
  obtain ⟨b1, b2⟩ := b
  show (if decide (a1 = b1) = true then (if decide (a2 = b2) = true then true else decide (a2 ≤ b2)) else decide (a1 ≤ b1)) = (decide (a1 < b1) || (decide (a1 = b1) && decide (a2 ≤ b2)))
  by_cases h1 : a1 = b1
  · subst h1
    by_cases h2 : a2 = b2
    · subst h2
      simp
    · simp [h2]
  · by_cases h3 : a1 < b1
    · have h4 : a1 ≤ b1 := by omega
      simp [h1, h3, h4]
    · have h4 : ¬ a1 ≤ b1 := by omega
      simp [h1, h3, h4]
end K01

/-! ## 7. the heap -/
namespace K01
open PySem PySem.Spec PyProof.Rows L2
theorem iT {c : Bool} {A B : Prop} (hc : c = true) (h : A) : if c = true then A else B := by
  rw [if_pos hc]
  exact h
theorem iF {c : Bool} {A B : Prop} (hc : c = false) (h : B) : if c = true then A else B := by
  rw [hc, if_neg Bool.false_ne_true]
  exact h
/-- the instant a as a tuple -/
def At (H : Hp) (v : V) (a : In2) : Prop := ∃ p, v = .ref p ∧ H p = some (.tup [.int a.1, .int a.2])
def AtO (H : Hp) (v : V) : Option In2 → Prop
  | none => v = .non
  | some a => At H v a
/-- all but the object at b stands as it stood -/
def Keep (b : Addr) (H H' : Hp) : Prop := ∀ c o, c ≠ b → H c = some o → H' c = some o
theorem Keep.trans {b : Addr} {H H1 H2 : Hp} (x : Keep b H H1) (y : Keep b H1 H2) : Keep b H H2 := fun c o n e => y c o n (x c o n e)
theorem Keep.same {b : Addr} {H H' : Hp} (x : Same H H') : Keep b H H' := fun c o _ e => x c o e
theorem same_new {H : Hp} {p : Addr} {o : HO} (hp : H p = none) : Same H (upd H p o) := fun b u e => by
  rw [upd_ne (ne_of_none e hp)]
  exact e
theorem At.same {H H' : Hp} {v : V} {a : In2} (s : Same H H') (h : At H v a) : At H' v a := by
  obtain ⟨p, e, h⟩ := h
  exact ⟨p, e, s _ _ h⟩
theorem AtO.same {H H' : Hp} {v : V} {o : Option In2} (s : Same H H') (h : AtO H v o) : AtO H' v o := by
  cases o with
  | none => exact h
  | some a => exact At.same s h
/-- the box: a list of the digits' list and the place -/
def Box (H : Hp) (b l : Addr) : Prop := ∃ (n : Int) (ds : List Int), 0 ≤ n ∧ H b = some (.lst [.ref l, .int n]) ∧ H l = some (.lst (ds.map V.int))
theorem Box.same {H H' : Hp} {b l : Addr} (s : Same H H') (h : Box H b l) : Box H' b l := by
  obtain ⟨n, ds, h0, hb, hl⟩ := h
  exact ⟨n, ds, h0, s _ _ hb, s _ _ hl⟩
theorem At.keep {H H' : Hp} {b l : Addr} {v : V} {a : In2} (k : Keep b H H') (x : Box H b l) (h : At H v a) : At H' v a := by
  obtain ⟨p, e, h⟩ := h
  obtain ⟨n, ds, _, hb, _⟩ := x
  exact ⟨p, e, k _ _ (ne_of h hb (by intro z; cases z)) h⟩
theorem AtO.keep {H H' : Hp} {b l : Addr} {v : V} {o : Option In2} (k : Keep b H H') (x : Box H b l) (h : AtO H v o) : AtO H' v o := by
  cases o with
  | none => exact h
  | some a => exact At.keep k x h
theorem box_ne {H : Hp} {b l : Addr} {n : Int} {ds : List Int} (hb : H b = some (.lst [.ref l, .int n])) (hl : H l = some (.lst (ds.map V.int))) : l ≠ b := by
  refine ne_of hl hb fun z => ?_
  cases ds with
  | nil => cases z
  | cons d r => cases z
theorem two_fits : ([V.non, V.non] : List V).length ≤ sizeLine := by
  show 2 ≤ sizeLine
  decide

/-! ## 8. the text, the promises -/
def top (i : Nat) : Stmt := PySem.Challenge.pw_asforetold_k01_instants.main.body.getD i (.Pass ⟨0, 0, 0, 0⟩)
abbrev sInit : Stmt := inClass (top 3) 0
abbrev sChk : Stmt := top 7
abbrev sNext : Stmt := top 8
abbrev sLater : Stmt := top 9
abbrev sEarliest : Stmt := top 10
abbrev sNot : Stmt := top 11
abbrev sCell : Stmt := top 13
abbrev sDigits : Stmt := top 14
abbrev sDraw : Stmt := top 15
abbrev sInst : Stmt := top 16
abbrev sAlike : Stmt := top 17
abbrev sRef : Stmt := top 18
abbrev sEarlier : Stmt := top 19
abbrev sLaw : Stmt := top 20
/-- what the top has written: OutOfRange at C (its __init__ at fI), TextFault at CT, ForetoldError at CB; the constants; names that are still the built-ins -/
structure Txt (K : PySem.W.Frag) (mg : Str → Option Value) (C CT CB fI : Addr) : Prop where
  ox : OexC K C
  iC : PySem.W.findIn K (.ref C) "__init__" = some (some (.ref fI))
  tI : PySem.W.typeIn K (.ref fI) = some (.type "function")
  nN : PySem.W.findIn K (.ref C) "name" = some none
  gC : mg "OutOfRange" = some (.ref C)
  gT : mg "TextFault" = some (.ref CT)
  gB : mg "ForetoldError" = some (.ref CB)
  xf : XfC K C
  isx : IsX K C
  isT : PySem.W.kitOne K (.ref C) (.ref CT) = some false
  em : PySem.W.exmOne K (.ref C) (.ref CB) = some true
  tm : ∃ t, mg "TIME_MOST" = some (.int 1000000 t)
  rm : ∃ t, mg "ROUND_MOST" = some (.int 1000 t)
  min : mg "min" = none
  len : mg "len" = none
  range : mg "range" = none
  int : mg "int" = none
  repr : mg "repr" = none
  isi : mg "isinstance" = none
/-- a def of the text, found by its name, without defaults -/
structure Df (K : PySem.W.Frag) (mg : Str → Option Value) (x : Str) (st : Stmt) (ps : List Str) (f : Addr) (fd : FuncData) : Prop where
  F : Fun K x x st f fd
  g : mg x = some (.ref f)
  b : Binds K fd ps []
def spInit (C : Addr) : Sp := fun vs H Q _ => ∃ (a : Addr) (v : V), vs = [.ref a, v] ∧ H a = some (exo a C none) ∧ ∀ dx, H dx = none → dx ≠ a → Q .non (upd (upd H dx (exd dx [("name", v)])) a (exo a C (some dx)))
def spChk (C : Addr) : Sp := fun vs H Q E => ∃ (u v : V) (a : In2), vs = [u, v] ∧ At H u a ∧ (goodI a = true → Q .non H) ∧
  (goodI a = false → ∀ (H' : Hp) (d : Addr), Same H H' → H' d = some (.xd [("name", v)]) → E (.ref C) (some d) H')
def spNext : Sp := fun vs H Q _ => ∃ (v : V) (a : In2), vs = [v] ∧ At H v a ∧ ∀ u H', Same H H' → At H' u (a.1, a.2 + 1) → Q u H'
def spLater : Sp := fun vs H Q _ => ∃ (v : V) (n : Int) (a : In2), vs = [v, .int n] ∧ At H v a ∧ ∀ u H', Same H H' → At H' u (laterI a n) → Q u H'
/-- earliest, and the law's own _law_earlier -/
def spMin : Sp := fun vs H Q _ => ∃ (x y : V) (o p : Option In2), vs = [x, y] ∧ AtO H x o ∧ AtO H y p ∧ ∀ u, AtO H u (minO o p) → Q u H
def spNot : Sp := fun vs H Q _ => ∃ (x y : V) (a : In2) (o : Option In2), vs = [x, y] ∧ At H x a ∧ AtO H y o ∧ Q (.bl (notAfter a o)) H
def spCell (K : PySem.W.Frag) : Sp := fun vs H Q _ => ∃ (a : Addr) (ns : List Int) (k : Int), vs = [.ref a, .int k] ∧ SqL K H a (ns.map V.int) ∧ 0 ≤ k ∧ ∀ z : Int, Q (.int z) H
def spDigits (K : PySem.W.Frag) : Sp := fun vs H Q _ => ∃ (a : Addr) (ns : List Int), vs = [.ref a, .int 0, .int 63] ∧ SqL K H a (ns.map V.int) ∧ ∀ (H' : Hp) (l : Addr) (ds : List Int), H' l = some (.lst (ds.map V.int)) → Q (.ref l) H'
def spDraw : Sp := fun vs H Q _ => ∃ (b l : Addr) (m : Int), vs = [.ref b, .int m] ∧ 0 < m ∧ Box H b l ∧ ∀ (z : Int) (H' : Hp), 0 ≤ z → z < m → Box H' b l → Keep b H H' → Q (.int z) H'
/-- where drawn instants lie -/
structure Lies (a : In2) : Prop where
  h1 : 0 ≤ a.1
  h2 : a.1 ≤ 999999
  h3 : 0 ≤ a.2
  h4 : a.2 ≤ 3
def spInst : Sp := fun vs H Q _ => ∃ (b l : Addr), vs = [.ref b] ∧ Box H b l ∧ ∀ (u : V) (a : In2) (H' : Hp), Box H' b l → Keep b H H' → At H' u a → Lies a → Q u H'
def spAlike (K : PySem.W.Frag) : Sp := fun vs H Q _ => ∃ (x y : V) (d : PyData), vs = [x, y] ∧ Dp K H x d ∧ Dp K H y d ∧ Plainly d ∧ Q (.bl true) H
/-- the name that is told -/
def told (w : Str) : Str := if w = "" then "instant" else w
def spRef : Sp := fun vs H Q _ => ∃ (u : V) (w : Str) (a : In2), vs = [u, .str w] ∧ At H u a ∧ (goodI a = true → Q .non H) ∧
  (goodI a = false → ∀ (H' : Hp) (q : Addr), Same H H' → H' q = some (.tup [.str "refused", .str (told w)]) → Q (.ref q) H')
end K01
/-! ## 9. the program's defs -/
namespace K01
open PySem PySem.Spec PyProof.Rows L2
section
variable {P : Program} {w : World} {K : PySem.W.Frag} {mg : Str → Option Value} {base : Heap} {C CT CB fI : Addr}
theorem scI : FnScope ["self", "name"] ["self", "name"] (defScope sInit) := ⟨rfl, rfl, rfl, by decide +kernel, rfl, by decide +kernel, by decide +kernel⟩
theorem ok_init {f : Addr} {fd : FuncData} (F : Fun K "__init__" "OutOfRange.__init__" sInit f fd) (T : Txt K mg C CT CB fI) : FnOk P w K mg base CX0 1 f fd ["self", "name"] (spInit C) := by
  refine F.ok scI (fun vs H Q E h => ?_) (fun cdv A outer s H vs Q E hr h => ?_)
  · obtain ⟨a, v, rfl, _⟩ := h
    rfl
  · obtain ⟨a, v, rfl, ha, k⟩ := h
    -- self.name = name
    refine ⟨_, pss_one (ps_ost (pv 0) (pv 1)), ?_⟩
    exact ⟨_, rfl, _, rfl, a, C, rfl, T.ox, T.nN, .inl ⟨ha, fun dx n ne => k dx n ne⟩⟩

theorem scK : FnScope ["instant", "what", "time", "turn"] ["instant", "what"] (defScope sChk) := ⟨rfl, rfl, rfl, by decide +kernel, rfl, by decide +kernel, by decide +kernel⟩
theorem ok_chk {f : Addr} {fd fdI : FuncData} (F : FunD K "check_instant" "check_instant" (defArgs sChk) (defBody sChk) (defScope sChk) [.str "instant"] [] f fd) (T : Txt K mg C CT CB fI) (FI : Fun K "__init__" "OutOfRange.__init__" sInit fI fdI)
    (bI : Binds K fdI ["self", "name"] []) : FnOk P w K mg base (L2.CX P w) 3 f fd ["instant", "what"] (spChk C) := by
  have GI : FnOk P w K mg base CX0 1 fI fdI ["self", "name"] (spInit C) := ok_init FI T
  obtain ⟨t1, hT⟩ := T.tm
  obtain ⟨t2, hR⟩ := T.rm
  refine F.ok scK (fun vs H Q E h => ?_) (fun cdv A outer s H vs Q E hr h => ?_)
  · obtain ⟨u, v, a, rfl, _⟩ := h
    rfl
  · obtain ⟨u, v, a, rfl, ⟨p, rfl, hp⟩, kg, kb⟩ := h
    refine ⟨_, pss_cons (ps_asg (pv 0) (pg_tup rfl (pgs_cons (pg_name (i := 2) scK.nd rfl (.inl rfl)) (pgs_cons (pg_name (i := 3) scK.nd rfl (.inl rfl)) pgs_nil))))
      (pss_one (ps_if (PW.pt (pw_or (pt_not (pt_chain op_le op_le pe_int (pv 2) (pe_glob (v := .int 1000000) rfl hT ⟨_, rfl⟩))) (pw_or1 (pt_not (pt_chain op_le op_le pe_int (pv 3) (pe_glob (v := .int 1000) rfl hR ⟨_, rfl⟩))))))
        (pss_one (ps_raise rfl (takes_of rfl rfl rfl rfl) (pmk_oex T.ox T.iC T.tI GI hr bI .nil pass0 rfl T.gC (by exact (pa_cons (pv 1) pa_nil))))) pss_nil)), ?_⟩
    -- time, turn = instant
    refine ⟨_, rfl, p, _, rfl, SqT.of hp, rfl, _, _, rfl, _, _, rfl, rfl, ?_⟩
    have bad : goodI a = false → ∀ (x : Addr), H x = none → spInit C [.ref x, v] (upd H x (exo x C none))
        (fun v' H2 => v' = .non ∧ ∃ (d : Addr) (fs : List (Str × V)), H2 x = some (exo x C (some d)) ∧ H2 d = some (exd d fs) ∧ H d = none ∧ E (.ref C) (some d) (upd (del H2 x) d (.xd fs))) (fun _ _ _ => False) := by
      intro hg x hx
      refine ⟨x, v, rfl, upd_same, fun dx hd hne => ⟨rfl, dx, [("name", v)], upd_same, ?_, ?_, ?_⟩⟩
      · rw [upd_ne hne, upd_same]
      · rw [upd_ne hne] at hd
        exact hd
      · have hd' : H dx = none := by
          rw [upd_ne hne] at hd
          exact hd
        refine kb hg _ dx (fun b o e => ?_) upd_same
        have n1 : b ≠ dx := ne_of_none e hd'
        have n2 : b ≠ x := ne_of_none e hx
        rw [upd_ne n1, del_ne n2, upd_ne n2, upd_ne n1, upd_ne n2]
        exact e
    have fin : goodI a = false → tMkO C (spInit C) [] (tCons (tVar 1) tNil) [some (.ref p), some v, some (.int a.1), some (.int a.2)] H (fun cls d H' => E cls d H') := fun hg =>
      ⟨_, rfl, (by show 1 ≤ 1000; decide), fun x hx => bad hg x hx⟩
    refine ⟨_, rfl, _, _, rfl, rfl, _, rfl, ?_⟩
    by_cases c1 : 0 ≤ a.1
    · refine iT (decide_eq_true c1) ⟨_, _, rfl, rfl, _, rfl, ?_⟩
      by_cases c2 : a.1 ≤ 1000000
      · refine iF (by rw [decide_eq_true c2]; rfl) ⟨_, rfl, _, _, rfl, rfl, _, rfl, ?_⟩
        by_cases c3 : 0 ≤ a.2
        · refine iT (decide_eq_true c3) ⟨_, _, rfl, rfl, _, rfl, ?_⟩
          by_cases c4 : a.2 ≤ 1000
          · exact iF (by rw [decide_eq_true c4]; rfl) (kg (by simp [goodI, c1, c2, c3, c4]))
          · exact iT (by rw [decide_eq_false c4]; rfl) (fin (by simp [goodI, c4]))
        · refine iF (decide_eq_false c3) ⟨_, rfl, ?_⟩
          exact iT rfl (fin (by simp [goodI, c3]))
      · refine iT (by rw [decide_eq_false c2]; rfl) ?_
        exact iT rfl (fin (by simp [goodI, c2]))
    · refine iF (decide_eq_false c1) ⟨_, rfl, ?_⟩
      refine iT rfl ?_
      exact iT rfl (fin (by simp [goodI, c1]))
end
end K01
namespace K01
open PySem PySem.Spec PyProof.Rows L2
section
variable {P : Program} {w : World} {K : PySem.W.Frag} {mg : Str → Option Value} {base : Heap} {C CT CB fI : Addr}
theorem scN : FnScope ["instant"] ["instant"] (defScope sNext) := ⟨rfl, rfl, rfl, by decide +kernel, rfl, by decide +kernel, by decide +kernel⟩
theorem ok_next {f : Addr} {fd : FuncData} (F : Fun K "next_instant" "next_instant" sNext f fd) : FnOk P w K mg base CX0 1 f fd ["instant"] spNext := by
  refine F.ok scN (fun vs H Q E h => ?_) (fun cdv A outer s H vs Q E hr h => ?_)
  · obtain ⟨v, a, rfl, _⟩ := h
    rfl
  · obtain ⟨v, a, rfl, ⟨p, rfl, hp⟩, k⟩ := h
    -- return (instant[0], instant[1] + 1)
    refine ⟨_, pss_one (ps_ret (pe_tup (pa_cons (pe_ix ix_tup (pv 0) pe_int (fun _ _ => rfl)) (pa_cons (pe_op op_add (pe_ix ix_tup (pv 0) pe_int (fun _ _ => rfl)) pe_int) pa_nil)))), ?_⟩
    refine ⟨_, rfl, p, _, _, _, rfl, rfl, SqT.of hp, at_of (j := 0) rfl rfl, _, rfl, p, _, _, _, rfl, rfl, SqT.of hp, at_of (j := 1) rfl rfl, _, _, rfl, rfl, (by show 2 ≤ sizeLine; decide), fun q hq => ?_⟩
    exact k (.ref q) _ (same_new hq) ⟨q, rfl, upd_same⟩

theorem scL8 : FnScope ["instant", "ticks"] ["instant", "ticks"] (defScope sLater) := ⟨rfl, rfl, rfl, by decide +kernel, rfl, by decide +kernel, by decide +kernel⟩
theorem ok_later {f : Addr} {fd : FuncData} (F : Fun K "later" "later" sLater f fd) : FnOk P w K mg base CX0 1 f fd ["instant", "ticks"] spLater := by
  refine F.ok scL8 (fun vs H Q E h => ?_) (fun cdv A outer s H vs Q E hr h => ?_)
  · obtain ⟨v, n, a, rfl, _⟩ := h
    rfl
  · obtain ⟨v, n, a, rfl, ⟨p, rfl, hp⟩, k⟩ := h
    -- return instant if ticks == 0 else (instant[0] + ticks, 0)
    refine ⟨_, pss_one (ps_ret (pe_ifExp (pt_cmpR op_eq (pv 1) pe_int (nomark _)) (pv 0) (pe_tup (pa_cons (pe_op op_add (pe_ix ix_tup (pv 0) pe_int (fun _ _ => rfl)) (pv 1)) (pa_cons pe_int pa_nil))))), ?_⟩
    refine ⟨_, rfl, rfl, _, rfl, ?_⟩
    by_cases c : n = 0
    · refine iT (decide_eq_true (by rw [c])) ⟨_, rfl, ?_⟩
      refine k (.ref p) H (Same.refl H) ⟨p, rfl, ?_⟩
      unfold laterI
      rw [if_pos c]
      exact hp
    · refine iF (decide_eq_false fun e => c (V.int.inj e)) ⟨_, rfl, p, _, _, _, rfl, rfl, SqT.of hp, at_of (j := 0) rfl rfl, _, rfl, _, _, rfl, rfl, (by show 2 ≤ sizeLine; decide), fun q hq => ?_⟩
      refine k (.ref q) _ (same_new hq) ⟨q, rfl, ?_⟩
      unfold laterI
      rw [if_neg c]
      exact upd_same

theorem scM : FnScope ["one", "two"] ["one", "two"] (defScope sEarliest) := ⟨rfl, rfl, rfl, by decide +kernel, rfl, by decide +kernel, by decide +kernel⟩
theorem ok_earliest {f : Addr} {fd : FuncData} (F : Fun K "earliest" "earliest" sEarliest f fd) (T : Txt K mg C CT CB fI) : FnOk P w K mg base CX0 1 f fd ["one", "two"] spMin := by
  refine F.ok scM (fun vs H Q E h => ?_) (fun cdv A outer s H vs Q E hr h => ?_)
  · obtain ⟨x, y, o, p, rfl, _⟩ := h
    rfl
  · obtain ⟨x, y, o, p, rfl, hx, hy, k⟩ := h
    refine ⟨_, pss_cons (ps_if (pt_cmpR op_isN (pv 0) pe_non (nomark _)) (pss_one (ps_ret (pv 1))) pss_nil)
      (pss_cons (ps_if (pt_cmpR op_isN (pv 1) pe_non (nomark _)) (pss_one (ps_ret (pv 0))) pss_nil)
      (pss_one (ps_ret (pe_callB (call_minT rfl (hu_of hr)) (by rfl) T.min (by decide +kernel) (pa_cons (pv 0) (pa_cons (pv 1) pa_nil)))))), ?_⟩
    refine ⟨x, rfl, rfl, _, rfl, ?_⟩
    match o, p, hx, hy, k with
    | none, p, hx, hy, k =>
      have e : x = .non := hx
      exact iT (decide_eq_true e) ⟨y, rfl, k y hy⟩
    | some a, none, ⟨q, e1, hq⟩, hy, k =>
      subst e1
      have e : y = .non := hy
      refine iF (decide_eq_false (fun z => by cases z)) ⟨y, rfl, rfl, _, rfl, ?_⟩
      exact iT (decide_eq_true e) ⟨_, rfl, k (.ref q) ⟨q, rfl, hq⟩⟩
    | some a, some b, ⟨q, e1, hq⟩, ⟨r, e2, hr'⟩, k =>
      subst e1
      subst e2
      refine iF (decide_eq_false (fun z => by cases z)) ⟨_, rfl, rfl, _, rfl, ?_⟩
      refine iF (decide_eq_false (fun z => by cases z)) ⟨_, rfl, _, rfl, q, r, [a.1, a.2], [b.1, b.2], rfl, SqT.of hq, SqT.of hr', ?_⟩
      refine k _ ?_
      show At H _ (minI a b)
      unfold minI
      rw [lexLt_le]
      by_cases c : leI a b = true
      · rw [c, if_pos rfl]
        exact ⟨q, rfl, hq⟩
      · have c' : leI a b = false := by simpa using c
        rw [c', if_neg Bool.false_ne_true]
        exact ⟨r, rfl, hr'⟩

theorem scO : FnScope ["instant", "cancel"] ["instant", "cancel"] (defScope sNot) := ⟨rfl, rfl, rfl, by decide +kernel, rfl, by decide +kernel, by decide +kernel⟩
theorem ok_not {f : Addr} {fd : FuncData} (F : Fun K "not_after" "not_after" sNot f fd) : FnOk P w K mg base CX0 1 f fd ["instant", "cancel"] spNot := by
  refine F.ok scO (fun vs H Q E h => ?_) (fun cdv A outer s H vs Q E hr h => ?_)
  · obtain ⟨x, y, a, o, rfl, _⟩ := h
    rfl
  · obtain ⟨x, y, a, o, rfl, ⟨q, rfl, hq⟩, hy, k⟩ := h
    refine ⟨_, pss_one (ps_ret (pe_or (pe_cmpR op_isN (pv 1) pe_non (nomark _)) (pe_one (pe_cmpR (op_leT hr.units0) (pv 0) (pv 1) (nomark _))))), ?_⟩
    refine ⟨y, rfl, rfl, _, rfl, ?_⟩
    match o, hy, k with
    | none, hy, k =>
      have e : y = .non := hy
      exact iT (decide_eq_true e) k
    | some b, ⟨r, e2, hr'⟩, k =>
      subst e2
      refine iF (decide_eq_false (fun z => by cases z)) ⟨_, rfl, _, rfl, q, r, [a.1, a.2], [b.1, b.2], rfl, rfl, SqT.of hq, SqT.of hr', ?_⟩
      rw [lexAt_le]
      exact k

/-! ## 10. the law's own helpers -/
theorem scE : FnScope ["_law_one", "_law_two"] ["_law_one", "_law_two"] (defScope sEarlier) := ⟨rfl, rfl, rfl, by decide +kernel, rfl, by decide +kernel, by decide +kernel⟩
theorem ok_earlier {f : Addr} {fd : FuncData} (F : Fun K "_law_earlier" "_law_earlier" sEarlier f fd) : FnOk P w K mg base CX0 1 f fd ["_law_one", "_law_two"] spMin := by
  refine F.ok scE (fun vs H Q E h => ?_) (fun cdv A outer s H vs Q E hr h => ?_)
  · obtain ⟨x, y, o, p, rfl, _⟩ := h
    rfl
  · obtain ⟨x, y, o, p, rfl, hx, hy, k⟩ := h
    refine ⟨_, pss_cons (ps_if (pt_cmpR op_isN (pv 0) pe_non (nomark _)) (pss_one (ps_ret (pv 1))) pss_nil)
      (pss_cons (ps_if (PW.pt (pw_or (pt_cmpR op_isN (pv 1) pe_non (nomark _)) (pw_or1 (pt_cmpR op_lt (pe_ix ix_tup (pv 0) pe_int (fun _ _ => rfl)) (pe_ix ix_tup (pv 1) pe_int (fun _ _ => rfl)) (nomark _))))) (pss_one (ps_ret (pv 0))) pss_nil)
      (pss_cons (ps_if (PW.pt (pw_and (pt_cmpR op_eq (pe_ix ix_tup (pv 0) pe_int (fun _ _ => rfl)) (pe_ix ix_tup (pv 1) pe_int (fun _ _ => rfl)) (nomark _)) (pw_and1 (pt_cmpR op_le (pe_ix ix_tup (pv 0) pe_int (fun _ _ => rfl)) (pe_ix ix_tup (pv 1) pe_int (fun _ _ => rfl)) (nomark _))))) (pss_one (ps_ret (pv 0))) pss_nil)
      (pss_one (ps_ret (pv 1))))), ?_⟩
    refine ⟨x, rfl, rfl, _, rfl, ?_⟩
    match o, p, hx, hy, k with
    | none, p, hx, hy, k =>
      have e : x = .non := hx
      exact iT (decide_eq_true e) ⟨y, rfl, k y hy⟩
    | some a, none, ⟨q, e1, hq⟩, hy, k =>
      subst e1
      have e : y = .non := hy
      refine iF (decide_eq_false (fun z => by cases z)) ⟨y, rfl, rfl, _, rfl, ?_⟩
      refine iT (decide_eq_true e) ?_
      exact iT rfl ⟨_, rfl, k (.ref q) ⟨q, rfl, hq⟩⟩
    | some a, some b, ⟨q, e1, hq⟩, ⟨r, e2, hr'⟩, k =>
      subst e1
      subst e2
      have kx : ∀ c : leI a b = true, Q (.ref q) H := fun c => k _ (by
        show At H _ (minI a b)
        unfold minI
        rw [if_pos c]
        exact ⟨q, rfl, hq⟩)
      have ky : ∀ c : ¬ leI a b = true, Q (.ref r) H := fun c => k _ (by
        show At H _ (minI a b)
        unfold minI
        rw [if_neg c]
        exact ⟨r, rfl, hr'⟩)
      refine iF (decide_eq_false (fun z => by cases z)) ⟨_, rfl, rfl, _, rfl, ?_⟩
      refine iF (decide_eq_false (fun z => by cases z)) ⟨_, rfl, q, _, _, _, rfl, rfl, SqT.of hq, at_of (j := 0) rfl rfl, _, rfl, r, _, _, _, rfl, rfl, SqT.of hr', at_of (j := 0) rfl rfl, _, _, rfl, rfl, _, rfl, ?_⟩
      by_cases c1 : a.1 < b.1
      · exact iT (decide_eq_true c1) ⟨_, rfl, kx (leI_iff.mpr (.inl c1))⟩
      · refine iF (decide_eq_false c1) ⟨_, rfl, q, _, _, _, rfl, rfl, SqT.of hq, at_of (j := 0) rfl rfl, _, rfl, r, _, _, _, rfl, rfl, SqT.of hr', at_of (j := 0) rfl rfl, rfl, _, rfl, ?_⟩
        by_cases c2 : a.1 = b.1
        · refine iT (decide_eq_true (by rw [c2])) ⟨_, rfl, q, _, _, _, rfl, rfl, SqT.of hq, at_of (j := 1) rfl rfl, _, rfl, r, _, _, _, rfl, rfl, SqT.of hr', at_of (j := 1) rfl rfl, _, _, rfl, rfl, _, rfl, ?_⟩
          by_cases c3 : a.2 ≤ b.2
          · exact iT (decide_eq_true c3) ⟨_, rfl, kx (leI_iff.mpr (.inr ⟨c2, c3⟩))⟩
          · exact iF (decide_eq_false c3) ⟨_, rfl, ky fun z => by rw [leI_iff] at z; omega⟩
        · refine iF (decide_eq_false fun e => c2 (V.int.inj e)) ?_
          exact iF rfl ⟨_, rfl, ky fun z => by rw [leI_iff] at z; omega⟩
end
end K01
namespace K01
open PySem PySem.Spec PyProof.Rows L2
section
variable {P : Program} {w : World} {K : PySem.W.Frag} {mg : Str → Option Value} {base : Heap} {C CT CB fI : Addr}
theorem scC : FnScope ["_law_script", "_law_k"] ["_law_script", "_law_k"] (defScope sCell) := ⟨rfl, rfl, rfl, by decide +kernel, rfl, by decide +kernel, by decide +kernel⟩
theorem ok_cell {f : Addr} {fd : FuncData} (F : Fun K "_law_cell" "_law_cell" sCell f fd) (T : Txt K mg C CT CB fI) : FnOk P w K mg base CX0 1 f fd ["_law_script", "_law_k"] (spCell K) := by
  refine F.ok scC (fun vs H Q E h => ?_) (fun cdv A outer s H vs Q E hr h => ?_)
  · obtain ⟨a, ns, k, rfl, _⟩ := h
    rfl
  · obtain ⟨a, ns, k, rfl, hs, h0, go⟩ := h
    refine ⟨_, pss_cons (ps_if (pt_cmpR op_lt (pv 1) (pe_callB call_len_seq (by rfl) T.len PySem.boot_len (pa_cons (pv 0) pa_nil)) (nomark _)) (pss_one (ps_ret (pe_ix ix_list (pv 0) (pv 1) (fun _ _ => rfl)))) pss_nil)
      (pss_one (ps_ret pe_int)), ?_⟩
    refine ⟨_, rfl, _, rfl, a, _, rfl, .inl hs, _, _, rfl, rfl, _, rfl, ?_⟩
    by_cases c : k < ((ns.map V.int).length : Nat)
    · have hk : k.toNat < ns.length := by rw [List.length_map] at c; omega
      have e : k = (k.toNat : Int) := by omega
      refine iT (decide_eq_true c) ⟨_, rfl, _, rfl, a, _, _, V.int ns[k.toNat], rfl, rfl, hs, at_of e ?_, go _⟩
      rw [List.getElem?_map, List.getElem?_eq_getElem hk]
      rfl
    · exact iF (decide_eq_false c) (go 0)

theorem scW : FnScope ["_law_box", "_law_many", "_law_at"] ["_law_box", "_law_many"] (defScope sDraw) := ⟨rfl, rfl, rfl, by decide +kernel, rfl, by decide +kernel, by decide +kernel⟩
theorem ok_draw {f : Addr} {fd : FuncData} (F : Fun K "_law_draw" "_law_draw" sDraw f fd) (T : Txt K mg C CT CB fI) : FnOk P w K mg base CX0 1 f fd ["_law_box", "_law_many"] spDraw := by
  refine F.ok scW (fun vs H Q E h => ?_) (fun cdv A outer s H vs Q E hr h => ?_)
  · obtain ⟨b, l, m, rfl, _⟩ := h
    rfl
  · obtain ⟨b, l, m, rfl, hm, ⟨n, ds, h0, hb, hl⟩, k⟩ := h
    refine ⟨_, pss_cons (ps_set (i := 2) scW.nd rfl (.inl rfl) (pe_ix ix_list (pv 0) pe_int (fun _ _ => rfl)))
      (pss_cons (ps_asg (pe_op op_add (pv 2) pe_int) (pg_sub (pv 0) pe_int set_list))
      (pss_cons (ps_if (pt_cmpR op_lt (pv 2) (pe_callB call_len_seq (by rfl) T.len PySem.boot_len (pa_cons (pe_ix ix_list (pv 0) pe_int (fun _ _ => rfl)) pa_nil)) (nomark _))
        (pss_one (ps_ret (pe_op op_mod (pe_callTy call_int1 (by rfl) T.int (by decide +kernel) (pa_cons (pe_ix ix_list (pe_ix ix_list (pv 0) pe_int (fun _ _ => rfl)) (pv 2) (fun _ _ => rfl)) pa_nil)) (pv 1)))) pss_nil)
      (pss_one (ps_ret (pe_op op_mod (pe_callTy call_int1 (by rfl) T.int (by decide +kernel) (pa_cons (pe_op op_add (pe_op op_mul (pv 2) pe_int) pe_int) pa_nil)) (pv 1)))))), ?_⟩
    have nlb : l ≠ b := box_ne hb hl
    have hb' : (upd H b (.lst [.ref l, .int (n + 1)])) b = some (.lst [.ref l, .int (n + 1)]) := upd_same
    have hl' : (upd H b (.lst [.ref l, .int (n + 1)])) l = some (.lst (ds.map V.int)) := by rw [upd_ne nlb]; exact hl
    have fin : ∀ z : Int, Q (.int (z % m)) (upd H b (.lst [.ref l, .int (n + 1)])) := fun z =>
      k _ _ (Int.emod_nonneg _ (by omega)) (Int.emod_lt_of_pos _ hm) ⟨n + 1, ds, by omega, hb', hl'⟩ fun c o hc e => by rw [upd_ne hc]; exact e
    refine ⟨_, rfl, b, _, _, _, rfl, rfl, SqL.of hb, at_of (j := 1) rfl rfl, _, rfl, _, _, rfl, rfl, _, rfl, b, _, _, 1, rfl, rfl, hb, rfl, ?_⟩
    refine ⟨_, rfl, _, rfl, b, _, _, _, rfl, rfl, SqL.of hb', at_of (j := 0) rfl rfl, l, _, rfl, .inl (SqL.of hl'), _, _, rfl, rfl, _, rfl, ?_⟩
    by_cases c : n < ((ds.map V.int).length : Nat)
    · have hk : n.toNat < ds.length := by rw [List.length_map] at c; omega
      have e : n = (n.toNat : Int) := by omega
      refine iT (decide_eq_true c) ⟨_, rfl, b, _, _, _, rfl, rfl, SqL.of hb', at_of (j := 0) rfl rfl, _, rfl, l, _, _, V.int ds[n.toNat], rfl, rfl, SqL.of hl', at_of e ?_, .inl ⟨_, rfl, _, rfl, _, _, rfl, rfl, hm, fin _⟩⟩
      rw [List.getElem?_map, List.getElem?_eq_getElem hk]
      rfl
    · exact iF (decide_eq_false c) ⟨_, rfl, _, _, rfl, rfl, .inr ⟨by decide, by decide⟩, _, _, rfl, rfl, .inl ⟨_, rfl, _, rfl, _, _, rfl, rfl, hm, fin _⟩⟩

theorem scP : FnScope ["_law_box", "_law_kind"] ["_law_box"] (defScope sInst) := ⟨rfl, rfl, rfl, by decide +kernel, rfl, by decide +kernel, by decide +kernel⟩
/-- a new tuple beside the box -/
theorem inst_end {H H' : Hp} {b l : Addr} {Q : VK} {t r : Int} (k : ∀ (u : V) (a : In2) (H' : Hp), Box H' b l → Keep b H H' → At H' u a → Lies a → Q u H') (x : Box H' b l) (kp : Keep b H H') (ly : Lies (t, r)) (q : Addr) (hq : H' q = none) : Q (.ref q) (upd H' q (.tup [.int t, .int r])) :=
  k _ (t, r) _ (x.same (same_new hq)) (kp.trans (Keep.same (same_new hq))) ⟨q, rfl, upd_same⟩ ly
theorem ok_inst {f fW : Addr} {fd fdW : FuncData} (F : Fun K "_law_instant" "_law_instant" sInst f fd) (T : Txt K mg C CT CB fI) (W : Df K mg "_law_draw" sDraw ["_law_box", "_law_many"] fW fdW) : FnOk P w K mg base CX0 2 f fd ["_law_box"] spInst := by
  have G : FnOk P w K mg base CX0 1 fW fdW ["_law_box", "_law_many"] spDraw := ok_draw W.F T
  refine F.ok scP (fun vs H Q E h => ?_) (fun cdv A outer s H vs Q E hr h => ?_)
  · obtain ⟨b, l, rfl, _⟩ := h
    rfl
  · obtain ⟨b, l, rfl, x, k⟩ := h
    refine ⟨_, pss_cons (ps_set (i := 1) scP.nd rfl (.inl rfl) (pe_call G hr rfl W.g W.F.kp W.b .nil pass0 (pa_cons (pv 0) (pa_cons pe_int pa_nil))))
      (pss_cons (ps_if (pt_cmpR op_eq (pv 1) pe_int (nomark _)) (pss_one (ps_ret (pe_tup (pa_cons (pe_call G hr rfl W.g W.F.kp W.b .nil pass0 (pa_cons (pv 0) (pa_cons pe_int pa_nil))) (pa_cons (pe_call G hr rfl W.g W.F.kp W.b .nil pass0 (pa_cons (pv 0) (pa_cons pe_int pa_nil))) pa_nil))))) pss_nil)
      (pss_cons (ps_if (pt_cmpR op_eq (pv 1) pe_int (nomark _)) (pss_one (ps_ret (pe_tup (pa_cons (pe_call G hr rfl W.g W.F.kp W.b .nil pass0 (pa_cons (pv 0) (pa_cons pe_int pa_nil))) (pa_cons pe_int pa_nil))))) pss_nil)
      (pss_one (ps_ret (pe_tup (pa_cons (pe_op op_add (pe_op op_mul (pe_call G hr rfl W.g W.F.kp W.b .nil pass0 (pa_cons (pv 0) (pa_cons pe_int pa_nil))) pe_int) (pe_call G hr rfl W.g W.F.kp W.b .nil pass0 (pa_cons (pv 0) (pa_cons pe_int pa_nil))))
        (pa_cons (pe_call G hr rfl W.g W.F.kp W.b .nil pass0 (pa_cons (pv 0) (pa_cons pe_int pa_nil))) pa_nil))))))), ?_⟩
    -- _law_kind
    refine ⟨_, rfl, b, l, 4, rfl, by decide, x, fun z H1 z0 z1 x1 k1 => ?_⟩
    refine ⟨_, rfl, rfl, _, rfl, ?_⟩
    by_cases c : z = 0
    · refine iT (decide_eq_true (by rw [c])) ⟨_, rfl, b, l, 3, rfl, by decide, x1, fun y H2 y0 y1 x2 k2 => ⟨_, rfl, b, l, 3, rfl, by decide, x2, fun v H3 v0 v1 x3 k3 => ⟨(by show 2 ≤ sizeLine; decide), fun q hq => ?_⟩⟩⟩
      exact inst_end k x3 ((k1.trans k2).trans k3) ⟨y0, by show y ≤ 999999; omega, v0, by show v ≤ 3; omega⟩ q hq
    · refine iF (decide_eq_false fun e => c (V.int.inj e)) ⟨_, rfl, rfl, _, rfl, ?_⟩
      by_cases c2 : z = 1
      · refine iT (decide_eq_true (by rw [c2])) ⟨_, rfl, b, l, 20, rfl, by decide, x1, fun y H2 y0 y1 x2 k2 => ⟨(by show 2 ≤ sizeLine; decide), fun q hq => ?_⟩⟩
        exact inst_end k x2 (k1.trans k2) ⟨y0, by show y ≤ 999999; omega, by show (0 : Int) ≤ 0; decide, by show (0 : Int) ≤ 3; decide⟩ q hq
      · refine iF (decide_eq_false fun e => c2 (V.int.inj e)) ⟨_, rfl, b, l, 1000, rfl, by decide, x1, fun y H2 y0 y1 x2 k2 => ⟨_, _, rfl, rfl, .inr ⟨by decide, by decide⟩, _, rfl, b, l, 1000, rfl, by decide, x2, fun v H3 v0 v1 x3 k3 =>
          ⟨_, _, rfl, rfl, _, rfl, b, l, 4, rfl, by decide, x3, fun u H4 u0 u1 x4 k4 => ⟨(by show 2 ≤ sizeLine; decide), fun q hq => ?_⟩⟩⟩⟩
        exact inst_end k x4 (((k1.trans k2).trans k3).trans k4) ⟨by show 0 ≤ y * 1000 + v; omega, by show y * 1000 + v ≤ 999999; omega, u0, by show u ≤ 3; omega⟩ q hq

theorem scA : FnScope ["_law_one", "_law_two"] ["_law_one", "_law_two"] (defScope sAlike) := ⟨rfl, rfl, rfl, by decide +kernel, rfl, by decide +kernel, by decide +kernel⟩
theorem ok_alike {f : Addr} {fd : FuncData} (F : Fun K "_law_alike" "_law_alike" sAlike f fd) (T : Txt K mg C CT CB fI) : FnG P w K mg base 1 f fd ["_law_one", "_law_two"] (spAlike K) := by
  refine fnG F scA (fun vs H Q E h => ?_) (fun cdv A outer s H vs Q E hg hr h => ?_)
  · obtain ⟨x, y, d, rfl, _⟩ := h
    rfl
  · obtain ⟨x, y, d, rfl, h1, h2, pl, k⟩ := h
    refine ⟨_, pss_one (ps_ret (pe_cmpR op_eq (pe_callB (call_repr hg hr.units) (by rfl) T.repr (by decide +kernel) (pa_cons (pv 0) pa_nil)) (pe_callB (call_repr hg hr.units) (by rfl) T.repr (by decide +kernel) (pa_cons (pv 1) pa_nil)) (nomark _))), ?_⟩
    refine ⟨_, rfl, x, d, rfl, h1, pl, _, rfl, y, d, rfl, h2, pl, rfl, ?_⟩
    show Q (.bl (decide (V.str d.shown = V.str d.shown))) H
    rw [decide_eq_true rfl]
    exact k
end
end K01
namespace K01
open PySem PySem.Spec PyProof.Rows L2
section
variable {P : Program} {w : World} {K : PySem.W.Frag} {mg : Str → Option Value} {base : Heap} {C CT CB fI : Addr}
/-- the digits so far: at most n of them -/
def Dig (H : Hp) (l : Addr) (n : Nat) : Prop := ∃ ds : List Int, H l = some (.lst (ds.map V.int)) ∧ ds.length ≤ n
theorem Dig.more {H : Hp} {l : Addr} {n : Nat} {ds : List Int} {z : Int} (hn : ds.length ≤ n) : Dig (upd H l (.lst (ds.map V.int ++ [V.int z]))) l (n + 1) := by
  refine ⟨ds ++ [z], ?_, ?_⟩
  · rw [upd_same, List.map_append]
    rfl
  · rw [List.length_append, List.length_singleton]
    omega
theorem scD : FnScope ["_law_script", "_law_first", "_law_last", "_law_digits_here", "_law_k", "_law_cell_here", "_law_turn", "_law_seed"] ["_law_script", "_law_first", "_law_last"] (defScope sDigits) := ⟨rfl, rfl, rfl, by decide +kernel, rfl, by decide +kernel, by decide +kernel⟩
theorem ok_digits {f fC : Addr} {fd fdC : FuncData} (F : Fun K "_law_digits" "_law_digits" sDigits f fd) (T : Txt K mg C CT CB fI) (W : Df K mg "_law_cell" sCell ["_law_script", "_law_k"] fC fdC) : FnOk P w K mg base CX0 2 f fd ["_law_script", "_law_first", "_law_last"] (spDigits K) := by
  have G : FnOk P w K mg base CX0 1 fC fdC ["_law_script", "_law_k"] (spCell K) := ok_cell W.F T
  refine F.ok scD (fun vs H Q E h => ?_) (fun cdv A outer s H vs Q E hr h => ?_)
  · obtain ⟨a, ns, rfl, _⟩ := h
    rfl
  · obtain ⟨a, ns, rfl, hs, k⟩ := h
    refine ⟨_, pss_cons (ps_set (i := 3) scD.nd rfl (.inl rfl) (pe_lst pa_nil))
      (pss_cons (ps_for PassesOwn.never rfl (pi_range2 rfl T.range (pa_cons (pv 1) (pa_cons (pv 2) pa_nil))) (pg_name (i := 4) scD.nd rfl (.inl rfl)) (pss_cons (ps_set (i := 5) scD.nd rfl (.inl rfl) (pe_call G hr rfl W.g W.F.kp W.b .nil pass0 (pa_cons (pv 0) (pa_cons (pv 4) pa_nil))))
      (pss_cons (ps_if (pt_cmpR op_lt (pv 5) (pe_int) (nomark _)) (pss_one (ps_set (i := 5) scD.nd rfl (.inl rfl) (pe_op op_sub (pe_int) (pe_op op_mul (pe_int) (pv 5))))) (pss_nil))
      (pss_one (ps_if (pt_cmpR op_ge (pv 5) (pe_int) (nomark _)) (pss_one (ps_for PassesOwn.never rfl (pi_range1 rfl T.range (pa_cons pe_int pa_nil)) (pg_name (i := 6) scD.nd rfl (.inl rfl)) (pss_one (ps_if (pt_cmpR op_gt (pv 5) (pe_int) (nomark _)) (pss_cons (ps_expr (pe_bm PySem.F.plainAttrs_list PySem.F.slot_list_append PySem.F.type_list_append mt_append (pv 3) (pa_cons (pe_op op_mod (pe_callTy call_int1 (by rfl) T.int (by decide +kernel) (pa_cons (pv 5) pa_nil)) (pe_int)) pa_nil)))
      (pss_one (ps_set (i := 5) scD.nd rfl (.inl rfl) (pe_op op_fdiv (pv 5) (pe_int))))) (pss_nil))))) (pss_cons (ps_set (i := 7) scD.nd rfl (.inl rfl) (pe_op op_mod (pe_callTy call_int1 (by rfl) T.int (by decide +kernel) (pa_cons (pe_op op_add (pe_op op_add (pe_op op_mul (pv 5) (pe_int)) (pe_op op_mul (pv 4) (pe_int))) (pe_int)) pa_nil)) (pe_int)))
      (pss_one (ps_for PassesOwn.never rfl (pi_range1 rfl T.range (pa_cons pe_int pa_nil)) (pg_name (i := 6) scD.nd rfl (.inl rfl)) (pss_cons (ps_set (i := 7) scD.nd rfl (.inl rfl) (pe_op op_mod (pe_callTy call_int1 (by rfl) T.int (by decide +kernel) (pa_cons (pe_op op_add (pe_op op_add (pe_op op_mul (pv 7) (pe_int)) (pe_op op_mul (pe_int) (pv 6))) (pe_int)) pa_nil)) (pe_int)))
      (pss_one (ps_expr (pe_bm PySem.F.plainAttrs_list PySem.F.slot_list_append PySem.F.type_list_append mt_append (pv 3) (pa_cons (pe_op op_mod (pe_callTy call_int1 (by rfl) T.int (by decide +kernel) (pa_cons (pe_op op_fdiv (pv 7) (pe_int)) pa_nil)) (pe_int)) pa_nil)))))))))))))
      (pss_one (ps_ret (pv 3)))), ?_⟩
    -- _law_digits_here = []
    refine ⟨(by show 0 ≤ sizeLine; decide), fun l hl => ?_⟩
    have keepS : ∀ {H' : Hp} {o : HO}, Same H H' → Same H (upd H' l o) := fun {H' o} s b u e => by
      rw [upd_ne (ne_of_none e hl)]
      exact s b u e
    have room : ∀ {es : List Int} {n : Nat}, es.length ≤ n → n ≤ 3780 → (es.map V.int).length < sizeLine := fun {es n} h1 h2 => by
      rw [List.length_map, sizeLine_eq]
      omega
    -- for _law_k in range(0, 63)
    refine ⟨_, rfl, _, rfl, 0, 63, rfl, by decide, for_range (lo := 0) (n := 63)
      (fun i σ H' => ∃ v4 v5 v6 v7 : Option V, σ = [some (.ref a), some (.int 0), some (.int 63), some (.ref l), v4, v5, v6, v7] ∧ Same H H' ∧ Dig H' l (60 * i))
      ⟨none, none, none, none, rfl, same_new hl, [], upd_same, Nat.le_refl _⟩ ?_ ?_⟩
    · rintro i σ H1 hi ⟨v4, v5, v6, v7, rfl, s1, ds, hd, hn⟩
      refine ⟨_, rfl, _, rfl, a, ns, (0 : Int) + i, rfl, s1.seq hs, by omega, fun z => ?_⟩
      -- the cell is made positive; what follows is the same either way
      refine ⟨_, rfl, _, _, rfl, rfl, _, rfl, ?_⟩
      refine ite2 (fun c => ?_) (fun c => ?_)
      · refine ⟨_, rfl, _, _, rfl, rfl, .inl ⟨by decide, by decide⟩, _, _, rfl, rfl, ?_⟩
        refine ⟨_, rfl, _, _, rfl, rfl, _, rfl, ?_⟩
        refine ite2 (fun c2 => ?_) (fun c2 => ?_)
        · -- sixty turns
          refine ⟨60, rfl, by decide, by decide, for_range (lo := 0) (n := 60)
            (fun j σ H' => ∃ (y : Int) (v6 : Option V), σ = [some (.ref a), some (.int 0), some (.int 63), some (.ref l), some (.int (0 + i)), some (.int y), v6, v7] ∧ Same H H' ∧ Dig H' l (60 * i + j))
            ⟨_, _, rfl, s1, ds, hd, hn⟩ ?_ ?_⟩
          · rintro j σ H2 hj ⟨y, v6, rfl, s2, es, he, hm⟩
            refine ⟨_, rfl, _, _, rfl, rfl, _, rfl, ?_⟩
            refine ite2 (fun c3 => ?_) (fun c3 => ?_)
            · refine ⟨_, rfl, .inl ⟨rfl, _, SqL.of he⟩, _, rfl, .inl ⟨_, rfl, _, _, rfl, rfl, (by show (0 : Int) < 1000; decide), l, _, _, rfl, rfl, he, room hm (by omega), ?_⟩⟩
              refine ⟨_, rfl, _, _, rfl, rfl, ⟨by decide, by decide⟩, ?_⟩
              exact ⟨_, _, rfl, keepS s2, Dig.more hm⟩
            · exact ⟨y, _, rfl, s2, es, he, by omega⟩
          · rintro σ H2 ⟨y, v6, rfl, s2, es, he, hm⟩
            exact ⟨_, _, _, _, rfl, s2, es, he, by omega⟩
        · -- the seed, twelve turns
          refine ⟨_, rfl, _, _, rfl, rfl, .inr ⟨by decide, by decide⟩, _, rfl, _, _, rfl, rfl, .inr ⟨by decide, by decide⟩, _, _, rfl, rfl, _, _, rfl, rfl, .inl ⟨_, rfl, _, _, rfl, rfl, (by show (0 : Int) < 2147483399; decide), ?_⟩⟩
          refine ⟨12, rfl, by decide, by decide, for_range (lo := 0) (n := 12)
            (fun j σ H' => ∃ (q : Int) (v5 v6 : Option V), σ = [some (.ref a), some (.int 0), some (.int 63), some (.ref l), some (.int (0 + i)), v5, v6, some (.int q)] ∧ Same H H' ∧ Dig H' l (60 * i + j))
            ⟨_, _, _, rfl, s1, ds, hd, hn⟩ ?_ ?_⟩
          · rintro j σ H2 hj ⟨q, v5, v6, rfl, s2, es, he, hm⟩
            refine ⟨_, rfl, _, _, rfl, rfl, .inr ⟨by decide, by decide⟩, _, rfl, _, _, rfl, rfl, .inl ⟨by decide, by decide⟩, _, _, rfl, rfl, _, _, rfl, rfl, .inl ⟨_, rfl, _, _, rfl, rfl, (by show (0 : Int) < 2147483563; decide), ?_⟩⟩
            refine ⟨_, rfl, .inl ⟨rfl, _, SqL.of he⟩, _, rfl, _, _, rfl, rfl, ⟨by decide, by decide⟩, .inl ⟨_, rfl, _, _, rfl, rfl, (by show (0 : Int) < 1000; decide), l, _, _, rfl, rfl, he, room hm (by omega), ?_⟩⟩
            exact ⟨_, _, _, rfl, keepS s2, Dig.more hm⟩
          · rintro σ H2 ⟨q, v5, v6, rfl, s2, es, he, hm⟩
            exact ⟨_, _, _, _, rfl, s2, es, he, by omega⟩
      · refine ⟨_, rfl, _, _, rfl, rfl, _, rfl, ?_⟩
        refine ite2 (fun c2 => ?_) (fun c2 => ?_)
        · -- sixty turns
          refine ⟨60, rfl, by decide, by decide, for_range (lo := 0) (n := 60)
            (fun j σ H' => ∃ (y : Int) (v6 : Option V), σ = [some (.ref a), some (.int 0), some (.int 63), some (.ref l), some (.int (0 + i)), some (.int y), v6, v7] ∧ Same H H' ∧ Dig H' l (60 * i + j))
            ⟨_, _, rfl, s1, ds, hd, hn⟩ ?_ ?_⟩
          · rintro j σ H2 hj ⟨y, v6, rfl, s2, es, he, hm⟩
            refine ⟨_, rfl, _, _, rfl, rfl, _, rfl, ?_⟩
            refine ite2 (fun c3 => ?_) (fun c3 => ?_)
            · refine ⟨_, rfl, .inl ⟨rfl, _, SqL.of he⟩, _, rfl, .inl ⟨_, rfl, _, _, rfl, rfl, (by show (0 : Int) < 1000; decide), l, _, _, rfl, rfl, he, room hm (by omega), ?_⟩⟩
              refine ⟨_, rfl, _, _, rfl, rfl, ⟨by decide, by decide⟩, ?_⟩
              exact ⟨_, _, rfl, keepS s2, Dig.more hm⟩
            · exact ⟨y, _, rfl, s2, es, he, by omega⟩
          · rintro σ H2 ⟨y, v6, rfl, s2, es, he, hm⟩
            exact ⟨_, _, _, _, rfl, s2, es, he, by omega⟩
        · -- the seed, twelve turns
          refine ⟨_, rfl, _, _, rfl, rfl, .inr ⟨by decide, by decide⟩, _, rfl, _, _, rfl, rfl, .inr ⟨by decide, by decide⟩, _, _, rfl, rfl, _, _, rfl, rfl, .inl ⟨_, rfl, _, _, rfl, rfl, (by show (0 : Int) < 2147483399; decide), ?_⟩⟩
          refine ⟨12, rfl, by decide, by decide, for_range (lo := 0) (n := 12)
            (fun j σ H' => ∃ (q : Int) (v5 v6 : Option V), σ = [some (.ref a), some (.int 0), some (.int 63), some (.ref l), some (.int (0 + i)), v5, v6, some (.int q)] ∧ Same H H' ∧ Dig H' l (60 * i + j))
            ⟨_, _, _, rfl, s1, ds, hd, hn⟩ ?_ ?_⟩
          · rintro j σ H2 hj ⟨q, v5, v6, rfl, s2, es, he, hm⟩
            refine ⟨_, rfl, _, _, rfl, rfl, .inr ⟨by decide, by decide⟩, _, rfl, _, _, rfl, rfl, .inl ⟨by decide, by decide⟩, _, _, rfl, rfl, _, _, rfl, rfl, .inl ⟨_, rfl, _, _, rfl, rfl, (by show (0 : Int) < 2147483563; decide), ?_⟩⟩
            refine ⟨_, rfl, .inl ⟨rfl, _, SqL.of he⟩, _, rfl, _, _, rfl, rfl, ⟨by decide, by decide⟩, .inl ⟨_, rfl, _, _, rfl, rfl, (by show (0 : Int) < 1000; decide), l, _, _, rfl, rfl, he, room hm (by omega), ?_⟩⟩
            exact ⟨_, _, _, rfl, keepS s2, Dig.more hm⟩
          · rintro σ H2 ⟨q, v5, v6, rfl, s2, es, he, hm⟩
            exact ⟨_, _, _, _, rfl, s2, es, he, by omega⟩
    · rintro σ H1 ⟨v4, v5, v6, v7, rfl, s1, ds, hd, hn⟩
      exact ⟨_, rfl, k H1 l ds hd⟩
end
end K01
namespace K01
open PySem PySem.Spec PyProof.Rows L2
/-- isinstance(e, X), e the error that the suite holds (slot 3), X the class at D -/
def tIsa (K : PySem.W.Frag) (C D a : Addr) (cls : Value) (d : Option Addr) : TE := tCB (rIsX K a cls d C) (tCons (tVar 3) (tCons (tC (.ref D)) tNil))
/-- the suite -/
def tSuite (K : PySem.W.Frag) (C CT : Addr) : Addr → Value → Option Addr → TS := fun a cls d =>
  tSeq (tIfS (tAnd (tB (tIsa K C C a cls d)) (tNot (tB (tIsa K C CT a cls d)))) (tRet (tTup (tCons (tC (.str "refused")) (tCons (tXf a cls d C "name" (tVar 3)) tNil)))) tNext)
    (tRet (tTup (tCons (tC (.str "refused")) (tCons (tC (.int 0)) tNil))))
/-- the try's body, W what is wished of an error -/
def tBody (C : Addr) (W : WX) : TS :=
  tIfS (tTest (tOp rEq (tVar 1) (tC (.str "")))) (tAsg (tCallSD (spChk C) [.str "instant"] (WE W) (tCons (tVar 0) tNil)) (gName 2)) (tAsg (tCallSD (spChk C) [] (WE W) (tCons (tVar 0) (tCons (tVar 1) tNil))) (gName 2))
section
variable {P : Program} {w : World} {K : PySem.W.Frag} {mg : Str → Option Value} {base : Heap} {C CT CB fI : Addr}
theorem scR : FnScope ["_law_instant_here", "_law_what", "_law_told", "e"] ["_law_instant_here", "_law_what"] (defScope sRef) := ⟨rfl, rfl, rfl, by decide +kernel, rfl, by decide +kernel, by decide +kernel⟩
theorem ok_ref {f fC : Addr} {fd fdC fdI : FuncData} (F : Fun K "_law_refused" "_law_refused" sRef f fd) (T : Txt K mg C CT CB fI)
    (FC : FunD K "check_instant" "check_instant" (defArgs sChk) (defBody sChk) (defScope sChk) [.str "instant"] [] fC fdC) (gC : mg "check_instant" = some (.ref fC))
    (FI : Fun K "__init__" "OutOfRange.__init__" sInit fI fdI) (bI : Binds K fdI ["self", "name"] []) : FnOk P w K mg base CX0 4 f fd ["_law_instant_here", "_law_what"] spRef := by
  have G : FnOk P w K mg base (L2.CX P w) 3 fC fdC ["instant", "what"] (spChk C) := ok_chk FC T FI bI
  obtain ⟨ds, hds, b1⟩ := FC.binds1 (ps := ["instant", "what"]) 1 0 (by simp) rfl fun T kV doc pm an cdv ct us its h1 h2 => match us, its, h1, h2 with
    | [_], [_], _, _ => ⟨_, rfl, rfl⟩
  obtain ⟨ds2, hds2, b2⟩ := FC.binds1 (ps := ["instant", "what"]) 2 1 (by simp) rfl fun T kV doc pm an cdv ct us its h1 h2 => match us, its, h1, h2 with
    | [_, _], [_], _, _ => ⟨_, rfl, rfl⟩
  refine F.ok scR (fun vs H Q E h => ?_) (fun cdv A outer s H vs Q E hr h => ?_)
  · obtain ⟨u, v, a, rfl, _⟩ := h
    rfl
  · obtain ⟨u, v, a, rfl, hu, kg, kb⟩ := h
    refine ⟨_, pss_cons (ps_try_as (i := 3) (tb := tBody C) (ts := tSuite K C CT) (Wout := fun _ _ _ _ => False) rfl rfl scR.nd rfl rfl ⟨rfl, by decide, .inl T.gB⟩ takes0
        (fun W pn xe tk _ => pss_one (ps_if (pt_cmpR op_eq (pv 1) pe_str (nomark _))
          (pss_one (ps_set (i := 2) scR.nd rfl (.inl rfl) (by exact (pe_callSD G hr rfl gC FC.kp b1 hds (fun σ => passAt tk σ) (by exact (pa_cons (pv 0) pa_nil))))))
          (pss_one (ps_set (i := 2) scR.nd rfl (.inl rfl) (by exact (pe_callSD G hr rfl gC FC.kp b2 hds2 (fun σ => passAt tk σ) (by exact (pa_cons (pv 0) (pa_cons (pv 1) pa_nil)))))))))
        (fun a oe cls d pn hz hf => pss_cons (ps_if (PW.pt (pw_and (pt_val (by exact (pe_callB (call_isX T.isx hz hf) (by rfl) T.isi (by decide +kernel) (pa_cons (pv 3) (pa_cons (pe_glob (v := .ref C) rfl T.gC rfl) pa_nil)))))
            (pw_and1 (pt_not (pt_val (by exact (pe_callB (call_isX T.isx hz hf) (by rfl) T.isi (by decide +kernel) (pa_cons (pv 3) (pa_cons (pe_glob (v := .ref CT) rfl T.gT rfl) pa_nil)))))))))
            (pss_one (ps_ret (pe_tup (pa_cons pe_str (pa_cons (pe_xf T.xf T.nN hz hf (pv 3)) pa_nil))))) pss_nil)
          (pss_one (ps_ret (pe_tup (pa_cons pe_str (pa_cons pe_int pa_nil)))))))
      (pss_one (ps_ret (pv 2))), ?_⟩
    -- what the suite answers: the name that the error tells
    have suite : ∀ (y : Str) (H' : Hp) (d : Addr) (s2 : Option V), goodI a = false → Same H H' → H' d = some (.xd [("name", .str y)]) → y = told v →
        ∀ (a0 : Addr) (nx bk ct : L2.St → Hp → Prop), tSuite K C CT a0 (.ref C) (some d) { nx := nx, rt := Q, bk := bk, ct := ct } [some u, some (.str v), s2, some (.ref a0)] H' := by
      intro y H' d s2 hg s1 hd hy a0 nx bk ct
      refine ⟨_, rfl, C, true, d, _, rfl, rfl, rfl, ?_, hd, true, rfl, ?_⟩
      · unfold PySem.W.kitOne
        rw [if_pos (by simp)]
      · refine iT rfl ⟨_, rfl, CT, false, d, _, rfl, rfl, rfl, T.isT, hd, false, rfl, ?_⟩
        refine iT rfl ⟨_, rfl, rfl, rfl, d, _, .str y, rfl, hd, ?_, (by show 2 ≤ sizeLine; decide), fun q hq => ?_⟩
        · simp [List.lookup]
        · rw [hy]
          exact kb hg _ q (s1.trans (same_new hq)) upd_same
    -- the try's body
    refine ⟨_, rfl, rfl, _, rfl, ?_⟩
    by_cases c : v = ""
    · refine iT (decide_eq_true (by rw [c])) ⟨_, rfl, u, .str "instant", a, rfl, hu, fun hg => ⟨_, rfl, kg hg⟩, fun hg H' d s1 hd => ⟨true, T.em, fun _ a0 _ => ?_, fun q => Bool.noConfusion q⟩⟩
      exact suite "instant" H' d none hg s1 hd (by unfold told; rw [if_pos c]) a0 _ _ _
    · refine iF (decide_eq_false fun e => c (V.str.inj e)) ⟨_, rfl, _, rfl, u, .str v, a, rfl, hu, fun hg => ⟨_, rfl, kg hg⟩, fun hg H' d s1 hd => ⟨true, T.em, fun _ a0 _ => ?_, fun q => Bool.noConfusion q⟩⟩
      exact suite v H' d none hg s1 hd (by unfold told; rw [if_neg c]) a0 _ _ _
end
end K01
/-! ## 11. what is shown -/
namespace K01
open PySem PySem.Spec PyProof.Rows L2
/-- the size of what is written out -/
structure Near (a : In2) : Prop where
  n1 : 0 ≤ a.1
  n2 : a.1 ≤ 1000000000
  n3 : 0 ≤ a.2
  n4 : a.2 ≤ 1000000000
theorem log_small {i : Int} (h0 : 0 ≤ i) (h : i ≤ 1000000000) : i.natAbs.log2 < 30 := by
  by_cases c : i.natAbs = 0
  · rw [c]
    decide
  · rw [Nat.log2_lt c]
    have e : i.natAbs ≤ 1000000000 := by omega
    exact Nat.lt_of_le_of_lt e (by decide)
theorem plain_pair {a : In2} (n : Near a) : Plainly (.tuple [.int a.1, .int a.2]) := by
  have l1 := log_small n.n1 n.n2
  have l2 := log_small n.n3 n.n4
  refine ⟨?_, ?_, ?_, ?_, .inr (.inr ⟨_, rfl⟩)⟩
  · have h1 : a.1.natAbs.log2 < 1920 := by omega
    have h2 : a.2.natAbs.log2 < 1920 := by omega
    simp [PyData.showable, PyData.showableAll, h1, h2]
  · simp [PyData.hasDict, PyData.hasDictAll]
  · simp [PyData.depth, PyData.depthAll]
  · have s1 := int_text_length_le (by decide) l1
    have s2 := int_text_length_le (by decide) l2
    have p := fmt_text [toString a.1, toString a.2]
    have q : piled [(toString a.1 : Str), toString a.2] ≤ 70 := by
      rw [piled_cons, piled_cons, piled_nil, PySem.ofString_length, PySem.ofString_length]
      omega
    have z : (PyData.tuple [.int a.1, .int a.2]).shown = tupleText [toString a.1, toString a.2] := by
      simp only [PyData.shown, PyData.shownAll]
    rw [z, sizeLine_eq]
    omega
theorem plain_none : Plainly .none := ⟨rfl, rfl, by decide, by decide +kernel, .inl rfl⟩
theorem plain_bool (b : Bool) : Plainly (.bool b) := by
  cases b
  · exact ⟨rfl, rfl, by decide, by decide +kernel, .inr (.inl ⟨_, rfl⟩)⟩
  · exact ⟨rfl, rfl, by decide, by decide +kernel, .inr (.inl ⟨_, rfl⟩)⟩
theorem plain_instant : Plainly (.tuple [.str "refused", .str "instant"]) := ⟨by decide +kernel, by decide +kernel, by decide +kernel, by decide +kernel, .inr (.inr ⟨_, rfl⟩)⟩
theorem plain_start : Plainly (.tuple [.str "refused", .str "start"]) := ⟨by decide +kernel, by decide +kernel, by decide +kernel, by decide +kernel, .inr (.inr ⟨_, rfl⟩)⟩
theorem dp_at {K : PySem.W.Frag} {H : Hp} {v : V} {a : In2} (h : At H v a) : Dp K H v (.tuple [.int a.1, .int a.2]) := by
  obtain ⟨p, rfl, hp⟩ := h
  exact .tup (SqT.of hp) (.cons (.int _) (.cons (.int _) .nil))
theorem dp_strs {K : PySem.W.Frag} {H : Hp} {p : Addr} {x y : Str} (h : H p = some (.tup [.str x, .str y])) : Dp K H (.ref p) (.tuple [.str x, .str y]) := .tup (SqT.of h) (.cons (.str _) (.cons (.str _) .nil))
theorem eqv_pair (a b : In2) : PyData.eqv (.tuple [.int a.1, .int a.2]) (.tuple [.int b.1, .int b.2]) = decide (a = b) := by
  obtain ⟨a1, a2⟩ := a
  obtain ⟨b1, b2⟩ := b
  simp only [PyData.eqv, PyData.eqvAll, Bool.and_true]
  by_cases h1 : a1 = b1
  · by_cases h2 : a2 = b2
    · simp [h1, h2]
    · simp [h1, h2]
  · simp [h1]
end K01
/-! ## 12. the law, in parts -/
namespace K01
open PySem PySem.Spec PyProof.Rows L2
/-- a def that keeps its promise, found by its name -/
def Cal (P : Program) (w : World) (K : PySem.W.Frag) (mg : Str → Option Value) (base : Heap) (x : Str) (ps : List Str) (sp : Sp) : Prop :=
  ∃ (f : Addr) (fd : FuncData), FnOk P w K mg base CX0 4 f fd ps sp ∧ mg x = some (.ref f) ∧ PySem.W.keepIn K (.ref f) = true ∧ Binds K fd ps []
theorem pe_cal {X : Cx} {ps : List Str} {sp : Sp} {x : Str} {p pos : Pos} {e : Expr} {es : List Expr} {t : TA} (c : Cal X.prog X.w X.K X.mg X.base x ps sp) (hr : Room 4 X.A) (hg : Gl X x) (ha : PA X (e :: es) t)
    (hdb : (x == ("__debug__" : Str)) = false := by decide) (he : starEach (e :: es) X.env = (false, eval e X.env) :: starEach es X.env := by rfl) (hpl : (backTo pos (starEach es X.env)).any (·.1) = false := by rfl) :
    PE X (.Call (.Name x p) (e :: es) [] pos) (tCall sp [] E0 t) := by
  obtain ⟨f, fd, G, m, kp, b⟩ := c
  exact pe_call G hr hg m kp b .nil pass0 ha hdb he hpl
/-- all that the law calls -/
structure Kit (P : Program) (w : World) (K : PySem.W.Frag) (mg : Str → Option Value) (base : Heap) (C CT CB fI fA : Addr) (fdA : FuncData) : Prop where
  T : Txt K mg C CT CB fI
  WA : Df K mg "_law_alike" sAlike ["_law_one", "_law_two"] fA fdA
  GA : FnG P w K mg base 1 fA fdA ["_law_one", "_law_two"] (spAlike K)
  cg : Cal P w K mg base "_law_digits" ["_law_script", "_law_first", "_law_last"] (spDigits K)
  cd : Cal P w K mg base "_law_draw" ["_law_box", "_law_many"] spDraw
  ci : Cal P w K mg base "_law_instant" ["_law_box"] spInst
  cf : Cal P w K mg base "_law_refused" ["_law_instant_here", "_law_what"] spRef
  cr : Cal P w K mg base "_law_earlier" ["_law_one", "_law_two"] spMin
  cn : Cal P w K mg base "next_instant" ["instant"] spNext
  cl : Cal P w K mg base "later" ["instant", "ticks"] spLater
  ce : Cal P w K mg base "earliest" ["one", "two"] spMin
  ct : Cal P w K mg base "not_after" ["instant", "cancel"] spNot
abbrev NL : List Str := ["_law_script", "_law_box", "_law_turn", "_law_one", "_law_two", "_law_ticks", "_law_due", "_law_far", "_law_good", "_law_what"]
theorem scLaw : FnScope NL ["_law_script"] (defScope sLaw) := ⟨rfl, rfl, rfl, by decide +kernel, rfl, by decide +kernel, by decide +kernel⟩
def forBody (s : Stmt) : List Stmt := match s with
  | .For _ _ b _ _ => b
  | _ => []
/-- a turn's statements, without the first n -/
abbrev turnS (n : Nat) : List Stmt := (forBody ((defBody sLaw).getD 2 (.Pass ⟨0, 0, 0, 0⟩))).drop n
abbrev XL (P : Program) (w : World) (K : PySem.W.Frag) (mg : Str → Option Value) (base : Heap) (f : Addr) (cdv : Value) (A : Around) (outer : List Env) (s : Shared) (H : Hp) (E : XK) : Cx :=
  (cxOf CX0 P w K mg base NL "law" (defScope sLaw) f cdv A outer s H E).nox
section
variable {P : Program} {w : World} {K : PySem.W.Frag} {mg : Str → Option Value} {base : Heap} {C CT CB fI fA f : Addr} {fdA : FuncData} {cdv : Value} {A : Around} {outer : List Env} {s : Shared} {Hs : Hp} {E : XK}
/-- the last part: the error's name, told by default and told -/
theorem partD (Z : Kit P w K mg base C CT CB fI fA fdA) (hG : A.guards = some []) (hr : Room 4 (A.deeper (envOfC "law" (defScope sLaw) s.heap.objs.size f cdv))) :
    ∃ t, PSs (XL P w K mg base f cdv A outer s Hs E) (turnS 10) t ∧ ∀ (D : Ends) (H : Hp) (x : V) (c : In2) (v0 v1 v2 v3 v4 v5 v6 v9 : Option V), At H x c →
      (∀ (H' : Hp) (v6 v9 : Option V), Same H H' → D.nx [v0, v1, v2, v3, v4, v5, v6, some x, some (.bl (goodI c)), v9] H') →
      t D [v0, v1, v2, v3, v4, v5, v6, some x, some (.bl (goodI c)), v9] H := by
  refine ⟨_, pss_one (ps_for PassesOwn.never rfl (pi_tup (pe_tup (pa_cons (pe_str) (pa_cons (pe_str) (pa_nil))))) (pg_name (i := 9) scLaw.nd rfl (.inl rfl)) (pss_cons (ps_set (i := 6) scLaw.nd rfl (.inl rfl) (pe_tup (pa_cons (pe_str) (pa_cons (pv 9) (pa_nil)))))
      (pss_cons (ps_if (pt_val (pv 8)) (pss_one (ps_set (i := 6) scLaw.nd rfl (.inl rfl) (pe_non))) (pss_nil))
      (pss_one (ps_if (pt_not (pt_val (pe_callG Z.GA hG (hr.mono (by decide)) rfl Z.WA.g Z.WA.F.kp Z.WA.b (pa_cons (pe_cal Z.cf hr rfl (pa_cons (pv 7) (pa_cons (pe_ix ix_list (pe_lst (pa_cons (pe_str) (pa_cons (pv 9) (pa_nil)))) (pe_callTy call_int1 (by rfl) Z.T.int (by decide +kernel) (pa_cons (pe_cmpR op_eq (pv 9) pe_str (nomark _)) (pa_nil))) (fun _ _ => rfl)) (pa_nil)))) (pa_cons (pv 6) (pa_nil)))))) (pss_one (ps_ret pe_bl)) (pss_nil)))))), ?_⟩
  intro D H x c v0 v1 v2 v3 v4 v5 v6 v9 hx go
  have sz2 : 2 ≤ sizeLine := by decide
  refine ⟨sz2, fun w0 hw0 => ?_⟩
  have s0 := same_new (o := .tup [.str "instant", .str "start"]) hw0
  refine ⟨w0, rfl, ⟨_, SqT.of upd_same⟩, for_tup (K := K) (a := w0) (xs := [.str "instant", .str "start"])
    (fun i σ H' => ∃ v6 v9 : Option V, σ = [v0, v1, v2, v3, v4, v5, v6, some x, some (.bl (goodI c)), v9] ∧ Same (upd H w0 (.tup [.str "instant", .str "start"])) H')
    ⟨v6, v9, rfl, Same.refl _⟩ (fun i σ H' _ ⟨_, _, _, s1⟩ => SqT.of (s1 _ _ upd_same)) ?_ ?_⟩
  · rintro i y σ H1 hi ⟨v6, v9, rfl, s1⟩
    -- the name, what is handed in
    obtain ⟨nm, hd, rfl, ht, hq, hp⟩ : ∃ nm hd : Str, y = .str nm ∧ told hd = nm ∧ atI [V.str "", .str nm] (if decide (V.str nm = V.str "start") = true then 1 else 0) = some (.str hd) ∧ Plainly (.tuple [.str "refused", .str nm]) := by
      match i, hi with
      | 0, hi =>
        refine ⟨"instant", "", (Option.some.inj hi).symm, rfl, ?_, plain_instant⟩
        decide +kernel
      | 1, hi =>
        refine ⟨"start", "start", (Option.some.inj hi).symm, ?_, ?_, plain_start⟩
        · decide +kernel
        · decide +kernel
      | i + 2, hi => simp at hi
    refine ⟨_, rfl, sz2, fun d1 hd1 => ?_⟩
    have s2 := same_new (o := .tup [.str "refused", .str nm]) hd1
    have hx2 := hx.same ((s0.trans s1).trans s2)
    refine ⟨_, rfl, _, rfl, ?_⟩
    by_cases hg : goodI c = true
    · refine iT hg ?_
      refine ⟨_, rfl, _, rfl, sz2, fun r hr' => ⟨_, rfl, rfl, .inr ⟨_, rfl, r, _, _, .str hd, rfl, rfl, SqL.of upd_same, hq, ?_⟩⟩⟩
      have s3 := same_new (o := .lst [.str "", .str nm]) hr'
      refine ⟨x, hd, c, rfl, hx2.same s3, fun _ => ?_, fun h => absurd (h.symm.trans hg) Bool.false_ne_true⟩
      refine ⟨_, rfl, .non, .non, .none, rfl, .non, .non, plain_none, true, rfl, ?_⟩
      exact iF rfl ⟨_, _, rfl, (s1.trans s2).trans s3⟩
    · have hg' : goodI c = false := by simpa using hg
      refine iF hg' ?_
      refine ⟨_, rfl, _, rfl, sz2, fun r hr' => ⟨_, rfl, rfl, .inr ⟨_, rfl, r, _, _, .str hd, rfl, rfl, SqL.of upd_same, hq, ?_⟩⟩⟩
      have s3 := same_new (o := .lst [.str "", .str nm]) hr'
      refine ⟨x, hd, c, rfl, hx2.same s3, fun h => absurd h hg, fun _ H4 q s4 hq4 => ?_⟩
      rw [ht] at hq4
      refine ⟨_, rfl, .ref q, .ref d1, _, rfl, dp_strs hq4, dp_strs (s4 _ _ (s3 _ _ upd_same)), hp, true, rfl, ?_⟩
      exact iF rfl ⟨_, _, rfl, ((s1.trans s2).trans s3).trans s4⟩
  · rintro σ H1 ⟨v6, v9, rfl, s1⟩
    exact go H1 v6 v9 (s0.trans s1)
/-- the instant that is far, and whether it is good -/
theorem partC (Z : Kit P w K mg base C CT CB fI fA fdA) (hG : A.guards = some []) (hr : Room 4 (A.deeper (envOfC "law" (defScope sLaw) s.heap.objs.size f cdv))) {t2 : TS} (d2 : PSs (XL P w K mg base f cdv A outer s Hs E) (turnS 10) t2) :
    ∃ t, PSs (XL P w K mg base f cdv A outer s Hs E) (turnS 8) t ∧ ∀ (D : Ends) (H : Hp) (b l : Addr) (y : V) (a : In2) (v0 v2 v4 v5 v6 v7 v8 v9 : Option V), Box H b l → At H y a →
      (∀ (H' : Hp) (x : V) (c : In2), Box H' b l → At H' x c → t2 D [v0, some (.ref b), v2, some y, v4, v5, v6, some x, some (.bl (goodI c)), v9] H') →
      t D [v0, some (.ref b), v2, some y, v4, v5, v6, v7, v8, v9] H := by
  refine ⟨_, pss_cons (ps_set (i := 7) scLaw.nd rfl (.inl rfl) (pe_ix ix_list (pe_lst (pa_cons (pe_tup (pa_cons (pe_int) (pa_cons (pe_int) (pa_nil)))) (pa_cons (pe_tup (pa_cons (pe_int) (pa_cons (pe_int) (pa_nil)))) (pa_cons (pe_tup (pa_cons (pe_int) (pa_cons (pe_int) (pa_nil)))) (pa_cons (pe_tup (pa_cons (pe_un un_neg (pe_int)) (pa_cons (pe_int) (pa_nil)))) (pa_cons (pe_tup (pa_cons (pe_int) (pa_cons (pe_un un_neg (pe_int)) (pa_nil)))) (pa_cons (pv 3) (pa_nil)))))))) (pe_cal Z.cd hr rfl (pa_cons (pv 1) (pa_cons (pe_int) (pa_nil)))) (fun _ _ => rfl)))
      (pss_cons (ps_set (i := 8) scLaw.nd rfl (.inl rfl) (pe_and (pe_chain op_le op_le pe_int (pe_ix ix_tup (pv 7) (pe_int) (fun _ _ => rfl)) pe_int) (pe_one (pe_chain op_le op_le pe_int (pe_ix ix_tup (pv 7) (pe_int) (fun _ _ => rfl)) pe_int))))
      (d2)), ?_⟩
  intro D H b l y a v0 v2 v4 v5 v6 v7 v8 v9 bx hy go
  have sz2 : 2 ≤ sizeLine := by decide
  obtain ⟨p, rfl, hp⟩ := hy
  -- _law_far: five written instants and the drawn one
  refine ⟨sz2, fun q1 h1 => ⟨sz2, fun q2 h2 => ⟨sz2, fun q3 h3 => ⟨_, rfl, sz2, fun q4 h4 => ⟨_, rfl, sz2, fun q5 h5 => ⟨_, rfl, (by show 6 ≤ sizeLine; decide), fun r hr' => ?_⟩⟩⟩⟩⟩⟩
  have s1 := same_new (o := .tup [.int 1000000, .int 1000]) h1
  have s2 := same_new (o := .tup [.int 1000001, .int 0]) h2
  have s3 := same_new (o := .tup [.int 0, .int 1001]) h3
  have s4 := same_new (o := .tup [.int (-1), .int 0]) h4
  have s5 := same_new (o := .tup [.int 0, .int (-1)]) h5
  have s6 := same_new (o := .lst [.ref q1, .ref q2, .ref q3, .ref q4, .ref q5, .ref p]) hr'
  have s05 := (((s1.trans s2).trans s3).trans s4).trans s5
  have s06 := s05.trans s6
  refine ⟨_, rfl, b, l, 6, rfl, by decide, bx.same s06, fun z H7 z0 z1 b7 k7 => ?_⟩
  have hr7 : H7 r = some (.lst [.ref q1, .ref q2, .ref q3, .ref q4, .ref q5, .ref p]) := by
    refine k7 r _ (fun e => ?_) upd_same
    obtain ⟨_, _, _, hb, _⟩ := bx
    rw [e, s05 _ _ hb] at hr'
    cases hr'
  have at7 : ∀ {v : V} {c : In2}, At _ v c → At H7 v c := fun {v c} h => At.keep k7 (bx.same s06) h
  have g1 : At H7 (.ref q1) (1000000, 1000) := at7 ⟨q1, rfl, s6 _ _ (s5 _ _ (s4 _ _ (s3 _ _ (s2 _ _ upd_same))))⟩
  have g2 : At H7 (.ref q2) (1000001, 0) := at7 ⟨q2, rfl, s6 _ _ (s5 _ _ (s4 _ _ (s3 _ _ upd_same)))⟩
  have g3 : At H7 (.ref q3) (0, 1001) := at7 ⟨q3, rfl, s6 _ _ (s5 _ _ (s4 _ _ upd_same))⟩
  have g4 : At H7 (.ref q4) (-1, 0) := at7 ⟨q4, rfl, s6 _ _ (s5 _ _ upd_same)⟩
  have g5 : At H7 (.ref q5) (0, -1) := at7 ⟨q5, rfl, s6 _ _ upd_same⟩
  have g6 : At H7 (.ref p) a := at7 ⟨p, rfl, s06 _ _ hp⟩
  obtain ⟨v, c, hv, hc⟩ : ∃ v c, atI [V.ref q1, .ref q2, .ref q3, .ref q4, .ref q5, .ref p] z = some v ∧ At H7 v c := by
    rcases (show z = 0 ∨ z = 1 ∨ z = 2 ∨ z = 3 ∨ z = 4 ∨ z = 5 by omega) with e | e | e | e | e | e
    · exact ⟨_, _, at_of (j := 0) e rfl, g1⟩
    · exact ⟨_, _, at_of (j := 1) e rfl, g2⟩
    · exact ⟨_, _, at_of (j := 2) e rfl, g3⟩
    · exact ⟨_, _, at_of (j := 3) e rfl, g4⟩
    · exact ⟨_, _, at_of (j := 4) e rfl, g5⟩
    · exact ⟨_, _, at_of (j := 5) e rfl, g6⟩
  refine ⟨r, _, z, v, rfl, rfl, SqL.of hr7, hv, ?_⟩
  -- _law_good
  obtain ⟨f1, rfl, hf⟩ := hc
  have fin : ∀ g : Bool, goodI c = g → t2 D [v0, some (.ref b), v2, some (.ref p), v4, v5, v6, some (.ref f1), some (.bl g), v9] H7 := fun g e => by
    rw [← e]
    exact go H7 (.ref f1) c b7 ⟨f1, rfl, hf⟩
  refine ⟨_, rfl, f1, _, _, _, rfl, rfl, SqT.of hf, at_of (j := 0) rfl rfl, _, _, rfl, rfl, _, rfl, ?_⟩
  by_cases c1 : 0 ≤ c.1
  · refine iT (decide_eq_true c1) ⟨_, _, rfl, rfl, _, rfl, ?_⟩
    by_cases c2 : c.1 ≤ 1000000
    · refine iT (decide_eq_true c2) ⟨_, rfl, f1, _, _, _, rfl, rfl, SqT.of hf, at_of (j := 1) rfl rfl, _, _, rfl, rfl, _, rfl, ?_⟩
      by_cases c3 : 0 ≤ c.2
      · refine iT (decide_eq_true c3) ⟨_, _, rfl, rfl, ?_⟩
        exact fin _ (by simp [goodI, c1, c2, c3])
      · refine iF (decide_eq_false c3) ?_
        exact fin _ (by simp [goodI, c3])
    · refine iF (decide_eq_false c2) ?_
      exact fin _ (by simp [goodI, c2])
  · refine iF (decide_eq_false c1) ⟨_, rfl, ?_⟩
    refine iF rfl ?_
    exact fin _ (by simp [goodI, c1])
/-- three tests -/
theorem partB (Z : Kit P w K mg base C CT CB fI fA fdA) (hG : A.guards = some []) (hr : Room 4 (A.deeper (envOfC "law" (defScope sLaw) s.heap.objs.size f cdv))) {t2 : TS} (d2 : PSs (XL P w K mg base f cdv A outer s Hs E) (turnS 8) t2) :
    ∃ t, PSs (XL P w K mg base f cdv A outer s Hs E) (turnS 5) t ∧ ∀ (D : Ends) (H : Hp) (x y z : V) (a : In2) (o : Option In2) (n : Int) (v0 v1 v2 v7 v8 v9 : Option V), At H x a → AtO H y o → At H z (laterI a n) → Near a → (∀ b, o = some b → Near b) → 0 ≤ n → n ≤ 2000 → a.1 ≤ 1000000 → a.2 ≤ 1000 →
      (∀ H' : Hp, Same H H' → t2 D [v0, v1, v2, some x, some y, some (.int n), some z, v7, v8, v9] H') →
      t D [v0, v1, v2, some x, some y, some (.int n), some z, v7, v8, v9] H := by
  refine ⟨_, pss_cons (ps_if (PW.pt (pw_or (pt_not (pt_val (pe_callG Z.GA hG (hr.mono (by decide)) rfl Z.WA.g Z.WA.F.kp Z.WA.b (pa_cons (pe_cal Z.cl hr rfl (pa_cons (pv 3) (pa_cons (pv 5) (pa_nil)))) (pa_cons (pv 6) (pa_nil)))))) (pw_or1 (pt_not (pt_val (pe_callG Z.GA hG (hr.mono (by decide)) rfl Z.WA.g Z.WA.F.kp Z.WA.b (pa_cons (pe_cal Z.cn hr rfl (pa_cons (pv 3) (pa_nil))) (pa_cons (pe_tup (pa_cons (pe_ix ix_tup (pv 3) (pe_int) (fun _ _ => rfl)) (pa_cons (pe_op op_add (pe_ix ix_tup (pv 3) (pe_int) (fun _ _ => rfl)) (pe_int)) (pa_nil)))) (pa_nil))))))))) (pss_one (ps_ret pe_bl)) (pss_nil))
      (pss_cons (ps_if (PW.pt (pw_or (pt_not (pt_val (pe_callG Z.GA hG (hr.mono (by decide)) rfl Z.WA.g Z.WA.F.kp Z.WA.b (pa_cons (pe_cal Z.ce hr rfl (pa_cons (pv 3) (pa_cons (pv 4) (pa_nil)))) (pa_cons (pe_cal Z.cr hr rfl (pa_cons (pv 3) (pa_cons (pv 4) (pa_nil)))) (pa_nil)))))) (pw_or1 (pt_not (pt_val (pe_callG Z.GA hG (hr.mono (by decide)) rfl Z.WA.g Z.WA.F.kp Z.WA.b (pa_cons (pe_cal Z.ce hr rfl (pa_cons (pv 4) (pa_cons (pv 3) (pa_nil)))) (pa_cons (pe_cal Z.cr hr rfl (pa_cons (pv 3) (pa_cons (pv 4) (pa_nil)))) (pa_nil))))))))) (pss_one (ps_ret pe_bl)) (pss_nil))
      (pss_cons (ps_if (pt_not (pt_val (pe_callG Z.GA hG (hr.mono (by decide)) rfl Z.WA.g Z.WA.F.kp Z.WA.b (pa_cons (pe_cal Z.ct hr rfl (pa_cons (pv 3) (pa_cons (pv 4) (pa_nil)))) (pa_cons (pe_or (pe_cmpR op_isN (pv 4) pe_non (nomark _)) (pe_one (pe_cmpR (op_eqD hr.units) (pe_cal Z.cr hr rfl (pa_cons (pv 3) (pa_cons (pv 4) (pa_nil)))) (pv 3) (nomark _)))) (pa_nil)))))) (pss_one (ps_ret pe_bl)) (pss_nil))
      (d2))), ?_⟩
  intro D H x y z a o n v0 v1 v2 v7 v8 v9 hx hy hz na no n0 n1 m1 m2 go
  have sz2 : 2 ≤ sizeLine := by decide
  obtain ⟨p, rfl, hp⟩ := hx
  obtain ⟨q1, q2, q3, q4⟩ := na
  have nl : Near (laterI a n) := by
    unfold laterI
    by_cases c : n = 0
    · rw [if_pos c]
      exact ⟨q1, q2, q3, q4⟩
    · rw [if_neg c]
      exact ⟨by show 0 ≤ a.1 + n; omega, by show a.1 + n ≤ 1000000000; omega, by show (0 : Int) ≤ 0; decide, by show (0 : Int) ≤ 1000000000; decide⟩
  have nn : Near (a.1, a.2 + 1) := ⟨q1, q2, by show 0 ≤ a.2 + 1; omega, by show a.2 + 1 ≤ 1000000000; omega⟩
  obtain ⟨m, hm, nm⟩ : ∃ m, minO (some a) o = some m ∧ Near m := by
    cases o with
    | none => exact ⟨a, rfl, q1, q2, q3, q4⟩
    | some b =>
      refine ⟨minI a b, rfl, ?_⟩
      unfold minI
      by_cases c : leI a b = true
      · rw [if_pos c]
        exact ⟨q1, q2, q3, q4⟩
      · rw [if_neg c]
        exact no b rfl
  -- later, next_instant
  refine ⟨_, rfl, _, rfl, .ref p, n, a, rfl, ⟨p, rfl, hp⟩, fun u H1 s1 hu => ⟨_, rfl, u, z, _, rfl, dp_at hu, dp_at (hz.same s1), plain_pair nl, true, rfl, ?_⟩⟩
  refine iF rfl ⟨_, rfl, .ref p, a, rfl, ⟨p, rfl, s1 _ _ hp⟩, fun u2 H2 s2 hu2 => ?_⟩
  have hp2 := s2 _ _ (s1 _ _ hp)
  refine ⟨_, rfl, p, _, _, _, rfl, rfl, SqT.of hp2, at_of (j := 0) rfl rfl, _, rfl, p, _, _, _, rfl, rfl, SqT.of hp2, at_of (j := 1) rfl rfl, _, _, rfl, rfl, sz2, fun q hq =>
    ⟨u2, .ref q, _, rfl, dp_at (hu2.same (same_new hq)), dp_at (a := (a.1, a.2 + 1)) ⟨q, rfl, upd_same⟩, plain_pair nn, true, rfl, ?_⟩⟩
  have s3 := (s1.trans s2).trans (same_new (o := .tup [.int a.1, .int (a.2 + 1)]) hq)
  have hx3 : At (upd H2 q (.tup [.int a.1, .int (a.2 + 1)])) (.ref p) a := ⟨p, rfl, s3 _ _ hp⟩
  have hy3 : AtO (upd H2 q (.tup [.int a.1, .int (a.2 + 1)])) y o := hy.same s3
  refine iF rfl ?_
  -- earliest, both ways round
  refine ⟨_, rfl, _, rfl, .ref p, y, some a, o, rfl, hx3, hy3, fun u3 hu3 => ⟨_, rfl, _, rfl, .ref p, y, some a, o, rfl, hx3, hy3, fun u4 hu4 => ⟨u3, u4, .tuple [.int m.1, .int m.2], rfl, ?_, ?_, plain_pair nm, true, rfl, ?_⟩⟩⟩
  · rw [hm] at hu3
    exact dp_at hu3
  · rw [hm] at hu4
    exact dp_at hu4
  refine iF rfl ⟨_, rfl, _, rfl, y, .ref p, o, some a, rfl, hy3, hx3, fun u5 hu5 => ⟨_, rfl, _, rfl, .ref p, y, some a, o, rfl, hx3, hy3, fun u6 hu6 => ⟨u5, u6, .tuple [.int m.1, .int m.2], rfl, ?_, ?_, plain_pair nm, true, rfl, ?_⟩⟩⟩
  · rw [minO_comm, hm] at hu5
    exact dp_at hu5
  · rw [hm] at hu6
    exact dp_at hu6
  refine iF rfl ?_
  -- not_after
  refine ⟨_, rfl, _, rfl, .ref p, y, a, o, rfl, hx3, hy3, y, rfl, rfl, _, rfl, ?_⟩
  match o, hy3 with
  | none, hy3 =>
    have e : y = .non := hy3
    refine iT (decide_eq_true e) ⟨.bl true, .bl true, .bool true, rfl, .bl true, .bl true, plain_bool true, true, rfl, ?_⟩
    exact iF rfl (go _ s3)
  | some b, hy3 =>
    have ny : ¬ y = .non := by
      obtain ⟨q', e, _⟩ := hy3
      rw [e]
      exact fun z => by cases z
    refine iF (decide_eq_false ny) ⟨_, rfl, _, rfl, .ref p, y, some a, some b, rfl, hx3, hy3, fun u hu => ⟨_, rfl, _, _, dp_at (a := minI a b) hu, dp_at hx3, ?_, ?_, ?_⟩⟩
    · rfl
    · rfl
    have e : PyData.eqv (.tuple [.int (minI a b).1, .int (minI a b).2]) (.tuple [.int a.1, .int a.2]) = leI a b := by
      rw [eqv_pair]
      by_cases c : leI a b = true
      · rw [c]
        exact decide_eq_true ((minI_is a b).mpr c)
      · rw [decide_eq_false (fun h => c ((minI_is a b).mp h))]
        simpa using c
    refine ⟨.bl (leI a b), .bl (leI a b), .bool (leI a b), ?_, .bl _, .bl _, plain_bool _, true, rfl, ?_⟩
    · rw [e]
      rfl
    · exact iF rfl (go _ s3)
/-- what is drawn -/
theorem partA (Z : Kit P w K mg base C CT CB fI fA fdA) (hG : A.guards = some []) (hr : Room 4 (A.deeper (envOfC "law" (defScope sLaw) s.heap.objs.size f cdv))) {t2 : TS} (d2 : PSs (XL P w K mg base f cdv A outer s Hs E) (turnS 5) t2) :
    ∃ t, PSs (XL P w K mg base f cdv A outer s Hs E) (turnS 0) t ∧ ∀ (D : Ends) (H : Hp) (b l : Addr) (v0 v2 v3 v4 v5 v6 v7 v8 v9 : Option V), Box H b l →
      (∀ (H' : Hp) (x y z : V) (a : In2) (o : Option In2) (n : Int), Box H' b l → At H' x a → AtO H' y o → At H' z (laterI a n) → Lies a → (∀ c, o = some c → Near c) → 0 ≤ n → n ≤ 2000 →
        t2 D [v0, some (.ref b), v2, some x, some y, some (.int n), some z, v7, v8, v9] H') →
      t D [v0, some (.ref b), v2, v3, v4, v5, v6, v7, v8, v9] H := by
  refine ⟨_, pss_cons (ps_set (i := 3) scLaw.nd rfl (.inl rfl) (pe_cal Z.ci hr rfl (pa_cons (pv 1) (pa_nil))))
      (pss_cons (ps_set (i := 4) scLaw.nd rfl (.inl rfl) (pe_ix ix_list (pe_lst (pa_cons (pe_cal Z.ci hr rfl (pa_cons (pv 1) (pa_nil))) (pa_cons (pv 3) (pa_cons (pe_tup (pa_cons (pe_ix ix_tup (pv 3) (pe_int) (fun _ _ => rfl)) (pa_cons (pe_op op_add (pe_ix ix_tup (pv 3) (pe_int) (fun _ _ => rfl)) (pe_int)) (pa_nil)))) (pa_cons (pe_non) (pa_nil)))))) (pe_cal Z.cd hr rfl (pa_cons (pv 1) (pa_cons (pe_int) (pa_nil)))) (fun _ _ => rfl)))
      (pss_cons (ps_set (i := 5) scLaw.nd rfl (.inl rfl) (pe_ix ix_list (pe_lst (pa_cons (pe_int) (pa_cons (pe_int) (pa_cons (pe_op op_add (pe_cal Z.cd hr rfl (pa_cons (pv 1) (pa_cons (pe_int) (pa_nil)))) (pe_cal Z.cd hr rfl (pa_cons (pv 1) (pa_cons (pe_int) (pa_nil))))) (pa_nil))))) (pe_cal Z.cd hr rfl (pa_cons (pv 1) (pa_cons (pe_int) (pa_nil)))) (fun _ _ => rfl)))
      (pss_cons (ps_set (i := 6) scLaw.nd rfl (.inl rfl) (pv 3))
      (pss_cons (ps_if (pt_cmpR op_gt (pv 5) (pe_int) (nomark _)) (pss_one (ps_set (i := 6) scLaw.nd rfl (.inl rfl) (pe_tup (pa_cons (pe_op op_add (pe_ix ix_tup (pv 3) (pe_int) (fun _ _ => rfl)) (pv 5)) (pa_cons (pe_int) (pa_nil)))))) (pss_nil))
      (d2))))), ?_⟩
  intro D H b l v0 v2 v3 v4 v5 v6 v7 v8 v9 bx go
  have sz2 : 2 ≤ sizeLine := by decide
  -- _law_one
  refine ⟨_, rfl, b, l, rfl, bx, fun x a H1 b1 k1 hx ly => ?_⟩
  obtain ⟨p, rfl, hp⟩ := hx
  -- _law_two: a list of four, one of them taken
  refine ⟨_, rfl, b, l, rfl, b1, fun u a2 H2 b2 k2 hu ly2 => ?_⟩
  have hp2 : H2 p = some (.tup [.int a.1, .int a.2]) := by
    obtain ⟨p', e, h⟩ := At.keep k2 b1 ⟨p, rfl, hp⟩
    cases e
    exact h
  refine ⟨_, rfl, _, rfl, p, _, _, _, rfl, rfl, SqT.of hp2, at_of (j := 0) rfl rfl, _, rfl, p, _, _, _, rfl, rfl, SqT.of hp2, at_of (j := 1) rfl rfl, _, _, rfl, rfl, sz2, fun q hq => ⟨(by show 4 ≤ sizeLine; decide), fun r hr' => ?_⟩⟩
  have s3 := (same_new (o := .tup [.int a.1, .int (a.2 + 1)]) hq).trans (same_new (o := .lst [u, .ref p, .ref q, .non]) hr')
  refine ⟨_, rfl, b, l, 4, rfl, by decide, b2.same s3, fun z H4 z0 z1 b4 k4 => ?_⟩
  have hr4 : H4 r = some (.lst [u, .ref p, .ref q, .non]) := by
    refine k4 r _ (fun e => ?_) upd_same
    obtain ⟨_, _, _, hb, _⟩ := b2
    rw [e, same_new hq _ _ hb] at hr'
    cases hr'
  have hp4 : At H4 (.ref p) a := At.keep k4 (b2.same s3) (At.same s3 ⟨p, rfl, hp2⟩)
  have hq4 : At H4 (.ref q) (a.1, a.2 + 1) := At.keep k4 (b2.same s3) ⟨q, rfl, same_new hr' _ _ upd_same⟩
  have hu4 : At H4 u a2 := At.keep k4 (b2.same s3) (At.same s3 hu)
  obtain ⟨v, o, hv, ho, hn⟩ : ∃ v o, atI [u, .ref p, .ref q, .non] z = some v ∧ AtO H4 v o ∧ ∀ c, o = some c → Near c := by
    obtain ⟨l1, l2, l3, l4⟩ := ly
    obtain ⟨m1, m2, m3, m4⟩ := ly2
    rcases (show z = 0 ∨ z = 1 ∨ z = 2 ∨ z = 3 by omega) with e | e | e | e
    · exact ⟨u, some a2, at_of (j := 0) e rfl, hu4, fun c h => by cases h; exact ⟨m1, by omega, m3, by omega⟩⟩
    · exact ⟨.ref p, some a, at_of (j := 1) e rfl, hp4, fun c h => by cases h; exact ⟨l1, by omega, l3, by omega⟩⟩
    · exact ⟨.ref q, some (a.1, a.2 + 1), at_of (j := 2) e rfl, hq4, fun c h => by cases h; exact ⟨l1, by show a.1 ≤ 1000000000; omega, by show 0 ≤ a.2 + 1; omega, by show a.2 + 1 ≤ 1000000000; omega⟩⟩
    · exact ⟨.non, none, at_of (j := 3) e rfl, rfl, fun c h => nomatch h⟩
  refine ⟨r, _, z, v, rfl, rfl, SqL.of hr4, hv, ?_⟩
  -- _law_ticks
  refine ⟨_, rfl, b, l, 1000, rfl, by decide, b4, fun m1 H5 m0 m2 b5 k5 => ⟨_, rfl, b, l, 2, rfl, by decide, b5, fun i1 H6 i0 i2 b6 k6 => ⟨_, _, rfl, rfl, (by show 3 ≤ sizeLine; decide), fun r2 hr2 => ?_⟩⟩⟩
  have s7 := same_new (o := .lst [.int 0, .int 1, .int (m1 + i1)]) hr2
  refine ⟨_, rfl, b, l, 3, rfl, by decide, b6.same s7, fun j H7 j0 j1 b7 k7 => ?_⟩
  have hr7 : H7 r2 = some (.lst [.int 0, .int 1, .int (m1 + i1)]) := by
    refine k7 r2 _ (fun e => ?_) upd_same
    obtain ⟨_, _, _, hb, _⟩ := b6
    rw [e, hb] at hr2
    cases hr2
  have k47 : Keep b H4 H7 := ((k5.trans k6).trans (Keep.same s7)).trans k7
  have hv7 : AtO H7 v o := AtO.keep k47 b4 ho
  have hp7 : H7 p = some (.tup [.int a.1, .int a.2]) := by
    obtain ⟨p', e, h⟩ := At.keep k47 b4 hp4
    cases e
    exact h
  obtain ⟨n, hn', n0, n1⟩ : ∃ n : Int, atI [V.int 0, .int 1, .int (m1 + i1)] j = some (.int n) ∧ 0 ≤ n ∧ n ≤ 2000 := by
    rcases (show j = 0 ∨ j = 1 ∨ j = 2 by omega) with e | e | e
    · exact ⟨0, at_of (j := 0) e rfl, by decide, by decide⟩
    · exact ⟨1, at_of (j := 1) e rfl, by decide, by decide⟩
    · exact ⟨m1 + i1, at_of (j := 2) e rfl, by omega, by omega⟩
  refine ⟨r2, _, j, .int n, rfl, rfl, SqL.of hr7, hn', ?_⟩
  -- _law_due
  refine ⟨_, rfl, _, rfl, _, _, rfl, rfl, _, rfl, ?_⟩
  by_cases c : 0 < n
  · refine iT (decide_eq_true c) ⟨_, rfl, p, _, _, _, rfl, rfl, SqT.of hp7, at_of (j := 0) rfl rfl, _, rfl, _, _, rfl, rfl, sz2, fun q2 hq2 => ?_⟩
    have e : laterI a n = (a.1 + n, 0) := if_neg (by omega)
    exact go _ (.ref p) v (.ref q2) a o n (b7.same (same_new hq2)) ⟨p, rfl, same_new hq2 _ _ hp7⟩ (hv7.same (same_new hq2)) (by rw [e]; exact ⟨q2, rfl, upd_same⟩) ly hn n0 n1
  · refine iF (decide_eq_false c) ?_
    have e : laterI a n = a := if_pos (by omega)
    exact go _ (.ref p) v (.ref p) a o n b7 ⟨p, rfl, hp7⟩ hv7 (by rw [e]; exact ⟨p, rfl, hp7⟩) ly hn n0 n1
end
end K01
/-! ## 13. the law's promise -/
namespace K01
open PySem PySem.Spec PyProof.Rows L2
def spLaw (K : PySem.W.Frag) : Sp := fun vs H Q _ => ∃ (a : Addr) (ns : List Int), vs = [.ref a] ∧ SqL K H a (ns.map V.int) ∧ ∀ H', Q (.bl true) H'
section
variable {P : Program} {w : World} {K : PySem.W.Frag} {mg : Str → Option Value} {base : Heap} {C CT CB fI fA f : Addr} {fdA : FuncData}
theorem ok_law {fd : FuncData} (F : Fun K "law" "law" sLaw f fd) (Z : Kit P w K mg base C CT CB fI fA fdA) : FnG P w K mg base 5 f fd ["_law_script"] (spLaw K) := by
  refine fnG F scLaw (fun vs H Q E h => ?_) (fun cdv A outer s H vs Q E hG hr h => ?_)
  · obtain ⟨a, ns, rfl, _⟩ := h
    rfl
  · obtain ⟨a, ns, rfl, hs, k⟩ := h
    obtain ⟨t1, hT⟩ := Z.T.tm
    obtain ⟨t2, hR⟩ := Z.T.rm
    obtain ⟨tD, dD, pD⟩ := partD (f := f) (outer := outer) (Hs := H) (E := E) Z hG hr
    obtain ⟨tC, dC, pC⟩ := partC (f := f) (outer := outer) (Hs := H) (E := E) Z hG hr dD
    obtain ⟨tB, dB, pB⟩ := partB (f := f) (outer := outer) (Hs := H) (E := E) Z hG hr dC
    obtain ⟨tA, dA, pA⟩ := partA (f := f) (outer := outer) (Hs := H) (E := E) Z hG hr dB
    refine ⟨_, pss_cons (ps_set (i := 1) scLaw.nd rfl (.inl rfl) (pe_lst (pa_cons (pe_cal Z.cg hr rfl (pa_cons (pv 0) (pa_cons pe_int (pa_cons pe_int pa_nil)))) (pa_cons pe_int pa_nil))))
      (pss_cons (ps_if (PW.pt (pw_or (pt_cmpR op_ne (pe_glob (v := .int 1000000) rfl hT ⟨_, rfl⟩) pe_int (nomark _)) (pw_or1 (pt_cmpR op_ne (pe_glob (v := .int 1000) rfl hR ⟨_, rfl⟩) pe_int (nomark _))))) (pss_one (ps_ret pe_bl)) pss_nil)
      (pss_cons (ps_for PassesOwn.never rfl (pi_range1 rfl Z.T.range (pa_cons pe_int pa_nil)) (pg_name (i := 2) scLaw.nd rfl (.inl rfl)) dA)
      (pss_one (ps_ret (pe_cmpR op_isN (pe_cal Z.ce hr rfl (pa_cons pe_non (pa_cons pe_non pa_nil))) pe_non (nomark _)))))), ?_⟩
    -- _law_box
    refine ⟨_, rfl, a, ns, rfl, hs, fun H1 l ds hl => ⟨(by show 2 ≤ sizeLine; decide), fun b hb => ?_⟩⟩
    have bx : Box (upd H1 b (.lst [.ref l, .int 0])) b l := ⟨0, ds, by decide, upd_same, same_new hb _ _ hl⟩
    -- the two bounds
    refine ⟨rfl, _, rfl, iF (by decide) ⟨rfl, _, rfl, iF (by decide) ?_⟩⟩
    -- eight turns
    refine ⟨8, rfl, by decide, by decide, for_range (lo := 0) (n := 8)
      (fun i σ H' => ∃ v2 v3 v4 v5 v6 v7 v8 v9 : Option V, σ = [some (.ref a), some (.ref b), v2, v3, v4, v5, v6, v7, v8, v9] ∧ Box H' b l) ⟨none, none, none, none, none, none, none, none, rfl, bx⟩ ?_ ?_⟩
    · rintro i σ H2 hi ⟨v2, v3, v4, v5, v6, v7, v8, v9, rfl, b2⟩
      refine pA _ H2 b l _ _ _ _ _ _ _ _ _ b2 fun H3 x y z c o m b3 hx hy hz ly hn m0 m1 => ?_
      obtain ⟨l1, l2, l3, l4⟩ := ly
      refine pB _ H3 x y z c o m _ _ _ _ _ _ hx hy hz ⟨l1, by omega, l3, by omega⟩ hn m0 m1 (by omega) (by omega) fun H4 s4 => ?_
      refine pC _ H4 b l x c _ _ _ _ _ _ _ _ (b3.same s4) (hx.same s4) fun H5 u d b5 hu => ?_
      exact pD _ H5 u d _ _ _ _ _ _ _ _ hu fun H6 v6 v9 s6 => ⟨_, _, _, _, _, _, _, _, rfl, b5.same s6⟩
    · rintro σ H2 ⟨v2, v3, v4, v5, v6, v7, v8, v9, rfl, b2⟩
      refine ⟨.non, .non, none, none, rfl, rfl, rfl, fun u hu => ⟨rfl, ?_⟩⟩
      have e : u = .non := hu
      show Q (.bl (decide (u = .non))) H2
      rw [decide_eq_true e]
      exact k _
end

/-! ## 14. what the top has written, each a fact that is found in it -/
theorem all_mk {l : PySem.W.OpenLaw} {w : World} {K : PySem.W.Frag} {h : Heap} {mg : Str → Option Value} {fa C CT CB fC TD f0 f1 f2 f3 f4 f5 f6 f7 f8 f9 f10 f11 f12 : Addr} (X : K.In h) (G : h.Ns mainGlobals mg) (hfa : mg "law" = some (.ref fa))
    {nm qn : Str} {N : Addr} {bs : List Value} {sn : List Str} {sub : List Value} {ab : Bool} {col : Option Bool} {dd odT : Option Addr} {m0 m1 m2 m3 m5 : Option Value} {kT kR tkT : Tok} {nTD : Nat} {ocT : Value}
    {od0 an0 odC anC od1 an1 od2 an2 od3 an3 od4 an4 od5 an5 od6 an6 od7 an7 od8 an8 od9 an9 od10 an10 od11 an11 od12 an12 : Option Addr} {sl0 slC slT sl1 sl2 sl3 sl4 sl5 sl6 sl7 sl8 sl9 sl10 sl11 sl12 : Array (Option Value)} {oc0 kV0 dc0 pm0 cd0 ct0 ocC kVC dcC pmC cdC ctC oc1 kV1 dc1 pm1 cd1 ct1 oc2 kV2 dc2 pm2 cd2 ct2 oc3 kV3 dc3 pm3 cd3 ct3 oc4 kV4 dc4 pm4 cd4 ct4 oc5 kV5 dc5 pm5 cd5 ct5 oc6 kV6 dc6 pm6 cd6 ct6 oc7 kV7 dc7 pm7 cd7 ct7 oc8 kV8 dc8 pm8 cd8 ct8 oc9 kV9 dc9 pm9 cd9 ct9 oc10 kV10 dc10 pm10 cd10 ct10 oc11 kV11 dc11 pm11 cd11 ct11 oc12 kV12 dc12 pm12 cd12 ct12 : Value}
    (aC : PySem.W.nsIn K mainGlobals "OutOfRange" = some (some (.ref C)))
    (aT : PySem.W.nsIn K mainGlobals "TextFault" = some (some (.ref CT)))
    (aB : PySem.W.nsIn K mainGlobals "ForetoldError" = some (some (.ref CB)))
    (xL : K.lookup C = some (excClassObj nm qn C N bs [.ref CB, .type "ValueError", .type "Exception", .type "BaseException", .type "object"] true sn sub ab col dd m0 m1 m2 m3 m5 "ValueError.__new__"))
    (sa : PySem.W.findIn K (.ref C) "__setattr__" = some (some (.builtin "object.__setattr__")))
    (ga : PySem.W.findIn K (.ref C) "__getattribute__" = some (some (.builtin "BaseException.__getattribute__")))
    (gg : PySem.W.findIn K (.ref C) "__getattr__" = some none)
    (nb : PySem.W.findIn K (.ref C) "name" = some none)
    (ca : PySem.W.findIn K (.ref C) "__class__" = some (some (.builtin "object.__class__")))
    (cs : PySem.W.specialIn K (.builtin "object.__class__") "__get__" = some (some (.builtin "getset_descriptor.__get__")))
    (ck : PySem.W.takesIn K (.builtin "object.__class__") = some true)
    (cm : PySem.W.mroIn K C (.type "object") = some true)
    (kC : PySem.W.keepIn K (.ref C) = true)
    (eC : PySem.W.subIn K (.ref C) (.type "BaseException") = some true)
    (tC : PySem.W.typeIn K (.ref C) = some (.type "type"))
    (hC : PySem.W.hasDictIn K C = true)
    (iC : PySem.W.isClsIn K C = true)
    (eB : PySem.W.subIn K (.ref CB) (.type "BaseException") = some true)
    (tB : PySem.W.typeIn K (.ref CB) = some (.type "type"))
    (hB : PySem.W.hasDictIn K CB = true)
    (sB : PySem.W.subIn K (.ref C) (.ref CB) = some true)
    (isT : PySem.W.kitOne K (.ref C) (.ref CT) = some false)
    (nT : PySem.W.nsIn K mainGlobals "TIME_MOST" = some (some (.int 1000000 kT)))
    (nR : PySem.W.nsIn K mainGlobals "ROUND_MOST" = some (some (.int 1000 kR)))
    (b_min : PySem.W.nsIn K mainGlobals "min" = some none)
    (b_len : PySem.W.nsIn K mainGlobals "len" = some none)
    (b_range : PySem.W.nsIn K mainGlobals "range" = some none)
    (b_int : PySem.W.nsIn K mainGlobals "int" = some none)
    (b_repr : PySem.W.nsIn K mainGlobals "repr" = some none)
    (b_isinstance : PySem.W.nsIn K mainGlobals "isinstance" = some none)
    (a0 : PySem.W.findIn K (.ref C) "__init__" = some (some (.ref f0)))
    (t0 : PySem.W.typeIn K (.ref f0) = some (.type "function"))
    (l0 : K.lookup f0 = some ⟨oc0, od0, .func (PySem.W.fnOf "__init__" "OutOfRange.__init__" (defArgs sInit) (defBody sInit) (defScope sInit) .none kV0 dc0 pm0 an0 cd0 ct0), sl0⟩)
    (c0 : PySem.W.codeIn K cd0 "OutOfRange.__init__" = true)
    (k0 : PySem.W.keepIn K (.ref f0) = true)
    (aK : PySem.W.nsIn K mainGlobals "check_instant" = some (some (.ref fC)))
    (lK : K.lookup fC = some ⟨ocC, odC, .func (PySem.W.fnOf "check_instant" "check_instant" (defArgs sChk) (defBody sChk) (defScope sChk) (.ref TD) kVC dcC pmC anC cdC ctC), slC⟩)
    (cK : PySem.W.codeIn K cdC "check_instant" = true)
    (kK : PySem.W.keepIn K (.ref fC) = true)
    (dK : K.lookup TD = some ⟨ocT, odT, .seq #[.str "instant" tkT] nTD, slT⟩)
    (a1 : PySem.W.nsIn K mainGlobals "next_instant" = some (some (.ref f1)))
    (l1 : K.lookup f1 = some ⟨oc1, od1, .func (PySem.W.fnOf "next_instant" "next_instant" (defArgs sNext) (defBody sNext) (defScope sNext) .none kV1 dc1 pm1 an1 cd1 ct1), sl1⟩)
    (c1 : PySem.W.codeIn K cd1 "next_instant" = true)
    (k1 : PySem.W.keepIn K (.ref f1) = true)
    (a2 : PySem.W.nsIn K mainGlobals "later" = some (some (.ref f2)))
    (l2 : K.lookup f2 = some ⟨oc2, od2, .func (PySem.W.fnOf "later" "later" (defArgs sLater) (defBody sLater) (defScope sLater) .none kV2 dc2 pm2 an2 cd2 ct2), sl2⟩)
    (c2 : PySem.W.codeIn K cd2 "later" = true)
    (k2 : PySem.W.keepIn K (.ref f2) = true)
    (a3 : PySem.W.nsIn K mainGlobals "earliest" = some (some (.ref f3)))
    (l3 : K.lookup f3 = some ⟨oc3, od3, .func (PySem.W.fnOf "earliest" "earliest" (defArgs sEarliest) (defBody sEarliest) (defScope sEarliest) .none kV3 dc3 pm3 an3 cd3 ct3), sl3⟩)
    (c3 : PySem.W.codeIn K cd3 "earliest" = true)
    (k3 : PySem.W.keepIn K (.ref f3) = true)
    (a4 : PySem.W.nsIn K mainGlobals "not_after" = some (some (.ref f4)))
    (l4 : K.lookup f4 = some ⟨oc4, od4, .func (PySem.W.fnOf "not_after" "not_after" (defArgs sNot) (defBody sNot) (defScope sNot) .none kV4 dc4 pm4 an4 cd4 ct4), sl4⟩)
    (c4 : PySem.W.codeIn K cd4 "not_after" = true)
    (k4 : PySem.W.keepIn K (.ref f4) = true)
    (a5 : PySem.W.nsIn K mainGlobals "_law_cell" = some (some (.ref f5)))
    (l5 : K.lookup f5 = some ⟨oc5, od5, .func (PySem.W.fnOf "_law_cell" "_law_cell" (defArgs sCell) (defBody sCell) (defScope sCell) .none kV5 dc5 pm5 an5 cd5 ct5), sl5⟩)
    (c5 : PySem.W.codeIn K cd5 "_law_cell" = true)
    (k5 : PySem.W.keepIn K (.ref f5) = true)
    (a6 : PySem.W.nsIn K mainGlobals "_law_digits" = some (some (.ref f6)))
    (l6 : K.lookup f6 = some ⟨oc6, od6, .func (PySem.W.fnOf "_law_digits" "_law_digits" (defArgs sDigits) (defBody sDigits) (defScope sDigits) .none kV6 dc6 pm6 an6 cd6 ct6), sl6⟩)
    (c6 : PySem.W.codeIn K cd6 "_law_digits" = true)
    (k6 : PySem.W.keepIn K (.ref f6) = true)
    (a7 : PySem.W.nsIn K mainGlobals "_law_draw" = some (some (.ref f7)))
    (l7 : K.lookup f7 = some ⟨oc7, od7, .func (PySem.W.fnOf "_law_draw" "_law_draw" (defArgs sDraw) (defBody sDraw) (defScope sDraw) .none kV7 dc7 pm7 an7 cd7 ct7), sl7⟩)
    (c7 : PySem.W.codeIn K cd7 "_law_draw" = true)
    (k7 : PySem.W.keepIn K (.ref f7) = true)
    (a8 : PySem.W.nsIn K mainGlobals "_law_instant" = some (some (.ref f8)))
    (l8 : K.lookup f8 = some ⟨oc8, od8, .func (PySem.W.fnOf "_law_instant" "_law_instant" (defArgs sInst) (defBody sInst) (defScope sInst) .none kV8 dc8 pm8 an8 cd8 ct8), sl8⟩)
    (c8 : PySem.W.codeIn K cd8 "_law_instant" = true)
    (k8 : PySem.W.keepIn K (.ref f8) = true)
    (a9 : PySem.W.nsIn K mainGlobals "_law_alike" = some (some (.ref f9)))
    (l9 : K.lookup f9 = some ⟨oc9, od9, .func (PySem.W.fnOf "_law_alike" "_law_alike" (defArgs sAlike) (defBody sAlike) (defScope sAlike) .none kV9 dc9 pm9 an9 cd9 ct9), sl9⟩)
    (c9 : PySem.W.codeIn K cd9 "_law_alike" = true)
    (k9 : PySem.W.keepIn K (.ref f9) = true)
    (a10 : PySem.W.nsIn K mainGlobals "_law_refused" = some (some (.ref f10)))
    (l10 : K.lookup f10 = some ⟨oc10, od10, .func (PySem.W.fnOf "_law_refused" "_law_refused" (defArgs sRef) (defBody sRef) (defScope sRef) .none kV10 dc10 pm10 an10 cd10 ct10), sl10⟩)
    (c10 : PySem.W.codeIn K cd10 "_law_refused" = true)
    (k10 : PySem.W.keepIn K (.ref f10) = true)
    (a11 : PySem.W.nsIn K mainGlobals "_law_earlier" = some (some (.ref f11)))
    (l11 : K.lookup f11 = some ⟨oc11, od11, .func (PySem.W.fnOf "_law_earlier" "_law_earlier" (defArgs sEarlier) (defBody sEarlier) (defScope sEarlier) .none kV11 dc11 pm11 an11 cd11 ct11), sl11⟩)
    (c11 : PySem.W.codeIn K cd11 "_law_earlier" = true)
    (k11 : PySem.W.keepIn K (.ref f11) = true)
    (a12 : PySem.W.nsIn K mainGlobals "law" = some (some (.ref f12)))
    (l12 : K.lookup f12 = some ⟨oc12, od12, .func (PySem.W.fnOf "law" "law" (defArgs sLaw) (defBody sLaw) (defScope sLaw) .none kV12 dc12 pm12 an12 cd12 ct12), sl12⟩)
    (c12 : PySem.W.codeIn K cd12 "law" = true)
    (k12 : PySem.W.keepIn K (.ref f12) = true) :
    ∃ fd : FuncData, (∀ (s : Shared) (u : Value), BindsTo s fd ⟨[u], []⟩ [("_law_script", u)]) ∧ ∀ base : Heap, K.In base → base.Ns mainGlobals mg → FnG l.prog w K mg base 5 fa fd ["_law_script"] (spLaw K) := by
  have e := hfa.symm.trans (PySem.W.mg_of X G a12)
  cases e
  have T : Txt K mg C CT CB f0 :=
    { ox := ⟨⟨nm, qn, N, bs, _, sn, sub, ab, col, dd, m0, m1, m2, m3, m5, xL, rfl⟩, sa, eC, tC, kC⟩, iC := a0, tI := t0, nN := nb, gC := PySem.W.mg_of X G aC, gT := PySem.W.mg_of X G aT, gB := PySem.W.mg_of X G aB,
      xf := ⟨ga, gg, eC, hC⟩, isx := ⟨iC, ga, gg, eC, ca, cs, ck, cm⟩, isT := isT, em := PySem.W.exm_ref eB hB tB sB, tm := ⟨_, PySem.W.mg_of X G nT⟩, rm := ⟨_, PySem.W.mg_of X G nR⟩,
      min := PySem.W.mg_none_of X G b_min, len := PySem.W.mg_none_of X G b_len, range := PySem.W.mg_none_of X G b_range, int := PySem.W.mg_none_of X G b_int, repr := PySem.W.mg_none_of X G b_repr, isi := PySem.W.mg_none_of X G b_isinstance }
  have F0 := fun_mk (st := sInit) l0 c0 k0
  have b0 := F0.binds (ps := ["self", "name"]) fun _ _ _ _ _ _ us hl => match us, hl with | [_, _], _ => rfl
  have FK : FunD K "check_instant" "check_instant" (defArgs sChk) (defBody sChk) (defScope sChk) [.str "instant"] [] fC _ :=
    ⟨⟨_, _, _, _, _, _, _, _, _, _, rfl, lK, cK, .inr ⟨by simp, TD, _, [.str "instant" tkT], nTD, rfl, dK, rfl, .cons ⟨_, rfl⟩ .nil⟩, .inl rfl⟩, kK⟩
  have D1 : Df K mg "next_instant" sNext ["instant"] f1 _ := ⟨fun_mk (st := sNext) l1 c1 k1, PySem.W.mg_of X G a1, (fun_mk (st := sNext) l1 c1 k1).binds (ps := ["instant"]) fun _ _ _ _ _ _ us hl => match us, hl with | [_], _ => rfl⟩
  have D2 : Df K mg "later" sLater ["instant", "ticks"] f2 _ := ⟨fun_mk (st := sLater) l2 c2 k2, PySem.W.mg_of X G a2, (fun_mk (st := sLater) l2 c2 k2).binds (ps := ["instant", "ticks"]) fun _ _ _ _ _ _ us hl => match us, hl with | [_, _], _ => rfl⟩
  have D3 : Df K mg "earliest" sEarliest ["one", "two"] f3 _ := ⟨fun_mk (st := sEarliest) l3 c3 k3, PySem.W.mg_of X G a3, (fun_mk (st := sEarliest) l3 c3 k3).binds (ps := ["one", "two"]) fun _ _ _ _ _ _ us hl => match us, hl with | [_, _], _ => rfl⟩
  have D4 : Df K mg "not_after" sNot ["instant", "cancel"] f4 _ := ⟨fun_mk (st := sNot) l4 c4 k4, PySem.W.mg_of X G a4, (fun_mk (st := sNot) l4 c4 k4).binds (ps := ["instant", "cancel"]) fun _ _ _ _ _ _ us hl => match us, hl with | [_, _], _ => rfl⟩
  have D5 : Df K mg "_law_cell" sCell ["_law_script", "_law_k"] f5 _ := ⟨fun_mk (st := sCell) l5 c5 k5, PySem.W.mg_of X G a5, (fun_mk (st := sCell) l5 c5 k5).binds (ps := ["_law_script", "_law_k"]) fun _ _ _ _ _ _ us hl => match us, hl with | [_, _], _ => rfl⟩
  have D6 : Df K mg "_law_digits" sDigits ["_law_script", "_law_first", "_law_last"] f6 _ := ⟨fun_mk (st := sDigits) l6 c6 k6, PySem.W.mg_of X G a6, (fun_mk (st := sDigits) l6 c6 k6).binds (ps := ["_law_script", "_law_first", "_law_last"]) fun _ _ _ _ _ _ us hl => match us, hl with | [_, _, _], _ => rfl⟩
  have D7 : Df K mg "_law_draw" sDraw ["_law_box", "_law_many"] f7 _ := ⟨fun_mk (st := sDraw) l7 c7 k7, PySem.W.mg_of X G a7, (fun_mk (st := sDraw) l7 c7 k7).binds (ps := ["_law_box", "_law_many"]) fun _ _ _ _ _ _ us hl => match us, hl with | [_, _], _ => rfl⟩
  have D8 : Df K mg "_law_instant" sInst ["_law_box"] f8 _ := ⟨fun_mk (st := sInst) l8 c8 k8, PySem.W.mg_of X G a8, (fun_mk (st := sInst) l8 c8 k8).binds (ps := ["_law_box"]) fun _ _ _ _ _ _ us hl => match us, hl with | [_], _ => rfl⟩
  have D9 : Df K mg "_law_alike" sAlike ["_law_one", "_law_two"] f9 _ := ⟨fun_mk (st := sAlike) l9 c9 k9, PySem.W.mg_of X G a9, (fun_mk (st := sAlike) l9 c9 k9).binds (ps := ["_law_one", "_law_two"]) fun _ _ _ _ _ _ us hl => match us, hl with | [_, _], _ => rfl⟩
  have D10 : Df K mg "_law_refused" sRef ["_law_instant_here", "_law_what"] f10 _ := ⟨fun_mk (st := sRef) l10 c10 k10, PySem.W.mg_of X G a10, (fun_mk (st := sRef) l10 c10 k10).binds (ps := ["_law_instant_here", "_law_what"]) fun _ _ _ _ _ _ us hl => match us, hl with | [_, _], _ => rfl⟩
  have D11 : Df K mg "_law_earlier" sEarlier ["_law_one", "_law_two"] f11 _ := ⟨fun_mk (st := sEarlier) l11 c11 k11, PySem.W.mg_of X G a11, (fun_mk (st := sEarlier) l11 c11 k11).binds (ps := ["_law_one", "_law_two"]) fun _ _ _ _ _ _ us hl => match us, hl with | [_, _], _ => rfl⟩
  have F12 := fun_mk (st := sLaw) l12 c12 k12
  refine ⟨_, fun s u => .of_eq (by rfl), fun base _ _ => ok_law F12 (C := C) (CT := CT) (CB := CB) (fI := f0) {
    T := T,
    WA := D9,
    GA := ok_alike D9.F T,
    cg := ⟨_, _, FnOk.mono (ok_digits D6.F T D5) (by decide), D6.g, D6.F.kp, D6.b⟩,
    cd := ⟨_, _, FnOk.mono (ok_draw D7.F T) (by decide), D7.g, D7.F.kp, D7.b⟩,
    ci := ⟨_, _, FnOk.mono (ok_inst D8.F T D7) (by decide), D8.g, D8.F.kp, D8.b⟩,
    cf := ⟨_, _, FnOk.mono (ok_ref D10.F T FK (PySem.W.mg_of X G aK) F0 b0) (by decide), D10.g, D10.F.kp, D10.b⟩,
    cr := ⟨_, _, FnOk.mono (ok_earlier D11.F) (by decide), D11.g, D11.F.kp, D11.b⟩,
    cn := ⟨_, _, FnOk.mono (ok_next D1.F) (by decide), D1.g, D1.F.kp, D1.b⟩,
    cl := ⟨_, _, FnOk.mono (ok_later D2.F) (by decide), D2.g, D2.F.kp, D2.b⟩,
    ce := ⟨_, _, FnOk.mono (ok_earliest D3.F T) (by decide), D3.g, D3.F.kp, D3.b⟩,
    ct := ⟨_, _, FnOk.mono (ok_not D4.F) (by decide), D4.g, D4.F.kp, D4.b⟩ }⟩
end K01
/-! ## 15. the end -/
open PySem PySem.W PyProof.Rows
set_option maxRecDepth 100000 in
set_option maxHeartbeats 0 in
theorem PySem.Challenge.cw_asforetold_k01_instants_holds : PySem.Challenge.rw_asforetold_k01_instants.Holds := by
  w_on; o_law; k_head; (case hw => w_witness2)
  k_fill
  refine K01.walkG (l := PySem.Challenge.rw_asforetold_k01_instants) (n := 63) (k := 5) (x := "_law_script") (sp := K01.spLaw) rfl (by decide) rfl ⟨rfl, by decide, by decide⟩ (fun w h Y => PySem.W.kIn_of Y) ?F (fun K H a ns _ hS => ⟨a, ns, rfl, hS, fun _ => rfl⟩)
  case F =>
    intro w mg fa h KX G hmg
    refine' K01.all_mk KX G hmg ?aC ?aT ?aB ?xL ?sa ?ga ?gg ?nb ?ca ?cs ?ck ?cm ?kC ?eC ?tC ?hC ?iC ?eB ?tB ?hB ?sB ?isT ?nT ?nR ?b_min ?b_len ?b_range ?b_int ?b_repr ?b_isinstance ?a0 ?t0 ?l0 ?c0 ?k0 ?aK ?lK ?cK ?kK ?dK ?a1 ?l1 ?c1 ?k1 ?a2 ?l2 ?c2 ?k2 ?a3 ?l3 ?c3 ?k3 ?a4 ?l4 ?c4 ?k4 ?a5 ?l5 ?c5 ?k5 ?a6 ?l6 ?c6 ?k6 ?a7 ?l7 ?c7 ?k7 ?a8 ?l8 ?c8 ?k8 ?a9 ?l9 ?c9 ?k9 ?a10 ?l10 ?c10 ?k10 ?a11 ?l11 ?c11 ?k11 ?a12 ?l12 ?c12 ?k12
    (case aC => k_is)
    (case aT => k_is)
    (case aB => k_is)
    (case xL => k_is)
    (case sa => k_is)
    (case ga => k_is)
    (case gg => k_is)
    (case nb => k_is)
    (case ca => k_is)
    (case cs => k_is)
    (case ck => k_is)
    (case cm => k_is)
    (case kC => k_is)
    (case eC => k_is)
    (case tC => k_is)
    (case hC => k_is)
    (case iC => k_is)
    (case eB => k_is)
    (case tB => k_is)
    (case hB => k_is)
    (case sB => k_is)
    (case isT => kit_is)
    (case nT => k_is)
    (case nR => k_is)
    (case b_min => k_is)
    (case b_len => k_is)
    (case b_range => k_is)
    (case b_int => k_is)
    (case b_repr => k_is)
    (case b_isinstance => k_is)
    (case a0 => k_is)
    (case t0 => k_is)
    (case l0 => k_is)
    (case c0 => k_is)
    (case k0 => k_is)
    (case aK => k_is)
    (case lK => k_is)
    (case cK => k_is)
    (case kK => k_is)
    (case dK => k_is)
    (case a1 => k_is)
    (case l1 => k_is)
    (case c1 => k_is)
    (case k1 => k_is)
    (case a2 => k_is)
    (case l2 => k_is)
    (case c2 => k_is)
    (case k2 => k_is)
    (case a3 => k_is)
    (case l3 => k_is)
    (case c3 => k_is)
    (case k3 => k_is)
    (case a4 => k_is)
    (case l4 => k_is)
    (case c4 => k_is)
    (case k4 => k_is)
    (case a5 => k_is)
    (case l5 => k_is)
    (case c5 => k_is)
    (case k5 => k_is)
    (case a6 => k_is)
    (case l6 => k_is)
    (case c6 => k_is)
    (case k6 => k_is)
    (case a7 => k_is)
    (case l7 => k_is)
    (case c7 => k_is)
    (case k7 => k_is)
    (case a8 => k_is)
    (case l8 => k_is)
    (case c8 => k_is)
    (case k8 => k_is)
    (case a9 => k_is)
    (case l9 => k_is)
    (case c9 => k_is)
    (case k9 => k_is)
    (case a10 => k_is)
    (case l10 => k_is)
    (case c10 => k_is)
    (case k10 => k_is)
    (case a11 => k_is)
    (case l11 => k_is)
    (case c11 => k_is)
    (case k11 => k_is)
    (case a12 => k_is)
    (case l12 => k_is)
    (case c12 => k_is)
    (case k12 => k_is)
#print axioms PySem.Challenge.cw_asforetold_k01_instants_holds
