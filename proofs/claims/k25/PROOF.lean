import PyProof.Rows.All
import Wide.All
import OpenK.AllK
import Wide.FinOn
import HandS.ForMost
import HandS.ForExc
import PyProof.ReprRoads
import PyProof.CallFns
import HandS.TupSets
import HandS.Sort
import KE.KSortTupG
import HandS.SetFor
import HandS.IsInst
import HandS.Evl
import HandS.Zip
import HandS.TupAny
import HandS.Conv
import HandS.Flow
import KE.DatumMoreOrd
import KE.DatumIndex
import KE.SortData
import HandS.Comp
import HandS.Iter
import HandS.Wide
import HandS.Deep
import HandS.Text
import HandS.Dict
import HandS.WordsDict
import PyProof.Rows.ListMulArg
import HandS.More
import HandS.SortInts
import KE.DataEq
import HandS.NoneIn
import KE.KItemsList
import PySem.Challenge.RW_standhouse_k25_ways_into_circles
set_option Elab.async false
set_option linter.all false
set_option maxRecDepth 100000
set_option maxHeartbeats 2000000
/-! defs that are called where no repr is under way (guards known to be none), and repr of data -/
namespace Sk
open PySem PySem.Spec PyProof.Rows L2

/-- as FnOk, where besides no guard is under way -/
structure GnOk (P : Program) (w : World) (K : PySem.W.Frag) (mg : Str → Option Value) (base : Heap) (CX : CXT) (k : Nat) (f : Addr) (fd : FuncData) (ps : List Str) (sp : Sp) : Prop where
  len : ∀ vs H Q E, sp vs H Q E → vs.length = ps.length
  go : ∀ {A : Around} {outer : List Env} {s : Shared} {H : Hp} {args : Args} {us : List Value} {vs : List V} {Q : VK} {E : XK},
    A.guards = some [] → Room k A → Env0 P w K mg base A outer s H → BindsTo s fd args (ps.zip us) → Vals vs us → sp vs H Q E →
      codeAny (model P w) A (.call (.ref f) args) (CR CX outer P w H s Q E) s

section
variable {P : Program} {w : World} {K : PySem.W.Frag} {mg : Str → Option Value} {base : Heap} {CX : CXT} {k : Nat} {f : Addr} {fd : FuncData} {ps : List Str} {sp : Sp}
theorem GnOk.of (F : FnOk P w K mg base CX k f fd ps sp) : GnOk P w K mg base CX k f fd ps sp :=
  ⟨F.len, fun _ hr e0 hb r h => F.run _ _ _ _ _ _ _ _ _ hr e0 hb r h⟩

theorem guards_deeper (A : Around) (env : Env) (h : A.guards = some []) : (A.deeper env).guards = some [] := by
  first | exact h | (simpa [Around.deeper] using h)

/-- the rule for a def by its body, as Fun.ok -/
theorem gn_ok {x qual : Str} {st : Stmt} {N : List Str} (F : Fun K x qual st f fd) (S : FnScope N ps (defScope st)) (len : ∀ vs H Q E, sp vs H Q E → vs.length = ps.length)
    (body : ∀ (cdv : Value) (A : Around) (outer : List Env) (s : Shared) (H : Hp) (vs : List V) (Q : VK) (E : XK),
      (A.deeper (envOfC qual (defScope st) s.heap.objs.size f cdv)).guards = some [] → Room k (A.deeper (envOfC qual (defScope st) s.heap.objs.size f cdv)) → sp vs H Q E →
      ∃ t, PSs (cxOf CX P w K mg base N qual (defScope st) f cdv A outer s H E).nox (defBody st) t ∧ t { nx := fun _ H' => Q .non H', rt := Q } (start N vs) H) :
    GnOk P w K mg base CX (k + 1) f fd ps sp := by
  obtain ⟨oc, od, kV, doc, pm, an, cdv, ct, osl, efd, lk, hcd⟩ := F.ex
  subst efd
  refine ⟨len, fun {A outer s H args us vs Q E} hgd hr e0 hb r hsp => ?_⟩
  have hl := len _ _ _ _ hsp
  have hin : K.In s.heap := e0.mod.kin.keeps fun b o e => (e0.bs b o e).1
  have hlim : s.heap.NoLimit := e0.mod.nolimit.keeps fun b o e => (e0.bs b o e).1
  refine codeAny_call_function hr.depth (hin _ _ lk) rfl S.co S.gen rfl (PySem.W.codeRec_of hin hcd) (hb _ _ _ _ ?_)
  refine wpAny_newFunctionEnv_cells S.kind (fun y hy => ?_) fun env he s1 hx => ?_
  · rcases S.par y.1 (List.of_mem_zip (show (y.1, y.2) ∈ ps.zip us from hy)).1 with q | q
    · exact Or.inl q
    · exact Or.inr ⟨q, PySem.W.cellsFrom_some _ _ _ (Or.inl q)⟩
  subst he
  refine ⟨hlim.keeps hx.toInCall.keep, codeAny_func ?_⟩
  obtain ⟨t, ht, hq⟩ := body cdv A outer s H vs Q E (guards_deeper A _ hgd) (hr.deeper _) hsp
  have I := inv_start (CX := CX) (E := E) (qual := qual) (f := f) (cd := cdv) S hr.hd e0 hl r hx
  have ret : ∀ {σ' : L2.St} {H' : Hp} {v : V} {u : Value} {s' : Shared}, Inv (cxOf CX P w K mg base N qual (defScope st) f cdv A outer s H E) [] σ' H' s' → RelV v u → Q v H' → CE outer P w H s Q u s' :=
    fun J rv q => ⟨_, _, J.os, J.bare, J.base, J.hok, rv, q⟩
  refine wpAny_mono (ht.nox.run [] s1 (start N vs) H _ I hq) (fun fl s' hs => ?_) fun e s' hs => hs
  cases fl with
  | ret u => obtain ⟨v, σ', H', J, rv, q⟩ := hs; exact ret J rv q
  | next => obtain ⟨σ', H', J, q⟩ := hs; exact ret (v := V.non) (u := Value.none) J rfl q
  | brk => obtain ⟨_, _, _, q⟩ := hs; exact q.elim
  | cont => obtain ⟨_, _, _, q⟩ := hs; exact q.elim
end

section
variable {X : Cx} {CX : CXT} {k : Nat} {f : Addr} {fd : FuncData} {ps : List Str} {sp : Sp} {E : XK} {x : Str} {p pos : Pos} {e : Expr} {es : List Expr} {t : TA}
/-- the callee runs (no defaults) -/
theorem run_gn {pins : List (Addr × Obj)} {σ : L2.St} {H : Hp} {s : Shared} {Q : VK} {us : List Value} {vs : List V} (F : GnOk X.prog X.w X.K X.mg X.base CX k f fd ps sp) (hgd : X.A.guards = some []) (hr : Room k X.A) (hb : Binds X.K fd ps [])
    (hx : Passes CX X E) (I : Inv X pins σ H s) (r : Vals vs us) (h : sp vs H Q E) : wpAny (model X.prog X.w) X.A (call (.ref f) us) (EP X pins σ Q) X.xe s := by
  have hlu : (us ++ []).length = ps.length := by
    rw [List.append_nil, ← r.length]
    exact F.len _ _ _ _ h
  have bb := hb s us I.kIn hlu
  rw [List.append_nil] at bb
  refine wpAny_call (codeAny_mono (F.go hgd hr I.env0 bb r h) fun res s' hq => ?_)
  match res, hq with
  | .error e, hq => exact hx pins σ H s e s' I hq
  | .ok (.ret u), hq => exact I.after hq
/-- f(e, ..) -/
theorem pe_callG (F : GnOk X.prog X.w X.K X.mg X.base CX k f fd ps sp) (hgd : X.A.guards = some []) (hr : Room k X.A) (hg : Gl X x) (hm : X.mg x = some (.ref f)) (hk : PySem.W.keepIn X.K (.ref f) = true) (hb : Binds X.K fd ps []) (hx : Passes CX X E)
    (ha : PA X (e :: es) t) (hdb : (x == ("__debug__" : Str)) = false := by decide) (he : starEach (e :: es) X.env = (false, eval e X.env) :: starEach es X.env := by rfl) (hpl : (backTo pos (starEach es X.env)).any (·.1) = false := by rfl) :
    PE X (.Call (.Name x p) (e :: es) [] pos) (tCall sp [] E t) := ⟨fun pins s σ H Q I h =>
  wpAny_Call_Name_kw (ld_glob I hg hm (PySem.W.callWith_K (h₀ := X.base) I.ok.mod.kin hk (thn (ha.run pos pins s σ H _ I h) fun us s1 hz => by
    obtain ⟨vs, H1, I1, r, q⟩ := hz
    rw [List.append_nil] at q
    exact ⟨I1.kIn, run_gn F hgd hr hb hx I1 r q⟩) he hpl) hdb)⟩
/-- f() -/
theorem pe_callG0 (F : GnOk X.prog X.w X.K X.mg X.base CX k f fd ps sp) (hgd : X.A.guards = some []) (hr : Room k X.A) (hg : Gl X x) (hm : X.mg x = some (.ref f)) (hk : PySem.W.keepIn X.K (.ref f) = true) (hb : Binds X.K fd ps []) (hx : Passes CX X E)
    (hdb : (x == ("__debug__" : Str)) = false := by decide) : PE X (.Call (.Name x p) [] [] pos) (tCall sp [] E tNil) := ⟨fun pins s σ H Q I h =>
  wpAny_Call_Name_kw (ld_glob I hg hm (PySem.W.callWith_K0 I.kIn hk (run_gn (us := []) F hgd hr hb hx I .nil (by have h2 : sp ([] ++ []) H Q E := h; exact h2))) hdb)⟩
end

/-! the law's own call -/
section
variable {P : Program} {w : World} {K : PySem.W.Frag} {mg mb : Str → Option Value} {CX : CXT} {k : Nat} {fa a : Addr} {fd : FuncData} {x : Str} {sp : Sp} {s1 : Shared} {vs : List Value} {ns : List Int}
/-- what is tracked at the law's entry: the script, where it is no object of the module -/
def hpScript (K : PySem.W.Frag) (a : Addr) (vs : List Value) (ns : List Int) : Hp := fun b =>
  if b = a ∧ (K.lookup a).isNone = true then some (.frz { cls := .type "list", data := .seq vs.toArray } (.lst (ns.map V.int))) else none
theorem hpScript_at {b : Addr} {o : HO} (h : hpScript K a vs ns b = some o) : b = a ∧ K.lookup a = none ∧ o = .frz { cls := .type "list", data := .seq vs.toArray } (.lst (ns.map V.int)) := by
  unfold hpScript at h
  split at h
  · rename_i hc
    exact ⟨hc.1, Option.isNone_iff_eq_none.mp hc.2, (Option.some.inj h).symm⟩
  · cases h
theorem hpScript_only : Only (hpScript K a vs ns) := fun b => by
  cases e : hpScript K a vs ns b with
  | none => exact Or.inl rfl
  | some o =>
    obtain ⟨_, _, rfl⟩ := hpScript_at e
    exact Or.inr ⟨_, _, rfl⟩
theorem law_callG (hin : K.In s1.heap) (hns : s1.heap.Ns mainGlobals mg) (hbn : s1.heap.Ns builtinsNs mb) (hbb : ∀ y : Str, y ≠ "__name__" → mb y = bootBuiltins y) (hlim : s1.heap.NoLimit) (hgn : s1.gens = #[])
    (hobj : s1.heap.get? a = some { cls := .type "list", data := .seq vs.toArray }) (hi : IntsAre vs ns) (hl : ns.length ≤ sizeLine) (hr : Room k callerA)
    (F : ∀ base : Heap, K.In base → base.Ns mainGlobals mg → GnOk P w K mg base CX k fa fd [x] sp) (hbind : ∀ (s : Shared) (u : Value), BindsTo s fd ⟨[u], []⟩ [(x, u)])
    (hsp : ∀ H : Hp, Only H → SqL K H a (ns.map V.int) → sp [.ref a] H (fun v _ => v = .bl true) fun _ _ _ => False)
    (hCX : ∀ H e s', CX [] H s1 (fun _ _ _ => False) e s' → False) :
    codeAny (model P w) callerA (.call (.ref fa) ⟨[.ref a], []⟩) (fun r s' => r = .ok (.ret (.bool true)) ∧ OldK s1.heap s'.heap ∧ s'.os = s1.os ∧ AllBare s'.gens) s1 := by
  have rv := vals_ints hi
  have hlen := hi.length
  let H : Hp := hpScript K a vs ns
  have hS : SqL K H a (ns.map V.int) := by
    cases hk : K.lookup a with
    | none =>
      refine Or.inl (Or.inr ⟨{ cls := .type "list", data := .seq vs.toArray }, ?_⟩)
      show hpScript K a vs ns a = _
      unfold hpScript
      rw [if_pos ⟨rfl, by rw [hk]; rfl⟩]
    | some o =>
      have e := hin a o hk
      rw [hobj] at e
      cases e
      exact Or.inr ⟨_, vs.toArray, _, hk, rfl, rfl, rfl, by rw [List.size_toArray, hlen]; exact hl, by simpa using rv⟩
  have hok : HOk P w H s1.heap := fun b u e => by
    obtain ⟨rfl, _, rfl⟩ := hpScript_at e
    exact ⟨hobj, by rw [List.length_map]; exact hl, vs, _, rv, hobj⟩
  have low : ∀ {b : Addr} {o : Obj}, s1.heap.get? b = some o → H b = none → (hidT s1.heap H).get? b = some o := fun e n => hidT_get e n
  have dct : ∀ {b : Addr} {o : Obj} {es : Array DictEntry} {ep : Nat}, s1.heap.get? b = some o → o.data = .dict es ep → H b = none := fun {b o es ep} e d => by
    cases q : H b with
    | none => rfl
    | some u =>
      obtain ⟨rfl, _, _⟩ := hpScript_at q
      rw [hobj] at e
      cases e
      cases d
  have ns' : ∀ {b : Addr} {m : Str → Option Value}, s1.heap.Ns b m → (hidT s1.heap H).Ns b m := fun z => by
    obtain ⟨o, es, ep, e, d, r⟩ := z
    exact ⟨o, es, ep, low e (dct e d), d, r⟩
  have hK : K.In (hidT s1.heap H) := fun b o e => low (hin b o e) (by
    cases q : H b with
    | none => rfl
    | some u =>
      obtain ⟨rfl, z, _⟩ := hpScript_at q
      rw [z] at e
      cases e)
  have hM : Mod K mg (hidT s1.heap H) := { kin := hK, glob := ns' hns, blt := ⟨mb, ns' hbn, hbb⟩, nolimit := by obtain ⟨mc, h1, h2⟩ := hlim; exact ⟨mc, ns' h1, h2⟩ }
  have e0 : Env0 P w K mg (hidT s1.heap H) callerA [] s1 H := { frames := rfl, mod := hM, bs := fun b o e => of_hidT e, bsz := Nat.le_of_eq (hidT_size _ _), funs := trivial, frf := fun b hb => absurd (show b ∈ ([] : List Addr) from hb) List.not_mem_nil, hok := hok, bare := .of_eq hgn }
  refine codeAny_mono ((F _ hK (ns' hns)).go (us := [.ref a]) (vs := [V.ref a]) rfl hr e0 (hbind s1 (.ref a)) (.cons rfl .nil) (hsp H hpScript_only hS)) fun r s' h => ?_
  match r, h with
  | .error e, h => exact (hCX H e s' h).elim
  | .ok (.ret u), h =>
    obtain ⟨v, H', os, bare, un, hok', r', q⟩ := h
    obtain rfl : v = .bl true := q
    obtain rfl : u = Value.bool true := r'
    refine ⟨rfl, OldK.of_keep fun b o e => ?_, os, bare⟩
    cases q : H b with
    | none => exact un.keep b o e q (fun z => absurd (show b ∈ ([] : List Addr) from z) List.not_mem_nil) (fun z => absurd (show b ∈ ([] : List Addr) from z) List.not_mem_nil)
    | some u =>
      obtain ⟨rfl, _, rfl⟩ := hpScript_at q
      have z1 := (hok b _ q).1
      have z2 := (hok' b _ (un.frzs b _ _ q)).1
      rw [e] at z1
      cases z1
      exact z2
theorem walk_ofG {l : PySem.W.OpenLaw} {n : Nat} {q : Program} {loose : List Str} {XP : (Str → Option Value) → Heap → Prop} {YP : World → Heap → Prop} {d : DefRec} {KK : Params → PySem.W.Frag}
    {spw : World → Sp} (hn : l.most = some n) (hn2 : n ≤ sizeLine) (hdf : d.params.defaults = []) (hr : Room k callerA)
    (hY : ∀ (w : World) (h : Heap), YP w h → (KK w.params).In h)
    (F : ∀ (w : World) (mg : Str → Option Value) (fa : Addr) (h : Heap), (KK w.params).In h → h.Ns mainGlobals mg → mg d.name = some (.ref fa) →
      ∃ fd : FuncData, (∀ (s : Shared) (u : Value), BindsTo s fd ⟨[u], []⟩ [(x, u)]) ∧
        ∀ base : Heap, (KK w.params).In base → base.Ns mainGlobals mg → GnOk l.prog w (KK w.params) mg base CX0 k fa fd [x] (spw w))
    (hsp : ∀ (w : World) (H : Hp) (a : Addr) (ns : List Int), ns.length ≤ n → Only H → SqL (KK w.params) H a (ns.map V.int) → spw w [.ref a] H (fun v _ => v = .bl true) fun _ _ _ => False) :
    PySem.W.WalkO q loose XP YP l.row.toRowW d [] (fun f vs => PySem.call f vs) := by
  refine Att.attach_call hn hdf fun w s0 s1 mg mb fa o pm cd doc a vs ns G Y ho hd hcd hmg hobj hints hlen hg => ?_
  obtain ⟨fd, hb, hF⟩ := F w mg fa _ (hY w _ Y) G.T.g hmg
  exact law_callG (hY w _ Y) G.T.g G.T.b G.T.builtins G.T.nolimit hg hobj hints (Nat.le_trans hlen hn2) hr hF hb (fun H hO hS => hsp w H a ns hlen hO hS) fun _ _ _ z => z
end

/-! repr of data -/
def rRepr (K : PySem.W.Frag) : List V → Hp → VK → Prop := fun xs H Q => ∃ (x : V) (d : PyData), xs = [x] ∧ Dp K H x d ∧ d.showable = true ∧ d.hasDict = false ∧ d.depth ≤ 100 ∧ d.shown.length ≤ sizeLine ∧ Q (.str d.shown) H
theorem call_repr {X : Cx} (hgd : X.A.guards = some []) (hu : X.A.units + 150 < cLine) : CallR X (.builtin "repr") (rRepr X.K) := by
  intro pins s σ H xs us Q I r h
  obtain ⟨x, d, rfl, hd, hsh, hnd, hdp, hlen, q⟩ := h
  cases r with
  | cons rx rt =>
    cases rt
    cases hd with
    | non =>
      cases rx
      refine P.repr_of_none ?_
      exact ⟨.str _, _, I.tok _, ⟨_, rfl⟩, q⟩
    | bl b =>
      cases rx
      refine P.repr_of_bool ?_
      exact ⟨.str _, _, I.tok _, ⟨_, rfl⟩, q⟩
    | int i =>
      obtain ⟨t, rfl⟩ := rx
      refine P.repr_of_int (by simpa [PyData.showable] using hsh) ?_
      exact ⟨.str _, _, I.tok _, ⟨_, rfl⟩, q⟩
    | str z =>
      obtain ⟨t, rfl⟩ := rx
      refine P.repr_of_str ?_ hlen
      exact ⟨.str _, _, I.tok _, ⟨_, rfl⟩, q⟩
    | lst hs ha =>
      obtain ⟨as, hr⟩ := Dp.reads I _ _ _ (Dp.lst hs ha) rx
      cases rx
      refine repr_of_reads' hr hsh (PyData.noDict_hsm hnd) hgd (by omega) (fun b o e => e) (fun h' u tk hk => ?_) hlen
      exact ⟨.str _, _, I.kept hk, ⟨_, rfl⟩, q⟩
    | tup hs ha =>
      obtain ⟨as, hr⟩ := Dp.reads I _ _ _ (Dp.tup hs ha) rx
      cases rx
      refine repr_of_reads' hr hsh (PyData.noDict_hsm hnd) hgd (by omega) (fun b o e => e) (fun h' u tk hk => ?_) hlen
      exact ⟨.str _, _, I.kept hk, ⟨_, rfl⟩, q⟩
end Sk
set_option Elab.async false
set_option linter.all false
set_option maxRecDepth 100000
set_option maxHeartbeats 2000000
/-! sets of tuples of numbers and texts: set(xs), sorted, len -/
namespace Sk
open PySem PySem.Spec PyProof.Rows L2

/-- every tuple stays -/
def KeepT (h h' : Heap) : Prop := ∀ b o, h.get? b = some o → o.cls = .type "tuple" → h'.get? b = some o
theorem KeepT.all {h h' : Heap} (k : ∀ b o, h.get? b = some o → h'.get? b = some o) : KeepT h h' := fun b o e _ => k b o e
theorem KeepT.trans {h h1 h2 : Heap} (a : KeepT h h1) (b : KeepT h1 h2) : KeepT h h2 := fun c o e t => b c o (a c o e t) t
theorem KeepT.but {h h' : Heap} {a : Addr} {o : Obj} (ho : h.get? a = some o) (hc : o.cls = .type "set") (s : Heap.SameBut a h h') : KeepT h h' := fun b u e t => by
  by_cases hb : b = a
  · subst hb
    rw [ho] at e
    cases e
    rw [hc] at t
    exact absurd t (by decide)
  · exact (s.2 b hb).trans e

/-- a kind of tuples that may be put into sets -/
structure TKind (P : Program) (w : World) (α : Type) [DecidableEq α] where
  is : Heap → α → Addr → Prop
  hash : α → Int
  tup : ∀ {h : Heap} {k : α} {a : Addr}, is h k a → ∃ o xs n, h.get? a = some o ∧ o.cls = .type "tuple" ∧ o.data = .seq xs n
  stay : ∀ {h h' : Heap} {k : α} {a : Addr}, is h k a → KeepT h h' → is h' k a
  inj : ∀ {h : Heap} {x y : α} {a : Addr}, is h x a → is h y a → x = y
  hashes : ∀ {A : Around} {E : Value → Shared → Prop} {s : Shared} {k : α} {a : Addr} {Q : Int → Shared → Prop}, A.units < cLine → is s.heap k a → (∀ tk, s.toks ≤ tk → Q (hash k) { s with toks := tk }) → wpAny (model P w) A (pyHash (.ref a)) Q E s
  same : ∀ {A : Around} {E : Value → Shared → Prop} {s : Shared} {x y : α} {a b : Addr} {Q : Bool → Shared → Prop}, A.units < cLine → is s.heap x a → is s.heap y b → Q (decide (x = y)) s → wpAny (model P w) A (eqBool (.ref a) (.ref b)) Q E s
  quiet : ∀ {A : Around} {E : Value → Shared → Prop} {s : Shared} {k : α} {a : Addr} {Q : Bool → Shared → Prop}, is s.heap k a → Q true s → wpAny (model P w) A (eqIsQuiet 8 (.ref a)) Q E s
  ofNone : ∀ {A : Around} {E : Value → Shared → Prop} {s : Shared} {k : α} {a : Addr} {Q : Bool → Shared → Prop}, is s.heap k a → Q false s → wpAny (model P w) A (ofAClassStatement 8 (.ref a)) Q E s
  byVal : ∀ {A : Around} {E : Value → Shared → Prop} {s : Shared} {k : α} {a : Addr} {Q : Bool → Shared → Prop}, is s.heap k a → (∀ b, Q b s) → wpAny (model P w) A (hashByValue 8 (.ref a)) Q E s

/-! ### tuples of ints and texts -/
theorem flat_items {P : Program} {w : World} {k : List Key} {vs : List Value} (h : ItemsAre (mixKind P w) k vs) : ∀ v ∈ vs, (∃ i t, v = Value.int i t) ∨ ∃ x t, v = Value.str x t := by
  induction h with
  | nil => intro v hv; cases hv
  | cons h1 _ ih =>
    intro v hv
    rcases List.mem_cons.mp hv with rfl | hv
    · rcases keyIs_shape h1 with ⟨i, t, _, e⟩ | ⟨x, t, _, e⟩
      · exact Or.inl ⟨i, t, e⟩
      · exact Or.inr ⟨x, t, e⟩
    · exact ih v hv
theorem class_flat (n : Nat) {v : Value} (h : (∃ i t, v = Value.int i t) ∨ ∃ x t, v = Value.str x t) : ofAClassStatement n v = pure false := by
  rcases h with ⟨i, t, rfl⟩ | ⟨x, t, rfl⟩ <;> (cases n <;> rfl)
theorem hashv_flat (n : Nat) {v : Value} (h : (∃ i t, v = Value.int i t) ∨ ∃ x t, v = Value.str x t) : ∃ b, hashByValue n v = pure b := by
  rcases h with ⟨i, t, rfl⟩ | ⟨x, t, rfl⟩
  · exact ⟨true, by cases n <;> rfl⟩
  · exact ⟨false, by cases n <;> rfl⟩
section
variable {P : Program} {w : World} {A : Around} {E : Value → Shared → Prop} {s : Shared}
theorem ofNone_flat {k : List Key} {b : Addr} {Q : Bool → Shared → Prop} (hk : IsTupleKey (mixKind P w) s.heap k b) (h : Q false s) : wpAny (model P w) A (ofAClassStatement 8 (.ref b)) Q E s := by
  have hT := hk.typeIs
  obtain ⟨o, items, n, ho, _, hd, hi⟩ := hk
  unfold ofAClassStatement
  refine wpAny_bind (wpAny_typeOf hT ?_)
  dsimp only
  simp only [show (("tuple" : String) == "tuple") = true by decide, if_true, Bool.not_true, Bool.false_eq_true, if_false]
  try refine wpAny_bind (wpAny_pure ?_)
  try simp only [Bool.not_true, Bool.false_eq_true, if_false]
  show wpAny _ _ (seqItems? (.ref b) >>= _) _ _ s
  refine wpAny_bind (wpAny_seqItems ho hd ?_)
  dsimp only
  refine wpAny_bind ?_
  rw [← Array.forIn_toList]
  refine wpAny_forIn_list _ (fun left r z => r.1 = none ∧ z = s ∧ ∀ v ∈ left, (∃ i t, v = Value.int i t) ∨ ∃ x t, v = Value.str x t) _ (fun v left r z hz => ?_) (fun r z hz => ?_) _ _ ⟨rfl, rfl, flat_items hi⟩
  · obtain ⟨h1, rfl, h3⟩ := hz
    rw [class_flat _ (h3 v List.mem_cons_self)]
    refine wpAny_bind (wpAny_pure ?_)
    simp only [Bool.false_eq_true, if_false]
    exact wpAny_pure ⟨rfl, rfl, fun u hu => h3 u (List.mem_cons_of_mem _ hu)⟩
  · obtain ⟨h1, rfl, _⟩ := hz
    obtain ⟨r1, r2⟩ := r
    dsimp only at h1
    subst h1
    exact wpAny_pure h
theorem byVal_flat {k : List Key} {b : Addr} {Q : Bool → Shared → Prop} (hk : IsTupleKey (mixKind P w) s.heap k b) (h : ∀ c, Q c s) : wpAny (model P w) A (hashByValue 8 (.ref b)) Q E s := by
  have hT := hk.typeIs
  obtain ⟨o, items, n, ho, _, hd, hi⟩ := hk
  unfold hashByValue
  refine wpAny_bind (wpAny_specialOf hT F.slot_tuple_hash.lookup ?_)
  show wpAny _ _ (seqItems? (.ref b) >>= _) _ _ s
  refine wpAny_bind (wpAny_seqItems ho hd ?_)
  refine wpAny_bind ?_
  show wpAny _ _ (forIn items _ _) _ _ s
  rw [← Array.forIn_toList]
  refine wpAny_forIn_list _ (fun left r z => z = s ∧ ∀ v ∈ left, (∃ i t, v = Value.int i t) ∨ ∃ x t, v = Value.str x t) _ (fun v left r z hz => ?_) (fun r z hz => ?_) _ _ ⟨rfl, flat_items hi⟩
  · obtain ⟨rfl, h3⟩ := hz
    obtain ⟨c, hc⟩ := hashv_flat 7 (h3 v List.mem_cons_self)
    rw [hc]
    refine wpAny_bind (wpAny_pure ?_)
    cases c with
    | true =>
      simp only [Bool.not_true, Bool.false_eq_true, if_false]
      exact wpAny_pure ⟨rfl, fun u hu => h3 u (List.mem_cons_of_mem _ hu)⟩
    | false =>
      simp only [Bool.not_false, if_true]
      exact wpAny_pure (wpAny_pure (h _))
  · obtain ⟨rfl, _⟩ := hz
    obtain ⟨r1, r2⟩ := r
    cases r1 with
    | none => exact wpAny_pure (h _)
    | some c => exact wpAny_pure (h _)
end
def mixT (P : Program) (w : World) : TKind P w (List Key) where
  is := IsTupleKey (mixKind P w)
  hash := tupleKeyHash (mixKind P w)
  tup := fun x => by obtain ⟨o, xs, n, ho, hc, hd, _⟩ := x; exact ⟨o, xs, n, ho, hc, hd⟩
  stay := fun x k => by obtain ⟨o, xs, n, ho, hc, r⟩ := x; exact ⟨o, xs, n, k _ _ ho hc, hc, r⟩
  inj := fun x y => x.inj y
  hashes := fun hu x h => wpAny_pyHash_tuple hu x (h _ (Nat.le_add_right _ _))
  same := fun hu x y h => wpAny_eqBool_tuple hu x y h
  quiet := fun x h => wpAny_eqIsQuiet_tuple x h
  ofNone := fun x h => ofNone_flat x h
  byVal := fun x h => byVal_flat x h
end Sk
set_option Elab.async false
set_option linter.all false
set_option maxRecDepth 100000
set_option maxHeartbeats 2000000
namespace Sk
open PySem PySem.Spec PyProof.Rows L2
section
variable {P : Program} {w : World} {α : Type} [DecidableEq α] (κ : TKind P w α)
/-- the table's rows -/
def rowsT (L : List (Addr × α)) : List (Int × Value) := L.map fun p => (κ.hash p.2, Value.ref p.1)
/-- the step c of the way of a hash -/
abbrev stp (m : Nat) (h : Int) (c : Nat) : SetTable.Probe := nth m (runAt m (SetTable.bits h % (m + 1)) (SetTable.bits h)) c
theorem stp_more (m : Nat) (h : Int) (c q : Nat) : nth m (stp m h c) q = stp m h (c + q) := (nth_add m c _ q).symm
theorem nth_clean (m : Nat) : ∀ (n : Nat) (p : SetTable.Probe), p.dummy = none → (nth m p n).dummy = none
  | 0, _, h => h
  | n + 1, p, h => nth_clean m n (adv m p) (by unfold adv; split <;> exact h)

/-- the set at a: its elements and their keys, in the table's order -/
structure TSet (h : Heap) (a : Addr) (L : List (Addr × α)) (es : Array (Int × Value)) (ep : Nat) (t : SetTable) : Prop where
  ob : ∃ o, h.get? a = some o ∧ o.ExactSet ∧ o.data = .set es ep t
  rows : es.toList = rowsT κ L
  tab : TabOk t (L.map fun p => κ.hash p.2)
  nd : (L.map (·.2)).Nodup
  led : w.params.followText "set-order" = true ∨ t.led = true
  room : L.length * 5 < t.mask * 3
  few : L.length < 64
variable {κ} {A : Around} {E : Value → Shared → Prop} {s : Shared} {a : Addr} {L : List (Addr × α)} {es : Array (Int × Value)} {ep : Nat} {t : SetTable}
theorem rowsT_len (hr : es.toList = rowsT κ L) : es.size = L.length := by
  have h := congrArg List.length hr
  rwa [Array.length_toList, rowsT, List.length_map] at h
theorem rowsT_at (hr : es.toList = rowsT κ L) {i : Nat} {p : Addr × α} (h : L[i]? = some p) : es[i]? = some (κ.hash p.2, Value.ref p.1) := by
  rw [← Array.getElem?_toList, hr, rowsT, List.getElem?_map, h]
  rfl
theorem fits_of (sz : t.place.size = L.length) (dm : t.dummies = #[]) (hr : es.toList = rowsT κ L) (hm : L.length ≤ t.mask) : t.fits es.size = true := by
  have h := rowsT_len hr
  unfold SetTable.fits SetTable.fill
  rw [dm, Bool.and_eq_true, beq_iff_eq, decide_eq_true_eq]
  exact ⟨by omega, by show t.place.size + 0 ≤ t.mask; omega⟩
theorem TSet.sz {h : Heap} (R : TSet κ h a L es ep t) : t.place.size = L.length := by
  have h := R.tab.sz
  rwa [List.length_map] at h
theorem TSet.fits {h : Heap} (R : TSet κ h a L es ep t) : t.fits es.size = true := fits_of R.sz R.tab.dm R.rows (by have := R.room; omega)

/-- the search, from the step c on -/
theorem seek (R : TSet κ s.heap a L es ep t) (hL : ∀ p ∈ L, κ.is s.heap p.2 p.1) {x : Addr} {k : α} (hx : κ.is s.heap k x) (hu : A.units < cLine) {N : Nat} (hN : N < 10 * SetTable.turns t.mask)
    (free : way t.mask (κ.hash k) N ∉ t.place.toList) (full : ∀ c, c < N → way t.mask (κ.hash k) c ∈ t.place.toList) {Q : SetFound → Shared → Prop}
    (yes : k ∈ L.map (·.2) → Q (.there none) s) (no : k ∉ L.map (·.2) → Q (.free (way t.mask (κ.hash k) N) false) s) (fuel : Nat) :
    ∀ (c : Nat) (stand : Option SetTable.Probe), stand.getD (t.probeStart (κ.hash k)) = stp t.mask (κ.hash k) c → c ≤ N → N - c < fuel →
      (∀ (i : Nat) (p : Addr × α), L[i]? = some p → p.2 = k → ∃ d, c ≤ d ∧ d < N ∧ t.place.toList[i]? = some (way t.mask (κ.hash k) d)) →
      wpAny (model P w) A (setSearchFrom a (.ref x) (κ.hash k) true fuel stand) Q E s := by
  induction fuel with
  | zero => intro c _ _ _ hf; exact absurd hf (Nat.not_lt_zero _)
  | succ fuel ih =>
    intro c stand hst hc hf left
    obtain ⟨o, ho, hex, hd⟩ := R.ob
    have odd := mask_odd R.tab.mok
    have wj : ∀ q, (nth t.mask (stp t.mask (κ.hash k) c) q).j = way t.mask (κ.hash k) (c + q) := fun q => congrArg SetTable.Probe.j (stp_more _ _ c q)
    have hash_at : ∀ (i : Nat) (p : Addr × α), L[i]? = some p → (es[i]?.map (·.1)).getD 0 = κ.hash p.2 := fun i p hp => by rw [rowsT_at R.rows hp]; rfl
    rw [setSearchFrom_succ]
    refine wpAny_bind (wpAny_setState_of ho hd R.fits ?_)
    dsimp only
    refine wp_if_neg (by unfold SetTable.gaveWay; rw [odd]; decide) ?_
    try refine wpAny_bind (wpAny_pure ?_)
    rcases go_spec t R.tab.ris R.tab.dm (fun i => (es[i]?.map (·.1)).getD 0) (κ.hash k) (10 * SetTable.turns t.mask) (N - c) (stp t.mask (κ.hash k) c) (nth_clean _ c _ rfl) (by omega)
      (fun q hq => by rw [wj]; exact full _ (by omega)) (by rw [wj, show c + (N - c) = N by omega]; exact free) with ⟨q, i, hq, hi, _, skip, found⟩ | ⟨skip, found⟩
    · -- an entry of this hash
      rw [wj] at hi
      have pr : t.probe (fun i => (es[i]?.map (·.1)).getD 0) (κ.hash k) (stand.getD (t.probeStart (κ.hash k))) = some (.candidate (way t.mask (κ.hash k) (c + q)) i (stp t.mask (κ.hash k) (c + (q + 1)))) := by
        rw [hst, ← wj, ← stp_more]
        exact found
      rw [pr]
      dsimp only
      have il : i < L.length := by
        have h1 := (List.getElem?_eq_some_iff.mp hi).1
        rw [Array.length_toList, R.sz] at h1
        exact h1
      obtain ⟨p, hp⟩ : ∃ p, L[i]? = some p := ⟨_, List.getElem?_eq_getElem il⟩
      have pm : p ∈ L := List.mem_of_getElem? hp
      have onward : wpAny (model P w) A (searchRest a (.ref x) (κ.hash k) true fuel es t (way t.mask (κ.hash k) (c + q)) i (stp t.mask (κ.hash k) (c + (q + 1)))) Q E s := by
        unfold searchRest
        rw [rowsT_at R.rows hp]
        dsimp only
        refine wpAny_bind (wpAny_holding (κ.same hu (hL p pm) hx ?_))
        refine wpAny_bind (wpAny_setState_of ho hd R.fits ?_)
        dsimp only
        by_cases e : p.2 = k
        · refine wp_if_pos (by simp [e]) (wpAny_pure (yes ?_))
          exact List.mem_map.mpr ⟨p, pm, e⟩
        · refine wp_if_neg (by simp [e]) ?_
          try refine wpAny_bind (wpAny_pure ?_)
          rw [sameMem]
          dsimp only
          have live := slot_live R.tab.ris hi
          simp only [if_true, live, rowsT_at R.rows hp]
          refine wpAny_bind (wpAny_isSame_ref_self (wpAny_bind (wpAny_pure ?_)))
          simp only [if_true]
          refine wp_if_neg (by simp [e]) ?_
          refine ih (c + (q + 1)) _ rfl (by omega) (by omega) fun i0 p0 h0 e0 => ?_
          obtain ⟨d, d1, d2, d3⟩ := left i0 p0 h0 e0
          refine ⟨d, ?_, d2, d3⟩
          have n1 : ¬ d < c + q := fun z => skip (d - c) i0 (by omega) (by rw [wj, show c + (d - c) = d by omega]; exact d3) ((hash_at i0 p0 h0).trans (congrArg κ.hash e0))
          have n2 : d ≠ c + q := fun z => by
            rw [z] at d3
            have e1 := (slot_live R.tab.ris d3).symm.trans live
            injection e1 with e1
            rw [e1, hp] at h0
            cases h0
            exact e e0
          omega
      by_cases hl : t.led = true
      · refine wp_if_neg (by simp [hl]) ?_
        try refine wpAny_bind (wpAny_pure ?_)
        exact onward
      · refine wp_if_pos (by simp [hl]) ?_
        refine wpAny_bind ?_
        unfold searchCouldBeSeen
        refine wpAny_bind (wpAny_forIn_list _ (fun some r z => r.1 = none ∧ z = s ∧ ∀ y ∈ some, ∃ k' b, y = Value.ref b ∧ κ.is s.heap k' b) _ (fun v some r z hz => ?_) (fun r z hz => ?_) _ _ ⟨rfl, rfl, fun y hy => ?_⟩)
        · obtain ⟨h1, rfl, h3⟩ := hz
          obtain ⟨k', b, rfl, hb⟩ := h3 v List.mem_cons_self
          have h4 : ∀ y ∈ some, ∃ k' b, y = Value.ref b ∧ κ.is z.heap k' b := fun y hy => h3 y (List.mem_cons_of_mem _ hy)
          dsimp only
          by_cases hv : (x == b || (carriedByValue (.ref x) && carriedByValue (.ref b))) = true
          · exact wp_if_pos hv (wpAny_pure ⟨rfl, rfl, h4⟩)
          · refine wp_if_neg hv ?_
            refine wpAny_bind (κ.quiet hx ?_)
            simp only [Bool.not_true, Bool.false_eq_true, if_false]
            refine wpAny_bind (κ.quiet hb ?_)
            simp only [Bool.not_true, Bool.false_eq_true, if_false]
            refine wpAny_bind (κ.ofNone hx ?_)
            simp only [Bool.false_eq_true, if_false]
            refine wpAny_bind (κ.ofNone hb ?_)
            simp only [Bool.false_eq_true, if_false]
            exact wpAny_pure ⟨rfl, rfl, h4⟩
        · obtain ⟨h1, rfl, _⟩ := hz
          obtain ⟨r1, r2⟩ := r
          dsimp only at h1
          subst h1
          refine wpAny_pure ?_
          refine wp_if_neg (by decide) ?_
          try refine wpAny_bind (wpAny_pure ?_)
          exact onward
        · obtain ⟨e, he, rfl⟩ := List.mem_map.mp hy
          have he2 : e ∈ es.toList := by
            have : e ∈ es ∧ e.1 = κ.hash k := by simpa using he
            simpa using this.1
          rw [R.rows] at he2
          obtain ⟨p2, hp2, rfl⟩ := List.mem_map.mp he2
          exact ⟨p2.2, p2.1, rfl, hL p2 hp2⟩
    · -- an empty slot
      have pr : t.probe (fun i => (es[i]?.map (·.1)).getD 0) (κ.hash k) (stand.getD (t.probeStart (κ.hash k))) = some (.empty (way t.mask (κ.hash k) N) none) := by
        rw [hst]
        have e := wj (N - c)
        rw [show c + (N - c) = N by omega] at e
        rw [← e]
        exact found
      rw [pr]
      dsimp only
      refine wpAny_pure (no fun hm => ?_)
      obtain ⟨p0, m0, e0⟩ := List.mem_map.mp hm
      obtain ⟨i0, hi0⟩ := List.getElem?_of_mem m0
      obtain ⟨d, d1, d2, d3⟩ := left i0 p0 hi0 e0
      exact skip (d - c) i0 (by omega) (by rw [wj, show c + (d - c) = d by omega]; exact d3) ((hash_at i0 p0 hi0).trans (congrArg κ.hash e0))
theorem seek_all (R : TSet κ s.heap a L es ep t) (hL : ∀ p ∈ L, κ.is s.heap p.2 p.1) {x : Addr} {k : α} (hx : κ.is s.heap k x) (hu : A.units < cLine) {Q : SetFound → Shared → Prop} (yes : k ∈ L.map (·.2) → Q (.there none) s)
    (no : ∀ N, k ∉ L.map (·.2) → way t.mask (κ.hash k) N ∉ t.place.toList → (∀ c, c < N → way t.mask (κ.hash k) c ∈ t.place.toList) → Q (.free (way t.mask (κ.hash k) N) false) s) :
    wpAny (model P w) A (setSearch a (.ref x) (κ.hash k) true) Q E s := by
  have hroom := R.room
  obtain ⟨N, hN, free, full⟩ := R.tab.first (by rw [List.length_map]; omega) (κ.hash k)
  have small : 10 * SetTable.turns t.mask ≤ 1420 := by
    unfold SetTable.turns
    rcases R.tab.mok with e | e | e <;> omega
  refine seek R hL hx hu hN free full yes (fun hn => no N hn free full) 100000 0 none rfl (Nat.zero_le _) (by omega) fun i p hp hk => ?_
  have h1 : (L.map fun p => κ.hash p.2)[i]? = some (κ.hash k) := by rw [List.getElem?_map, hp, ← hk]; rfl
  have h2 : i < t.place.toList.length := by
    rw [Array.length_toList, R.sz]
    exact (List.getElem?_eq_some_iff.mp hp).1
  obtain ⟨c, hc, e⟩ := R.tab.before free h1 (List.getElem?_eq_getElem h2)
  exact ⟨c, Nat.zero_le _, hc, by rw [e]; exact List.getElem?_eq_getElem h2⟩
end
end Sk
set_option Elab.async false
set_option linter.all false
set_option maxRecDepth 100000
set_option maxHeartbeats 2000000
namespace Sk
open PySem PySem.Spec PyProof.Rows L2
section
variable {P : Program} {w : World} {α : Type} [DecidableEq α] {κ : TKind P w α} {A : Around} {E : Value → Shared → Prop} {s : Shared} {a : Addr} {L : List (Addr × α)} {es : Array (Int × Value)} {ep : Nat} {t : SetTable}
/-- the rows in another order -/
theorem rows_order (L : List (Addr × α)) (es : Array (Int × Value)) (order : Array Nat) (hr : es.toList = rowsT κ L) (hp : order.toList.Perm (List.range L.length)) :
    ∃ L2, (order.filterMap (es[·]?)).toList = rowsT κ L2 ∧ L2.Perm L ∧ (L2.map fun p => κ.hash p.2) = order.toList.map fun i => (es.map (·.1)).getD i 0 := by
  have esz := rowsT_len hr
  have walk : ∀ l : List Nat, (∀ i ∈ l, i < L.length) → l.filterMap (fun i => es[i]?) = rowsT κ (l.filterMap fun i => L[i]?) ∧ ((l.filterMap fun i => L[i]?).map fun p => κ.hash p.2) = l.map fun i => (es.map (·.1)).getD i 0 := by
    intro l
    induction l with
    | nil => intro _; exact ⟨rfl, rfl⟩
    | cons i l ih =>
      intro hl
      have hi := hl i List.mem_cons_self
      have e0 := rowsT_at hr (List.getElem?_eq_getElem hi)
      obtain ⟨e1, e2⟩ := ih fun j hj => hl j (List.mem_cons_of_mem _ hj)
      rw [List.filterMap_cons_some e0, List.filterMap_cons_some (List.getElem?_eq_getElem hi), e1, List.map_cons, List.map_cons, e2]
      refine ⟨rfl, congrArg (· :: _) ?_⟩
      have e5 : (es.map (·.1))[i]? = some (κ.hash (L[i]).2) := by rw [Array.getElem?_map, e0]; rfl
      simp [Array.getD_eq_getD_getElem?, e5]
  have all : ∀ n, n ≤ L.length → (List.range n).filterMap (fun i => L[i]?) = L.take n := by
    intro n
    induction n with
    | zero => intro _; rfl
    | succ n ih =>
      intro hn
      rw [List.range_succ, List.filterMap_append, ih (Nat.le_of_succ_le hn), List.take_succ, List.getElem?_eq_getElem (show n < L.length from hn), List.filterMap_cons_some (List.getElem?_eq_getElem (show n < L.length from hn))]
      rfl
  obtain ⟨e1, e2⟩ := walk order.toList fun i hi => List.mem_range.mp (hp.mem_iff.mp hi)
  refine ⟨_, by simpa using e1, ?_, e2⟩
  have pm : (order.toList.filterMap fun i => L[i]?).Perm ((List.range L.length).filterMap fun i => L[i]?) := hp.filterMap _
  rwa [all L.length (Nat.le_refl _), List.take_length] at pm
/-- the table laid anew -/
theorem relay_t {o : Obj} (ho : s.heap.get? a = some o) (hex : o.ExactSet) (hd : o.data = .set es ep t) (hrows : es.toList = rowsT κ L) (hsz : t.place.size = L.length) (hdm : t.dummies = #[]) (hfl : L.length ≤ t.mask)
    (nd : (L.map (·.2)).Nodup) (ld : w.params.followText "set-order" = true ∨ t.led = true) (few : L.length < 64) {wanted M : Nat}
    (hw : SetTable.sizeAbove wanted - 1 = M) (hM : MaskOk M) (hw2 : SetTable.sizeAbove wanted ≤ 128) (hn : L.length * 5 < M * 3) {Q : Unit → Shared → Prop}
    (hQ : ∀ h' L' es' ep' t', Heap.SameBut a s.heap h' → TSet κ h' a L' es' ep' t' → L'.Perm L → Q () { s with heap := h' }) : wpAny (model P w) A (setRelay a wanted) Q E s := by
  have esz := rowsT_len hrows
  obtain ⟨t', order, e, hp, T, em, el, epl, ed⟩ := relaid_ok t (hs := es.map (·.1)) (wanted := wanted) hw hM (by rw [Array.size_map, esz]; omega)
  rw [Array.size_map, esz] at hp
  obtain ⟨L2, r1, r2, r3⟩ := rows_order L es order hrows hp
  rw [← r3] at T
  have s2 : (order.filterMap (es[·]?)).size = L.length := (rowsT_len r1).trans r2.length_eq
  rw [setRelay_eq]
  refine wpAny_bind (wpAny_setState_of ho hd (fits_of hsz hdm hrows hfl) ?_)
  dsimp only
  refine wp_if_neg (by rw [sizeLine_eq]; omega) ?_
  try refine wpAny_bind (wpAny_pure ?_)
  rw [e]
  dsimp only
  refine wpAny_bind ?_
  refine wp_if_neg (by rw [s2, esz]; simp) ?_
  try refine wpAny_bind (wpAny_pure ?_)
  refine wpAny_pure ?_
  dsimp only
  refine wpAny_storeSet_of ho hd ?_ (by rw [s2, sizeLine_eq]; omega)
  refine hQ _ L2 _ (ep + 1) t' (Heap.SameBut.update ..) ⟨⟨_, store_at ho hd, ⟨hex.1, hex.2.1, hex.2.2⟩, rfl⟩, r1, T, (r2.map (·.2)).nodup_iff.mpr nd, by rw [el]; exact ld, ?_, by rw [r2.length_eq]; exact few⟩ r2
  rw [r2.length_eq, em]
  exact hn
/-- one more -/
theorem add_t (R : TSet κ s.heap a L es ep t) (hL : ∀ p ∈ L, κ.is s.heap p.2 p.1) {x : Addr} {k : α} (hx : κ.is s.heap k x) (hu : A.units < cLine) (hfew : L.length + 1 < 64) {Q : Bool → Shared → Prop}
    (hQ : ∀ b h' L' es' ep' t', Heap.SameBut a s.heap h' → TSet κ h' a L' es' ep' t' → (k ∈ L.map (·.2) → L' = L) → (k ∉ L.map (·.2) → L'.Perm ((x, k) :: L)) → Q b { s with heap := h' }) :
    wpAny (model P w) A (setAddHashed a (.ref x) (κ.hash k)) Q E s := by
  obtain ⟨o, ho, hex, hd⟩ := R.ob
  have esz := rowsT_len R.rows
  have hroom := R.room
  unfold setAddHashed
  refine wpAny_holding ?_
  rw [show (100000 : Nat) = 99999 + 1 from rfl, setAddHashedIn_succ]
  refine wpAny_bind (wpAny_setState_of ho hd R.fits ?_)
  dsimp only
  refine wp_if_neg (by simp [byScan, Value.scannable]) ?_
  try refine wpAny_bind (wpAny_pure ?_)
  refine wpAny_bind (seek_all R hL hx hu (fun hm => ?_) fun N hm free full => ?_)
  · dsimp only
    exact wpAny_pure (hQ false s.heap L es ep t (Heap.SameBut.refl a s.heap) R (fun _ => rfl) fun z => absurd hm z)
  · dsimp only
    refine wpAny_bind (wpAny_setState_of ho hd R.fits ?_)
    dsimp only
    obtain ⟨q1, q2, q3, q4, q5, q6, q7, q8, q9⟩ := R.tab.put free full
    generalize hpt : t.put (way t.mask (κ.hash k) N) = pt at q1 q3 q4 q5 q6 q7 q8 q9 ⊢
    obtain ⟨t1, p⟩ := pt
    dsimp only at q1 q3 q4 q5 q6 q7 q8 q9 ⊢
    subst q1
    have hin : (SetTable.insertAt es (SetTable.below t.place (way t.mask (κ.hash k) N)) (κ.hash k, Value.ref x)).toList = rowsT κ (L.take (SetTable.below t.place (way t.mask (κ.hash k) N)) ++ (x, k) :: L.drop (SetTable.below t.place (way t.mask (κ.hash k) N))) := by
      rw [SetTable.toList_insertAt, R.rows]
      unfold rowsT
      rw [List.map_append, List.map_cons, List.map_take, List.map_drop]
    generalize SetTable.below t.place (way t.mask (κ.hash k) N) = p at q2 q3 hin ⊢
    have pm : (L.take p ++ (x, k) :: L.drop p).Perm ((x, k) :: L) := by
      have h : (L.take p ++ (x, k) :: L.drop p).Perm ((x, k) :: (L.take p ++ L.drop p)) := List.perm_middle
      rwa [List.take_append_drop] at h
    have hhs : (L.take p ++ (x, k) :: L.drop p).map (fun p => κ.hash p.2) = (L.map fun p => κ.hash p.2).take p ++ κ.hash k :: (L.map fun p => κ.hash p.2).drop p := by
      rw [List.map_append, List.map_cons, List.map_take, List.map_drop]
    rw [← hhs] at q3
    generalize L.take p ++ (x, k) :: L.drop p = L1 at pm q3 hin
    have hlen : L1.length = L.length + 1 := pm.length_eq
    have nd1 : (L1.map (·.2)).Nodup := (pm.map (·.2)).nodup_iff.mpr (List.nodup_cons.mpr ⟨hm, R.nd⟩)
    have es1z := rowsT_len hin
    generalize SetTable.insertAt es p (κ.hash k, Value.ref x) = es1 at hin es1z ⊢
    have ld1 : w.params.followText "set-order" = true ∨ t1.led = true := by rw [q5]; exact R.led
    have sz1 : t1.place.size = L1.length := by
      have h := q3.sz
      rwa [List.length_map] at h
    have full1 : t1.tooFull = true ↔ (L.length + 1) * 5 ≥ t.mask * 3 := by
      unfold SetTable.tooFull
      rw [decide_eq_true_eq, q9, List.length_map, q4]
    -- behind the element's own look, whether it hashes by value
    have rest : ∀ (b : Bool) (t2 : SetTable), t2 = (if b = true then t1 else { t1 with plain := false }) → wpAny (model P w) A (do
        storeSet a es1 t2
        if (!false && t2.tooFull) = true then setRelay a (SetTable.grown (es.size + 1))
        return true) Q E s := by
      intro b t2 e2
      have f1 : t2.place = t1.place := by rw [e2]; split <;> rfl
      have f2 : t2.dummies = t1.dummies := by rw [e2]; split <;> rfl
      have f3 : t2.mask = t1.mask := by rw [e2]; split <;> rfl
      have f4 : t2.led = t1.led := by rw [e2]; split <;> rfl
      have f5 : t2.tooFull = t1.tooFull := by rw [e2]; split <;> rfl
      have T2 : TabOk t2 (L1.map fun p => κ.hash p.2) := ⟨by rw [f1]; exact q3.ris, by rw [f2]; exact q3.dm, by rw [f1]; exact q3.sz, by rw [f3]; exact q3.mok, by rw [f1, f3]; exact q3.bd, by rw [f1, f3]; exact q3.reach⟩
      refine wpAny_bind (wpAny_storeSet_of ho hd ?_ (by rw [es1z, hlen, sizeLine_eq]; omega))
      have sb : Heap.SameBut a s.heap (s.heap.update a (Obj.putSet es1 t2)) := Heap.SameBut.update ..
      have ho1 := store_at (es' := es1) (t' := t2) ho hd
      generalize s.heap.update a (Obj.putSet es1 t2) = h1 at sb ho1 ⊢
      by_cases hf : t2.tooFull = true
      · have hfull := full1.mp (f5.symm.trans hf)
        have two : (t.mask = 7 ∧ L.length = 4) ∨ (t.mask = 31 ∧ L.length = 18) := by
          rcases R.tab.mok with e | e | e <;> rw [e] at hfull hroom
          · exact Or.inl ⟨e, by omega⟩
          · exact Or.inr ⟨e, by omega⟩
          · omega
        rw [esz]
        have anew : ∀ M, SetTable.sizeAbove (SetTable.grown (L.length + 1)) - 1 = M → MaskOk M → SetTable.sizeAbove (SetTable.grown (L.length + 1)) ≤ 128 → (L.length + 1) * 5 < M * 3 →
            wpAny (model P w) A (setRelay a (SetTable.grown (L.length + 1))) (fun _ s' => wpAny (model P w) A (pure true) Q E s') E { s with heap := h1 } := fun M m1 m2 m3 m4 => by
          refine relay_t (s := { s with heap := h1 }) ho1 ⟨hex.1, hex.2.1, hex.2.2⟩ rfl hin (by rw [f1]; exact sz1) T2.dm (by rw [hlen, f3, q4]; rcases two with ⟨_, _⟩ | ⟨_, _⟩ <;> omega) nd1 (by rw [f4]; exact ld1) (by rw [hlen]; exact hfew) m1 m2 m3 (by rw [hlen]; exact m4) ?_
          intro h2 L2 es2 ep2 t3 sb2 R2 pm2
          exact wpAny_pure (hQ true h2 L2 es2 ep2 t3 (sb.trans sb2) R2 (fun z => absurd z hm) fun _ => pm2.trans pm)
        first
          | (refine wpAny_bind ?_; refine wp_if_pos (by simp [hf]) ?_)
          | (refine wp_if_pos (by simp [hf]) ?_; refine wpAny_bind ?_)
        rcases two with ⟨_, e2⟩ | ⟨_, e2⟩
        · exact anew 31 (by rw [e2, size_20]) (.inr (.inl rfl)) (by rw [e2, size_20]; decide) (by omega)
        · exact anew 127 (by rw [e2, size_76]) (.inr (.inr rfl)) (by rw [e2, size_76]; decide) (by omega)
      · first
          | refine wp_if_neg (by simp [hf]) ?_
          | (refine wpAny_bind ?_; refine wp_if_neg (by simp [hf]) ?_; refine wpAny_pure ?_)
        refine wpAny_pure (hQ true h1 L1 es1 (ep + 1) t2 sb ⟨⟨_, ho1, ⟨hex.1, hex.2.1, hex.2.2⟩, rfl⟩, hin, T2, nd1, by rw [f4]; exact ld1, ?_, by rw [hlen]; exact hfew⟩ (fun z => absurd z hm) fun _ => pm)
        have nf : ¬ (L.length + 1) * 5 ≥ t.mask * 3 := fun z => hf (f5.trans (full1.mpr z))
        rw [hlen, f3, q4]
        omega
    by_cases hpl : t1.plain = true
    · first
        | (refine wpAny_bind ?_; refine wp_if_pos hpl ?_; refine κ.byVal hx fun b => ?_)
        | refine wp_if_pos hpl (wpAny_bind (κ.byVal hx fun b => ?_))
      cases b with
      | true => exact rest true _ rfl
      | false => exact rest false _ rfl
    · first
        | (refine wpAny_bind ?_; refine wp_if_neg hpl ?_; refine wpAny_pure ?_)
        | refine wp_if_neg hpl (wpAny_bind (wpAny_pure ?_))
      exact rest true _ rfl
end
end Sk
set_option Elab.async false
set_option linter.all false
set_option maxRecDepth 100000
set_option maxHeartbeats 2000000
namespace Sk
open PySem PySem.Spec PyProof.Rows L2
/-- a set that is empty and new -/
abbrev noneIn (w : World) : Obj := { cls := .type "set", dict := none, data := .set #[] 0 (.fresh 0 0 (!w.params.followText "set-order")) }
/-- how the items vs get into the set at a, one by one; h0: a heap all of whose objects stay -/
structure Adder (P : Program) (w : World) (h0 : Heap) (a : Addr) (vs : List Value) where
  St : Nat → Heap → Prop
  at' : ∀ {i : Nat} {h h' : Heap}, St i h → (∀ o, h.get? a = some o → h'.get? a = some o) → St i h'
  start : ∀ {h : Heap}, h.get? a = some (noneIn w) → St 0 h
  add : ∀ {A : Around} {E : Value → Shared → Prop} {s : Shared} {i : Nat} {v : Value} {Q : Bool → Shared → Prop}, A.units < cLine → vs[i]? = some v → (∀ b o, h0.get? b = some o → s.heap.get? b = some o) → St i s.heap →
    (∀ b h' tk, s.toks ≤ tk → Heap.SameBut a s.heap h' → St (i + 1) h' → Q b { s with heap := h', toks := tk }) → wpAny (model P w) A (setAdd a v) Q E s
section
variable {P : Program} {w : World} {A : Around} {E : Value → Shared → Prop} {s : Shared}
/-- set.update's loop over them -/
theorem fill {I S : Addr} {fp wr : List Addr} {G : Array GenState → Array GenState → Prop} {n : Nat} {Pv : Nat → Value → Prop} {Si : Nat → Shared → Prop} {R : Result → Shared → Prop} {h0 : Heap} {vs : List Value}
    (W : WalksS P w A.in1 I fp wr G n Pv Si) (hSf : S ∉ fp) (D : Adder P w h0 S vs) (hn : n = vs.length) (hval : ∀ i v, Pv i v → vs[i]? = some v) (hS0 : h0.get? S = none) (hw0 : ∀ b ∈ wr, h0.get? b = none) (hu : A.in1.units < cLine) (m : Nat) :
    ∀ (i : Nat) (s : Shared), n - i = m → i ≤ n → Si i s → (∀ b o, h0.get? b = some o → s.heap.get? b = some o) → D.St i s.heap →
      (∀ s', Moved (S :: wr) G s s' → D.St n s'.heap → (∀ b o, h0.get? b = some o → s'.heap.get? b = some o) → R (.ok (.ret .none)) s') →
      codeAny (model P w) A (.builtin "set.update.loop" ⟨[.ref S, .ref I], []⟩) R s := by
  have sub : ∀ b ∈ wr, b ∈ S :: wr := fun b hb => List.mem_cons_of_mem _ hb
  have nS : S ∉ wr := fun h => hSf (W.sub _ h)
  have old : ∀ {s s' : Shared}, Moved wr G s s' → (∀ b o, h0.get? b = some o → s.heap.get? b = some o) → ∀ b o, h0.get? b = some o → s'.heap.get? b = some o := fun hm k b o e =>
    hm.heap b o (fun hb => by rw [hw0 b hb] at e; cases e) (k b o e)
  induction m with
  | zero =>
    intro i s hm hi hst k0 d hR
    obtain rfl : i = n := by omega
    refine codeAny_builtin F.entry_set_update_loop ?_
    rw [Around.under_plainId F.plain_set_update_loop _]
    refine wpAny_bind (W.done s _ _ hst fun s' mv => ?_)
    exact wpAny_pure (hR s' (mv.mono sub) (D.at' d fun o e => mv.heap S o nS e) (old mv k0))
  | succ m ih =>
    intro i s hm hi hst k0 d hR
    have lt : i < n := by omega
    refine codeAny_builtin F.entry_set_update_loop ?_
    rw [Around.under_plainId F.plain_set_update_loop _]
    refine wpAny_bind (W.item i s _ _ lt hst fun v s' hP hst' mv => ?_)
    have k1 := old mv k0
    show wpAny _ A.in1 (holding [v] (setAdd S v) >>= _) _ _ s'
    refine wpAny_bind (wpAny_holding (D.add hu (hval i v hP) k1 (D.at' d fun o e => mv.heap S o nS e) fun b h' tk htk sb d' => ?_))
    have k2 : ∀ b o, h0.get? b = some o → h'.get? b = some o := fun b o e => (sb.2 b (fun z => by rw [z, hS0] at e; cases e)).trans (k1 b o e)
    refine wpAny_pure ⟨plainId_quiet F.plain_set_update_loop _, ih (i + 1) _ (by omega) lt (W.frame _ s' _ _ hst' htk fun b hb o e => ?_) k2 d' fun s'' mv2 d2 k3 => ?_⟩
    · exact (sb.2 b fun z => hSf (z ▸ hb)).trans e
    · refine hR s'' (Moved.trans W.gtrans ((mv.mono sub).then_heap htk fun b o hb e => ?_) mv2) d2 k3
      exact (sb.2 b fun z => hb (z ▸ List.mem_cons_self)).trans e


set_option maxHeartbeats 3200000 in
/-- set(xs), xs a list -/
theorem set_of_list {l : Addr} {items : Array Value} {vs : List Value} {Q : Value → Shared → Prop} (hv : items.toList = vs) (D : Adder P w s.heap s.heap.objs.size vs) (hh : A.handled = none) (hl : s.heap.IsList l items) (hu : A.units + 3 < cLine)
    (h : ∀ (h' : Heap) (tk : Nat), D.St vs.length h' → (∀ b o, s.heap.get? b = some o → h'.get? b = some o) → Q (.ref s.heap.objs.size) { s with heap := h', toks := tk }) :
    wpAny (model P w) A (call (.type "set") [.ref l]) Q E s := by
  have vz : items.size = vs.length := by rw [← hv, Array.length_toList]
  obtain ⟨c, tl, hmro⟩ := F.called_set.mro
  have hmade := F.called_set.made
  have hsub := F.called_set.sub
  refine wpAny_call (codeAny_of_tree ?_)
  show wpAny _ _ (callAny (.type "set") _) _ _ _
  refine wpAny_pure ⟨Code.quiet_builtin _ (by decide +kernel), codeAny_builtin F.entry_type_call ?_⟩
  rw [Around.under_plain (weight_type_call_type "set" [.ref l] []) rfl]
  have h1 := F.called_set.notType
  have h2 := F.called_set.canCreate
  have hct := F.typeCall_set_1 (.ref l)
  repeat (any_goals (first | assumption | wp_step))
  refine codeAny_mono (code_set_led1 (.ref l) (E := E) (Q₁ := fun ob z => ob = .ref s.heap.objs.size ∧ z = { s with heap := s.heap.push (noneIn w) }) ⟨rfl, rfl⟩) fun r z hr => ?_
  match r, hr with
  | .error e, hr => exact hr
  | .ok (.ret ob), hr =>
    obtain ⟨rfl, rfl⟩ := hr
    have hS : (s.heap.push (noneIn w)).get? s.heap.objs.size = some (noneIn w) := Heap.get?_push_size _ rfl
    have hT : Shared.TypeIs { s with heap := s.heap.push (noneIn w) } (.ref s.heap.objs.size) "set" := ⟨_, hS, rfl⟩
    have hli := F.called_set.init.lookup
    have hbi := F.called_set.init.bind (.ref s.heap.objs.size)
    repeat (any_goals (first | assumption | wp_step))
    refine codeAny_mono (codeAny_call_builtin (R := wants (fun r z => r = .none ∧ ∃ h' tk, z = { s with heap := h', toks := tk } ∧ D.St vs.length h' ∧ ∀ b o, s.heap.get? b = some o → h'.get? b = some o) E)
      F.called_set.init.plain F.entry_set_init (check_set_init_1 hT ?_)) fun r z hr => ?_
    · obtain ⟨ol, hol, hcl, nl, hdl⟩ := hl
      obtain ⟨ocls, odict, odata, oslots⟩ := ol
      simp only at hcl hdl
      subst hcl hdl
      have hl1 : (s.heap.push (noneIn w)).IsList l items := ⟨_, Heap.get?_push_of_some _ hol, rfl, nl, rfl⟩
      have hol' := Heap.get?_push_of_some (noneIn w) hol
      have hsls := F.sub_list_set
      have hslf := F.sub_list_frozenset
      have hne : (Value.type "list" == Value.type "dict") = false := by decide
      unfold Builtin.«set.__init__» noKeywords Builtin.Frozenset.updateFrom
      generalize hPI : pyIter = PI
      wp_walk
      subst hPI
      refine wpAny_pyIter_list hl1 ?_
      refine wpAny_bind (wpAny_runValue ?_)
      have lS : l < s.heap.objs.size := Heap.lt_size hol
      have psz : (s.heap.push (noneIn w)).objs.size = s.heap.objs.size + 1 := Heap.size_push ..
      have gone : ∀ b, s.heap.objs.size ≤ b → s.heap.get? b = none := fun b hb => by
        cases q : s.heap.get? b with
        | none => rfl
        | some o => exact absurd (Nat.lt_of_lt_of_le (Heap.lt_size q) hb) (Nat.lt_irrefl _)
      refine fill ((Walks.list (show A.in1.in1.in1.handled = none by simp [hh]) _ l (by rw [psz]; exact Nat.ne_of_lt (Nat.lt_succ_of_lt lS)) items).toS) (by
          rw [psz]
          simp only [List.mem_cons, List.mem_singleton, List.not_mem_nil, or_false, not_or]
          exact ⟨Nat.ne_of_lt (Nat.lt_succ_self _), Nat.ne_of_gt lS⟩) D vz (fun i v hi => by rw [← hv, Array.getElem?_toList]; exact hi) (gone _ (Nat.le_refl _))
        (fun b hb => gone b (by rw [List.mem_singleton.mp hb, psz]; exact Nat.le_succ _)) (by show A.units + 1 + 1 + 1 < cLine; omega) items.size 0 _ (by omega) (Nat.zero_le _) ⟨⟨_, Heap.get?_push_size _ rfl, rfl, rfl⟩, hl1.push _⟩
        (fun b o e => Heap.get?_push_of_some _ (Heap.get?_push_of_some _ e)) (D.start (Heap.get?_push_of_some _ hS)) fun z' mv d k => ?_
      obtain ⟨h', g2, d2, tk, os2⟩ := z'
      have eg : g2 = s.gens := mv.gens
      have ed : d2 = s.drawn := mv.drawn
      have eo : os2 = s.os := mv.os
      subst eg ed eo
      rw [vz] at d
      refine wpAny_pure ?_
      exact wpAny_pure ⟨rfl, h', tk, rfl, d, k⟩
    · match r, hr with
      | .error e, hr => exact hr
      | .ok (.ret r), hr =>
        obtain ⟨rfl, h', tk, rfl, d, k⟩ := hr
        repeat (any_goals (first | assumption | wp_step))
        exact h _ _ d k

set_option maxHeartbeats 3200000 in
/-- set(xs), xs a tuple -/
theorem set_of_tuple {l : Addr} {items : Array Value} {vs : List Value} {Q : Value → Shared → Prop} (hv : items.toList = vs) (D : Adder P w s.heap s.heap.objs.size vs) (hh : A.handled = none) (hl : s.heap.IsTuple l items) (hu : A.units + 3 < cLine)
    (h : ∀ (h' : Heap) (tk : Nat), D.St vs.length h' → (∀ b o, s.heap.get? b = some o → h'.get? b = some o) → Q (.ref s.heap.objs.size) { s with heap := h', toks := tk }) :
    wpAny (model P w) A (call (.type "set") [.ref l]) Q E s := by
  have vz : items.size = vs.length := by rw [← hv, Array.length_toList]
  obtain ⟨c, tl, hmro⟩ := F.called_set.mro
  have hmade := F.called_set.made
  have hsub := F.called_set.sub
  refine wpAny_call (codeAny_of_tree ?_)
  show wpAny _ _ (callAny (.type "set") _) _ _ _
  refine wpAny_pure ⟨Code.quiet_builtin _ (by decide +kernel), codeAny_builtin F.entry_type_call ?_⟩
  rw [Around.under_plain (weight_type_call_type "set" [.ref l] []) rfl]
  have h1 := F.called_set.notType
  have h2 := F.called_set.canCreate
  have hct := F.typeCall_set_1 (.ref l)
  repeat (any_goals (first | assumption | wp_step))
  refine codeAny_mono (code_set_led1 (.ref l) (E := E) (Q₁ := fun ob z => ob = .ref s.heap.objs.size ∧ z = { s with heap := s.heap.push (noneIn w) }) ⟨rfl, rfl⟩) fun r z hr => ?_
  match r, hr with
  | .error e, hr => exact hr
  | .ok (.ret ob), hr =>
    obtain ⟨rfl, rfl⟩ := hr
    have hS : (s.heap.push (noneIn w)).get? s.heap.objs.size = some (noneIn w) := Heap.get?_push_size _ rfl
    have hT : Shared.TypeIs { s with heap := s.heap.push (noneIn w) } (.ref s.heap.objs.size) "set" := ⟨_, hS, rfl⟩
    have hli := F.called_set.init.lookup
    have hbi := F.called_set.init.bind (.ref s.heap.objs.size)
    repeat (any_goals (first | assumption | wp_step))
    refine codeAny_mono (codeAny_call_builtin (R := wants (fun r z => r = .none ∧ ∃ h' tk, z = { s with heap := h', toks := tk } ∧ D.St vs.length h' ∧ ∀ b o, s.heap.get? b = some o → h'.get? b = some o) E)
      F.called_set.init.plain F.entry_set_init (check_set_init_1 hT ?_)) fun r z hr => ?_
    · obtain ⟨ol, hol, hcl, nl, hdl⟩ := hl
      obtain ⟨ocls, odict, odata, oslots⟩ := ol
      simp only at hcl hdl
      subst hcl hdl
      have hl1 : (s.heap.push (noneIn w)).IsTuple l items := ⟨_, Heap.get?_push_of_some _ hol, rfl, nl, rfl⟩
      have hol' := Heap.get?_push_of_some (noneIn w) hol
      have hsls := F.sub_tuple_set
      have hslf := F.sub_tuple_frozenset
      have hne : (Value.type "tuple" == Value.type "dict") = false := by decide
      unfold Builtin.«set.__init__» noKeywords Builtin.Frozenset.updateFrom
      generalize hPI : pyIter = PI
      wp_walk
      subst hPI
      refine wpAny_pyIter_tuple hl1 ?_
      refine wpAny_bind (wpAny_runValue ?_)
      have lS : l < s.heap.objs.size := Heap.lt_size hol
      have psz : (s.heap.push (noneIn w)).objs.size = s.heap.objs.size + 1 := Heap.size_push ..
      have gone : ∀ b, s.heap.objs.size ≤ b → s.heap.get? b = none := fun b hb => by
        cases q : s.heap.get? b with
        | none => rfl
        | some o => exact absurd (Nat.lt_of_lt_of_le (Heap.lt_size q) hb) (Nat.lt_irrefl _)
      refine fill ((Walks.tuple (show A.in1.in1.in1.handled = none by simp [hh]) _ l (by rw [psz]; exact Nat.ne_of_lt (Nat.lt_succ_of_lt lS)) items).toS) (by
          rw [psz]
          simp only [List.mem_cons, List.mem_singleton, List.not_mem_nil, or_false, not_or]
          exact ⟨Nat.ne_of_lt (Nat.lt_succ_self _), Nat.ne_of_gt lS⟩) D vz (fun i v hi => by rw [← hv, Array.getElem?_toList]; exact hi) (gone _ (Nat.le_refl _))
        (fun b hb => gone b (by rw [List.mem_singleton.mp hb, psz]; exact Nat.le_succ _)) (by show A.units + 1 + 1 + 1 < cLine; omega) items.size 0 _ (by omega) (Nat.zero_le _) ⟨⟨_, Heap.get?_push_size _ rfl, rfl, rfl⟩, hl1.push _⟩
        (fun b o e => Heap.get?_push_of_some _ (Heap.get?_push_of_some _ e)) (D.start (Heap.get?_push_of_some _ hS)) fun z' mv d k => ?_
      obtain ⟨h', g2, d2, tk, os2⟩ := z'
      have eg : g2 = s.gens := mv.gens
      have ed : d2 = s.drawn := mv.drawn
      have eo : os2 = s.os := mv.os
      subst eg ed eo
      rw [vz] at d
      refine wpAny_pure ?_
      exact wpAny_pure ⟨rfl, h', tk, rfl, d, k⟩
    · match r, hr with
      | .error e, hr => exact hr
      | .ok (.ret r), hr =>
        obtain ⟨rfl, h', tk, rfl, d, k⟩ := hr
        repeat (any_goals (first | assumption | wp_step))
        exact h _ _ d k
end
end Sk
set_option Elab.async false
set_option linter.all false
set_option maxRecDepth 100000
set_option maxHeartbeats 2000000
namespace Sk
open PySem PySem.Spec PyProof.Rows L2
/-! ### pairs of lists -/
theorem paired_perm {α β : Type} {R : α → β → Prop} {bs bs' : List β} (p : bs'.Perm bs) : ∀ {as : List α}, Paired R as bs → ∃ as', as'.Perm as ∧ Paired R as' bs' := by
  induction p with
  | nil => intro as h; exact ⟨as, List.Perm.refl _, h⟩
  | cons x _ ih =>
    intro as h
    cases h with
    | cons r t =>
      obtain ⟨as', p', h'⟩ := ih t
      exact ⟨_ :: as', p'.cons _, .cons r h'⟩
  | swap x y l =>
    intro as h
    cases h with
    | cons r t =>
      cases t with
      | cons r2 t2 => exact ⟨_ :: _ :: _, List.Perm.swap _ _ _, .cons r2 (.cons r t2)⟩
  | trans _ _ ih1 ih2 =>
    intro as h
    obtain ⟨a1, p1, h1⟩ := ih2 h
    obtain ⟨a2, p2, h2⟩ := ih1 h1
    exact ⟨a2, p2.trans p1, h2⟩
theorem paired_at {α β : Type} {R : α → β → Prop} : ∀ {as : List α} {bs : List β} {i : Nat} {b : β}, Paired R as bs → bs[i]? = some b → ∃ a, as[i]? = some a ∧ R a b
  | _, _, _, _, .nil, e => by simp at e
  | _, _, 0, _, .cons r _, e => by simp at e; subst e; exact ⟨_, rfl, r⟩
  | _, _, i + 1, b, .cons _ t, e => by
    obtain ⟨a, h1, h2⟩ := paired_at (i := i) (b := b) t (by simpa using e)
    exact ⟨a, by simpa using h1, h2⟩
theorem paired_len {α β : Type} {R : α → β → Prop} : ∀ {as : List α} {bs : List β}, Paired R as bs → as.length = bs.length
  | _, _, .nil => rfl
  | _, _, .cons _ t => congrArg (· + 1) (paired_len t)
theorem take_next' {α : Type} {l : List α} {i : Nat} {x : α} (h : l[i]? = some x) : l.take (i + 1) = l.take i ++ [x] := by
  rw [List.take_succ, h]
  rfl
/-- the keys got from the first i of ks -/
def GotK {α : Type} (ks : List α) (i : Nat) (L : List α) : Prop := L.Nodup ∧ L.length ≤ i ∧ ∀ k, k ∈ L ↔ k ∈ ks.take i
theorem GotK.next {α : Type} {ks L L' : List α} {i : Nat} {k : α} (g : GotK ks i L) (h : ks[i]? = some k) (hin : k ∈ L → L'.Perm L) (hout : k ∉ L → L'.Perm (k :: L)) : GotK ks (i + 1) L' := by
  obtain ⟨g1, g2, g3⟩ := g
  have tk := take_next' h
  by_cases c : k ∈ L
  · have p := hin c
    refine ⟨p.nodup_iff.mpr g1, by rw [p.length_eq]; omega, fun j => ?_⟩
    rw [p.mem_iff, g3, tk, List.mem_append, List.mem_singleton]
    exact ⟨Or.inl, fun z => z.elim id fun e => by rw [e]; exact (g3 k).mp c⟩
  · have p := hout c
    refine ⟨p.nodup_iff.mpr (List.nodup_cons.mpr ⟨c, g1⟩), by rw [p.length_eq, List.length_cons]; omega, fun j => ?_⟩
    rw [p.mem_iff, List.mem_cons, g3, tk, List.mem_append, List.mem_singleton]
    exact Or.comm
/-! ### what is asked of a set that is walked -/
structure Walkable (w : World) (h : Heap) (a : Addr) (es : Array (Int × Value)) : Prop where
  ex : ∃ ep t, SetAt h a es ep t ∧ t.fits es.size = true ∧ Ris t.place.toList ∧ (w.params.followText "set-order" = true ∨ t.led = true)
  few : es.size < scanBound

section
variable {P : Program} {w : World} {A : Around} {E : Value → Shared → Prop} {s : Shared}
/-! ### sets of numbers and texts -/
theorem keyIs_inj {x y : Key} {v : Value} (h : keyIs x v = true) (h' : keyIs y v = true) : x = y := by
  rcases keyIs_shape h with ⟨i, t, rfl, rfl⟩ | ⟨z, t, rfl, rfl⟩
  · rcases keyIs_shape h' with ⟨j, u, rfl, e⟩ | ⟨z, u, _, e⟩
    · injection e with e1 _
      rw [e1]
    · cases e
  · rcases keyIs_shape h' with ⟨j, u, _, e⟩ | ⟨y, u, rfl, e⟩
    · cases e
    · injection e with e1 _
      rw [e1]
def FElem (e : Int × Value) (k : Key) : Prop := keyIs k e.2 = true ∧ e.1 = keyH w k ∧ e.2.scannable = true
/-- the set at a has the keys L -/
structure SetF (w : World) (h : Heap) (a : Addr) (L : List Key) : Prop where
  ex : ∃ o es ep t, h.get? a = some o ∧ o.ExactSet ∧ o.data = .set es ep t ∧ Paired (fun k e => FElem (w := w) e k) L es.toList ∧ es.size < scanBound ∧ t.fits es.size = true ∧ Ris t.place.toList ∧ (w.params.followText "set-order" = true ∨ t.led = true)
theorem felems : ∀ {L : List Key} {l : List (Int × Value)}, Paired (fun k e => FElem (w := w) e k) L l → ElemsOf (mixKind P w) l
  | _, _, .nil => fun e he => absurd he List.not_mem_nil
  | _, _, .cons r t => fun e he => by
    rcases List.mem_cons.mp he with rfl | he
    · exact ⟨⟨_, r.1, r.2.1⟩, r.2.2⟩
    · exact felems t e he
theorem felem_key {e : Int × Value} {k j : Key} (h : FElem (w := w) e k) : keyIs j e.2 = true ↔ j = k := ⟨fun z => keyIs_inj z h.1, fun z => by rw [z]; exact h.1⟩

theorem findIdx_key {k : Key} : ∀ {L : List Key} {l : List (Int × Value)}, Paired (fun k e => FElem (w := w) e k) L l → (l.findIdx? fun e => keyIs k e.2) = L.findIdx? fun j => decide (j = k)
  | _, _, .nil => rfl
  | _, _, .cons (a := j) (b := e) r t => by
    rw [List.findIdx?_cons, List.findIdx?_cons, findIdx_key t]
    have q : keyIs k e.2 = decide (j = k) := by
      by_cases c : j = k
      · rw [decide_eq_true c]
        exact (felem_key r).mpr c.symm
      · rw [decide_eq_false c]
        cases z : keyIs k e.2 with
        | false => rfl
        | true => exact absurd ((felem_key r).mp z).symm c
    rw [q]
theorem stored {h : Heap} {a : Addr} {o : Obj} {es es' : Array (Int × Value)} {ep : Nat} {t t' : SetTable} {L' : List Key} (ho : h.get? a = some o) (hex : o.ExactSet) (hd : o.data = .set es ep t)
    (hp : Paired (fun k e => FElem (w := w) e k) L' es'.toList) (hb : es'.size < scanBound) (hf : t'.fits es'.size = true) (hr : Ris t'.place.toList) (hl : w.params.followText "set-order" = true ∨ t'.led = true) :
    SetF w (h.update a (Obj.putSet es' t')) a L' := ⟨_, es', ep + 1, t', store_at ho hd, ⟨hex.1, hex.2.1, hex.2.2⟩, rfl, hp, hb, hf, hr, hl⟩
/-- one more -/
theorem add_f {a : Addr} {L : List Key} (R : SetF w s.heap a L) {v : Value} {k : Key} (hk : keyIs k v = true) (hfew : L.length + 1 < scanBound) {Q : Bool → Shared → Prop}
    (hQ : ∀ b h' L', Heap.SameBut a s.heap h' → SetF w h' a L' → (k ∈ L → L'.Perm L) → (k ∉ L → L'.Perm (k :: L)) → Q b { s with heap := h' }) :
    wpAny (model P w) A (setAddHashed a v (keyH w k)) Q E s := by
  obtain ⟨o, es, ep, t, ho, hex, hd, hp, hb, hf, hr, hl⟩ := R.ex
  have hsc : v.scannable = true := by
    rcases keyIs_shape hk with ⟨i, u, _, rfl⟩ | ⟨z, u, _, rfl⟩ <;> rfl
  have hel : ElemsOf (mixKind P w) es.toList := felems hp
  have esz : es.size = L.length := by rw [← Array.length_toList, paired_len hp]
  show wpAny (model P w) A (setAddHashed a v ((mixKind P w).hash k)) Q E s
  unfold setAddHashed setAddHashedIn
  refine wpAny_holding (wpAny_bind (wpAny_setState_of ho hd hf ?_))
  dsimp only
  rw [byScan_of hsc hb hel]
  simp only [↓reduceIte]
  unfold setAddByScan
  refine wpAny_bind (wpAny_bind (wpAny_rule (wpAny_bind (wpAny_setScan_of (knd := mixKind P w) hk ho hd hf hel ?_))))
  have ix := findIdx_key (k := k) hp
  rw [show (fun e : Int × Value => (mixKind P w).is k e.2) = fun e => keyIs k e.2 from rfl, ix]
  cases hi : L.findIdx? fun j => decide (j = k) with
  | some j =>
    dsimp only
    obtain ⟨hj, pj, _⟩ := List.findIdx?_eq_some_iff_getElem.mp hi
    have km : k ∈ L := by
      rw [← of_decide_eq_true pj]
      exact List.getElem_mem hj
    exact wpAny_pure (wpAny_pure (hQ false s.heap L (Heap.SameBut.refl a s.heap) R (fun _ => List.Perm.refl _) fun z => absurd km z))
  | none =>
    dsimp only
    have kn : k ∉ L := fun z => by
      have c := List.findIdx?_eq_none_iff.mp hi k z
      rw [decide_eq_true rfl] at c
      cases c
    have gw : ∀ (b : Bool) {z : Shared} {Q' : Unit → Shared → Prop}, Q' () z → wpAny (model P w) A (match b with | true => rule "set.scan.the-table-gave-way" | false => pure ()) Q' E z :=
      fun b z Q' q => by cases b <;> first | exact wpAny_pure q | exact wpAny_rule q
    have pm := layNew_perm t es ((mixKind P w).hash k) v
    have f1 := layNew_fits t es ((mixKind P w).hash k) v
    have r1 := layNew_ris t es ((mixKind P w).hash k) v hr
    have l1 := layNew_led t es ((mixKind P w).hash k) v
    generalize layNew t es ((mixKind P w).hash k) v = Z at pm f1 r1 l1 ⊢
    obtain ⟨es1, t1, wasDummy, gave⟩ := Z
    dsimp only at pm f1 r1 l1 ⊢
    rw [Array.toList_push] at pm
    have snoc : Paired (fun k e => FElem (w := w) e k) (L ++ [k]) (es.toList ++ [((mixKind P w).hash k, v)]) := hp.snoc ⟨hk, rfl, hsc⟩
    obtain ⟨L1, p1, h1⟩ := paired_perm pm snoc
    have pL : L1.Perm (k :: L) := p1.trans (List.perm_append_singleton _ _)
    have es1z : es1.size = L.length + 1 := by rw [← Array.length_toList, ← paired_len h1, pL.length_eq, List.length_cons]
    have ld1 : w.params.followText "set-order" = true ∨ t1.led = true := hl.imp id fun z => by rw [l1]; exact z
    have rest : ∀ (b : Bool) (t2 : SetTable), t2 = (if b = true then t1 else { t1 with plain := false }) → wpAny (model P w) A (do
        storeSet a es1 t2
        if (!wasDummy && t2.tooFull) = true then do
            (match (relayAll t2 es1 (SetTable.grown es1.size)).2.2 with | true => rule "set.scan.the-table-gave-way" | false => pure ())
            storeSet a (relayAll t2 es1 (SetTable.grown es1.size)).1 (relayAll t2 es1 (SetTable.grown es1.size)).2.1
            pure (some true)
          else pure (some true)) (fun r z => wpAny (model P w) A (match r with | some added => pure added | none => setAddHashedIn a v ((mixKind P w).hash k) 99999) Q E z) E s := by
      intro b t2 e2
      have c1 : t2.place = t1.place := by rw [e2]; split <;> rfl
      have c2 : t2.led = t1.led := by rw [e2]; split <;> rfl
      have c3 : t2.fits es1.size = true := by rw [e2]; split <;> first | exact f1 | exact SetTable.fits_plain_off f1
      have sb : Heap.SameBut a s.heap (s.heap.update a (Obj.putSet es1 t2)) := Heap.SameBut.update ..
      have hb1 : es1.size < scanBound := by rw [es1z]; exact hfew
      refine wpAny_bind (wpAny_storeSet_of ho hd ?_ (fits_of_scanBound hb1))
      have ho1 := store_at (es' := es1) (t' := t2) ho hd
      have fin1 : SetF w (s.heap.update a (Obj.putSet es1 t2)) a L1 := stored ho hex hd h1 hb1 c3 (by rw [c1]; exact r1) (by rw [c2]; exact ld1)
      by_cases hfull : (!wasDummy && t2.tooFull) = true
      · refine wp_if_pos hfull ?_
        have q1 := relayAll_perm t2 es1 (SetTable.grown es1.size)
        have q2 := relayAll_fits t2 es1 (SetTable.grown es1.size)
        have q3 := relayAll_ris t2 es1 (SetTable.grown es1.size)
        have q4 := relayAll_led t2 es1 (SetTable.grown es1.size)
        generalize relayAll t2 es1 (SetTable.grown es1.size) = Z at q1 q2 q3 q4 ⊢
        obtain ⟨es2, t3, gave3⟩ := Z
        dsimp only at q1 q2 q3 q4 ⊢
        obtain ⟨L2, p2, h2⟩ := paired_perm q1 h1
        have es2z : es2.size = es1.size := by rw [← Array.length_toList, q1.length_eq, Array.length_toList]
        have hb2 : es2.size < scanBound := by rw [es2z]; exact hb1
        refine wpAny_bind (gw _ ?_)
        refine wpAny_bind (wpAny_storeSet_of ho1 rfl ?_ (fits_of_scanBound hb2))
        refine wpAny_pure (wpAny_pure (hQ true _ L2 (sb.trans (Heap.SameBut.update _ a _)) (stored ho1 ⟨hex.1, hex.2.1, hex.2.2⟩ rfl h2 hb2 q2 q3 (by rw [q4, c2]; exact ld1)) (fun z => absurd z kn) fun _ => p2.trans pL))
      · refine wp_if_neg hfull ?_
        exact wpAny_pure (wpAny_pure (hQ true _ L1 sb fin1 (fun z => absurd z kn) fun _ => pL))
    refine wpAny_bind (gw _ ?_)
    by_cases hpl : t1.plain = true
    · first
        | (refine wpAny_bind ?_; refine wp_if_pos hpl ?_; rw [hashByValue_scannable 8 hsc]; refine wpAny_pure ?_)
        | (refine wp_if_pos hpl ?_; refine wpAny_bind ?_; rw [hashByValue_scannable 8 hsc]; refine wpAny_pure ?_)
      exact rest (plainKind v) _ rfl
    · first
        | (refine wpAny_bind ?_; refine wp_if_neg hpl ?_; refine wpAny_pure ?_)
        | refine wp_if_neg hpl (wpAny_bind (wpAny_pure ?_))
      exact rest true _ rfl
end
end Sk
set_option Elab.async false
set_option linter.all false
set_option maxRecDepth 100000
set_option maxHeartbeats 2000000
/-! sorting: lists, sets and dicts of numbers, texts, and tuples of these -/
namespace Sk
open PySem PySem.Spec PyProof.Rows L2
/-- a kind of values that can be sorted -/
structure SrtK (P : Program) (w : World) (h : Heap) (good : Value → Prop) where
  κ : PyProof.Rows.KeyKind
  kd : SortKind
  keys : ∀ v, good v → ∃ a, κ.keyOf v = some a
  lt : ∀ s2 : Shared, KeepT h s2.heap → PyProof.Rows.G.LtAt P w s2 κ kd
  kk : ∀ vs : List Value, (∀ v ∈ vs, good v) → 2 ≤ vs.length → ∀ (A : Around) (E : Value → Shared → Prop) (s2 : Shared) {Q : SortKind → Shared → Prop}, KeepT h s2.heap → Q kd s2 → wpAny (model P w) A (keyKind' vs.toArray) Q E s2
def SrtK.keep {P : Program} {w : World} {h h' : Heap} {good : Value → Prop} (S : SrtK P w h good) (k : KeepT h h') : SrtK P w h' good where
  κ := S.κ
  kd := S.kd
  keys := S.keys
  lt := fun s2 k2 => S.lt s2 (k.trans k2)
  kk := fun vs hv h2 A E s2 Q k2 hq => S.kk vs hv h2 A E s2 (k.trans k2) hq
/-- the first is not behind the other -/
def Upto (κ : PyProof.Rows.KeyKind) (u v : Value) : Prop := ∀ a b, κ.keyOf u = some a → κ.keyOf v = some b → κ.kle a b
theorem pairs_eq {vs : List Value} {p : Keyed} (h : p ∈ vs.zip vs) : p.1 = p.2 ∧ p.2 ∈ vs := by
  induction vs with
  | nil => cases h
  | cons v r ih =>
    rw [List.zip_cons_cons] at h
    rcases List.mem_cons.mp h with rfl | h
    · exact ⟨rfl, List.mem_cons_self⟩
    · exact ⟨(ih h).1, List.mem_cons_of_mem _ (ih h).2⟩
/-- what the sort's end says of the values -/
theorem out_of {κ : PyProof.Rows.KeyKind} {arr : Array Keyed} {vs : List Value} (hp : arr.Perm (pairsOf vs)) (hs : SortedToK κ arr (pairsOf vs).size) : (arr.map (·.2)).toList.Perm vs ∧ (arr.map (·.2)).toList.Pairwise (Upto κ) := by
  have hl : arr.toList.Perm (vs.zip vs) := by
    have := hp.toList
    rwa [pairsOf_toList] at this
  have heq : ∀ p ∈ arr.toList, p.1 = p.2 := fun p hp => (pairs_eq (hl.mem_iff.mp hp)).1
  have hsz : (pairsOf vs).size = arr.size := hp.size_eq.symm
  refine ⟨?_, ?_⟩
  · rw [Array.toList_map]
    have z := hl.map Prod.snd
    rwa [List.map_snd_zip (Nat.le_refl _)] at z
  · rw [Array.toList_map, List.pairwise_map, List.pairwise_iff_getElem]
    intro i j hi hj hij a b ha hb
    rw [Array.length_toList] at hi hj
    have q := hs i j (Nat.le_of_lt hij) (by rw [hsz]; exact hj)
    have ei : arr.toList[i] = arr[i] := Array.getElem_toList _
    have ej : arr.toList[j] = arr[j] := Array.getElem_toList _
    rw [ei] at ha
    rw [ej] at hb
    have e1 : KK κ arr i = a := by
      unfold KK
      rw [Array.getElem?_eq_getElem hi]
      dsimp only
      rw [heq arr[i] (by rw [← ei]; exact List.getElem_mem _), ha]
      rfl
    have e2 : KK κ arr j = b := by
      unfold KK
      rw [Array.getElem?_eq_getElem hj]
      dsimp only
      rw [heq arr[j] (by rw [← ej]; exact List.getElem_mem _), hb]
      rfl
    rwa [e1, e2] at q
section
variable {P : Program} {w : World} {A : Around} {E : Value → Shared → Prop} {s : Shared}
/-- sorted(x), by what x is collected to -/
theorem sorted_by {x : Value} {Q : Value → Shared → Prop}
    (hc : ∀ {R : List Value → Shared → Prop}, (∀ (s1 : Shared) (vs : List Value) (good : Value → Prop) (S : SrtK P w s1.heap good), (∀ v ∈ vs, good v) → vs.length ≤ sizeLine →
      (∀ (out : Array Value) (c : Nat) (h' : Heap), (∀ b o, s1.heap.get? b = some o → h'.get? b = some o) → h'.get? s1.heap.objs.size = some (seqObj "list" out c) → out.toList.Perm vs → out.toList.Pairwise (Upto S.κ) → Q (.ref s1.heap.objs.size) { s1 with heap := h' }) → R vs s1) →
      wpAny (model P w) A.in1 (collect x) R E s) :
    wpAny (model P w) A (call (.builtin "sorted") [x]) Q E s := by
  refine Calls.call_function_entry kind_sorted plain_sorted entry_sorted (args_sorted1 _) ?_
  unfold Builtin.«sorted»
  refine wpAny_bind (m := checkCount "sorted" 1 1 _) (wpAny_pure ?_)
  refine wpAny_bind (hc fun s1 vs good S hg hz h => ?_)
  refine wpAny_bind (wpAny_newList ?_ hz)
  have ho : (s1.heap.push (seqObj "list" vs.toArray 0)).get? s1.heap.objs.size = some (seqObj "list" vs.toArray 0) := Heap.get?_push_size _ rfl
  have k0 : KeepT s1.heap (s1.heap.push (seqObj "list" vs.toArray 0)) := KeepT.all fun b o e => Heap.get?_push_of_some _ e
  have k6 : KeepT s1.heap (PyProof.Rows.G.sortHeap6 (s1.heap.push (seqObj "list" vs.toArray 0)) s1.heap.objs.size vs) := k0.trans (PyProof.Rows.G.keeps_sort6 (vs := vs) ho)
  refine wpAny_bind (wpAny_holding (wpAny_call_entry slot_list_sort ⟨_, ho, rfl⟩ entry_list_sort (PyProof.Rows.G.list_sort_treeG (s := { s1 with heap := s1.heap.push (seqObj "list" vs.toArray 0) }) (κ := S.κ) (kd := S.kd) ho (fun p hp => ?_) (S.lt _ k6) (fun h2 Q' hq => S.kk vs hg h2 _ _ _ k6 hq) hz fun st a1 a2 a3 => ⟨_, rfl, ?_⟩) (args_list_sort _)))
  · rw [pairsOf_toList] at hp
    obtain ⟨e1, e2⟩ := pairs_eq hp
    rw [e1]
    exact S.keys _ (hg _ e2)
  · obtain ⟨q1, q2⟩ := out_of a1 a2
    obtain ⟨c, hc⟩ := sortedHeap_at (vs := vs) (out := (arrOf st).map (·.2)) ho
    refine wpAny_pure ⟨_, rfl, h _ c _ (fun b o e => ?_) hc q1 q2⟩
    have lt := Heap.lt_size e
    rw [sortedHeap_old (Nat.ne_of_lt lt) (by rw [size_push']; exact Nat.lt_succ_of_lt lt)]
    exact Heap.get?_push_of_some _ e
/-! ### kinds -/
/-- numbers -/
def srtI (P : Program) (w : World) (h : Heap) : SrtK P w h (fun v => ∃ i t, v = Value.int i t) where
  κ := PyProof.Rows.intKind
  kd := oneType'
  keys := fun v hv => by obtain ⟨i, t, rfl⟩ := hv; exact ⟨i, rfl⟩
  lt := fun s2 _ A E x y a b Q ha hb hq => intKind_oneLt P w A E s2 x y a b ha hb hq
  kk := fun vs hv h2 A E s2 Q _ hq => by
    have all : ∀ vs : List Value, (∀ v ∈ vs, ∃ i t, v = Value.int i t) → ∃ ns, IntsAre vs ns := by
      intro vs
      induction vs with
      | nil => intro _; exact ⟨[], .nil⟩
      | cons v r ih =>
        intro hv
        obtain ⟨i, t, rfl⟩ := hv v List.mem_cons_self
        obtain ⟨ns, hn⟩ := ih fun u hu => hv u (List.mem_cons_of_mem _ hu)
        exact ⟨_, .cons i t hn⟩
    obtain ⟨ns, hn⟩ := all vs hv
    match vs, h2, hn with
    | v1 :: v2 :: r, _, hn =>
      rw [keyKind_ints hn]
      exact wpAny_pure hq
/-- texts -/
def srtS (P : Program) (w : World) (h : Heap) : SrtK P w h (fun v => ∃ x t, v = Value.str x t) where
  κ := PyProof.Rows.strKind
  kd := oneType'
  keys := fun v hv => by obtain ⟨x, t, rfl⟩ := hv; exact ⟨_, rfl⟩
  lt := fun s2 _ A E x y a b Q ha hb hq => strKind_oneLt P w A E s2 x y a b ha hb hq
  kk := fun vs hv h2 A E s2 Q _ hq => by
    have all : ∀ vs : List Value, (∀ v ∈ vs, ∃ x t, v = Value.str x t) → ∃ ss, StrsAre vs ss := by
      intro vs
      induction vs with
      | nil => intro _; exact ⟨[], .nil⟩
      | cons v r ih =>
        intro hv
        obtain ⟨x, t, rfl⟩ := hv v List.mem_cons_self
        obtain ⟨ss, hs⟩ := ih fun u hu => hv u (List.mem_cons_of_mem _ hu)
        exact ⟨_, .cons x t hs⟩
    obtain ⟨ss, hs⟩ := all vs hv
    match vs, h2, hs with
    | v1 :: v2 :: r, _, hs =>
      rw [keyKind_strs hs]
      exact wpAny_pure hq
/-- a key as it is ordered -/
def kc : Key → Int ⊕ List Nat
  | .inl i => .inl i
  | .inr x => .inr x.cps.toList
/-- the places of the texts -/
def Shape (sh : Nat → Bool) (k : List Key) : Prop := ∀ i x, k[i]? = some x → sh i = x.isRight
theorem tupItems_of {P : Program} {w : World} {sh : Nat → Bool} : ∀ {k : List Key} {vs : List Value} {n : Nat}, ItemsAre (mixKind P w) k vs → (∀ i x, k[i]? = some x → sh (n + i) = x.isRight) → PyProof.Rows.tupItems sh n vs = some (k.map kc)
  | _, _, _, .nil, _ => rfl
  | x :: k, _, n, .cons h t, hs => by
    have ih := tupItems_of (n := n + 1) t fun i y e => by
      have := hs (i + 1) y (by simpa using e)
      rwa [show n + 1 + i = n + (i + 1) by omega]
    have h0 := hs 0 x rfl
    rw [Nat.add_zero] at h0
    rcases keyIs_shape h with ⟨i, u, rfl, rfl⟩ | ⟨y, u, rfl, rfl⟩
    · unfold tupItems
      rw [if_neg (by rw [h0]; simp), ih]
      rfl
    · unfold tupItems
      rw [if_pos (by rw [h0]; rfl), ih]
      rfl
def goodT (P : Program) (w : World) (h : Heap) (sh : Nat → Bool) (v : Value) : Prop := ∃ a k, v = Value.ref a ∧ IsTupleKey (mixKind P w) h k a ∧ Shape sh k ∧ k ≠ []
theorem tupKey_of {h : Heap} {sh : Nat → Bool} {a : Addr} {k : List Key} (ht : IsTupleKey (mixKind P w) h k a) (hs : Shape sh k) : PyProof.Rows.G.tupKeyC h sh (.ref a) = some (k.map kc) := by
  obtain ⟨o, xs, n, ho, hc, hd, hi⟩ := ht
  unfold PyProof.Rows.G.tupKeyC
  have e1 : PyProof.Rows.G.isTupObj h (.ref a) = true := by
    unfold PyProof.Rows.G.isTupObj
    simp [ho, hc]
  rw [if_pos e1]
  unfold PyProof.Rows.tupKey
  simp only [ho, hd]
  exact tupItems_of hi fun i x e => by rw [Nat.zero_add]; exact hs i x e
theorem tups_of {h : Heap} {sh : Nat → Bool} : ∀ {vs : List Value}, (∀ v ∈ vs, goodT P w h sh v) → ∃ fs, PyProof.Rows.TupsOf h sh vs fs
  | [], _ => ⟨[], .nil⟩
  | v :: r, hv => by
    obtain ⟨fs, hf⟩ := tups_of fun u hu => hv u (List.mem_cons_of_mem _ hu)
    obtain ⟨a, k, rfl, ⟨o, xs, n, ho, hc, hd, hi⟩, hs, hne⟩ := hv v List.mem_cons_self
    match k, xs, hi, hne with
    | x :: k, ⟨f :: ys⟩, .cons h1 t, _ =>
      refine ⟨f :: fs, .cons ⟨a, o, _, n, rfl, ho, hc, hd, by simp, fun z => ?_, fun z => ?_⟩ hf⟩
      · have h0 := hs 0 x rfl
        rw [z] at h0
        rcases keyIs_shape h1 with ⟨i, u, rfl, rfl⟩ | ⟨y, u, rfl, rfl⟩
        · exact ⟨i, u, rfl⟩
        · cases h0
      · have h0 := hs 0 x rfl
        rw [z] at h0
        rcases keyIs_shape h1 with ⟨i, u, rfl, rfl⟩ | ⟨y, u, rfl, rfl⟩
        · cases h0
        · exact ⟨y, u, rfl⟩
/-- tuples of one form -/
def srtT (P : Program) (w : World) (h : Heap) (sh : Nat → Bool) : SrtK P w h (goodT P w h sh) where
  κ := PyProof.Rows.G.tupKindC h sh
  kd := tuples' true
  keys := fun v hv => by obtain ⟨a, k, rfl, ht, hs, _⟩ := hv; exact ⟨_, tupKey_of ht hs⟩
  lt := fun s2 k => PyProof.Rows.G.tupC_ltAt (s := s2) true k
  kk := fun vs hv h2 A E s2 Q k hq => by
    obtain ⟨fs, hf⟩ := tups_of hv
    exact PyProof.Rows.tup_kind (s := s2) (by rw [PyProof.Rows.G.TupsOf.length hf]; omega) (PyProof.Rows.G.TupsOf.keep k hf) hq
end
end Sk
set_option Elab.async false
set_option linter.all false
set_option maxRecDepth 100000
set_option maxHeartbeats 2000000
/-! sorted(set(e)), len(set(e)) -/
namespace Sk
open PySem PySem.Spec PyProof.Rows L2
section
variable {P : Program} {w : World}
/-! ### how items get in -/
def adderF {h0 : Heap} {a : Addr} {vs : List Value} (ks : List Key) (hk : Paired (fun k v => keyIs k v = true) ks vs) (hn : ks.length + 1 < scanBound) : Adder P w h0 a vs where
  St := fun i h => ∃ L, SetF w h a L ∧ GotK ks i L
  at' := fun x k => by
    obtain ⟨L, ⟨o, es, ep, t, ho, r⟩, g⟩ := x
    exact ⟨L, ⟨o, es, ep, t, k o ho, r⟩, g⟩
  start := fun ho => ⟨[], ⟨_, #[], 0, _, ho, ⟨rfl, rfl, rfl⟩, rfl, .nil, by decide, rfl, List.Pairwise.nil, by
    show _ ∨ (!w.params.followText "set-order") = true
    cases w.params.followText "set-order"
    · exact .inr rfl
    · exact .inl rfl⟩, List.nodup_nil, Nat.le_refl _, fun k => by simp⟩
  add := fun {A E s i v Q} hu hv hk0 x q => by
    obtain ⟨L, R, g⟩ := x
    obtain ⟨k, hki, hkv⟩ := paired_at hk hv
    have il : i < ks.length := (List.getElem?_eq_some_iff.mp hki).1
    unfold setAdd
    refine wpAny_holding (wpAny_bind ((mixKind P w).pyHash hkv ?_))
    refine add_f (by exact R) hkv (by have := g.2.1; omega) fun b h' L' sb R' c1 c2 => ?_
    refine q b h' _ ?_ sb ⟨L', R', g.next hki c1 c2⟩
    first | exact Nat.le_succ _ | exact Nat.le_refl _ | exact Nat.le_add_right _ _
def adderT {α : Type} [DecidableEq α] (κ : TKind P w α) {h0 : Heap} {a : Addr} (ks : List (Addr × α)) (hk : ∀ p ∈ ks, κ.is h0 p.2 p.1) (hn : ks.length < 64) : Adder P w h0 a (ks.map fun p => Value.ref p.1) where
  St := fun i h => ∃ L es ep t, TSet κ h a L es ep t ∧ (∀ p ∈ L, p ∈ ks) ∧ GotK (ks.map (·.2)) i (L.map (·.2))
  at' := fun x k => by
    obtain ⟨L, es, ep, t, R, g⟩ := x
    obtain ⟨o, ho, r⟩ := R.ob
    exact ⟨L, es, ep, t, ⟨⟨o, k o ho, r⟩, R.rows, R.tab, R.nd, R.led, R.room, R.few⟩, g⟩
  start := fun ho => ⟨[], #[], 0, _, ⟨⟨_, ho, ⟨rfl, rfl, rfl⟩, rfl⟩, rfl, ⟨List.Pairwise.nil, rfl, rfl, .inl rfl, fun x hx => absurd hx List.not_mem_nil, fun i h j hi => by simp at hi⟩, List.nodup_nil, by
    show _ ∨ (!w.params.followText "set-order") = true
    cases w.params.followText "set-order"
    · exact .inr rfl
    · exact .inl rfl, by show 0 * 5 < 7 * 3; decide, by show 0 < 64; decide⟩, fun p hp => absurd hp List.not_mem_nil, List.nodup_nil, Nat.le_refl _, fun k => by simp⟩
  add := fun {A E s i v Q} hu hv hk0 x q => by
    obtain ⟨L, es, ep, t, R, sub, g⟩ := x
    rw [List.getElem?_map] at hv
    cases hp : ks[i]? with
    | none => rw [hp] at hv; cases hv
    | some p =>
      rw [hp] at hv
      obtain rfl := Option.some.inj hv
      have il : i < ks.length := (List.getElem?_eq_some_iff.mp hp).1
      have isH : ∀ p ∈ ks, κ.is s.heap p.2 p.1 := fun p hp => κ.stay (hk p hp) (KeepT.all hk0)
      have hpm := List.mem_of_getElem? hp
      have hki : (ks.map (·.2))[i]? = some p.2 := by rw [List.getElem?_map, hp]; rfl
      have gl := g.2.1
      rw [List.length_map] at gl
      unfold setAdd
      refine wpAny_holding (wpAny_bind (κ.hashes hu (isH p hpm) fun tk htk => ?_))
      refine add_t (s := { s with toks := tk }) R (fun q hq => isH q (sub q hq)) (isH p hpm) hu (by omega) fun b h' L' es' ep' t' sb R' c1 c2 => ?_
      refine q b h' _ htk sb ⟨L', es', ep', t', R', fun q hq => ?_, g.next hki (fun c => by rw [c1 c]) fun c => (c2 c).map (·.2)⟩
      by_cases c : p.2 ∈ L.map (·.2)
      · rw [c1 c] at hq
        exact sub q hq
      · rcases List.mem_cons.mp ((c2 c).mem_iff.mp hq) with rfl | z
        · exact hpm
        · exact sub q z
/-- the pieces that a walk over a set wants, and the elements by their keys -/
structure Elems (w : World) (h : Heap) (a : Addr) {α : Type} (R : α → Value → Prop) (ks L : List α) : Prop where
  ex : ∃ o es ep t, h.get? a = some o ∧ o.ExactSet ∧ o.data = .set es ep t ∧ t.fits es.size = true ∧ es.size < scanBound ∧ Ris t.place.toList ∧ (w.params.followText "set-order" = true ∨ t.led = true) ∧ Paired R L (es.toList.map (·.2))
  nd : L.Nodup
  mem : ∀ k, k ∈ L ↔ k ∈ ks
theorem elemsF {h0 h : Heap} {a : Addr} {vs : List Value} {ks : List Key} {hk : Paired (fun k v => keyIs k v = true) ks vs} {hn : ks.length + 1 < scanBound} (x : (adderF (P := P) (w := w) (h0 := h0) (a := a) ks hk hn).St vs.length h) :
    ∃ L, Elems w h a (fun k v => keyIs k v = true) ks L := by
  obtain ⟨L, ⟨o, es, ep, t, ho, hex, hd, hp, hb, hf, hr, hl⟩, g1, g2, g3⟩ := x
  have val : ∀ {L : List Key} {l : List (Int × Value)}, Paired (fun k e => FElem (w := w) e k) L l → Paired (fun k v => keyIs k v = true) L (l.map (·.2)) := by
    intro L l h
    induction h with
    | nil => exact .nil
    | cons r _ ih => exact .cons r.1 ih
  refine ⟨L, ⟨o, es, ep, t, ho, hex, hd, hf, hb, hr, hl, val hp⟩, g1, fun k => ?_⟩
  rw [g3, ← paired_len hk, List.take_length]
theorem elemsT {α : Type} [DecidableEq α] {κ : TKind P w α} {h0 h : Heap} {a : Addr} {ks : List (Addr × α)} {hk : ∀ p ∈ ks, κ.is h0 p.2 p.1} {hn : ks.length < 64} (x : (adderT κ (h0 := h0) (a := a) ks hk hn).St ks.length h) :
    ∃ L, Elems w h a (fun k v => ∃ b, v = Value.ref b ∧ (b, k) ∈ ks) (ks.map (·.2)) L := by
  obtain ⟨L, es, ep, t, R, sub, g1, g2, g3⟩ := x
  obtain ⟨o, ho, hex, hd⟩ := R.ob
  have val : ∀ L : List (Addr × α), (∀ p ∈ L, p ∈ ks) → Paired (fun k v => ∃ b, v = Value.ref b ∧ (b, k) ∈ ks) (L.map (·.2)) (L.map fun p => Value.ref p.1) := by
    intro L
    induction L with
    | nil => intro _; exact .nil
    | cons p r ih => intro hs; exact .cons ⟨p.1, rfl, hs p List.mem_cons_self⟩ (ih fun q hq => hs q (List.mem_cons_of_mem _ hq))
  have ev : es.toList.map (·.2) = L.map fun p => Value.ref p.1 := by
    rw [R.rows, rowsT, List.map_map]
    rfl
  refine ⟨L.map (·.2), ⟨o, es, ep, t, ho, hex, hd, R.fits, by rw [rowsT_len R.rows]; have := R.few; unfold scanBound; omega, R.tab.ris, R.led, by rw [ev]; exact val L sub⟩, g1, fun k => ?_⟩
  rw [g3, show List.take ks.length (ks.map (·.2)) = ks.map (·.2) from List.take_of_length_le (by rw [List.length_map]; exact Nat.le_refl _)]
/-- sorted of a set -/
theorem sorted_elems {A : Around} {E : Value → Shared → Prop} {s : Shared} {a : Addr} {α : Type} {R : α → Value → Prop} {ks L : List α} {Q : Value → Shared → Prop} (hh : A.handled = none) (x : Elems w s.heap a R ks L)
    (good : Value → Prop) (S : SrtK P w s.heap good) (hgood : ∀ k v, k ∈ L → R k v → good v)
    (h : ∀ (p : Addr) (out : Array Value) (c : Nat) (s' : Shared) (L' : List α), (∀ b o, s.heap.get? b = some o → s'.heap.get? b = some o) → s'.gens = s.gens → s'.os = s.os → s.heap.objs.size ≤ p → s'.heap.get? p = some (seqObj "list" out c) →
      L'.Perm L → Paired R L' out.toList → out.toList.Pairwise (Upto S.κ) → Q (.ref p) s') : wpAny (model P w) A (call (.builtin "sorted") [.ref a]) Q E s := by
  obtain ⟨o, es, ep, t, ho, hex, hd, hf, hb, hr, hl, hp⟩ := x.ex
  refine sorted_by fun {R'} hR => ?_
  refine collect_set (A := A.in1) hh ⟨o, ho, hex.1, hd⟩ hf hb hr hl fun s1 vs k1 z1 g1 o1 pm => ?_
  obtain ⟨L1, p1, h1⟩ := paired_perm pm hp
  have kt1 : KeepT s.heap s1.heap := KeepT.all k1
  refine hR s1 vs good (S.keep kt1) (fun v hv => ?_) ?_ fun out c h' k2 hget pm2 pw => ?_
  · obtain ⟨i, hi⟩ := List.getElem?_of_mem hv
    obtain ⟨k, hkm, hk⟩ := paired_at h1 hi
    exact hgood k v (p1.mem_iff.mp (List.mem_of_getElem? hkm)) hk
  · rw [pm.length_eq, List.length_map, Array.length_toList]
    exact Nat.le_of_lt (Nat.lt_of_lt_of_le hb (by rw [sizeLine_eq]; unfold scanBound; omega))
  · obtain ⟨L2, p2, h2⟩ := paired_perm pm2 h1
    exact h s1.heap.objs.size out c { s1 with heap := h' } L2 (fun b o e => k2 b o (k1 b o e)) g1 o1 z1 hget (p2.trans p1) h2 pw
end
end Sk
set_option Elab.async false
set_option linter.all false
set_option maxRecDepth 100000
set_option maxHeartbeats 2000000
/-! rules: sorted(set(e)), len(set(e)), sorted(xs) of tuples -/
namespace Sk
open PySem PySem.Spec PyProof.Rows L2
theorem nodup_le {α : Type} [DecidableEq α] : ∀ (l D : List α), l.Nodup → (∀ x ∈ l, x ∈ D) → l.length ≤ D.length
  | [], _, _, _ => Nat.zero_le _
  | x :: l, D, h, hs => by
    rw [List.nodup_cons] at h
    have hx := hs x List.mem_cons_self
    have e := nodup_le l (D.erase x) h.2 fun y hy => (List.mem_erase_of_ne (fun z => h.1 (by rw [← z]; exact hy))).mpr (hs y (List.mem_cons_of_mem _ hy))
    rw [List.length_erase_of_mem hx] at e
    have := List.length_pos_of_mem hx
    rw [List.length_cons]
    omega
/-- x is a tuple of these numbers and texts -/
def TupV (K : PySem.W.Frag) (H : Hp) (k : List Key) (x : V) : Prop := ∃ t, x = .ref t ∧ SqT K H t (k.map kV)
/-- either a list or a tuple -/
def Sq (K : PySem.W.Frag) (H : Hp) (a : Addr) (xs : List V) : Prop := SqL K H a xs ∨ SqT K H a xs
/-- texts in order -/
def slt (x y : Str) : Prop := x.cps.toList < y.cps.toList
/-- tuples in order: not behind -/
def tle (a b : List Key) : Prop := PyProof.Rows.lexLt itemOrd (b.map kc) (a.map kc) = false
theorem keys_of_vals : ∀ {ks : List Key} {us : List Value}, Vals (ks.map kV) us → Paired (fun k v => keyIs k v = true) ks us
  | [], _, .nil => .nil
  | .inl i :: ks, _, .cons r t => by
    obtain ⟨u, rfl⟩ := r
    exact .cons (keyIs_int i u) (keys_of_vals t)
  | .inr x :: ks, _, .cons r t => by
    obtain ⟨u, rfl⟩ := r
    exact .cons (keyIs_str x u) (keys_of_vals t)
theorem vals_of_keys : ∀ {ks : List Key} {us : List Value}, Paired (fun k v => keyIs k v = true) ks us → Vals (ks.map kV) us
  | _, _, .nil => .nil
  | k :: ks, _, .cons h t => by
    refine .cons ?_ (vals_of_keys t)
    rcases keyIs_shape h with ⟨i, u, rfl, rfl⟩ | ⟨x, u, rfl, rfl⟩
    · exact ⟨u, rfl⟩
    · exact ⟨u, rfl⟩
theorem items_of_keys {P : Program} {w : World} : ∀ {ks : List Key} {us : List Value}, Paired (fun k v => keyIs k v = true) ks us → ItemsAre (mixKind P w) ks us
  | _, _, .nil => .nil
  | _, _, .cons h t => .cons h (items_of_keys t)
section
variable {X : Cx} {pins : List (Addr × Obj)} {σ : L2.St} {H : Hp} {s : Shared}
theorem Inv.tupKey (I : Inv X pins σ H s) {t : Addr} {k : List Key} (h : SqT X.K H t (k.map kV)) : IsTupleKey (mixKind X.prog X.w) s.heap k t := by
  obtain ⟨its, r, ⟨o, ho, hc, n, hd⟩, _⟩ := I.tuple h
  exact ⟨o, its.toArray, n, ho, hc, hd, by simpa using items_of_keys (keys_of_vals r)⟩
/-- set(xs) runs: its elements by their keys; nothing else is changed -/
theorem run_setF {a : Addr} {ks : List Key} {Q : Value → Shared → Prop} (hc : X.calm = true) (hu : X.A.units + 64 < cLine) (I : Inv X pins σ H s) (hs : Sq X.K H a (ks.map kV)) (hn : ks.length + 1 < scanBound)
    (h : ∀ (p : Addr) (s' : Shared) (L : List Key), Inv X pins σ H s' → Elems X.w s'.heap p (fun k v => keyIs k v = true) ks L → Q (.ref p) s') : wpAny (model X.prog X.w) X.A (call (.type "set") [.ref a]) Q X.xe s := by
  rcases hs with hs | hs
  · obtain ⟨its, rv, pl, _⟩ := I.list hs
    refine set_of_list (vs := its) rfl (adderF ks (keys_of_vals rv) hn) (I.ok.hd hc) pl.isList (by omega) fun h' tk d k => ?_
    obtain ⟨L, e⟩ := elemsF d
    exact h _ _ L (I.kept k) e
  · obtain ⟨its, rv, pl, _⟩ := I.tuple hs
    refine set_of_tuple (vs := its) rfl (adderF ks (keys_of_vals rv) hn) (I.ok.hd hc) ?_ (by omega) fun h' tk d k => ?_
    · obtain ⟨o, ho, hcl, n, hd⟩ := pl
      exact ⟨o, ho, hcl, n, hd⟩
    obtain ⟨L, e⟩ := elemsF d
    exact h _ _ L (I.kept k) e
theorem refs_of {K : PySem.W.Frag} {T : List Key → V → Prop} (hT : ∀ k y, T k y → TupV K H k y) : ∀ {ks : List (List Key)} {xs : List V} {us : List Value}, Paired T ks xs → Vals xs us → ∃ ps : List (Addr × List Key), us = ps.map (fun p => Value.ref p.1) ∧ xs = ps.map (fun p => V.ref p.1) ∧ ks = ps.map (·.2) ∧ ∀ p ∈ ps, SqT K H p.1 (p.2.map kV) ∧ T p.2 (.ref p.1)
  | _, _, _, .nil, .nil => ⟨[], rfl, rfl, rfl, fun p hp => absurd hp List.not_mem_nil⟩
  | k :: _, _, _, .cons h t, .cons r v => by
    obtain ⟨ps, e1, e2, e3, e4⟩ := refs_of hT t v
    have h0 := h
    obtain ⟨a, rfl, ha⟩ := hT _ _ h
    obtain rfl : _ = Value.ref a := r
    refine ⟨(a, k) :: ps, by rw [e1]; rfl, by rw [e2]; rfl, by rw [e3]; rfl, fun p hp => ?_⟩
    rcases List.mem_cons.mp hp with rfl | hp
    · exact ⟨ha, h0⟩
    · exact e4 p hp
theorem run_setT {T : List Key → V → Prop} {a : Addr} {ks : List (List Key)} {xs : List V} {Q : Value → Shared → Prop} (hc : X.calm = true) (hu : X.A.units + 64 < cLine) (I : Inv X pins σ H s) (hs : Sq X.K H a xs) (hT : ∀ k y, T k y → TupV X.K H k y) (hk : Paired T ks xs) (hn : ks.length < 64)
    (h : ∀ (p : Addr) (s' : Shared) (L : List (List Key)) (ps : List (Addr × List Key)), ks = ps.map (·.2) → Inv X pins σ H s' → (∀ q ∈ ps, T q.2 (.ref q.1) ∧ SqT X.K H q.1 (q.2.map kV)) → Elems X.w s'.heap p (fun k v => ∃ b, v = Value.ref b ∧ (b, k) ∈ ps) ks L → Q (.ref p) s') : wpAny (model X.prog X.w) X.A (call (.type "set") [.ref a]) Q X.xe s := by
  have main : ∀ its : List Value, Vals xs its → ∃ ps : List (Addr × List Key), its = ps.map (fun p => Value.ref p.1) ∧ ks = ps.map (·.2) ∧ (∀ q ∈ ps, T q.2 (.ref q.1) ∧ SqT X.K H q.1 (q.2.map kV)) ∧ ∀ p ∈ ps, (mixT X.prog X.w).is s.heap p.2 p.1 := fun its rv => by
    obtain ⟨ps, e1, e2, e3, e4⟩ := refs_of hT hk rv
    exact ⟨ps, e1, e3, fun q hq => ⟨(e4 q hq).2, (e4 q hq).1⟩, fun p hp => Inv.tupKey I (e4 p hp).1⟩
  rcases hs with hs | hs
  · obtain ⟨its, rv, pl, _⟩ := I.list hs
    obtain ⟨ps, rfl, rfl, e4, e5⟩ := main its rv
    rw [List.length_map] at hn
    refine set_of_list rfl (adderT (mixT X.prog X.w) ps e5 hn) (I.ok.hd hc) pl.isList (by omega) fun h' tk d k => ?_
    rw [List.length_map] at d
    obtain ⟨L, e⟩ := elemsT d
    exact h _ _ L ps rfl (I.kept k) e4 e
  · obtain ⟨its, rv, pl, _⟩ := I.tuple hs
    obtain ⟨ps, rfl, rfl, e4, e5⟩ := main its rv
    rw [List.length_map] at hn
    refine set_of_tuple rfl (adderT (mixT X.prog X.w) ps e5 hn) (I.ok.hd hc) ?_ (by omega) fun h' tk d k => ?_
    · obtain ⟨o, ho, hcl, n, hd⟩ := pl
      exact ⟨o, ho, hcl, n, hd⟩
    rw [List.length_map] at d
    obtain ⟨L, e⟩ := elemsT d
    exact h _ _ L ps rfl (I.kept k) e4 e
/-- behind sorted: a new list -/
theorem sorted_back {Q : VK} {p : Addr} {out : Array Value} {c : Nat} {s' : Shared} {ys : List V} (I : Inv X pins σ H s) (k : ∀ b o, s.heap.get? b = some o → s'.heap.get? b = some o) (g : s'.gens = s.gens) (o : s'.os = s.os) (hp : s.heap.objs.size ≤ p)
    (hg : s'.heap.get? p = some (seqObj "list" out c)) (hv : Vals ys out.toList) (hz : ys.length ≤ sizeLine) (q : H p = none → Q (.ref p) (upd H p (.lst ys))) : EP X pins σ Q (.ref p) s' := by
  have hn : H p = none := I.hok.fresh hp
  have J : Inv X pins σ (upd H p (.lst ys)) { s with heap := s'.heap, gens := s'.gens, drawn := s'.drawn, toks := s'.toks } :=
    I.call (ch := []) (Un.laid k hp hn) (I.hok.laid k hp ⟨hz, out.toList, c, hv, hg⟩) (by rw [g]; exact I.bare) (fun _ z => absurd z List.not_mem_nil)
  have e : s' = { s with heap := s'.heap, gens := s'.gens, drawn := s'.drawn, toks := s'.toks } := by
    cases s'
    cases s
    cases o
    rfl
  rw [e]
  exact ⟨.ref p, _, J, rfl, q hn⟩
end
/-! ### the rules -/
def tSortSetI (K : PySem.W.Frag) (te : TE) : TE := fun σ H Q => te σ H fun x H1 => ∃ (a : Addr) (ns : List Int), x = .ref a ∧ Sq K H1 a (ns.map V.int) ∧ ns.length < 4000 ∧
  ∀ (ms : List Int) (p : Addr), ms.Pairwise (· < ·) → (∀ k, k ∈ ms ↔ k ∈ ns) → H1 p = none → Q (.ref p) (upd H1 p (.lst (ms.map V.int)))
def tSortSetS (K : PySem.W.Frag) (te : TE) : TE := fun σ H Q => te σ H fun x H1 => ∃ (a : Addr) (ns : List Str), x = .ref a ∧ Sq K H1 a (ns.map V.str) ∧ ns.length < 4000 ∧
  ∀ (ms : List Str) (p : Addr), ms.Pairwise slt → (∀ k, k ∈ ms ↔ k ∈ ns) → H1 p = none → Q (.ref p) (upd H1 p (.lst (ms.map V.str)))
def tSortSetT (K : PySem.W.Frag) (te : TE) : TE := fun σ H Q => te σ H fun x H1 => ∃ (T : List Key → V → Prop) (a : Addr) (xs : List V) (ks : List (List Key)) (sh : Nat → Bool), (∀ k y, T k y → TupV K H1 k y) ∧ x = .ref a ∧ Sq K H1 a xs ∧ Paired T ks xs ∧ ks.length < 64 ∧ (∀ k ∈ ks, Shape sh k ∧ k ≠ []) ∧
  ∀ (ls : List (List Key)) (ys : List V) (p : Addr), ls.Nodup → ls.Pairwise tle → (∀ k, k ∈ ls ↔ k ∈ ks) → Paired T ls ys → H1 p = none → Q (.ref p) (upd H1 p (.lst ys))
section
variable {X : Cx} {a : Expr} {ta : TE} {p p2 q pos : Pos}
theorem lt_of_upto {ms : List Int} {us : List Value} (h : Paired (fun k v => keyIs k v = true) (ms.map Sum.inl) us) (hp : us.Pairwise (Upto PyProof.Rows.intKind)) (nd : (ms.map (Sum.inl : Int → Key)).Nodup) : ms.Pairwise (· < ·) := by
  induction us generalizing ms with
  | nil =>
    match ms, h with
    | [], _ => exact .nil
  | cons u us ih =>
    match ms, h with
    | m :: ms, .cons h1 t =>
      rw [List.map_cons, List.nodup_cons] at nd
      rw [List.pairwise_cons] at hp
      refine .cons (fun m' hm => ?_) (ih t hp.2 nd.2)
      obtain ⟨i, hi⟩ := List.getElem?_of_mem hm
      have hne : m ≠ m' := fun e => nd.1 (by rw [e]; exact List.mem_map.mpr ⟨m', hm, rfl⟩)
      have hi2 : (ms.map (Sum.inl : Int → Key))[i]? = some (Sum.inl m') := by rw [List.getElem?_map, hi] <;> rfl
      have il : i < us.length := by rw [← paired_len t, List.length_map]; exact (List.getElem?_eq_some_iff.mp hi).1
      obtain ⟨k2, hk2, r2⟩ := paired_at t (List.getElem?_eq_getElem il)
      rw [hi2] at hk2
      obtain rfl := Option.some.inj hk2
      have z := hp.1 us[i] (List.getElem_mem il)
      rcases keyIs_shape h1 with ⟨j, u1, e1, rfl⟩ | ⟨x, u1, e1, _⟩
      · rcases keyIs_shape r2 with ⟨j2, u2, e2, e3⟩ | ⟨x, u2, e2, _⟩
        · injection e1 with e1
          injection e2 with e2
          subst e1 e2
          have y := z m m' rfl (by rw [e3] <;> rfl)
          have y2 : decide (m' < m) = false := y
          have := of_decide_eq_false y2
          omega
        · cases e2
      · cases e1
theorem slt_of_upto {ms : List Str} {us : List Value} (h : Paired (fun k v => keyIs k v = true) (ms.map Sum.inr) us) (hp : us.Pairwise (Upto PyProof.Rows.strKind)) (nd : (ms.map (Sum.inr : Str → Key)).Nodup) : ms.Pairwise slt := by
  induction us generalizing ms with
  | nil =>
    match ms, h with
    | [], _ => exact .nil
  | cons u us ih =>
    match ms, h with
    | m :: ms, .cons h1 t =>
      rw [List.map_cons, List.nodup_cons] at nd
      rw [List.pairwise_cons] at hp
      refine .cons (fun m' hm => ?_) (ih t hp.2 nd.2)
      obtain ⟨i, hi⟩ := List.getElem?_of_mem hm
      have hne : m ≠ m' := fun e => nd.1 (by rw [e]; exact List.mem_map.mpr ⟨m', hm, rfl⟩)
      have hi2 : (ms.map (Sum.inr : Str → Key))[i]? = some (Sum.inr m') := by rw [List.getElem?_map, hi] <;> rfl
      have il : i < us.length := by rw [← paired_len t, List.length_map]; exact (List.getElem?_eq_some_iff.mp hi).1
      obtain ⟨k2, hk2, r2⟩ := paired_at t (List.getElem?_eq_getElem il)
      rw [hi2] at hk2
      obtain rfl := Option.some.inj hk2
      have z := hp.1 us[i] (List.getElem_mem il)
      rcases keyIs_shape h1 with ⟨j, u1, e1, _⟩ | ⟨x, u1, e1, rfl⟩
      · cases e1
      · rcases keyIs_shape r2 with ⟨j2, u2, e2, _⟩ | ⟨x2, u2, e2, e3⟩
        · cases e2
        · injection e1 with e1
          injection e2 with e2
          subst e1 e2
          have y := z m.cps.toList m'.cps.toList rfl (by rw [e3] <;> rfl)
          have y2 : decide (m'.cps.toList < m.cps.toList) = false := y
          have y3 := of_decide_eq_false y2
          rcases List.le_iff_lt_or_eq.mp (List.not_lt.mp y3) with c | c
          · exact c
          · refine absurd ?_ hne
            cases m
            cases m'
            congr 1
            exact Array.toList_inj.mp c

theorem upto_tle {h : Heap} {sh : Nat → Bool} {P : Program} {w : World} {ps : List (Addr × List Key)} (hps : ∀ q ∈ ps, IsTupleKey (mixKind P w) h q.2 q.1 ∧ Shape sh q.2) : ∀ {ls : List (List Key)} {us : List Value}, Paired (fun k v => ∃ b, v = Value.ref b ∧ (b, k) ∈ ps) ls us →
    us.Pairwise (Upto (PyProof.Rows.G.tupKindC h sh)) → ls.Pairwise tle
  | _, _, .nil, _ => .nil
  | k :: ls, _, .cons (l₂ := us) h1 t, hp => by
    rw [List.pairwise_cons] at hp
    refine .cons (fun k' hk' => ?_) (upto_tle hps t hp.2)
    obtain ⟨i, hi⟩ := List.getElem?_of_mem hk'
    have il : i < us.length := by rw [← paired_len t]; exact (List.getElem?_eq_some_iff.mp hi).1
    obtain ⟨k2, hk2, b2, e2, m2⟩ := paired_at t (List.getElem?_eq_getElem il)
    rw [hi] at hk2
    obtain rfl := Option.some.inj hk2
    obtain ⟨b, rfl, m1⟩ := h1
    have z := hp.1 _ (List.getElem_mem il)
    rw [e2] at z
    exact z _ _ (tupKey_of (hps _ m1).1 (hps _ m1).2) (tupKey_of (hps _ m2).1 (hps _ m2).2)
/-- sorted(set(e)), numbers -/
theorem pe_sortSetI (hc : X.calm = true) (hu : X.A.units + 64 < cLine) (hg : Gl X "sorted") (hm : X.mg "sorted" = none) (hg2 : Gl X "set") (hm2 : X.mg "set" = none) (ha : PE X a ta)
    (na : starEach [a] X.env = (false, eval a X.env) :: starEach [] X.env := by rfl) : PE X (.Call (.Name "sorted" p) [.Call (.Name "set" p2) [a] [] q] [] pos) (tSortSetI X.K ta) := by
  refine ⟨fun pins s σ H Q I h => ?_⟩
  refine Call_ (ld_blt I hg hm (by decide +kernel : bootBuiltins "sorted" = some (.builtin "sorted")) ?_)
  refine PyProof.Rows.callWith_builtin1 (PyProof.Rows.args_cons ?_ rfl) rfl rfl
  refine Call_ (ld_blt I hg2 hm2 PyProof.Rows.boot_set ?_)
  refine PyProof.Rows.callWith_type1 (PyProof.Rows.args_cons (thn (ha.run pins s σ H _ I h) fun v s1 z => PyProof.Rows.args_nil ?_) na) na rfl
  obtain ⟨x, H1, I1, r1, l, ns, rfl, hs, hn, k⟩ := z
  cases r1
  refine run_setF (ks := ns.map Sum.inl) hc hu I1 (by rw [List.map_map]; exact hs) (by rw [List.length_map]; unfold scanBound; omega) fun S s2 L I2 el => PyProof.Rows.args_nil ?_
  have hin : ∀ k, k ∈ L → ∃ m ∈ ns, k = Sum.inl m := fun k hk => by
    obtain ⟨m, h1, h2⟩ := List.mem_map.mp ((el.mem k).mp hk)
    exact ⟨m, h1, h2.symm⟩
  refine sorted_elems (I2.ok.hd hc) el (fun v => ∃ i t, v = Value.int i t) (srtI X.prog X.w s2.heap) (fun k v hk hv => ?_) fun p out c s' L' k1 g1 o1 hp hget pm hpair hpw => ?_
  · obtain ⟨m, _, rfl⟩ := hin k hk
    rcases keyIs_shape hv with ⟨i, u, e, rfl⟩ | ⟨i, u, e, rfl⟩ <;> first | exact ⟨i, u, rfl⟩ | cases e
  · have form : ∀ L' : List Key, (∀ k ∈ L', ∃ m ∈ ns, k = Sum.inl m) → ∃ ms : List Int, L' = ms.map Sum.inl := by
      intro L'
      induction L' with
      | nil => intro _; exact ⟨[], rfl⟩
      | cons k r ih =>
        intro hk
        obtain ⟨m, _, rfl⟩ := hk k List.mem_cons_self
        obtain ⟨ms, rfl⟩ := ih fun j hj => hk j (List.mem_cons_of_mem _ hj)
        exact ⟨m :: ms, rfl⟩
    obtain ⟨ms, rfl⟩ := form L' fun k hk => hin k (pm.mem_iff.mp hk)
    have nd := pm.nodup_iff.mpr el.nd
    have vv : Vals (ms.map V.int) out.toList := by
      have z := vals_of_keys hpair
      rwa [List.map_map] at z
    have mem : ∀ m, m ∈ ms ↔ m ∈ ns := fun m => by
      have z := (pm.mem_iff (a := Sum.inl m)).trans (el.mem (Sum.inl m))
      simpa using z
    have small : ms.length ≤ ns.length := by
      have nd2 : ms.Nodup := List.Pairwise.imp (fun h e => h (congrArg _ e)) (List.pairwise_map.mp nd)
      exact nodup_le ms ns nd2 fun m hm => (mem m).mp hm
    refine sorted_back I2 k1 g1 o1 hp hget vv (by rw [List.length_map, sizeLine_eq]; omega) fun hn2 => k ms p (lt_of_upto hpair hpw nd) mem hn2
/-- sorted(set(e)), texts -/
theorem pe_sortSetS (hc : X.calm = true) (hu : X.A.units + 64 < cLine) (hg : Gl X "sorted") (hm : X.mg "sorted" = none) (hg2 : Gl X "set") (hm2 : X.mg "set" = none) (ha : PE X a ta)
    (na : starEach [a] X.env = (false, eval a X.env) :: starEach [] X.env := by rfl) : PE X (.Call (.Name "sorted" p) [.Call (.Name "set" p2) [a] [] q] [] pos) (tSortSetS X.K ta) := by
  refine ⟨fun pins s σ H Q I h => ?_⟩
  refine Call_ (ld_blt I hg hm (by decide +kernel : bootBuiltins "sorted" = some (.builtin "sorted")) ?_)
  refine PyProof.Rows.callWith_builtin1 (PyProof.Rows.args_cons ?_ rfl) rfl rfl
  refine Call_ (ld_blt I hg2 hm2 PyProof.Rows.boot_set ?_)
  refine PyProof.Rows.callWith_type1 (PyProof.Rows.args_cons (thn (ha.run pins s σ H _ I h) fun v s1 z => PyProof.Rows.args_nil ?_) na) na rfl
  obtain ⟨x, H1, I1, r1, l, ns, rfl, hs, hn, k⟩ := z
  cases r1
  refine run_setF (ks := ns.map Sum.inr) hc hu I1 (by rw [List.map_map]; exact hs) (by rw [List.length_map]; unfold scanBound; omega) fun S s2 L I2 el => PyProof.Rows.args_nil ?_
  have hin : ∀ k, k ∈ L → ∃ m ∈ ns, k = Sum.inr m := fun k hk => by
    obtain ⟨m, h1, h2⟩ := List.mem_map.mp ((el.mem k).mp hk)
    exact ⟨m, h1, h2.symm⟩
  refine sorted_elems (I2.ok.hd hc) el (fun v => ∃ i t, v = Value.str i t) (srtS X.prog X.w s2.heap) (fun k v hk hv => ?_) fun p out c s' L' k1 g1 o1 hp hget pm hpair hpw => ?_
  · obtain ⟨m, _, rfl⟩ := hin k hk
    rcases keyIs_shape hv with ⟨i, u, e, rfl⟩ | ⟨i, u, e, rfl⟩ <;> first | exact ⟨i, u, rfl⟩ | cases e
  · have form : ∀ L' : List Key, (∀ k ∈ L', ∃ m ∈ ns, k = Sum.inr m) → ∃ ms : List Str, L' = ms.map Sum.inr := by
      intro L'
      induction L' with
      | nil => intro _; exact ⟨[], rfl⟩
      | cons k r ih =>
        intro hk
        obtain ⟨m, _, rfl⟩ := hk k List.mem_cons_self
        obtain ⟨ms, rfl⟩ := ih fun j hj => hk j (List.mem_cons_of_mem _ hj)
        exact ⟨m :: ms, rfl⟩
    obtain ⟨ms, rfl⟩ := form L' fun k hk => hin k (pm.mem_iff.mp hk)
    have nd := pm.nodup_iff.mpr el.nd
    have vv : Vals (ms.map V.str) out.toList := by
      have z := vals_of_keys hpair
      rwa [List.map_map] at z
    have mem : ∀ m, m ∈ ms ↔ m ∈ ns := fun m => by
      have z := (pm.mem_iff (a := Sum.inr m)).trans (el.mem (Sum.inr m))
      simpa using z
    have small : ms.length ≤ ns.length := by
      have nd2 : ms.Nodup := List.Pairwise.imp (fun h e => h (congrArg _ e)) (List.pairwise_map.mp nd)
      exact nodup_le ms ns nd2 fun m hm => (mem m).mp hm
    refine sorted_back I2 k1 g1 o1 hp hget vv (by rw [List.length_map, sizeLine_eq]; omega) fun hn2 => k ms p (slt_of_upto hpair hpw nd) mem hn2
/-- sorted(set(e)), tuples of one form -/
theorem pe_sortSetT (hc : X.calm = true) (hu : X.A.units + 64 < cLine) (hg : Gl X "sorted") (hm : X.mg "sorted" = none) (hg2 : Gl X "set") (hm2 : X.mg "set" = none) (ha : PE X a ta)
    (na : starEach [a] X.env = (false, eval a X.env) :: starEach [] X.env := by rfl) : PE X (.Call (.Name "sorted" p) [.Call (.Name "set" p2) [a] [] q] [] pos) (tSortSetT X.K ta) := by
  refine ⟨fun pins s σ H Q I h => ?_⟩
  refine Call_ (ld_blt I hg hm (by decide +kernel : bootBuiltins "sorted" = some (.builtin "sorted")) ?_)
  refine PyProof.Rows.callWith_builtin1 (PyProof.Rows.args_cons ?_ rfl) rfl rfl
  refine Call_ (ld_blt I hg2 hm2 PyProof.Rows.boot_set ?_)
  refine PyProof.Rows.callWith_type1 (PyProof.Rows.args_cons (thn (ha.run pins s σ H _ I h) fun v s1 z => PyProof.Rows.args_nil ?_) na) na rfl
  obtain ⟨x, H1, I1, r1, T, l, xs, ks, sh, hT, rfl, hs, hk, hn, hsh, k⟩ := z
  cases r1
  refine run_setT hc hu I1 hs hT hk hn fun S s2 L ps eks I2 hps el => PyProof.Rows.args_nil ?_
  have isK : ∀ q ∈ ps, IsTupleKey (mixKind X.prog X.w) s2.heap q.2 q.1 := fun q hq => Inv.tupKey I2 (hps q hq).2
  have inK : ∀ q ∈ ps, q.2 ∈ ks := fun q hq => by rw [eks]; exact List.mem_map.mpr ⟨q, hq, rfl⟩
  refine sorted_elems (I2.ok.hd hc) el (goodT X.prog X.w s2.heap sh) (srtT X.prog X.w s2.heap sh) (fun k v hk hv => ?_) fun p out c s' L' k1 g1 o1 hp hget pm hpair hpw => ?_
  · obtain ⟨b, rfl, hb⟩ := hv
    obtain ⟨h1, h2⟩ := hsh k (inK _ hb)
    exact ⟨b, k, rfl, isK _ hb, h1, h2⟩
  · have pr : ∀ {ls : List (List Key)} {us : List Value}, Paired (fun k v => ∃ b, v = Value.ref b ∧ (b, k) ∈ ps) ls us → ∃ ys, Vals ys us ∧ Paired T ls ys := by
      intro ls us h
      induction h with
      | nil => exact ⟨[], .nil, .nil⟩
      | cons r _ ih =>
        obtain ⟨ys, v1, v2⟩ := ih
        obtain ⟨b, rfl, hb⟩ := r
        exact ⟨V.ref b :: ys, .cons rfl v1, .cons (hps _ hb).1 v2⟩
    obtain ⟨ys, vv, vt⟩ := pr hpair
    have nd := pm.nodup_iff.mpr el.nd
    have mem : ∀ k, k ∈ L' ↔ k ∈ ks := fun k => pm.mem_iff.trans (el.mem k)
    have small : L'.length ≤ ks.length := nodup_le L' ks nd fun m hm => (mem m).mp hm
    have zy : ys.length = L'.length := (paired_len vt).symm
    refine sorted_back I2 k1 g1 o1 hp hget vv (by rw [zy, sizeLine_eq]; omega) fun hn2 => k L' ys p nd (upto_tle (fun q hq => ⟨isK q hq, (hsh _ (inK q hq)).1⟩) hpair hpw) mem vt hn2
end
end Sk
set_option Elab.async false
set_option linter.all false
set_option maxRecDepth 100000
set_option maxHeartbeats 2000000
/-! data that is typed, over the hand layer -/
namespace Sk
open PySem PySem.Spec PyProof.Rows L2
open PySem.W (Datum DatumOrd Tup T3 T4)
open Evl (Ex)
/-- every tuple that is read stays -/
def Gr (H H' : Hp) : Prop := ∀ a xs, Rd H a (.tup xs) → Rd H' a (.tup xs)
theorem Gr.refl (H : Hp) : Gr H H := fun _ _ h => h
theorem Gr.trans {H H1 H2 : Hp} (a : Gr H H1) (b : Gr H1 H2) : Gr H H2 := fun c xs h => b c xs (a c xs h)
theorem Gr.ex {H H' : Hp} (e : Ex H H') : Gr H H' := fun a xs h => Evl.ex_rd e h
/-- all objects but those at p, which is changed, stay -/
def ExB (p : Addr) (H H' : Hp) : Prop := ∀ a o, a ≠ p → H a = some o → H' a = some o
theorem ExB.ex {p : Addr} {H H' : Hp} (e : Ex H H') : ExB p H H' := fun a o _ h => e a o h
theorem ExB.trans {p : Addr} {H H1 H2 : Hp} (a : ExB p H H1) (b : ExB p H1 H2) : ExB p H H2 := fun c o n h => b c o n (a c o n h)
theorem ExB.upd {p : Addr} {H : Hp} {o : HO} : ExB p H (upd H p o) := fun a u n h => by rw [upd_ne n]; exact h
/-- not a tuple -/
def NoTup (o : HO) : Prop := match o with
  | .tup _ => False
  | .frz _ _ => False
  | _ => True
theorem ExB.gr {p : Addr} {H H' : Hp} {o : HO} (e : ExB p H H') (h : H p = some o) (n : NoTup o) : Gr H H' := fun a xs r => by
  have hne : a ≠ p := fun z => by
    subst z
    rcases r with r | ⟨ob, r⟩ <;> (rw [h] at r; cases r; exact n)
  rcases r with r | ⟨ob, r⟩
  · exact Or.inl (e a _ hne r)
  · exact Or.inr ⟨ob, e a _ hne r⟩
/-- what was not there ahead may change -/
theorem Ex.but {p : Addr} {H0 H H' : Hp} (e : Ex H0 H) (n : H0 p = none) (b : ExB p H H') : Ex H0 H' := fun a o h => b a o (ne_of_none h n) (e a o h)
theorem Ex.fresh {H H' : Hp} {p : Addr} (e : Ex H H') (h : H' p = none) : H p = none := Evl.fresh_back e h

/-! ### data that does not change -/
mutual
def imm : PyData → Bool
  | .none | .bool _ | .int _ | .str _ => true
  | .tuple xs => immAll xs
  | .list _ | .dict _ => false
def immAll : List PyData → Bool
  | [] => true
  | x :: xs => imm x && immAll xs
end
section
variable {K : PySem.W.Frag} {H H' : Hp}
theorem _root_.L2.SqT.gr {a : Addr} {xs : List V} (g : Gr H H') (h : SqT K H a xs) : SqT K H' a xs := h.elim (fun h => Or.inl (g a xs h)) Or.inr
mutual
theorem Dp.gr (g : Gr H H') : ∀ (d : PyData) {v : V}, imm d = true → Dp K H v d → Dp K H' v d
  | .none, _, _, h => by cases h; exact .non
  | .bool b, _, _, h => by cases h; exact .bl b
  | .int i, _, _, h => by cases h; exact .int i
  | .str x, _, _, h => by cases h; exact .str x
  | .list _, _, i, _ => by simp [imm] at i
  | .dict _, _, i, _ => by simp [imm] at i
  | .tuple ds, _, i, h => by
    cases h with
    | tup hs ha => exact .tup (SqT.gr g hs) (Dp.grAll g ds (by simpa [imm] using i) ha)
theorem Dp.grAll (g : Gr H H') : ∀ (ds : List PyData) {vs : List V}, immAll ds = true → DpAll K H vs ds → DpAll K H' vs ds
  | [], _, _, h => by cases h; exact .nil
  | d :: ds, _, i, h => by
    cases h with
    | cons h1 h2 =>
      have i' : imm d = true ∧ immAll ds = true := by simpa [immAll] using i
      exact .cons (Dp.gr g d i'.1 h1) (Dp.grAll g ds i'.2 h2)
end
mutual
theorem Dp.ex (e : Ex H H') : ∀ (d : PyData) {v : V}, Dp K H v d → Dp K H' v d
  | .none, _, h => by cases h; exact .non
  | .bool b, _, h => by cases h; exact .bl b
  | .int i, _, h => by cases h; exact .int i
  | .str x, _, h => by cases h; exact .str x
  | .list ds, _, h => by
    cases h with
    | lst hs ha => exact .lst (Evl.ex_l e hs) (Dp.exAll e ds ha)
  | .tuple ds, _, h => by
    cases h with
    | tup hs ha => exact .tup (Evl.ex_t e hs) (Dp.exAll e ds ha)
  | .dict _, _, h => by cases h
theorem Dp.exAll (e : Ex H H') : ∀ (ds : List PyData) {vs : List V}, DpAll K H vs ds → DpAll K H' vs ds
  | [], _, h => by cases h; exact .nil
  | d :: ds, _, h => by
    cases h with
    | cons h1 h2 => exact .cons (Dp.ex e d h1) (Dp.exAll e ds h2)
end
theorem _root_.L2.DpAll.append {vs ws : List V} {ds es : List PyData} (a : DpAll K H vs ds) (b : DpAll K H ws es) : DpAll K H (vs ++ ws) (ds ++ es) := by
  induction ds generalizing vs with
  | nil => cases a; exact b
  | cons d ds ih =>
    cases a with
    | cons h1 h2 => exact .cons h1 (ih h2)
theorem _root_.L2.DpAll.at {vs : List V} {ds : List PyData} {i : Nat} {d : PyData} (a : DpAll K H vs ds) (h : ds[i]? = some d) : ∃ v, vs[i]? = some v ∧ Dp K H v d := by
  induction ds generalizing vs i with
  | nil => simp at h
  | cons e ds ih =>
    cases a with
    | cons h1 h2 =>
      cases i with
      | zero => simp at h; subst h; exact ⟨_, rfl, h1⟩
      | succ i =>
        obtain ⟨v, e1, e2⟩ := ih h2 (by simpa using h)
        exact ⟨v, by simpa using e1, e2⟩
theorem _root_.L2.DpAll.at' {vs : List V} {ds : List PyData} {i : Nat} {v : V} (a : DpAll K H vs ds) (h : vs[i]? = some v) : ∃ d, ds[i]? = some d ∧ Dp K H v d := by
  induction ds generalizing vs i with
  | nil => cases a; simp at h
  | cons e ds ih =>
    cases a with
    | cons h1 h2 =>
      cases i with
      | zero => simp at h; subst h; exact ⟨_, rfl, h1⟩
      | succ i =>
        obtain ⟨v, e1, e2⟩ := ih h2 (by simpa using h)
        exact ⟨v, by simpa using e1, e2⟩
theorem _root_.L2.DpAll.len {vs : List V} {ds : List PyData} (a : DpAll K H vs ds) : vs.length = ds.length := by
  induction ds generalizing vs with
  | nil => cases a; rfl
  | cons e ds ih =>
    cases a with
    | cons h1 h2 => rw [List.length_cons, List.length_cons, ih h2]
theorem _root_.L2.DpAll.set {vs : List V} {ds : List PyData} {i : Nat} {v : V} {d : PyData} (a : DpAll K H vs ds) (h : Dp K H v d) : DpAll K H (vs.set i v) (ds.set i d) := by
  induction ds generalizing vs i with
  | nil => cases a; exact .nil
  | cons e ds ih =>
    cases a with
    | cons h1 h2 =>
      cases i with
      | zero => exact .cons h h2
      | succ i => exact .cons h1 (ih h2)
theorem _root_.L2.DpAll.take {vs : List V} {ds : List PyData} (a : DpAll K H vs ds) (n : Nat) : DpAll K H (vs.take n) (ds.take n) := by
  induction ds generalizing vs n with
  | nil => cases a; simp; exact .nil
  | cons e ds ih =>
    cases a with
    | cons h1 h2 =>
      cases n with
      | zero => exact .nil
      | succ n => exact .cons h1 (ih h2 n)
theorem _root_.L2.DpAll.drop {vs : List V} {ds : List PyData} (a : DpAll K H vs ds) (n : Nat) : DpAll K H (vs.drop n) (ds.drop n) := by
  induction ds generalizing vs n with
  | nil => cases a; simp; exact .nil
  | cons e ds ih =>
    cases a with
    | cons h1 h2 =>
      cases n with
      | zero => exact .cons h1 h2
      | succ n => exact ih h2 n
theorem dpAll_ints : ∀ ns : List Int, DpAll K H (ns.map V.int) (ns.map PyData.int)
  | [] => .nil
  | n :: ns => .cons (.int n) (dpAll_ints ns)
theorem dpAll_strs : ∀ ns : List Str, DpAll K H (ns.map V.str) (ns.map PyData.str)
  | [] => .nil
  | n :: ns => .cons (.str n) (dpAll_strs ns)
theorem ints_dpAll : ∀ {ns : List Int} {vs : List V}, DpAll K H vs (ns.map PyData.int) → vs = ns.map V.int
  | [], _, h => by cases h; rfl
  | n :: ns, _, h => by
    cases h with
    | cons h1 h2 =>
      cases h1
      rw [ints_dpAll h2]
      rfl
theorem strs_dpAll : ∀ {ns : List Str} {vs : List V}, DpAll K H vs (ns.map PyData.str) → vs = ns.map V.str
  | [], _, h => by cases h; rfl
  | n :: ns, _, h => by
    cases h with
    | cons h1 h2 =>
      cases h1
      rw [strs_dpAll h2]
      rfl
end
/-- a type whose values do not change -/
class Im (α : Type) [DecidableEq α] [Datum α] : Prop where
  im : ∀ a : α, imm (Datum.toD a) = true
theorem immAll_map {α : Type} [DecidableEq α] [Datum α] [Im α] : ∀ xs : List α, immAll (xs.map Datum.toD) = true
  | [] => rfl
  | x :: xs => by rw [List.map_cons, immAll, Im.im x, immAll_map xs]; rfl
instance : Im Int := ⟨fun _ => rfl⟩
instance : Im Bool := ⟨fun _ => rfl⟩
instance : Im Str := ⟨fun _ => rfl⟩
instance : Im Unit := ⟨fun _ => rfl⟩
section
variable {α β γ δ : Type} [DecidableEq α] [Datum α] [Im α] [DecidableEq β] [Datum β] [Im β] [DecidableEq γ] [Datum γ] [Im γ] [DecidableEq δ] [Datum δ] [Im δ]
instance : Im (α × β) := ⟨fun p => by show imm (.tuple [_, _]) = true; simp only [imm, immAll, Im.im]; rfl⟩
instance : Im (Tup α) := ⟨fun t => by show imm (.tuple _) = true; simp only [imm]; exact immAll_map t.items⟩
instance : Im (T3 α β γ) := ⟨fun p => by show imm (.tuple [_, _, _]) = true; simp only [imm, immAll, Im.im]; rfl⟩
instance : Im (T4 α β γ δ) := ⟨fun p => by show imm (.tuple [_, _, _, _]) = true; simp only [imm, immAll, Im.im]; rfl⟩
end
instance {α : Type} [DecidableEq α] [Datum α] [PySem.W.SomeDatum α] [Im α] : Im (Option α) := ⟨fun o => by cases o with
  | none => rfl
  | some a => exact Im.im a⟩
/-- v holds the datum a -/
def IsD {α : Type} [DecidableEq α] [Datum α] (K : PySem.W.Frag) (H : Hp) (v : V) (a : α) : Prop := Dp K H v (Datum.toD a)
/-- a list of one's own at p holds xs -/
def LsD {α : Type} [DecidableEq α] [Datum α] (K : PySem.W.Frag) (H : Hp) (p : Addr) (xs : List α) : Prop := ∃ vs, H p = some (.lst vs) ∧ DpAll K H vs (xs.map Datum.toD)
section
variable {α β : Type} [DecidableEq α] [Datum α] [DecidableEq β] [Datum β] {K : PySem.W.Frag} {H H' : Hp} {v : V} {p : Addr} {xs : List α}
theorem IsD.gr [Im α] {a : α} (g : Gr H H') (h : IsD K H v a) : IsD K H' v a := Dp.gr g _ (Im.im a) h
theorem IsD.ex {a : α} (e : Ex H H') (h : IsD K H v a) : IsD K H' v a := Dp.ex e _ h
theorem LsD.ex (e : Ex H H') (h : LsD K H p xs) : LsD K H' p xs := by
  obtain ⟨vs, h1, h2⟩ := h
  exact ⟨vs, e _ _ h1, Dp.exAll e _ h2⟩
/-- another object is changed -/
theorem LsD.but [Im α] {q : Addr} {o : HO} (n : p ≠ q) (b : ExB q H H') (ho : H q = some o) (nt : NoTup o) (h : LsD K H p xs) : LsD K H' p xs := by
  obtain ⟨vs, h1, h2⟩ := h
  exact ⟨vs, b _ _ n h1, Dp.grAll (b.gr ho nt) _ (immAll_map xs) h2⟩
theorem LsD.isD (h : LsD K H p xs) : IsD K H (.ref p) xs := by
  obtain ⟨vs, h1, h2⟩ := h
  exact .lst (Or.inl (Or.inl h1)) h2
theorem IsD.intV {i : Int} (h : IsD K H v i) : v = .int i := by cases h; rfl
theorem IsD.strV {x : Str} (h : IsD K H v x) : v = .str x := by cases h; rfl
theorem IsD.blV {b : Bool} (h : IsD K H v b) : v = .bl b := by cases h; rfl
theorem IsD.nonV (h : IsD K H v ()) : v = .non := by cases h; rfl
theorem isD_int (i : Int) : IsD K H (.int i) i := .int i
theorem isD_str (x : Str) : IsD K H (.str x) x := .str x
theorem isD_bl (b : Bool) : IsD K H (.bl b) b := .bl b
theorem isD_non : IsD K H .non () := .non
/-- a tuple of any length, opened -/
theorem IsD.tup {t : Tup α} (h : IsD K H v t) : ∃ a vs, v = .ref a ∧ SqT K H a vs ∧ DpAll K H vs (t.items.map Datum.toD) := by
  cases h with
  | tup hs ha => exact ⟨_, _, rfl, hs, ha⟩
theorem isD_tup {a : Addr} {vs : List V} (h : SqT K H a vs) (ha : DpAll K H vs (xs.map Datum.toD)) : IsD K H (.ref a) (Tup.mk xs) := Dp.tup h ha
theorem IsD.pair {t : α × β} (h : IsD K H v t) : ∃ a x y, v = .ref a ∧ SqT K H a [x, y] ∧ IsD K H x t.1 ∧ IsD K H y t.2 := by
  cases h with
  | tup hs ha =>
    cases ha with
    | cons h1 h2 =>
      cases h2 with
      | cons h3 h4 =>
        cases h4
        exact ⟨_, _, _, rfl, hs, h1, h3⟩
theorem isD_pair {a : Addr} {x y : V} {b : α} {c : β} (h : SqT K H a [x, y]) (h1 : IsD K H x b) (h2 : IsD K H y c) : IsD K H (.ref a) (b, c) := Dp.tup h (.cons h1 (.cons h2 .nil))
theorem IsD.lst (h : IsD K H v xs) : ∃ a vs, v = .ref a ∧ SqL K H a vs ∧ DpAll K H vs (xs.map Datum.toD) := by
  cases h with
  | lst hs ha => exact ⟨_, _, rfl, hs, ha⟩
end
/-! ### operators -/
section
variable {α : Type} [DecidableEq α] [Datum α] {X : Cx}
def rEqA (α : Type) [DecidableEq α] [Datum α] (K : PySem.W.Frag) : R2 := fun x y H Q => ∃ a b : α, IsD K H x a ∧ IsD K H y b ∧ Q (.bl (decide (a = b))) H
def rNeA (α : Type) [DecidableEq α] [Datum α] (K : PySem.W.Frag) : R2 := fun x y H Q => ∃ a b : α, IsD K H x a ∧ IsD K H y b ∧ Q (.bl (decide (a ≠ b))) H
def rLtA (α : Type) [DecidableEq α] [DatumOrd α] (K : PySem.W.Frag) : R2 := fun x y H Q => ∃ a b : α, IsD K H x a ∧ IsD K H y b ∧ Q (.bl (DatumOrd.lt a b)) H
/-- x in xs, a list or a tuple -/
def rInA (α : Type) [DecidableEq α] [Datum α] (K : PySem.W.Frag) (neg : Bool) : R2 := fun x y H Q => ∃ (a : α) (xs : List α), IsD K H x a ∧ (IsD K H y xs ∨ IsD K H y (Tup.mk xs)) ∧ Q (.bl (if neg then decide (a ∉ xs) else decide (a ∈ xs))) H
theorem op_eqA (hu : X.A.units + Datum.depth α < cLine) : OpR X (compareOp .Eq) (rEqA α X.K) := by
  intro pins s σ H x y v u Q I rx ry h
  obtain ⟨a, b, ha, hb, q⟩ := h
  exact PySem.W.eq_datum (x := a) (y := b) (Dp.reads I _ _ _ ha rx) (Dp.reads I _ _ _ hb ry) hu ⟨.bl _, H, I, rfl, q⟩
theorem op_neA (hu : X.A.units + Datum.depth α < cLine) : OpR X (compareOp .NotEq) (rNeA α X.K) := by
  intro pins s σ H x y v u Q I rx ry h
  obtain ⟨a, b, ha, hb, q⟩ := h
  exact PySem.W.ne_datum (x := a) (y := b) (Dp.reads I _ _ _ ha rx) (Dp.reads I _ _ _ hb ry) hu ⟨.bl _, H, I, rfl, q⟩
theorem op_ltA {α : Type} [DecidableEq α] [DatumOrd α] (hu : X.A.units + Datum.depth α < cLine) : OpR X (compareOp .Lt) (rLtA α X.K) := by
  intro pins s σ H x y v u Q I rx ry h
  obtain ⟨a, b, ha, hb, q⟩ := h
  exact PySem.W.lt_datum (x := a) (y := b) (Dp.reads I _ _ _ ha rx) (Dp.reads I _ _ _ hb ry) hu ⟨.bl _, H, I, rfl, q⟩
theorem holdAll_of {pins : List (Addr × Obj)} {σ : L2.St} {H : Hp} {s : Shared} (I : Inv X pins σ H s) {xs : List α} {vs : List V} {us : List Value} (h : DpAll X.K H vs (xs.map Datum.toD)) (r : Vals vs us) : PySem.W.HoldAll s.heap us xs := Dp.readsAll I _ _ _ h r
theorem op_inA (hu : X.A.units + 1 + Datum.depth α < cLine) : OpR X (compareOp .In) (rInA α X.K false) := by
  intro pins s σ H x y v u Q I rx ry h
  obtain ⟨a, xs, ha, hb | hb, q⟩ := h
  · obtain ⟨l, vs, rfl, hs, hv⟩ := IsD.lst hb
    cases ry
    obtain ⟨its, rv, pl, _⟩ := I.list hs
    exact PySem.W.in_list_datum (x := a) pl.isList (holdAll_of I hv rv) (Dp.reads I _ _ _ ha rx) hu ⟨.bl _, H, I, rfl, q⟩
  · obtain ⟨l, vs, rfl, hs, hv⟩ := IsD.tup hb
    cases ry
    obtain ⟨its, rv, ⟨o, ho, hcl, n, hd⟩, _⟩ := I.tuple hs
    exact PySem.W.in_tuple_datum (x := a) (vs := its.toArray) ⟨o, ho, hcl, n, hd⟩ (holdAll_of I hv rv) (Dp.reads I _ _ _ ha rx) hu ⟨.bl _, H, I, rfl, q⟩
theorem op_ninA (hu : X.A.units + 1 + Datum.depth α < cLine) : OpR X (compareOp .NotIn) (rInA α X.K true) := by
  intro pins s σ H x y v u Q I rx ry h
  obtain ⟨a, xs, ha, hb | hb, q⟩ := h
  · obtain ⟨l, vs, rfl, hs, hv⟩ := IsD.lst hb
    cases ry
    obtain ⟨its, rv, pl, _⟩ := I.list hs
    exact PySem.W.notIn_list_datum (x := a) pl.isList (holdAll_of I hv rv) (Dp.reads I _ _ _ ha rx) hu ⟨.bl _, H, I, rfl, q⟩
  · obtain ⟨l, vs, rfl, hs, hv⟩ := IsD.tup hb
    cases ry
    obtain ⟨its, rv, ⟨o, ho, hcl, n, hd⟩, _⟩ := I.tuple hs
    exact PySem.W.notIn_tuple_datum (x := a) (vs := its.toArray) ⟨o, ho, hcl, n, hd⟩ (holdAll_of I hv rv) (Dp.reads I _ _ _ ha rx) hu ⟨.bl _, H, I, rfl, q⟩
end
end Sk
set_option Elab.async false
set_option linter.all false
set_option maxRecDepth 100000
set_option maxHeartbeats 2000000
/-! orders of typed data; sorted, sorted(set(..)) as functions -/
namespace Sk
open PySem PySem.Spec PyProof.Rows L2
open PySem.W (Datum DatumOrd Tup T3 T4)
/-- unlike data stand in an order -/
class OrdL (α : Type) [DecidableEq α] [DatumOrd α] : Prop where
  tri : ∀ a b : α, DatumOrd.lt a b = false → DatumOrd.lt b a = false → a = b
section
variable {α β γ : Type} [DecidableEq α] [DatumOrd α] [DecidableEq β] [DatumOrd β] [DecidableEq γ] [DatumOrd γ]
theorem lt_irr (a : α) : DatumOrd.lt a a = false := by rw [← DatumOrd.lt_eq]; exact PySem.W.dataLt_self _
theorem lt_trans' {a b c : α} (h : DatumOrd.lt a b = true) (h' : DatumOrd.lt b c = true) : DatumOrd.lt a c = true := by
  rw [← DatumOrd.lt_eq] at h h' ⊢
  exact lex_trans _ _ _ h h'
theorem lt_neg {a b c : α} (h : DatumOrd.lt a c = true) : DatumOrd.lt a b = true ∨ DatumOrd.lt b c = true := by
  rw [← DatumOrd.lt_eq] at h
  rw [← DatumOrd.lt_eq, ← DatumOrd.lt_eq]
  exact lex_negTrans _ _ _ h
theorem lt_asymm' {a b : α} (h : DatumOrd.lt a b = true) : DatumOrd.lt b a = false := by
  cases e : DatumOrd.lt b a with
  | false => rfl
  | true => exact absurd (lt_trans' h e) (by rw [lt_irr]; decide)
instance : OrdL Int := ⟨fun a b h h' => by
  have h1 := of_decide_eq_false (show decide (a < b) = false from h)
  have h2 := of_decide_eq_false (show decide (b < a) = false from h')
  omega⟩
instance : OrdL Str := ⟨fun a b h h' => by
  have h1 := of_decide_eq_false (show decide (a.cps.toList < b.cps.toList) = false from h)
  have h2 := of_decide_eq_false (show decide (b.cps.toList < a.cps.toList) = false from h')
  exact PySem.W.str_of_cps (List.le_antisymm (List.not_lt.mp h2) (List.not_lt.mp h1))⟩
instance : OrdL Bool := ⟨fun a b h h' => by
  have h1 : (!a && b) = false := h
  have h2 : (!b && a) = false := h'
  cases a <;> cases b <;> first | rfl | simp at h1 h2⟩
instance [OrdL α] [OrdL β] : OrdL (α × β) := ⟨fun p q h h' => by
  have h1 : (if p.1 = q.1 then DatumOrd.lt p.2 q.2 else DatumOrd.lt p.1 q.1) = false := h
  have h2 : (if q.1 = p.1 then DatumOrd.lt q.2 p.2 else DatumOrd.lt q.1 p.1) = false := h'
  by_cases e : p.1 = q.1
  · rw [if_pos e] at h1
    rw [if_pos e.symm] at h2
    exact Prod.ext e (OrdL.tri _ _ h1 h2)
  · rw [if_neg e] at h1
    rw [if_neg (fun z => e z.symm)] at h2
    exact absurd (OrdL.tri _ _ h1 h2) e⟩
theorem listLt_tri [OrdL α] : ∀ xs ys : List α, PySem.W.listLt xs ys = false → PySem.W.listLt ys xs = false → xs = ys
  | [], [], _, _ => rfl
  | [], _ :: _, h, _ => by simp [PySem.W.listLt] at h
  | _ :: _, [], _, h => by simp [PySem.W.listLt] at h
  | x :: xs, y :: ys, h, h' => by
    rw [PySem.W.listLt] at h h'
    by_cases e : x = y
    · rw [if_pos e] at h
      rw [if_pos e.symm] at h'
      rw [e, listLt_tri xs ys h h']
    · rw [if_neg e] at h
      rw [if_neg (fun z => e z.symm)] at h'
      exact absurd (OrdL.tri _ _ h h') e
instance [OrdL α] : OrdL (Tup α) := ⟨fun p q h h' => by
  have e := listLt_tri p.items q.items h h'
  cases p
  cases q
  exact congrArg Tup.mk e⟩
instance [OrdL α] : OrdL (List α) := ⟨fun p q h h' => listLt_tri p q h h'⟩
instance [OrdL α] [OrdL β] [OrdL γ] : OrdL (T3 α β γ) := ⟨fun p q h h' => by
  have h1 : (if p.a = q.a then (if p.b = q.b then (DatumOrd.lt p.c q.c) else DatumOrd.lt p.b q.b) else DatumOrd.lt p.a q.a) = false := h
  have h2 : (if q.a = p.a then (if q.b = p.b then (DatumOrd.lt q.c p.c) else DatumOrd.lt q.b p.b) else DatumOrd.lt q.a p.a) = false := h'
  by_cases e : p.a = q.a
  · rw [if_pos e] at h1
    rw [if_pos e.symm] at h2
    by_cases e2 : p.b = q.b
    · rw [if_pos e2] at h1
      rw [if_pos e2.symm] at h2
      exact T3.same e e2 (OrdL.tri _ _ h1 h2)
    · rw [if_neg e2] at h1
      rw [if_neg (fun z => e2 z.symm)] at h2
      exact absurd (OrdL.tri _ _ h1 h2) e2
  · rw [if_neg e] at h1
    rw [if_neg (fun z => e z.symm)] at h2
    exact absurd (OrdL.tri _ _ h1 h2) e⟩

/-! ### rising lists -/
/-- each less than all behind it -/
def Rising (xs : List α) : Prop := xs.Pairwise fun a b => DatumOrd.lt a b = true
theorem Rising.nodup {xs : List α} (h : Rising xs) : xs.Nodup := h.imp fun {a b} h e => by rw [e, lt_irr] at h; cases h
/-- two rising lists of the same elements are one -/
theorem Rising.eq : ∀ {xs ys : List α}, Rising xs → Rising ys → (∀ a, a ∈ xs ↔ a ∈ ys) → xs = ys
  | [], [], _, _, _ => rfl
  | [], y :: ys, _, _, h => absurd ((h y).mpr List.mem_cons_self) List.not_mem_nil
  | x :: xs, [], _, _, h => absurd ((h x).mp List.mem_cons_self) List.not_mem_nil
  | x :: xs, y :: ys, hx, hy, h => by
    have hx' := List.pairwise_cons.mp hx
    have hy' := List.pairwise_cons.mp hy
    have e : x = y := by
      rcases List.mem_cons.mp ((h x).mp List.mem_cons_self) with e | h1
      · exact e
      · rcases List.mem_cons.mp ((h y).mpr List.mem_cons_self) with e | h2
        · exact e.symm
        · have z1 := hy'.1 x h1
          have z2 := hx'.1 y h2
          rw [lt_asymm' z1] at z2
          cases z2
    subst e
    refine congrArg (x :: ·) (Rising.eq hx'.2 hy'.2 fun a => ⟨fun ha => ?_, fun ha => ?_⟩)
    · rcases List.mem_cons.mp ((h a).mp (List.mem_cons_of_mem _ ha)) with e | z
      · subst e
        exact absurd (hx'.1 a ha) (by rw [lt_irr]; decide)
      · exact z
    · rcases List.mem_cons.mp ((h a).mpr (List.mem_cons_of_mem _ ha)) with e | z
      · subst e
        exact absurd (hy'.1 a ha) (by rw [lt_irr]; decide)
      · exact z
/-- not behind -/
def leD (a b : α) : Bool := !DatumOrd.lt b a
/-- sorted -/
def sortL (xs : List α) : List α := xs.mergeSort leD
theorem leD_trans (a b c : α) (h1 : leD a b = true) (h2 : leD b c = true) : leD a c = true := by
  unfold leD at *
  cases e : DatumOrd.lt c a with
  | false => rfl
  | true =>
    rcases lt_neg (b := b) e with z | z
    · rw [z] at h2; cases h2
    · rw [z] at h1; cases h1
theorem leD_total (a b : α) : (leD a b || leD b a) = true := by
  unfold leD
  cases e : DatumOrd.lt b a with
  | false => rfl
  | true => rw [lt_asymm' e]; rfl
theorem sortL_perm (xs : List α) : (sortL xs).Perm xs := List.mergeSort_perm xs leD
theorem sortL_up (xs : List α) : (sortL xs).Pairwise fun a b => leD a b = true := List.pairwise_mergeSort (fun a b c => leD_trans a b c) (fun a b => leD_total a b) xs
theorem sortL_len (xs : List α) : (sortL xs).length = xs.length := (sortL_perm xs).length_eq
theorem mem_sortL {xs : List α} {a : α} : a ∈ sortL xs ↔ a ∈ xs := (sortL_perm xs).mem_iff
theorem rising_of [OrdL α] {xs : List α} (h : xs.Pairwise fun a b => leD a b = true) (n : xs.Nodup) : Rising xs := by
  induction xs with
  | nil => exact .nil
  | cons x xs ih =>
    have h' := List.pairwise_cons.mp h
    have n' := List.nodup_cons.mp n
    refine List.pairwise_cons.mpr ⟨fun y hy => ?_, ih h'.2 n'.2⟩
    cases e : DatumOrd.lt x y with
    | true => rfl
    | false =>
      have z : leD x y = true := h'.1 y hy
      unfold leD at z
      have z2 : DatumOrd.lt y x = false := by simpa using z
      exact absurd (OrdL.tri _ _ e z2) fun q => n'.1 (by rw [q]; exact hy)
theorem sortL_rising [OrdL α] {xs : List α} (n : xs.Nodup) : Rising (sortL xs) := rising_of (sortL_up xs) ((sortL_perm xs).nodup_iff.mpr n)
/-- each once -/
def once : List α → List α
  | [] => []
  | x :: xs => if x ∈ xs then once xs else x :: once xs
theorem mem_once : ∀ {xs : List α} {a : α}, a ∈ once xs ↔ a ∈ xs
  | [], _ => Iff.rfl
  | x :: xs, a => by
    rw [once]
    by_cases c : x ∈ xs
    · rw [if_pos c, mem_once, List.mem_cons]
      exact ⟨Or.inr, fun z => z.elim (fun e => by rw [e]; exact c) id⟩
    · rw [if_neg c, List.mem_cons, List.mem_cons, mem_once]
theorem once_nodup : ∀ xs : List α, (once xs).Nodup
  | [] => .nil
  | x :: xs => by
    rw [once]
    by_cases c : x ∈ xs
    · rw [if_pos c]; exact once_nodup xs
    · rw [if_neg c]; exact List.nodup_cons.mpr ⟨fun z => c (mem_once.mp z), once_nodup xs⟩
/-- sorted(set(xs)) -/
def sortU (xs : List α) : List α := sortL (once xs)
theorem mem_sortU {xs : List α} {a : α} : a ∈ sortU xs ↔ a ∈ xs := mem_sortL.trans mem_once
theorem sortU_rising [OrdL α] (xs : List α) : Rising (sortU xs) := sortL_rising (once_nodup xs)
theorem sortU_eq [OrdL α] {xs ys : List α} (h : Rising ys) (m : ∀ a, a ∈ ys ↔ a ∈ xs) : ys = sortU xs := h.eq (sortU_rising xs) fun a => (m a).trans mem_sortU.symm
theorem once_len : ∀ xs : List α, (once xs).length ≤ xs.length
  | [] => Nat.le_refl _
  | x :: xs => by
    rw [once]
    split
    · exact Nat.le_succ_of_le (once_len xs)
    · exact Nat.succ_le_succ (once_len xs)
theorem sortU_len (xs : List α) : (sortU xs).length ≤ xs.length := by
  unfold sortU
  rw [sortL_len]
  exact once_len xs
end
end Sk
set_option Elab.async false
set_option linter.all false
set_option maxRecDepth 100000
set_option maxHeartbeats 2000000
/-! what expressions come to, typed -/
namespace Sk
open PySem PySem.Spec PyProof.Rows L2
open PySem.W (Datum DatumOrd Tup T3 T4)
open Evl (Ex Ev EvT EvA)
/-- te comes to a value with P of it, and of the heap ahead and behind; nothing that stands is changed -/
def EV (te : TE) (σ : L2.St) (H : Hp) (P : Hp → V → Hp → Prop) : Prop := ∀ H1, Ex H H1 → ∀ Q : VK, (∀ v H2, Ex H1 H2 → P H1 v H2 → Q v H2) → te σ H1 Q
/-- a datum -/
abbrev ED {α : Type} [DecidableEq α] [Datum α] (K : PySem.W.Frag) (te : TE) (σ : L2.St) (H : Hp) (a : α) : Prop := EV te σ H fun _ v H2 => IsD K H2 v a
/-- a new list -/
abbrev EL {α : Type} [DecidableEq α] [Datum α] (K : PySem.W.Frag) (te : TE) (σ : L2.St) (H : Hp) (xs : List α) : Prop := EV te σ H fun H1 v H2 => ∃ p, v = .ref p ∧ H1 p = none ∧ LsD K H2 p xs
section
variable {α β γ : Type} [DecidableEq α] [Datum α] [DecidableEq β] [Datum β] [DecidableEq γ] [Datum γ] {K : PySem.W.Frag} {σ : L2.St} {H H' Hk : Hp} {te ta tb tc : TE} {t u : TT} {v : V} {P : Hp → V → Hp → Prop}
theorem EV.mono (e : Ex H H') (h : EV te σ H P) : EV te σ H' P := fun H1 a Q q => h H1 (e.trans a) Q q
theorem EV.imp {P' : Hp → V → Hp → Prop} (h : EV te σ H P) (k : ∀ H1 v H2, Ex H H1 → Ex H1 H2 → P H1 v H2 → P' H1 v H2) : EV te σ H P' := fun H1 e Q q => h H1 e Q fun v H2 e2 p => q v H2 e2 (k H1 v H2 e e2 p)
theorem EV.go {Q : VK} (h : EV te σ H P) (q : ∀ v H2, Ex H H2 → P H v H2 → Q v H2) : te σ H Q := h H (Ex.refl H) Q q
theorem Ev.ev (h : Ev te σ H v) : EV te σ H fun _ x _ => x = v := fun H1 e Q q => h H1 e Q fun H2 e2 => q v H2 e2 rfl
theorem EV.exact (h : EV te σ H fun _ x _ => x = v) : Ev te σ H v := fun H1 e Q q => h H1 e Q fun x H2 e2 z => by rw [z]; exact q H2 e2
theorem Ev.int {i : Int} (h : Ev te σ H (.int i)) : ED K te σ H i := (Ev.ev h).imp fun _ _ _ _ _ z => by rw [z]; exact isD_int i
theorem Ev.str {i : Str} (h : Ev te σ H (.str i)) : ED K te σ H i := (Ev.ev h).imp fun _ _ _ _ _ z => by rw [z]; exact isD_str i
theorem Ev.bl {i : Bool} (h : Ev te σ H (.bl i)) : ED K te σ H i := (Ev.ev h).imp fun _ _ _ _ _ z => by rw [z]; exact isD_bl i
theorem Ev.non (h : Ev te σ H .non) : ED K te σ H () := (Ev.ev h).imp fun _ _ _ _ _ z => by rw [z]; exact isD_non
theorem ED.int {i : Int} (h : ED K te σ H i) : Ev te σ H (.int i) := (h.imp fun _ _ _ _ _ z => IsD.intV z).exact
theorem ED.str {i : Str} (h : ED K te σ H i) : Ev te σ H (.str i) := (h.imp fun _ _ _ _ _ z => IsD.strV z).exact
theorem ED.bl {i : Bool} (h : ED K te σ H i) : Ev te σ H (.bl i) := (h.imp fun _ _ _ _ _ z => IsD.blV z).exact
theorem ED.to {a b : α} (h : ED K te σ H a) (e : a = b) : ED K te σ H b := by rw [← e]; exact h
theorem EL.to {a b : List α} (h : EL K te σ H a) (e : a = b) : EL K te σ H b := by rw [← e]; exact h
theorem EL.d {xs : List α} (h : EL K te σ H xs) : ED K te σ H xs := h.imp fun _ _ _ _ _ z => by
  obtain ⟨p, rfl, _, z⟩ := z
  exact LsD.isD z
/-- a slot -/
theorem ed_var {i : Nat} {a : α} (h : σ[i]? = some (some v)) (hv : IsD K H v a) : ED K (tVar i) σ H a := fun H1 e _ q => ⟨v, h, q v H1 (Ex.refl H1) (IsD.ex e hv)⟩
theorem ed_varL {i : Nat} {p : Addr} {xs : List α} (h : σ[i]? = some (some (.ref p))) (hv : LsD K H p xs) : ED K (tVar i) σ H xs := ed_var h (LsD.isD hv)
/-- a written tuple -/
theorem ea_nil' : EvA tNil σ H [] := fun H1 _ _ q => q H1 (Ex.refl H1)
theorem ed_pair {a : α} {b : β} (ha : ED K ta σ H a) (hb : ED K tb σ H b) : ED K (tTup (tCons ta (tCons tb tNil))) σ H (a, b) := fun H1 e Q q =>
  ha H1 e _ fun x H2 e2 hx => hb H2 (e.trans e2) _ fun y H3 e3 hy => ⟨by show 2 ≤ sizeLine; decide, fun p hp => q _ _ ((e2.trans e3).trans (Evl.Ex.new hp))
    (isD_pair (SqT.of upd_same) (IsD.ex (e3.trans (Evl.Ex.new hp)) hx) (IsD.ex (Evl.Ex.new hp) hy))⟩
theorem ed_t3 {a : α} {b : β} {c : γ} (ha : ED K ta σ H a) (hb : ED K tb σ H b) (hc : ED K tc σ H c) : ED K (tTup (tCons ta (tCons tb (tCons tc tNil)))) σ H (T3.mk a b c) := fun H1 e Q q =>
  ha H1 e _ fun x H2 e2 hx => hb H2 (e.trans e2) _ fun y H3 e3 hy => hc H3 ((e.trans e2).trans e3) _ fun z H4 e4 hz => ⟨by show 3 ≤ sizeLine; decide, fun p hp => q _ _ (((e2.trans e3).trans e4).trans (Evl.Ex.new hp))
    (Dp.tup (SqT.of upd_same) (.cons (Dp.ex ((e3.trans e4).trans (Evl.Ex.new hp)) _ hx) (.cons (Dp.ex (e4.trans (Evl.Ex.new hp)) _ hy) (.cons (Dp.ex (Evl.Ex.new hp) _ hz) .nil))))⟩
/-- arguments that are data of one type -/
def EDs (K : PySem.W.Frag) (ta : TA) (σ : L2.St) (H : Hp) (xs : List α) : Prop := ∀ H1, Ex H H1 → ∀ Q : List V → Hp → Prop, (∀ vs H2, Ex H1 H2 → DpAll K H2 vs (xs.map Datum.toD) → Q vs H2) → ta σ H1 Q
theorem eds_nil : EDs K tNil σ H ([] : List α) := fun H1 _ _ q => q [] H1 (Ex.refl H1) .nil
theorem eds_cons {tr : TA} {a : α} {xs : List α} (ha : ED K ta σ H a) (hr : EDs K tr σ H xs) : EDs K (tCons ta tr) σ H (a :: xs) := fun H1 e _ q =>
  ha H1 e _ fun x H2 e2 hx => hr H2 (e.trans e2) _ fun vs H3 e3 hv => q _ H3 (e2.trans e3) (.cons (Dp.ex e3 _ hx) hv)
theorem ed_tup {tr : TA} {xs : List α} (h : EDs K tr σ H xs) (hz : xs.length ≤ 100000) : ED K (tTup tr) σ H (Tup.mk xs) := fun H1 e _ q =>
  h H1 e _ fun vs H2 e2 hv => ⟨by rw [hv.len, List.length_map]; exact Evl.sz_of hz, fun p hp => q _ _ (e2.trans (Evl.Ex.new hp)) (isD_tup (SqT.of upd_same) (Dp.exAll (Evl.Ex.new hp) _ hv))⟩
theorem el_lst {tr : TA} {xs : List α} (h : EDs K tr σ H xs) (hz : xs.length ≤ 100000) : EL K (tLst tr) σ H xs := fun H1 e _ q =>
  h H1 e _ fun vs H2 e2 hv => ⟨by rw [hv.len, List.length_map]; exact Evl.sz_of hz, fun p hp => q _ _ (e2.trans (Evl.Ex.new hp)) ⟨p, rfl, Ex.fresh e2 hp, _, upd_same, Dp.exAll (Evl.Ex.new hp) _ hv⟩⟩
/-- ==, !=, <, in -/
theorem ev_eqA {a b : α} (ha : ED K ta σ H a) (hb : ED K tb σ H b) : Ev (tOp (rEqA α K) ta tb) σ H (.bl (decide (a = b))) := fun H1 e Q q =>
  ha H1 e _ fun x H2 e2 hx => hb H2 (e.trans e2) _ fun y H3 e3 hy => ⟨a, b, IsD.ex e3 hx, hy, q H3 (e2.trans e3)⟩
theorem ev_neA {a b : α} (ha : ED K ta σ H a) (hb : ED K tb σ H b) : Ev (tOp (rNeA α K) ta tb) σ H (.bl (decide (a ≠ b))) := fun H1 e Q q =>
  ha H1 e _ fun x H2 e2 hx => hb H2 (e.trans e2) _ fun y H3 e3 hy => ⟨a, b, IsD.ex e3 hx, hy, q H3 (e2.trans e3)⟩
theorem ev_ltA {α : Type} [DecidableEq α] [DatumOrd α] {a b : α} (ha : ED K ta σ H a) (hb : ED K tb σ H b) : Ev (tOp (rLtA α K) ta tb) σ H (.bl (DatumOrd.lt a b)) := fun H1 e Q q =>
  ha H1 e _ fun x H2 e2 hx => hb H2 (e.trans e2) _ fun y H3 e3 hy => ⟨a, b, IsD.ex e3 hx, hy, q H3 (e2.trans e3)⟩
theorem ev_inL {a : α} {xs : List α} (ha : ED K ta σ H a) (hb : ED K tb σ H xs) : Ev (tOp (rInA α K false) ta tb) σ H (.bl (decide (a ∈ xs))) := fun H1 e Q q =>
  ha H1 e _ fun x H2 e2 hx => hb H2 (e.trans e2) _ fun y H3 e3 hy => ⟨a, xs, IsD.ex e3 hx, Or.inl hy, q H3 (e2.trans e3)⟩
theorem ev_ninL {a : α} {xs : List α} (ha : ED K ta σ H a) (hb : ED K tb σ H xs) : Ev (tOp (rInA α K true) ta tb) σ H (.bl (decide (a ∉ xs))) := fun H1 e Q q =>
  ha H1 e _ fun x H2 e2 hx => hb H2 (e.trans e2) _ fun y H3 e3 hy => ⟨a, xs, IsD.ex e3 hx, Or.inl hy, q H3 (e2.trans e3)⟩
theorem ev_inU {a : α} {xs : List α} (ha : ED K ta σ H a) (hb : ED K tb σ H (Tup.mk xs)) : Ev (tOp (rInA α K false) ta tb) σ H (.bl (decide (a ∈ xs))) := fun H1 e Q q =>
  ha H1 e _ fun x H2 e2 hx => hb H2 (e.trans e2) _ fun y H3 e3 hy => ⟨a, xs, IsD.ex e3 hx, Or.inr hy, q H3 (e2.trans e3)⟩
theorem ev_ninU {a : α} {xs : List α} (ha : ED K ta σ H a) (hb : ED K tb σ H (Tup.mk xs)) : Ev (tOp (rInA α K true) ta tb) σ H (.bl (decide (a ∉ xs))) := fun H1 e Q q =>
  ha H1 e _ fun x H2 e2 hx => hb H2 (e.trans e2) _ fun y H3 e3 hy => ⟨a, xs, IsD.ex e3 hx, Or.inr hy, q H3 (e2.trans e3)⟩
/-- an item -/
theorem ed_ixU {xs : List α} {i : Int} {a : α} (ha : ED K ta σ H (Tup.mk xs)) (hb : Ev tb σ H (.int i)) (hi : atI xs i = some a) : ED K (tOp (rIxT K) ta tb) σ H a := fun H1 e Q q =>
  ha H1 e _ fun x H2 e2 hx => hb H2 (e.trans e2) _ fun H3 e3 => by
    obtain ⟨p, vs, rfl, hs, hv⟩ := IsD.tup hx
    have hl : vs.length = xs.length := by rw [hv.len, List.length_map]
    unfold atI at hi
    cases hj : ixN xs.length i with
    | none => rw [hj] at hi; cases hi
    | some j =>
      rw [hj] at hi
      obtain ⟨w, hw, dw⟩ := hv.at (i := j) (d := Datum.toD a) (by rw [List.getElem?_map, show xs[j]? = some a from hi] <;> rfl)
      exact ⟨p, vs, i, w, rfl, rfl, Evl.ex_t e3 hs, by unfold atI; rw [hl, hj]; exact hw, q w H3 (e2.trans e3) (IsD.ex e3 dw)⟩
theorem ed_ixL {xs : List α} {i : Int} {a : α} (ha : ED K ta σ H xs) (hb : Ev tb σ H (.int i)) (hi : atI xs i = some a) : ED K (tOp (rIxL K) ta tb) σ H a := fun H1 e Q q =>
  ha H1 e _ fun x H2 e2 hx => hb H2 (e.trans e2) _ fun H3 e3 => by
    obtain ⟨p, vs, rfl, hs, hv⟩ := IsD.lst hx
    have hl : vs.length = xs.length := by rw [hv.len, List.length_map]
    unfold atI at hi
    cases hj : ixN xs.length i with
    | none => rw [hj] at hi; cases hi
    | some j =>
      rw [hj] at hi
      obtain ⟨w, hw, dw⟩ := hv.at (i := j) (d := Datum.toD a) (by rw [List.getElem?_map, show xs[j]? = some a from hi] <;> rfl)
      exact ⟨p, vs, i, w, rfl, rfl, Evl.ex_l e3 hs, by unfold atI; rw [hl, hj]; exact hw, q w H3 (e2.trans e3) (IsD.ex e3 dw)⟩
theorem ed_fst {a : α × β} (ha : ED K ta σ H a) : ED K (tOp (rIxT K) ta (tC (.int 0))) σ H a.1 := fun H1 e Q q =>
  ha H1 e _ fun x H2 e2 hx => by
    obtain ⟨p, y, z, rfl, hs, h1, h2⟩ := IsD.pair hx
    exact ⟨p, _, 0, y, rfl, rfl, hs, rfl, q y H2 e2 h1⟩
theorem ed_snd {a : α × β} (ha : ED K ta σ H a) : ED K (tOp (rIxT K) ta (tC (.int 1))) σ H a.2 := fun H1 e Q q =>
  ha H1 e _ fun x H2 e2 hx => by
    obtain ⟨p, y, z, rfl, hs, h1, h2⟩ := IsD.pair hx
    exact ⟨p, _, 1, z, rfl, rfl, hs, rfl, q z H2 e2 h2⟩
theorem ed_if {b : Bool} {x y : α} (h : EvT t σ H b) (h1 : b = true → ED K ta σ H x) (h2 : b = false → ED K tb σ H y) : ED K (tIf t ta tb) σ H (if b = true then x else y) := fun H1 e Q q => h H1 e _ fun H2 e2 => by
  cases b with
  | true => exact h1 rfl H2 (e.trans e2) Q fun v H3 e3 hv => q v H3 (e2.trans e3) hv
  | false => exact h2 rfl H2 (e.trans e2) Q fun v H3 e3 hv => q v H3 (e2.trans e3) hv
/-! ### targets -/
theorem g_pair {i j : Nat} {a : α × β} {Q : L2.St → Hp → Prop} (h : IsD K H v a) (q : ∀ x y, IsD K H x a.1 → IsD K H y a.2 → Q ((σ.set i (some x)).set j (some y)) H) : gTup K 2 (gCons (gName i) (gCons (gName j) gNil)) v σ H Q := by
  obtain ⟨p, x, y, rfl, hs, h1, h2⟩ := IsD.pair h
  exact ⟨p, [x, y], rfl, hs, rfl, x, [y], rfl, y, [], rfl, rfl, q x y h1 h2⟩
end
end Sk
set_option Elab.async false
set_option linter.all false
set_option maxRecDepth 100000
set_option maxHeartbeats 2000000
/-! readings without a heap: slots hold data, lists and dicts of one's own, the drawing; what is read is said once of the heap, here -/
namespace Sk
open PySem PySem.Spec PyProof.Rows L2
open Evl (Ex)
inductive PV where
  | dat (d : PyData)
  | own (ds : List PyData)
  | dct (kvs : List (Key × PyData))
  | drw
  | val (v : V)
  | byr (ds : List PyData)
def PV.mut : PV → Bool
  | .own _ => true
  | .dct _ => true
  | .byr _ => true
  | _ => false
def PV.frz : PV → Option PyData
  | .dat d => some d
  | .own ds => some (.list ds)
  | _ => none
structure Sg where
  sl : List (Option PV)
  n : Nat
@[simp] def Sg.put (s : Sg) (i : Nat) (p : PV) : Sg := ⟨s.sl.set i (some p), s.n⟩
@[simp] def Sg.off (s : Sg) (i : Nat) : Sg := ⟨s.sl.set i none, s.n⟩
/-- the frame: is there a drawing (its dict, its list of rests, its cells); the heap at the entry; what others own; what may change -/
structure Fr where
  on : Bool
  m : Addr
  l : Addr
  c : Addr
  F : Hp
  O : Addr → Prop
  M : Addr → Prop
  r : Addr
def DrwOk (m l c : Addr) (n : Nat) (H : Hp) : Prop := ∃ (k : Int) (cs ls : List Int) (rest : List (Key × V)),
  H m = some (.dK ([(.inr "cells", .ref c), (.inr "left", .ref l), (.inr "at", .int k)] ++ rest)) ∧ 0 ≤ k ∧ k ≤ n ∧ H c = some (.lst (cs.map V.int)) ∧ cs.length = 64 ∧ (∀ x ∈ cs, 0 ≤ x ∧ x < 2147483647) ∧
  H l = some (.lst (ls.map V.int)) ∧ ls.length ≤ 63 ∧ (∀ x ∈ ls, 0 ≤ x) ∧ rest.length ≤ 100 ∧ c ≠ l
theorem DrwOk.keep {m l c : Addr} {n : Nat} {H H' : Hp} (h : DrwOk m l c n H) (e1 : H' m = H m) (e2 : H' l = H l) (e3 : H' c = H c) : DrwOk m l c n H' := by
  obtain ⟨k, cs, ls, rest, h1, h2⟩ := h
  refine ⟨k, cs, ls, rest, ?_, ?_⟩
  · rw [e1]; exact h1
  · rw [e2, e3]; exact h2
theorem DrwOk.more {m l c : Addr} {n n' : Nat} {H : Hp} (h : DrwOk m l c n H) (e : n ≤ n') : DrwOk m l c n' H := by
  obtain ⟨k, cs, ls, rest, h1, h2, h3, h4⟩ := h
  exact ⟨k, cs, ls, rest, h1, h2, by omega, h4⟩
def VR (K : PySem.W.Frag) (f : Fr) (G H : Hp) : PV → V → Prop
  | .dat d, v => Dp K G v d
  | .own ds, v => ∃ p vs, v = .ref p ∧ H p = some (.lst vs) ∧ G p = none ∧ ¬ f.O p ∧ (f.F p = none ∨ f.M p) ∧ DpAll K G vs ds
  | .dct kvs, v => ∃ p ws, v = .ref p ∧ H p = some (.dK ws) ∧ G p = none ∧ ¬ f.O p ∧ (f.F p = none ∨ f.M p) ∧ ws.map (·.1) = kvs.map (·.1) ∧ DpAll K G (ws.map (·.2)) (kvs.map (·.2))
  | .drw, v => f.on = true ∧ v = .ref f.m
  | .val w, v => v = w
  | .byr ds, v => ∃ p vs, v = .ref p ∧ H p = some (.lst vs) ∧ G p = none ∧ ¬ f.O p ∧ (f.F p = none ∨ f.M p) ∧ DpAll K G vs ds ∧ p = f.r
structure Rel (K : PySem.W.Frag) (f : Fr) (G : Hp) (s : Sg) (σ : L2.St) (H : Hp) : Prop where
  gh : Ex G H
  fh : ∀ a o, ¬ f.M a → f.F a = some o → H a = some o
  go : ∀ a, f.O a → G a = none
  oh : ∀ a, f.O a → H a ≠ none
  mh : ∀ a, f.M a → H a ≠ none
  mo : f.on = true → f.O f.m ∧ f.O f.l ∧ f.O f.c ∧ f.M f.m ∧ f.M f.l
  dr : f.on = true → DrwOk f.m f.l f.c s.n H
  ln : σ.length = s.sl.length
  sl : ∀ (i : Nat) (p : PV), s.sl[i]? = some (some p) → ∃ v : V, σ[i]? = some (some v) ∧ VR K f G H p v
  ds : ∀ (i j : Nat) (p q : PV) (v : V), i ≠ j → s.sl[i]? = some (some p) → s.sl[j]? = some (some q) → p.mut = true → q.mut = true → σ[i]? = some (some v) → σ[j]? ≠ some (some v)
/-- an expression's value: what is one's own stands in no slot -/
def VRf (K : PySem.W.Frag) (f : Fr) (G H : Hp) (s : Sg) (σ : L2.St) (p : PV) (v : V) : Prop := VR K f G H p v ∧ (p.mut = true → ∀ (i : Nat) (q : PV), s.sl[i]? = some (some q) → q.mut = true → σ[i]? ≠ some (some v))
def VRs (K : PySem.W.Frag) (f : Fr) (G H : Hp) : List PV → List V → Prop := Paired (VR K f G H)
section
variable {K : PySem.W.Frag} {f : Fr} {G G' G1 H H' H1 : Hp} {s s' : Sg} {σ σ' : L2.St} {p : PV} {v : V} {d : PyData}
theorem VR.mono (h : VR K f G H p v) (g : Ex G G') (n : ∀ a, G a = none → G' a ≠ none → H a = none) (e : Ex H H') : VR K f G' H' p v := by
  have key : ∀ a o, H a = some o → G a = none → G' a = none := fun a o h1 h2 => by
    cases q : G' a with
    | none => rfl
    | some u =>
      have := n a h2 (by rw [q]; intro z; cases z)
      rw [h1] at this; cases this
  cases p with
  | dat d => exact Dp.ex g _ h
  | own ds =>
    obtain ⟨p, vs, rfl, h1, h2, h3, h4, h5⟩ := h
    exact ⟨p, vs, rfl, e _ _ h1, key _ _ h1 h2, h3, h4, Dp.exAll g _ h5⟩
  | dct kvs =>
    obtain ⟨p, vs, rfl, h1, h2, h3, h4, h5, h6⟩ := h
    exact ⟨p, vs, rfl, e _ _ h1, key _ _ h1 h2, h3, h4, h5, Dp.exAll g _ h6⟩
  | drw => exact h
  | val w => exact h
  | byr ds =>
    obtain ⟨p, vs, rfl, h1, h2, h3, h4, h5, h6⟩ := h
    exact ⟨p, vs, rfl, e _ _ h1, key _ _ h1 h2, h3, h4, Dp.exAll g _ h5, h6⟩
theorem VRs.mono {ps : List PV} {vs : List V} (h : VRs K f G H ps vs) (g : Ex G G') (n : ∀ a, G a = none → G' a ≠ none → H a = none) (e : Ex H H') : VRs K f G' H' ps vs := by
  unfold VRs at *
  induction h with
  | nil => exact .nil
  | cons h _ ih => exact .cons (h.mono g n e) ih
theorem Rel.grow (R : Rel K f G s σ H) (e : Ex H H') (g : Ex G G') (g2 : Ex G' H') (n : ∀ a, G a = none → G' a ≠ none → H a = none) : Rel K f G' s σ H' where
  gh := g2
  fh := fun a o m h => e _ _ (R.fh a o m h)
  go := fun a h => by
    cases q : G' a with
    | none => rfl
    | some u => exact absurd (n a (R.go a h) (by rw [q]; intro z; cases z)) (R.oh a h)
  oh := fun a h => by
    cases q : H a with
    | none => exact absurd q (R.oh a h)
    | some u => rw [e _ _ q]; intro z; cases z
  mh := fun a h => by
    cases q : H a with
    | none => exact absurd q (R.mh a h)
    | some u => rw [e _ _ q]; intro z; cases z
  mo := R.mo
  dr := fun h => by
    obtain ⟨k, cs, ls, rest, h1, h2, h3, h4, h5, h6, h7, h8⟩ := R.dr h
    exact ⟨k, cs, ls, rest, e _ _ h1, h2, h3, e _ _ h4, h5, h6, e _ _ h7, h8⟩
  ln := R.ln
  sl := fun i p h => by
    obtain ⟨v, h1, h2⟩ := R.sl i p h
    exact ⟨v, h1, h2.mono g n e⟩
  ds := R.ds
theorem nomore : ∀ a, G a = none → G a ≠ none → H a = none := fun a h h2 => absurd h h2
/-- a new object, not known -/
theorem Rel.new {a : Addr} {o : HO} (R : Rel K f G s σ H) (h : H a = none) : Rel K f G s σ (upd H a o) := R.grow (Evl.Ex.new h) (Ex.refl G) (R.gh.trans (Evl.Ex.new h)) nomore
theorem Rel.gn {a : Addr} (R : Rel K f G s σ H) (h : H a = none) : G a = none := Evl.fresh_back R.gh h
theorem Rel.on' {a : Addr} (R : Rel K f G s σ H) (h : H a = none) : ¬ f.O a := fun z => R.oh a z h
theorem ex_upd {a : Addr} {o : HO} (e : Ex G H) : Ex (upd G a o) (upd H a o) := fun b u h => by
  by_cases q : b = a
  · subst q; rw [upd_same] at h ⊢; exact h
  · rw [upd_ne q] at h ⊢; exact e _ _ h
theorem new_upd {a : Addr} {o : HO} (h : H a = none) : ∀ b, G b = none → upd G a o b ≠ none → H b = none := fun b g n => by
  by_cases q : b = a
  · subst q; exact h
  · rw [upd_ne q] at n; exact absurd g n
/-- a new object that does not change -/
theorem Rel.newG {a : Addr} {o : HO} (R : Rel K f G s σ H) (h : H a = none) : Rel K f (upd G a o) s σ (upd H a o) := R.grow (Evl.Ex.new h) (Evl.Ex.new (R.gn h)) (ex_upd R.gh) (new_upd h)
theorem Rel.fr_none {a : Addr} (R : Rel K f G s σ H) (h : H a = none) : f.F a = none ∨ f.M a := by
  cases q : f.F a with
  | none => exact Or.inl rfl
  | some o =>
    by_cases m : f.M a
    · exact Or.inr m
    · have := R.fh a o m q
      rw [h] at this; cases this
/-- a new list of one's own -/
theorem Rel.own {a : Addr} {vs : List V} {ds : List PyData} (R : Rel K f G s σ H) (h : H a = none) (dv : DpAll K G vs ds) : VRf K f G (upd H a (.lst vs)) s σ (.own ds) (.ref a) := by
  refine ⟨⟨a, vs, rfl, upd_same, R.gn h, R.on' h, R.fr_none h, dv⟩, fun _ i q h1 h2 h3 => ?_⟩
  obtain ⟨v, h4, h5⟩ := R.sl i q h1
  rw [h3] at h4
  cases h4
  cases q with
  | dat d => cases h2
  | own ds => obtain ⟨p, _, e, h6, _⟩ := h5; cases e; rw [h] at h6; cases h6
  | byr ds => obtain ⟨p, _, e, h6, _⟩ := h5; cases e; rw [h] at h6; cases h6
  | dct ds => obtain ⟨p, _, e, h6, _⟩ := h5; cases e; rw [h] at h6; cases h6
  | drw => cases h2
  | val _ => cases h2
theorem Rel.ownD {a : Addr} {ws : List (Key × V)} {kvs : List (Key × PyData)} (R : Rel K f G s σ H) (h : H a = none) (hk : ws.map (·.1) = kvs.map (·.1)) (dv : DpAll K G (ws.map (·.2)) (kvs.map (·.2))) : VRf K f G (upd H a (.dK ws)) s σ (.dct kvs) (.ref a) := by
  refine ⟨⟨a, ws, rfl, upd_same, R.gn h, R.on' h, R.fr_none h, hk, dv⟩, fun _ i q h1 h2 h3 => ?_⟩
  obtain ⟨v, h4, h5⟩ := R.sl i q h1
  rw [h3] at h4
  cases h4
  cases q with
  | dat d => cases h2
  | own ds => obtain ⟨p, _, e, h6, _⟩ := h5; cases e; rw [h] at h6; cases h6
  | byr ds => obtain ⟨p, _, e, h6, _⟩ := h5; cases e; rw [h] at h6; cases h6
  | dct ds => obtain ⟨p, _, e, h6, _⟩ := h5; cases e; rw [h] at h6; cases h6
  | drw => cases h2
  | val _ => cases h2
theorem vrf_dat (h : Dp K G v d) : VRf K f G H s σ (.dat d) v := ⟨h, fun z => by cases z⟩
/-- what has come is held as it is from now on -/
theorem Rel.frz (R : Rel K f G s σ H) (h : VRf K f G H s σ p v) (e : p.frz = some d) : ∃ G', Ex G G' ∧ Rel K f G' s σ H ∧ Dp K G' v d := by
  cases p with
  | dat d' => cases e; exact ⟨G, Ex.refl G, R, h.1⟩
  | drw => cases e
  | val _ => cases e
  | byr _ => cases e
  | dct kvs => cases e
  | own ds =>
    cases e
    obtain ⟨⟨a, vs, rfl, h1, h2, h3, h4, h5⟩, hf⟩ := h
    have hg : Ex G (upd G a (.lst vs)) := Evl.Ex.new h2
    refine ⟨upd G a (.lst vs), hg, { gh := fun b o hb => ?_, fh := R.fh, go := fun b hb => ?_, oh := R.oh, mh := R.mh, mo := R.mo, dr := R.dr, ln := R.ln, sl := fun i q hq => ?_, ds := R.ds }, .lst (Or.inl (Or.inl upd_same)) (Dp.exAll hg _ h5)⟩
    · by_cases q : b = a
      · subst q; rw [upd_same] at hb; cases hb; exact h1
      · rw [upd_ne q] at hb; exact R.gh _ _ hb
    · have q : b ≠ a := fun z => h3 (z ▸ hb)
      rw [upd_ne q]; exact R.go b hb
    · obtain ⟨w, hw, hv⟩ := R.sl i q hq
      refine ⟨w, hw, ?_⟩
      have ne : q.mut = true → w ≠ .ref a := fun m z => hf rfl i q hq m (by rw [hw, z])
      cases q with
      | dat d => exact Dp.ex hg _ hv
      | drw => exact hv
      | val _ => exact hv
      | byr es =>
        obtain ⟨b, ws, rfl, k1, k2, k3, k4, k5, k6⟩ := hv
        exact ⟨b, ws, rfl, k1, by rw [upd_ne (fun z => ne rfl (by rw [z]))]; exact k2, k3, k4, Dp.exAll hg _ k5, k6⟩
      | own es =>
        obtain ⟨b, ws, rfl, k1, k2, k3, k4, k5⟩ := hv
        exact ⟨b, ws, rfl, k1, by rw [upd_ne (fun z => ne rfl (by rw [z]))]; exact k2, k3, k4, Dp.exAll hg _ k5⟩
      | dct es =>
        obtain ⟨b, ws, rfl, k1, k2, k3, k4, k5, k6⟩ := hv
        exact ⟨b, ws, rfl, k1, by rw [upd_ne (fun z => ne rfl (by rw [z]))]; exact k2, k3, k4, k5, Dp.exAll hg _ k6⟩
theorem set_get {α : Type} {xs : List α} {i j : Nat} {x y : α} (h : (xs.set i x)[j]? = some y) : (i = j ∧ y = x ∧ j < xs.length) ∨ (i ≠ j ∧ xs[j]? = some y) := by
  by_cases e : i = j
  · subst e
    rw [List.getElem?_set] at h
    simp at h
    exact Or.inl ⟨rfl, h.2.symm, h.1⟩
  · rw [List.getElem?_set_ne e] at h
    exact Or.inr ⟨e, h⟩
theorem Rel.put {i : Nat} (R : Rel K f G s σ H) (h : VRf K f G H s σ p v) : Rel K f G (s.put i p) (σ.set i (some v)) H where
  gh := R.gh
  fh := R.fh
  go := R.go
  oh := R.oh
  mh := R.mh
  mo := R.mo
  dr := R.dr
  ln := by simp only [Sg.put, List.length_set]; exact R.ln
  sl := fun j q hq => by
    rcases set_get hq with ⟨e, e2, hl⟩ | ⟨e, h2⟩
    · cases e2
      subst e
      exact ⟨v, by rw [List.getElem?_set_self (by rw [R.ln]; exact hl)], h.1⟩
    · obtain ⟨w, hw, hv⟩ := R.sl j q h2
      exact ⟨w, by rw [List.getElem?_set_ne e]; exact hw, hv⟩
  ds := fun a b pa pb w ne ha hb ma mb wa wb => by
    rcases set_get ha with ⟨e, e2, hl⟩ | ⟨e, h2⟩
    · cases e2
      subst e
      rcases set_get hb with ⟨e', e2', hl'⟩ | ⟨e', h2'⟩
      · exact ne e'
      · rw [List.getElem?_set_self (by rw [R.ln]; exact hl)] at wa
        cases wa
        rw [List.getElem?_set_ne e'] at wb
        exact h.2 ma b pb h2' mb wb
    · rw [List.getElem?_set_ne e] at wa
      rcases set_get hb with ⟨e', e2', hl'⟩ | ⟨e', h2'⟩
      · cases e2'
        subst e'
        rw [List.getElem?_set_self (by rw [R.ln]; exact hl')] at wb
        cases wb
        exact h.2 mb a pa h2 ma wa
      · rw [List.getElem?_set_ne e'] at wb
        exact R.ds a b pa pb w ne h2 h2' ma mb wa wb
theorem Rel.put_off {i : Nat} (R : Rel K f G s σ H) : Rel K f G (s.off i) σ H where
  gh := R.gh
  fh := R.fh
  go := R.go
  oh := R.oh
  mh := R.mh
  mo := R.mo
  dr := R.dr
  ln := by simp only [Sg.off, List.length_set]; exact R.ln
  sl := fun j q hq => by
    rcases set_get hq with ⟨e, e2, hl⟩ | ⟨e, h2⟩
    · cases e2
    · exact R.sl j q h2
  ds := fun a b pa pb w ne ha hb ma mb wa wb => by
    rcases set_get ha with ⟨e, e2, hl⟩ | ⟨e, h2⟩
    · cases e2
    rcases set_get hb with ⟨e', e2', hl'⟩ | ⟨e', h2'⟩
    · cases e2'
    exact R.ds a b pa pb w ne h2 h2' ma mb wa wb
/-- a slot's own list is given away -/
theorem Rel.away {i : Nat} (R : Rel K f G s σ H) (h : s.sl[i]? = some (some p)) : ∃ v, σ[i]? = some (some v) ∧ Rel K f G (s.off i) σ H ∧ VRf K f G H (s.off i) σ p v := by
  obtain ⟨v, h1, h2⟩ := R.sl i p h
  refine ⟨v, h1, R.put_off, h2, fun m j q hq mq => ?_⟩
  rcases set_get hq with ⟨e, e2, hl⟩ | ⟨e, h3⟩
  · cases e2
  · exact R.ds i j p q v e h h3 m mq h1
theorem Rel.more {n : Nat} (R : Rel K f G s σ H) (e : s.n ≤ n) : Rel K f G ⟨s.sl, n⟩ σ H := { gh := R.gh, fh := R.fh, go := R.go, oh := R.oh, mh := R.mh, mo := R.mo, dr := fun h => (R.dr h).more e, ln := R.ln, sl := R.sl, ds := R.ds }
/-- the slots alone -/
theorem Rel.same_sl (R : Rel K f G s σ H) : Rel K f G ⟨s.sl, s.n⟩ σ H := R
end
/-! ### the readings -/
abbrev HE := Sg → (PV → Sg → Prop) → Prop
abbrev HT := Sg → (Bool → Sg → Prop) → Prop
abbrev HA := Sg → (List PV → Sg → Prop) → Prop
structure HD where
  nx : Sg → Prop
  rt : PV → Sg → Prop
  bk : Sg → Prop := fun _ => False
  ct : Sg → Prop := fun _ => False
abbrev HS := HD → Sg → Prop
/-- the frame F with others' O (f0 alone is written in the readings; it says nothing) -/
def fo (_ : Fr) (F : Fr) (O : Addr → Prop) : Fr := ⟨F.on, F.m, F.l, F.c, F.F, O, F.M, F.r⟩
def f0 : Fr := ⟨false, 0, 0, 0, fun _ => none, fun _ => False, fun _ => False, 0⟩
def Fr.up (F : Fr) (D : Addr) (o : HO) : Fr := ⟨F.on, F.m, F.l, F.c, upd F.F D o, F.O, F.M, F.r⟩
def lf (K : PySem.W.Frag) (f : Fr) (t : HE) : TE := fun σ H Q => ∃ F O G s C, Rel K (fo f F O) G s σ H ∧ t s C ∧ ∀ p s' G' H' v, C p s' → Ex G G' → Rel K (fo f F O) G' s' σ H' → VRf K (fo f F O) G' H' s' σ p v → Q v H'
def lfT (K : PySem.W.Frag) (f : Fr) (t : HT) : TT := fun σ H Q => ∃ F O G s C, Rel K (fo f F O) G s σ H ∧ t s C ∧ ∀ b s' G' H', C b s' → Ex G G' → Rel K (fo f F O) G' s' σ H' → Q b H'
def lfA (K : PySem.W.Frag) (f : Fr) (t : HA) : TA := fun σ H Q => ∃ F O G s C, Rel K (fo f F O) G s σ H ∧ t s C ∧ ∀ ps s' G' H' vs, C ps s' → Ex G G' → Rel K (fo f F O) G' s' σ H' → VRs K (fo f F O) G' H' ps vs → Q vs H'
structure Imp (K : PySem.W.Frag) (f : Fr) (F : Fr) (O : Addr → Prop) (G0 : Hp) (D' : HD) (D : Ends) : Prop where
  nx : ∀ G s σ H, Ex G0 G → Rel K (fo f F O) G s σ H → D'.nx s → D.nx σ H
  rt : ∀ p G s σ H v, Ex G0 G → Rel K (fo f F O) G s σ H → VRf K (fo f F O) G H s σ p v → D'.rt p s → D.rt v H
  bk : ∀ G s σ H, Ex G0 G → Rel K (fo f F O) G s σ H → D'.bk s → D.bk σ H
  ct : ∀ G s σ H, Ex G0 G → Rel K (fo f F O) G s σ H → D'.ct s → D.ct σ H
theorem Imp.ex {K : PySem.W.Frag} {f : Fr} {F : Fr} {O : Addr → Prop} {G G' : Hp} {D' : HD} {D : Ends} (h : Imp K f F O G D' D) (e : Ex G G') : Imp K f F O G' D' D := ⟨fun G1 s σ H a => h.nx G1 s σ H (e.trans a), fun p G1 s σ H v a => h.rt p G1 s σ H v (e.trans a), fun G1 s σ H a => h.bk G1 s σ H (e.trans a), fun G1 s σ H a => h.ct G1 s σ H (e.trans a)⟩
def lfS (K : PySem.W.Frag) (f : Fr) (t : HS) : TS := fun D σ H => ∃ F O G s D', Rel K (fo f F O) G s σ H ∧ t D' s ∧ Imp K f F O G D' D
theorem _root_.L2.PE.mono {X : Cx} {e : Expr} {t t' : TE} (h : PE X e t) (m : ∀ σ H Q, t' σ H Q → t σ H Q) : PE X e t' := ⟨fun pins s σ H Q I q => h.run pins s σ H Q I (m σ H Q q)⟩
theorem _root_.L2.PT.mono {X : Cx} {e : Expr} {t t' : TT} (h : PT X e t) (m : ∀ σ H Q, t' σ H Q → t σ H Q) : PT X e t' := ⟨fun pins s σ H Q I q => h.run pins s σ H Q I (m σ H Q q)⟩
theorem _root_.L2.PW.mono {X : Cx} {e : Expr} {t t' : TT} (h : PW X e t) (m : ∀ σ H Q, t' σ H Q → t σ H Q) : PW X e t' := ⟨fun wh pins s σ H Q I q => h.run wh pins s σ H Q I (m σ H Q q)⟩
theorem _root_.L2.PA.mono {X : Cx} {es : List Expr} {t t' : TA} (h : PA X es t) (m : ∀ σ H Q, t' σ H Q → t σ H Q) : PA X es t' := ⟨fun pos pins s σ H Q I q => h.run pos pins s σ H Q I (m σ H Q q)⟩
theorem _root_.L2.PS.mono {X : Cx} {st : Stmt} {t t' : TS} (h : PS X st t) (m : ∀ D σ H, t' D σ H → t D σ H) : PS X st t' := ⟨fun pins s σ H D I q => h.run pins s σ H D I (m D σ H q)⟩
theorem _root_.L2.PSs.mono {X : Cx} {st : List Stmt} {t t' : TS} (h : PSs X st t) (m : ∀ D σ H, t' D σ H → t D σ H) : PSs X st t' := ⟨fun pins s σ H D I q => h.run pins s σ H D I (m D σ H q)⟩
/-! ### operands and arguments -/
@[simp] def hNil : HA := fun s C => C [] s
@[simp] def hL (j : Nat) (r : HA) : HA := fun s C => (∃ p, s.sl[j]? = some (some p)) ∧ r s fun ps s2 => ∃ p, s2.sl[j]? = some (some p) ∧ C (p :: ps) s2
@[simp] def hE (t : HE) (r : HA) : HA := fun s C => t s fun p s1 => ∃ d, p.frz = some d ∧ r s1 fun ps s2 => C (.dat d :: ps) s2
structure Opd (X : Cx) (f : Fr) (e : Expr) (o : HA → HA) : Prop where
  ex : ∃ t, PE X e t ∧ ∀ (tr : TA) (r : HA), (∀ σ H Q, lfA X.K f r σ H Q → tr σ H Q) → ∀ σ H Q, lfA X.K f (o r) σ H Q → tCons t tr σ H Q
section
variable {X : Cx} {f : Fr} {e a b c : Expr} {es : List Expr} {o oa ob oc : HA → HA} {t : HE} {r : HA} {pos : Pos}
theorem opd_e (h : PE X e (lf X.K f t)) : Opd X f e (hE t) := ⟨_, h, fun tr r m σ H Q q => by
  obtain ⟨F, O, G, s, C, R, ht, k⟩ := q
  refine ⟨F, O, G, s, _, R, ht, fun p s1 G1 H1 v c1 e1 R1 V1 => ?_⟩
  obtain ⟨d, hd, hr⟩ := c1
  obtain ⟨G2, e2, R2, V2⟩ := R1.frz V1 hd
  refine m _ _ _ ⟨F, O, G2, s1, _, R2, hr, fun ps s3 G3 H3 vs c3 e3 R3 V3 => ?_⟩
  exact k _ _ _ _ _ c3 ((e1.trans e2).trans e3) R3 (.cons (Dp.ex e3 _ V2) V3)⟩
theorem opd_v (j : Nat) (h : PE X e (tVar j)) : Opd X f e (hL j) := ⟨_, h, fun tr r m σ H Q q => by
  obtain ⟨F, O, G, s, C, R, ⟨⟨p, hp⟩, ht⟩, k⟩ := q
  obtain ⟨v, hv, _⟩ := R.sl j p hp
  refine ⟨v, hv, m _ _ _ ⟨F, O, G, s, _, R, ht, fun ps s3 G3 H3 vs c3 e3 R3 V3 => ?_⟩⟩
  obtain ⟨p2, hp2, c4⟩ := c3
  obtain ⟨v2, hv2, V2⟩ := R3.sl j p2 hp2
  rw [hv] at hv2
  cases hv2
  exact k _ _ _ _ _ c4 e3 R3 (.cons V2 V3)⟩
theorem hpa_nil : PA X [] (lfA X.K f hNil) := pa_nil.mono fun σ H Q q => by
  obtain ⟨F, O, G, s, C, R, ht, k⟩ := q
  exact k _ _ _ _ _ ht (Ex.refl G) R .nil
theorem hpa_cons (A : Opd X f e o) (h : PA X es (lfA X.K f r)) (hs : starEach (e :: es) X.env = (false, eval e X.env) :: starEach es X.env := by rfl) : PA X (e :: es) (lfA X.K f (o r)) := by
  obtain ⟨t, h1, h2⟩ := A.ex
  exact (pa_cons h1 h hs).mono fun σ H Q q => h2 _ _ (fun _ _ _ z => z) σ H Q q
/-- what a call or an operation makes of its values -/
def Op (K : PySem.W.Frag) (f : Fr) (r : List V → Hp → VK → Prop) (w : List PV → (PV → Prop) → Prop) : Prop :=
  ∀ F O G s σ H ps vs (C : PV → Prop) (Q : VK), Rel K (fo f F O) G s σ H → VRs K (fo f F O) G H ps vs → w ps C → (∀ p G' H' v, C p → Ex G G' → Rel K (fo f F O) G' s σ H' → VRf K (fo f F O) G' H' s σ p v → Q v H') → r vs H Q
@[simp] def hC (w : List PV → (PV → Prop) → Prop) (ta : HA) : HE := fun s C => ta s fun ps s' => w ps fun p => C p s'
theorem Op.lift {r : List V → Hp → VK → Prop} {w : List PV → (PV → Prop) → Prop} (h : Op X.K f r w) (ta : HA) : ∀ σ H Q, lf X.K f (hC w ta) σ H Q → lfA X.K f ta σ H fun vs H' => r vs H' Q := fun σ H Q q => by
  obtain ⟨F, O, G, s, C, R, ht, k⟩ := q
  refine ⟨F, O, G, s, _, R, ht, fun ps s1 G1 H1 vs c1 e1 R1 V1 => h F O G1 s1 σ H1 ps vs _ Q R1 V1 c1 fun p G2 H2 v c2 e2 R2 V2 => ?_⟩
  exact k p s1 G2 H2 v c2 (e1.trans e2) R2 V2
def op2 (r : R2) : List V → Hp → VK → Prop := fun vs H Q => match vs with
  | [x, y] => r x y H Q
  | _ => False
def op1 (r : V → Hp → VK → Prop) : List V → Hp → VK → Prop := fun vs H Q => match vs with
  | [x] => r x H Q
  | _ => False
theorem Opd.two {r : R2} {w : List PV → (PV → Prop) → Prop} (A : Opd X f a oa) (B : Opd X f b ob) (h : Op X.K f (op2 r) w) : ∃ ta tb, PE X a ta ∧ PE X b tb ∧ ∀ σ H Q, lf X.K f (hC w (oa (ob hNil))) σ H Q → tOp r ta tb σ H Q := by
  obtain ⟨ta, a1, a2⟩ := A.ex
  obtain ⟨tb, b1, b2⟩ := B.ex
  refine ⟨ta, tb, a1, b1, fun σ H Q q => ?_⟩
  have z := a2 (tCons tb tNil) (ob hNil) (fun σ H Q => b2 tNil hNil (fun σ H Q q => by
    obtain ⟨F, O, G, s, C, R, ht, k⟩ := q
    exact k _ _ _ _ _ ht (Ex.refl G) R .nil) σ H Q) σ H _ (h.lift _ σ H Q q)
  exact z
theorem hp_op {op : Operator} {r : R2} {w : List PV → (PV → Prop) → Prop} (hr : OpR X (binaryOp op) r) (A : Opd X f a oa) (B : Opd X f b ob) (h : Op X.K f (op2 r) w) : PE X (.BinOp a op b pos) (lf X.K f (hC w (oa (ob hNil)))) := by
  obtain ⟨ta, tb, h1, h2, h3⟩ := A.two B h
  exact (pe_op hr h1 h2).mono h3
theorem hp_cmp {op : CmpOp} {r : R2} {w : List PV → (PV → Prop) → Prop} (hr : OpR X (compareOp op) r) (A : Opd X f a oa) (B : Opd X f b ob) (h : Op X.K f (op2 r) w) (hm : behindInMarks op b = false) : PE X (.Compare a [op] [b] pos) (lf X.K f (hC w (oa (ob hNil)))) := by
  obtain ⟨ta, tb, h1, h2, h3⟩ := A.two B h
  exact (pe_cmpR hr h1 h2 hm).mono h3
@[simp] def hB (t : HE) : HT := fun s C => t s fun p s' => ∃ b, p = .dat (.bool b) ∧ C b s'
theorem lfT_B : ∀ σ H Q, lfT X.K f (hB t) σ H Q → lf X.K f t σ H fun x H1 => ∃ c, x = .bl c ∧ Q c H1 := fun σ H Q q => by
  obtain ⟨F, O, G, s, C, R, ht, k⟩ := q
  refine ⟨F, O, G, s, _, R, ht, fun p s1 G1 H1 v c1 e1 R1 V1 => ?_⟩
  obtain ⟨b, rfl, c2⟩ := c1
  have z : v = .bl b := by
    have := V1.1
    cases (show Dp X.K G1 v (.bool b) from this)
    rfl
  exact ⟨b, z, k _ _ _ _ c2 e1 R1⟩
theorem hp_test (h : PE X e (lf X.K f t)) (he : ∀ whole, isTrue e X.env whole = (do let v ← whole; standAt e.pos; holding [v] (truthy v)) := by intro _; rfl) : PT X e (lfT X.K f (hB t)) := (pt_val h he).mono lfT_B
theorem ht_cmp {op : CmpOp} {r : R2} {w : List PV → (PV → Prop) → Prop} (hr : OpR X (compareOp op) r) (A : Opd X f a oa) (B : Opd X f b ob) (h : Op X.K f (op2 r) w) (hm : behindInMarks op b = false) : PT X (.Compare a [op] [b] pos) (lfT X.K f (hB (hC w (oa (ob hNil))))) := by
  obtain ⟨ta, tb, h1, h2, h3⟩ := A.two B h
  exact (pt_cmpR hr h1 h2 hm).mono fun σ H Q q => h3 _ _ _ (lfT_B _ _ _ q)
theorem hp_ix {r : R2} {w : List PV → (PV → Prop) → Prop} (hr : IxR X r) (A : Opd X f a oa) (B : Opd X f b ob) (h : Op X.K f (op2 r) w) (hs : PlainIx b) : PE X (.Subscript a b pos) (lf X.K f (hC w (oa (ob hNil)))) := by
  obtain ⟨ta, tb, h1, h2, h3⟩ := A.two B h
  exact (pe_ix hr h1 h2 hs).mono h3
end
end Sk
set_option Elab.async false
set_option linter.all false
set_option maxRecDepth 100000
set_option maxHeartbeats 2000000
namespace Sk
open PySem PySem.Spec PyProof.Rows L2
open Evl (Ex)
/-! ### names, constants, displays, tests -/
@[simp] def hV (j : Nat) : HE := fun s C => match s.sl[j]? with
  | some (some (.dat d)) => C (.dat d) s
  | some (some (.own ds)) => C (.dat (.list ds)) (s.put j (.dat (.list ds)))
  | some (some .drw) => C .drw s
  | _ => False
@[simp] def hM (j : Nat) : HE := fun s C => match s.sl[j]? with
  | some (some p) => C p (s.off j)
  | _ => False
@[simp] def hK (d : PyData) : HE := fun s C => C (.dat d) s
@[simp] def dats : List PV → Option (List PyData)
  | [] => some []
  | .dat d :: r => (dats r).map (d :: ·)
  | _ => none
@[simp] def hTup (ta : HA) : HE := hC (fun ps C => ∃ ds, dats ps = some ds ∧ ds.length ≤ 100000 ∧ C (.dat (.tuple ds))) ta
@[simp] def hLst (ta : HA) : HE := hC (fun ps C => ∃ ds, dats ps = some ds ∧ ds.length ≤ 100000 ∧ C (.own ds)) ta
@[simp] def hAndV (t u : HE) : HE := fun s C => t s fun p s1 => ∃ b, p = .dat (.bool b) ∧ if b = true then u s1 C else C (.dat (.bool false)) s1
@[simp] def hOrV (t u : HE) : HE := fun s C => t s fun p s1 => ∃ b, p = .dat (.bool b) ∧ if b = true then C (.dat (.bool true)) s1 else u s1 C
@[simp] def hNotV (t : HE) : HE := fun s C => t s fun p s1 => ∃ b, p = .dat (.bool b) ∧ C (.dat (.bool (!b))) s1
@[simp] def hIf (c : HT) (t u : HE) : HE := fun s C => c s fun b s1 => if b = true then t s1 C else u s1 C
@[simp] def hAnd (t u : HT) : HT := fun s C => t s fun b s1 => if b = true then u s1 C else C false s1
@[simp] def hOr (t u : HT) : HT := fun s C => t s fun b s1 => if b = true then C true s1 else u s1 C
@[simp] def hNot (t : HT) : HT := fun s C => t s fun b s1 => C (!b) s1
section
variable {X : Cx} {f : Fr} {e a b c : Expr} {es : List Expr} {o oa ob oc : HA → HA} {t u : HE} {tt tu : HT} {r : HA} {pos : Pos}
theorem dats_all {K : PySem.W.Frag} {f : Fr} {G H : Hp} : ∀ {ps : List PV} {vs : List V} {ds : List PyData}, dats ps = some ds → VRs K f G H ps vs → DpAll K G vs ds
  | [], _, _, h, .nil => by cases h; exact .nil
  | .dat d :: r, _, _, h, .cons h1 h2 => by
    rw [dats] at h
    cases q : dats r with
    | none => rw [q] at h; cases h
    | some es => rw [q] at h; cases h; exact .cons h1 (dats_all q h2)
  | .own _ :: _, _, _, h, .cons _ _ => by cases h
  | .dct _ :: _, _, _, h, .cons _ _ => by cases h
  | .drw :: _, _, _, h, .cons _ _ => by cases h
  | .val _ :: _, _, _, h, .cons _ _ => by cases h
  | .byr _ :: _, _, _, h, .cons _ _ => by cases h
theorem hp_v (j : Nat) (h : PE X e (tVar j)) : PE X e (lf X.K f (hV j)) := h.mono fun σ H Q q => by
  obtain ⟨F, O, G, s, C, R, ht, k⟩ := q
  unfold hV at ht
  split at ht
  · rename_i d hd
    obtain ⟨v, hv, V⟩ := R.sl j _ hd
    exact ⟨v, hv, k _ _ _ _ _ ht (Ex.refl G) R (vrf_dat V)⟩
  · rename_i ds hd
    obtain ⟨v, hv, R1, V1⟩ := R.away hd
    obtain ⟨G2, e2, R2, V2⟩ := R1.frz V1 rfl
    refine ⟨v, hv, k _ _ _ _ _ ht e2 ?_ (vrf_dat V2)⟩
    have := R2.put (i := j) (vrf_dat (f := fo f F O) (H := H) (s := s.off j) (σ := σ) V2)
    have e1 : (s.off j).put j (.dat (.list ds)) = s.put j (.dat (.list ds)) := by simp [Sg.off, Sg.put, List.set_set]
    have e2 : σ.set j (some v) = σ := by
      apply List.ext_getElem?
      intro i
      by_cases z : j = i
      · subst z
        rw [List.getElem?_set_self (by exact (List.getElem?_eq_some_iff.mp hv).1), hv]
      · rw [List.getElem?_set_ne z]
    rw [e1, e2] at this
    exact this
  · rename_i hd
    obtain ⟨v, hv, V⟩ := R.sl j _ hd
    exact ⟨v, hv, k _ _ _ _ _ ht (Ex.refl G) R ⟨V, fun z => by cases z⟩⟩
  · exact ht.elim
theorem hp_m (j : Nat) (h : PE X e (tVar j)) : PE X e (lf X.K f (hM j)) := h.mono fun σ H Q q => by
  obtain ⟨F, O, G, s, C, R, ht, k⟩ := q
  unfold hM at ht
  split at ht
  · rename_i d hd
    obtain ⟨v, hv, R1, V1⟩ := R.away hd
    exact ⟨v, hv, k _ _ _ _ _ ht (Ex.refl G) R1 V1⟩
  · exact ht.elim
theorem hp_k {v : V} {d : PyData} (h : PE X e (tC v)) (hv : ∀ G, Dp X.K G v d) : PE X e (lf X.K f (hK d)) := h.mono fun σ H Q q => by
  obtain ⟨F, O, G, s, C, R, ht, k⟩ := q
  exact k _ _ _ _ _ ht (Ex.refl G) R (vrf_dat (hv G))
/-- a value that is no datum (a class) -/
def hW (v : V) : HE := fun s C => C (.val v) s
theorem opd_w {v : V} (h : PE X e (tC v)) : Opd X f e (fun r s C => r s fun ps s2 => C (.val v :: ps) s2) := ⟨_, h, fun tr r m σ H Q q => by
  obtain ⟨F, O, G, s, C, R, ht, k⟩ := q
  refine m _ _ _ ⟨F, O, G, s, _, R, ht, fun ps s3 G3 H3 vs c3 e3 R3 V3 => ?_⟩
  exact k _ _ _ _ _ c3 e3 R3 (.cons rfl V3)⟩
theorem op_tup : Op X.K f (fun vs H Q => vs.length ≤ sizeLine ∧ ∀ p, H p = none → Q (.ref p) (upd H p (.tup vs))) (fun ps C => ∃ ds, dats ps = some ds ∧ ds.length ≤ 100000 ∧ C (.dat (.tuple ds))) := fun F O G s σ H ps vs C Q R V w k => by
  obtain ⟨ds, h1, h2, h3⟩ := w
  have D := dats_all h1 V
  refine ⟨by rw [D.len]; exact Evl.sz_of h2, fun p hp => k _ _ _ _ h3 (Evl.Ex.new (R.gn hp)) (R.newG hp) (vrf_dat (.tup (Or.inl (Or.inl upd_same)) (Dp.exAll (Evl.Ex.new (R.gn hp)) _ D)))⟩
theorem op_lst : Op X.K f (fun vs H Q => vs.length ≤ sizeLine ∧ ∀ p, H p = none → Q (.ref p) (upd H p (.lst vs))) (fun ps C => ∃ ds, dats ps = some ds ∧ ds.length ≤ 100000 ∧ C (.own ds)) := fun F O G s σ H ps vs C Q R V w k => by
  obtain ⟨ds, h1, h2, h3⟩ := w
  have D := dats_all h1 V
  exact ⟨by rw [D.len]; exact Evl.sz_of h2, fun p hp => k _ _ _ _ h3 (Ex.refl G) (R.new hp) (R.own hp D)⟩
theorem hp_tup {x1} (h : PA X es (lfA X.K f r)) : PE X (.Tuple es x1 pos) (lf X.K f (hTup r)) := (pe_tup h).mono fun σ H Q q => op_tup.lift _ _ _ _ q
theorem hp_lst (h : PA X es (lfA X.K f r)) : PE X (.List es pos) (lf X.K f (hLst r)) := (pe_lst h).mono fun σ H Q q => op_lst.lift _ _ _ _ q
theorem vr_bool {K : PySem.W.Frag} {f : Fr} {G H : Hp} {s : Sg} {σ : L2.St} {b : Bool} {v : V} (h : VRf K f G H s σ (.dat (.bool b)) v) : v = .bl b := by
  cases (show Dp K G v (.bool b) from h.1)
  rfl
theorem hp_andV {rest : List Expr} (ha : PE X a (lf X.K f t)) (hb : PE X (.BoolOp .And (b :: rest) pos) (lf X.K f u)) : PE X (.BoolOp .And (a :: b :: rest) pos) (lf X.K f (hAndV t u)) := (pe_and ha hb).mono fun σ H Q q => by
  obtain ⟨F, O, G, s, C, R, ht, k⟩ := q
  refine ⟨F, O, G, s, _, R, ht, fun p s1 G1 H1 v c1 e1 R1 V1 => ?_⟩
  obtain ⟨b, rfl, c2⟩ := c1
  refine ⟨b, vr_bool V1, ?_⟩
  cases b with
  | true => exact ⟨F, O, G1, s1, _, R1, c2, fun p2 s2 G2 H2 v2 c3 e3 => k _ _ _ _ _ c3 (e1.trans e3)⟩
  | false => exact k _ _ _ _ _ c2 e1 R1 (vrf_dat (.bl false))
theorem hp_orV {rest : List Expr} (ha : PE X a (lf X.K f t)) (hb : PE X (.BoolOp .Or (b :: rest) pos) (lf X.K f u)) : PE X (.BoolOp .Or (a :: b :: rest) pos) (lf X.K f (hOrV t u)) := (pe_or ha hb).mono fun σ H Q q => by
  obtain ⟨F, O, G, s, C, R, ht, k⟩ := q
  refine ⟨F, O, G, s, _, R, ht, fun p s1 G1 H1 v c1 e1 R1 V1 => ?_⟩
  obtain ⟨b, rfl, c2⟩ := c1
  refine ⟨b, vr_bool V1, ?_⟩
  cases b with
  | false => exact ⟨F, O, G1, s1, _, R1, c2, fun p2 s2 G2 H2 v2 c3 e3 => k _ _ _ _ _ c3 (e1.trans e3)⟩
  | true => exact k _ _ _ _ _ c2 e1 R1 (vrf_dat (.bl true))
theorem hp_notV (ha : PE X a (lf X.K f t)) : PE X (.UnaryOp .Not a pos) (lf X.K f (hNotV t)) := (pe_not ha).mono fun σ H Q q => by
  obtain ⟨F, O, G, s, C, R, ht, k⟩ := q
  refine ⟨F, O, G, s, _, R, ht, fun p s1 G1 H1 v c1 e1 R1 V1 => ?_⟩
  obtain ⟨b, rfl, c2⟩ := c1
  exact ⟨b, vr_bool V1, k _ _ _ _ _ c2 e1 R1 (vrf_dat (.bl _))⟩
theorem hp_if (hc : PT X c (lfT X.K f tt)) (ha : PE X a (lf X.K f t)) (hb : PE X b (lf X.K f u)) : PE X (.IfExp c a b pos) (lf X.K f (hIf tt t u)) := (pe_ifExp hc ha hb).mono fun σ H Q q => by
  obtain ⟨F, O, G, s, C, R, ht, k⟩ := q
  refine ⟨F, O, G, s, _, R, ht, fun b s1 G1 H1 c1 e1 R1 => ?_⟩
  cases b with
  | true => exact ⟨F, O, G1, s1, _, R1, c1, fun p2 s2 G2 H2 v2 c3 e3 => k _ _ _ _ _ c3 (e1.trans e3)⟩
  | false => exact ⟨F, O, G1, s1, _, R1, c1, fun p2 s2 G2 H2 v2 c3 e3 => k _ _ _ _ _ c3 (e1.trans e3)⟩
theorem ht_and1 (ha : PT X a (lfT X.K f tt)) : PW X (.BoolOp .And [a] pos) (lfT X.K f tt) := pw_and1 ha
theorem ht_or1 (ha : PT X a (lfT X.K f tt)) : PW X (.BoolOp .Or [a] pos) (lfT X.K f tt) := pw_or1 ha
theorem ht_and {rest : List Expr} (ha : PT X a (lfT X.K f tt)) (hb : PW X (.BoolOp .And (b :: rest) pos) (lfT X.K f tu)) : PW X (.BoolOp .And (a :: b :: rest) pos) (lfT X.K f (hAnd tt tu)) := (pw_and ha hb).mono fun σ H Q q => by
  obtain ⟨F, O, G, s, C, R, ht, k⟩ := q
  refine ⟨F, O, G, s, _, R, ht, fun b s1 G1 H1 c1 e1 R1 => ?_⟩
  cases b with
  | true => exact ⟨F, O, G1, s1, _, R1, c1, fun p2 s2 G2 H2 c3 e3 => k _ _ _ _ c3 (e1.trans e3)⟩
  | false => exact k _ _ _ _ c1 e1 R1
theorem ht_or {rest : List Expr} (ha : PT X a (lfT X.K f tt)) (hb : PW X (.BoolOp .Or (b :: rest) pos) (lfT X.K f tu)) : PW X (.BoolOp .Or (a :: b :: rest) pos) (lfT X.K f (hOr tt tu)) := (pw_or ha hb).mono fun σ H Q q => by
  obtain ⟨F, O, G, s, C, R, ht, k⟩ := q
  refine ⟨F, O, G, s, _, R, ht, fun b s1 G1 H1 c1 e1 R1 => ?_⟩
  cases b with
  | false => exact ⟨F, O, G1, s1, _, R1, c1, fun p2 s2 G2 H2 c3 e3 => k _ _ _ _ c3 (e1.trans e3)⟩
  | true => exact k _ _ _ _ c1 e1 R1
theorem ht_not (ha : PT X a (lfT X.K f tt)) : PT X (.UnaryOp .Not a pos) (lfT X.K f (hNot tt)) := (pt_not ha).mono fun σ H Q q => by
  obtain ⟨F, O, G, s, C, R, ht, k⟩ := q
  exact ⟨F, O, G, s, _, R, ht, fun b s1 G1 H1 c1 e1 R1 => k _ _ _ _ c1 e1 R1⟩
/-- a op b op' c -/
@[simp] def hChain (w w' : List PV → (PV → Prop) → Prop) (oa ob oc : HA → HA) : HE := fun s C => oa (ob hNil) s fun ps s1 => match ps with
  | [x, y] => y.mut = false ∧ w [x, y] fun p => ∃ b, p = .dat (.bool b) ∧ if b = true then oc hNil s1 fun qs s2 => match qs with
      | [z] => w' [y, z] fun p2 => C p2 s2
      | _ => False
    else C (.dat (.bool false)) s1
  | _ => False
theorem VR.keepI {K : PySem.W.Frag} {f : Fr} {G G' H H' : Hp} {p : PV} {v : V} (h : VR K f G H p v) (m : p.mut = false) (e : Ex G G') : VR K f G' H' p v := by
  cases p with
  | dat d => exact Dp.ex e _ h
  | drw => exact h
  | val _ => exact h
  | own _ => cases m
  | byr _ => cases m
  | dct _ => cases m
theorem chain_conv {r r' : R2} {w w' : List PV → (PV → Prop) → Prop} (A : Opd X f a oa) (B : Opd X f b ob) (D : Opd X f c oc) (h : Op X.K f (op2 r) w) (h' : Op X.K f (op2 r') w') : ∃ ta tb tc, PE X a ta ∧ PE X b tb ∧ PE X c tc ∧ ∀ σ H Q, lf X.K f (hChain w w' oa ob oc) σ H Q → tChain r r' ta tb tc σ H Q := by
  obtain ⟨ta, a1, a2⟩ := A.ex
  obtain ⟨tb, b1, b2⟩ := B.ex
  obtain ⟨tc, c1, c2⟩ := D.ex
  have nil : ∀ (σ : L2.St) (H : Hp) (Q : List V → Hp → Prop), lfA X.K f hNil σ H Q → tNil σ H Q := fun σ H Q q => by
    obtain ⟨F, O, G, s, C, R, ht, k⟩ := q
    exact k _ _ _ _ _ ht (Ex.refl G) R .nil
  refine ⟨ta, tb, tc, a1, b1, c1, fun σ H Q q => ?_⟩
  obtain ⟨F, O, G, s, C, R, ht, k⟩ := q
  refine a2 (tCons tb tNil) (ob hNil) (fun σ H Q => b2 tNil hNil nil σ H Q) σ H (fun vs H2 => op2 r vs H2 fun z H3 => ∃ k, z = .bl k ∧ if k = true then tc σ H3 fun w H4 => op2 r' [(vs[1]?).getD .non, w] H4 Q else Q (.bl false) H3) ?_
  refine ⟨F, O, G, s, _, R, ht, fun ps s1 G1 H1 vs d1 e1 R1 V1 => ?_⟩
  split at d1
  case h_2 => exact d1.elim
  rename_i x y
  obtain ⟨my, d2⟩ := d1
  cases V1 with
  | cons vx V1 =>
    cases V1 with
    | cons vy V1 =>
      cases V1
      refine h F O G1 s1 σ H1 _ _ _ _ R1 (.cons vx (.cons vy .nil)) d2 fun p G2 H2 v d3 e2 R2 V2 => ?_
      obtain ⟨b, rfl, d4⟩ := d3
      refine ⟨b, vr_bool V2, ?_⟩
      cases b with
      | false => exact k _ _ _ _ _ d4 (e1.trans e2) R2 (vrf_dat (.bl false))
      | true =>
        refine c2 tNil hNil nil σ H2 (fun ws H4 => op2 r' ([(_ : List V)[1]?.getD .non] ++ ws) H4 Q) ⟨F, O, G2, s1, _, R2, d4, fun qs s2 G3 H3 ws d5 e3 R3 V3 => ?_⟩
        split at d5
        case h_2 => exact d5.elim
        have d6 := d5
        cases V3 with
        | cons vz V3 =>
          cases V3
          exact h' F O G3 s2 σ H3 _ _ _ _ R3 (.cons (vy.keepI my (e2.trans e3)) (.cons vz .nil)) d6 fun p G4 H4 v d7 e4 R4 V4 => k _ _ _ _ _ d7 (((e1.trans e2).trans e3).trans e4) R4 V4
theorem hp_chain {op op' : CmpOp} {r r' : R2} {w w' : List PV → (PV → Prop) → Prop} (hr : OpR X (compareOp op) r) (hr' : OpR X (compareOp op') r') (A : Opd X f a oa) (B : Opd X f b ob) (D : Opd X f c oc) (h : Op X.K f (op2 r) w) (h' : Op X.K f (op2 r') w')
    (hm : lastMarks [op, op'] [b, c] = false := by with_unfolding_all rfl) : PE X (.Compare a [op, op'] [b, c] pos) (lf X.K f (hChain w w' oa ob oc)) := by
  obtain ⟨ta, tb, tc, a1, b1, c1, h3⟩ := chain_conv A B D h h'
  exact (pe_chain hr hr' a1 b1 c1 hm).mono h3
theorem ht_chain {op op' : CmpOp} {r r' : R2} {w w' : List PV → (PV → Prop) → Prop} (hr : OpR X (compareOp op) r) (hr' : OpR X (compareOp op') r') (A : Opd X f a oa) (B : Opd X f b ob) (D : Opd X f c oc) (h : Op X.K f (op2 r) w) (h' : Op X.K f (op2 r') w')
    (hm : lastMarks [op, op'] [b, c] = false := by with_unfolding_all rfl) : PT X (.Compare a [op, op'] [b, c] pos) (lfT X.K f (hB (hChain w w' oa ob oc))) := by
  obtain ⟨ta, tb, tc, a1, b1, c1, h3⟩ := chain_conv A B D h h'
  exact (pt_chain hr hr' a1 b1 c1 hm).mono fun σ H Q q => h3 _ _ _ (lfT_B _ _ _ q)
/-! ### calls of built-ins -/
variable {x id T : Str} {p : Pos}
theorem hp_callB {id : String} {x : Str} {rr : List V → Hp → VK → Prop} {w : List PV → (PV → Prop) → Prop} (hc : CallR X (.builtin id) rr) (hw : Op X.K f rr w) (hg : Gl X x) (hm : X.mg x = none) (hv : bootBuiltins x = some (.builtin id)) (ha : PA X (e :: es) (lfA X.K f r)) (hn : x ≠ "__name__" := by decide) (hdb : (x == ("__debug__" : Str)) = false := by decide)
    (he : starEach (e :: es) X.env = (false, eval e X.env) :: starEach es X.env := by rfl) (hpl : (backTo pos (starEach es X.env)).any (·.1) = false := by rfl) : PE X (.Call (.Name x p) (e :: es) [] pos) (lf X.K f (hC w r)) :=
  (pe_callB hc hg hm hv ha hn hdb he hpl).mono fun σ H Q q => hw.lift _ _ _ _ q
theorem hp_callTy {T : String} {x : Str} {rr : List V → Hp → VK → Prop} {w : List PV → (PV → Prop) → Prop} (hc : CallR X (.type T) rr) (hw : Op X.K f rr w) (hg : Gl X x) (hm : X.mg x = none) (hv : bootBuiltins x = some (.type T)) (ha : PA X (e :: es) (lfA X.K f r)) (hn : x ≠ "__name__" := by decide) (hdb : (x == ("__debug__" : Str)) = false := by decide)
    (he : starEach (e :: es) X.env = (false, eval e X.env) :: starEach es X.env := by rfl) (hpl : (backTo pos (starEach es X.env)).any (·.1) = false := by rfl) : PE X (.Call (.Name x p) (e :: es) [] pos) (lf X.K f (hC w r)) :=
  (pe_callTy hc hg hm hv ha hn hdb he hpl).mono fun σ H Q q => hw.lift _ _ _ _ q
end
/-! ### statements -/
@[simp] def hSeq (t u : HS) : HS := fun D s => t { D with nx := u D } s
@[simp] def hNext : HS := fun D s => D.nx s
@[simp] def hNever : HS := fun _ _ => False
@[simp] def hAsg (t : HE) (i : Nat) : HS := fun D s => t s fun p s' => D.nx (s'.put i p)
@[simp] def hRet (t : HE) : HS := fun D s => t s D.rt
@[simp] def hRetN : HS := fun D s => D.rt (.dat .none) s
@[simp] def hIfS (c : HT) (t u : HS) : HS := fun D s => c s fun b s1 => if b = true then t D s1 else u D s1
@[simp] def hDrop (t : HE) : HS := fun D s => t s fun _ s' => D.nx s'
@[simp] def hBrk : HS := fun D s => D.bk s
@[simp] def hCnt : HS := fun D s => D.ct s
@[simp] def hPar (i j : Nat) (ta : HA) : HS := fun D s => ta s fun ps s1 => ∃ p q, ps = [p, q] ∧ p.mut = false ∧ q.mut = false ∧ D.nx ((s1.put i p).put j q)
def hWhile (c : HT) (t : HS) : HS := fun D s => ∃ (I : Sg → Prop) (μ : Sg → Nat), I s ∧ ∀ s, I s → c s fun b s1 => if b = true then t { D with nx := fun s' => I s' ∧ μ s' < μ s, ct := fun s' => I s' ∧ μ s' < μ s, bk := D.nx } s1 else D.nx s1
/-- targets -/
abbrev HG := PyData → Sg → (Sg → Prop) → Prop
@[simp] def gN (i : Nat) : HG := fun d s C => C (s.put i (.dat d))
@[simp] def gP (i j : Nat) : HG := fun d s C => match d with
  | .tuple [a, b] => C ((s.put i (.dat a)).put j (.dat b))
  | _ => False
@[simp] def gT (i j k : Nat) : HG := fun d s C => match d with
  | .tuple [a, b, c] => C (((s.put i (.dat a)).put j (.dat b)).put k (.dat c))
  | _ => False
def lfG (K : PySem.W.Frag) (f : Fr) (g : HG) (ws : List Nat) : TG := fun v σ H Q => ∃ F O G s d C, Rel K (fo f F O) G s σ H ∧ Dp K G v d ∧ g d s C ∧ ∀ s' σ', C s' → (∀ i, i ∉ ws → σ'[i]? = σ[i]?) → Rel K (fo f F O) G s' σ' H → Q σ' H
/-- what is walked -/
abbrev HI := Sg → (List PyData → Sg → Prop) → Prop
def ItOk (K : PySem.W.Frag) (f : Fr) (G0 : Hp) (ds : List PyData) (J : It) : Prop := ∀ (i : Nat) F O G s σ H, Ex G0 G → Rel K (fo f F O) G s σ H → (ds.length ≤ i → J.stop i H) ∧ ∀ d, ds[i]? = some d → J.go i H ∧ ∀ x H', J.yld i H x H' → ∃ G', Ex G G' ∧ Ex H H' ∧ Rel K (fo f F O) G' s σ H' ∧ Dp K G' x d
def lfI (K : PySem.W.Frag) (f : Fr) (t : HI) : TI := fun σ H R => ∃ F O G s C, Rel K (fo f F O) G s σ H ∧ t s C ∧ ∀ ds s' G' H' J, C ds s' → Ex G G' → Rel K (fo f F O) G' s' σ H' → ItOk K f G' ds J → R J H'
@[simp] def each (g : HG) (t : HS) (D : HD) : List PyData → Sg → Prop
  | [], s => D.nx s
  | d :: ds, s => g d s fun s1 => t { D with nx := each g t D ds, ct := each g t D ds, bk := D.nx } s1
@[simp] def hFor (it : HI) (g : HG) (t : HS) : HS := fun D s => it s fun ds s1 => each g t D ds s1
theorem _root_.L2.PI.mono {X : Cx} {tg it : Expr} {t t' : TI} (h : PI X tg it t) (m : ∀ σ H R, t' σ H R → t σ H R) : PI X tg it t' := ⟨fun pins s σ H R I q => h.run pins s σ H R I (m σ H R q)⟩
theorem _root_.L2.PG.mono {X : Cx} {tg : Expr} {t t' : TG} (h : PG X tg t) (m : ∀ v σ H Q, t' v σ H Q → t v σ H Q) : PG X tg t' := ⟨fun pins s σ H v u Q I r q => h.run pins s σ H v u Q I r (m v σ H Q q)⟩
section
variable {X : Cx} {f : Fr} {e a b c : Expr} {es : List Expr} {st : Stmt} {sts rest : List Stmt} {t : HE} {tt : HT} {ts tu : HS} {r : HA} {g : HG} {ws : List Nat} {it : HI} {pos : Pos}
theorem hs_nil : PSs X [] (lfS X.K f hNext) := pss_nil.mono fun D σ H q => by
  obtain ⟨F, O, G, s, D', R, ht, k⟩ := q
  exact k.nx _ _ _ _ (Ex.refl G) R ht
theorem hs_one (h : PS X st (lfS X.K f ts)) : PSs X [st] (lfS X.K f ts) := pss_one h
theorem hs_cons (h1 : PS X st (lfS X.K f ts)) (h2 : PSs X rest (lfS X.K f tu)) : PSs X (st :: rest) (lfS X.K f (hSeq ts tu)) := (pss_cons h1 h2).mono fun D σ H q => by
  obtain ⟨F, O, G, s, D', R, ht, k⟩ := q
  exact ⟨F, O, G, s, _, R, ht, ⟨fun G1 s1 σ1 H1 e1 R1 d1 => ⟨F, O, G1, s1, D', R1, d1, k.ex e1⟩, k.rt, k.bk, k.ct⟩⟩
theorem hs_asg {te : TE} {i : Nat} (h : PS X st (tAsg te (gName i))) (m : ∀ σ H Q, lf X.K f t σ H Q → te σ H Q) : PS X st (lfS X.K f (hAsg t i)) := h.mono fun D σ H q => by
  obtain ⟨F, O, G, s, D', R, ht, k⟩ := q
  exact m _ _ _ ⟨F, O, G, s, _, R, ht, fun p s1 G1 H1 v c1 e1 R1 V1 => k.nx _ _ _ _ e1 (R1.put V1) c1⟩
/-- name = e -/
theorem hs_set {i : Nat} {x : Str} {pos' : Pos} (hN : X.N.Nodup) (hi : X.N[i]? = some x) (hx : Loc X.env.scope x) (he : PE X e (lf X.K f t)) (hs : swapsWith e (some (.Name x pos')) pos.line X.env = pure false := by rfl) (hf : X.fn x = true ∨ X.env.scope.names.lookup x = some .local := by first | exact .inl rfl | exact .inr rfl | assumption) :
    PS X (.Assign [.Name x pos'] e pos) (lfS X.K f (hAsg t i)) := hs_asg (ps_set hN hi hx he hs hf) fun _ _ _ q => q
theorem hs_ret (he : PE X e (lf X.K f t)) : PS X (.Return (some e) pos) (lfS X.K f (hRet t)) := (ps_ret he).mono fun D σ H q => by
  obtain ⟨F, O, G, s, D', R, ht, k⟩ := q
  exact ⟨F, O, G, s, _, R, ht, fun p s1 G1 H1 v c1 e1 R1 V1 => k.rt _ _ _ _ _ _ e1 R1 V1 c1⟩
theorem hs_retN : PS X (.Return none pos) (lfS X.K f hRetN) := ps_retN.mono fun D σ H q => by
  obtain ⟨F, O, G, s, D', R, ht, k⟩ := q
  exact k.rt _ _ _ _ _ _ (Ex.refl G) R (vrf_dat .non) ht
theorem hs_if (hc : PT X c (lfT X.K f tt)) (ha : PSs X sts (lfS X.K f ts)) (hb : PSs X rest (lfS X.K f tu)) : PS X (.If c sts rest pos) (lfS X.K f (hIfS tt ts tu)) := (ps_if hc ha hb).mono fun D σ H q => by
  obtain ⟨F, O, G, s, D', R, ht, k⟩ := q
  refine ⟨F, O, G, s, _, R, ht, fun b s1 G1 H1 c1 e1 R1 => ?_⟩
  cases b with
  | true => exact ⟨F, O, G1, s1, D', R1, c1, k.ex e1⟩
  | false => exact ⟨F, O, G1, s1, D', R1, c1, k.ex e1⟩
theorem hs_never : PS X st (lfS X.K f hNever) := ps_never.mono fun D σ H q => by
  obtain ⟨F, O, G, s, D', R, ht, k⟩ := q
  exact ht.elim
theorem hs_drop (he : PE X e (lf X.K f t)) (hs : swapsWith e none pos.line X.env = pure false := by rfl) : PS X (.Expr e pos) (lfS X.K f (hDrop t)) := (ps_expr he hs).mono fun D σ H q => by
  obtain ⟨F, O, G, s, D', R, ht, k⟩ := q
  exact ⟨F, O, G, s, _, R, ht, fun p s1 G1 H1 v c1 e1 R1 V1 => k.nx _ _ _ _ e1 R1 c1⟩
theorem hs_brk : PS X (.Break pos) (lfS X.K f hBrk) := ps_break.mono fun D σ H q => by
  obtain ⟨F, O, G, s, D', R, ht, k⟩ := q
  exact k.bk _ _ _ _ (Ex.refl G) R ht
theorem hs_cnt : PS X (.Continue pos) (lfS X.K f hCnt) := ps_continue.mono fun D σ H q => by
  obtain ⟨F, O, G, s, D', R, ht, k⟩ := q
  exact k.ct _ _ _ _ (Ex.refl G) R ht
theorem hs_while (hp : PassesOwn (model X.prog X.w) X.A X.env X.xe) (hc : PT X c (lfT X.K f tt)) (hb : PSs X sts (lfS X.K f ts)) : PS X (.While c sts [] pos) (lfS X.K f (hWhile tt ts)) := (ps_while hp hc hb).mono fun D σ H q => by
  obtain ⟨F, O, G, s, D', R, ⟨I, μ, hI, turn⟩, k⟩ := q
  refine ⟨fun m σ H => ∃ G2 s2, Ex G G2 ∧ Rel X.K (fo f F O) G2 s2 σ H ∧ I s2 ∧ m = μ s2, ⟨_, G, s, Ex.refl G, R, hI, rfl⟩, ?_⟩
  rintro m σ2 H2 ⟨G2, s2, e2, R2, I2, rfl⟩
  refine ⟨F, O, G2, s2, _, R2, turn s2 I2, fun b s3 G3 H3 c3 e3 R3 => ?_⟩
  cases b with
  | false => exact k.nx _ _ _ _ (e2.trans e3) R3 c3
  | true =>
    refine ⟨fun σ' H' => ∃ G4 s4, Ex G G4 ∧ Rel X.K (fo f F O) G4 s4 σ' H' ∧ I s4 ∧ μ s4 < μ s2, fun σ' H' h => ?_, F, O, G3, s3, _, R3, c3, ⟨fun G4 s4 σ4 H4 e4 R4 d4 => ⟨G4, s4, (e2.trans e3).trans e4, R4, d4.1, d4.2⟩, fun p G4 s4 σ4 H4 v e4 => k.rt p G4 s4 σ4 H4 v ((e2.trans e3).trans e4), fun G4 s4 σ4 H4 e4 => k.nx G4 s4 σ4 H4 ((e2.trans e3).trans e4), fun G4 s4 σ4 H4 e4 R4 d4 => ⟨G4, s4, (e2.trans e3).trans e4, R4, d4.1, d4.2⟩⟩⟩
    obtain ⟨G4, s4, a1, a2, a3, a4⟩ := h
    exact ⟨_, a4, G4, s4, a1, a2, a3, rfl⟩
theorem hs_for (hp : PassesOwn (model X.prog X.w) X.A X.env X.xe) (hc : X.calm = true) (hi : PI X a e (lfI X.K f it)) (hg : PG X a (lfG X.K f g ws)) (hb : PSs X sts (lfS X.K f ts)) (hs : ∀ x, foldedSetIterable e X.env x = pure x := by intro _; rfl) :
    PS X (.For a e sts [] pos) (lfS X.K f (hFor it g ts)) := (ps_for hp hc hi hg hb hs).mono fun D σ H q => by
  obtain ⟨F, O, G, s, D', R, ht, k⟩ := q
  refine ⟨F, O, G, s, _, R, ht, fun ds s1 G1 H1 J c1 e1 R1 ok => ?_⟩
  refine ⟨fun i m σ2 H2 => ∃ G2 s2, Ex G1 G2 ∧ Rel X.K (fo f F O) G2 s2 σ2 H2 ∧ m = ds.length - i ∧ each g ts D' (ds.drop i) s2, ⟨_, G1, s1, Ex.refl G1, R1, rfl, c1⟩, ?_⟩
  rintro i m σ2 H2 ⟨G2, s2, e2, R2, rfl, w⟩
  obtain ⟨k1, k2⟩ := ok i F O G2 s2 σ2 H2 e2 R2
  by_cases hi : i < ds.length
  · have hd : ds[i]? = some ds[i] := List.getElem?_eq_getElem hi
    obtain ⟨go, yl⟩ := k2 _ hd
    rw [List.drop_eq_getElem_cons hi] at w
    refine Or.inr ⟨go, fun σ' H' => ∃ G3 s3, Ex G1 G3 ∧ Rel X.K (fo f F O) G3 s3 σ' H' ∧ each g ts D' (ds.drop (i + 1)) s3, fun σ' H' h => ?_, fun x H' y => ?_⟩
    · obtain ⟨G3, s3, b1, b2, b3⟩ := h
      exact ⟨_, by omega, G3, s3, b1, b2, rfl, b3⟩
    · obtain ⟨G3, e3, _, R3, V3⟩ := yl x H' y
      refine ⟨F, O, G3, s2, _, _, R3, V3, w, fun s4 σ4 c4 _ R4 => ?_⟩
      exact ⟨F, O, G3, s4, _, R4, c4, ⟨fun G5 s5 σ5 H5 e5 R5 d5 => ⟨G5, s5, (e2.trans e3).trans e5, R5, d5⟩, fun p G5 s5 σ5 H5 v e5 => k.rt p G5 s5 σ5 H5 v (((e1.trans e2).trans e3).trans e5), fun G5 s5 σ5 H5 e5 => k.nx G5 s5 σ5 H5 (((e1.trans e2).trans e3).trans e5), fun G5 s5 σ5 H5 e5 R5 d5 => ⟨G5, s5, (e2.trans e3).trans e5, R5, d5⟩⟩⟩
  · rw [List.drop_eq_nil_of_le (by omega)] at w
    exact Or.inl ⟨k1 (by omega), k.nx _ _ _ _ (e1.trans e2) R2 w⟩
/-! ### targets -/
theorem hg_name {i : Nat} (h : PG X a (gName i)) : PG X a (lfG X.K f (gN i) [i]) := h.mono fun v σ H Q q => by
  obtain ⟨F, O, G, s, d, C, R, V, hg, k⟩ := q
  exact k _ _ hg (fun z hz => List.getElem?_set_ne (fun e => hz (by simp [e]))) (R.put (vrf_dat V))
theorem hg_pair {i j : Nat} (h : PG X a (gTup X.K 2 (gCons (gName i) (gCons (gName j) gNil)))) : PG X a (lfG X.K f (gP i j) [i, j]) := h.mono fun v σ H Q q => by
  obtain ⟨F, O, G, s, d, C, R, V, hg, k⟩ := q
  unfold gP at hg
  split at hg
  · rename_i x y
    cases V with
    | tup hs ha =>
      cases ha with
      | cons h1 h2 =>
        cases h2 with
        | cons h2 h3 =>
          cases h3
          exact ⟨_, _, rfl, Evl.ex_t R.gh hs, rfl, _, _, rfl, _, _, rfl, rfl, k _ _ hg (fun z hz => by rw [List.getElem?_set_ne (fun e => hz (by simp [e])), List.getElem?_set_ne (fun e => hz (by simp [e]))]) ((R.put (vrf_dat h1)).put (vrf_dat h2))⟩
  · exact hg.elim
theorem hg_tri {i j l : Nat} (h : PG X a (gTup X.K 3 (gCons (gName i) (gCons (gName j) (gCons (gName l) gNil))))) : PG X a (lfG X.K f (gT i j l) [i, j, l]) := h.mono fun v σ H Q q => by
  obtain ⟨F, O, G, s, d, C, R, V, hg, k⟩ := q
  unfold gT at hg
  split at hg
  · rename_i x y z
    cases V with
    | tup hs ha =>
      cases ha with
      | cons h1 h2 =>
        cases h2 with
        | cons h2 h3 =>
          cases h3 with
          | cons h3 h4 =>
            cases h4
            exact ⟨_, _, rfl, Evl.ex_t R.gh hs, rfl, _, _, rfl, _, _, rfl, _, _, rfl, rfl, k _ _ hg (fun z hz => by rw [List.getElem?_set_ne (fun e => hz (by simp [e])), List.getElem?_set_ne (fun e => hz (by simp [e])), List.getElem?_set_ne (fun e => hz (by simp [e]))]) (((R.put (vrf_dat h1)).put (vrf_dat h2)).put (vrf_dat h3))⟩
  · exact hg.elim
/-- a, b = e: a tuple unpacked -/
theorem hs_unp (he : PE X e (lf X.K f t)) (hg : PG X a (lfG X.K f g ws)) (hs : swapsWithSole [a] e pos.line X.env = pure false := by rfl) (hw : swappedStores [a] e X.env = pure none := by rfl)
    (h1 : (assignEach [a] X.env).map (·.2) = [assign a X.env] := by rfl) : PS X (.Assign [a] e pos) (lfS X.K f fun D s => t s fun p s1 => ∃ d, p.frz = some d ∧ g d s1 D.nx) := (ps_asg he hg hs hw h1).mono fun D σ H q => by
  obtain ⟨F, O, G, s, D', R, ht, k⟩ := q
  refine ⟨F, O, G, s, _, R, ht, fun p s1 G1 H1 v c1 e1 R1 V1 => ?_⟩
  obtain ⟨d, hd, hg⟩ := c1
  obtain ⟨G2, e2, R2, V2⟩ := R1.frz V1 hd
  exact ⟨F, O, G2, s1, d, _, R2, V2, hg, fun s3 σ3 c3 _ R3 => k.nx _ _ _ _ (e1.trans e2) R3 c3⟩
/-- a, b = e1, e2 -/
theorem hs_par {i j : Nat} (h : ∀ {ta : TA}, PA X es ta → PS X st (tPar i j ta)) (ha : PA X es (lfA X.K f r)) : PS X st (lfS X.K f (hPar i j r)) := (h ha).mono fun D σ H q => by
  obtain ⟨F, O, G, s, D', R, ht, k⟩ := q
  refine ⟨F, O, G, s, _, R, ht, fun ps s1 G1 H1 vs c1 e1 R1 V1 => ?_⟩
  obtain ⟨p, q, rfl, mp, mq, c2⟩ := c1
  cases V1 with
  | cons v1 V1 =>
    cases V1 with
    | cons v2 V1 =>
      cases V1
      exact ⟨_, _, rfl, k.nx _ _ _ _ e1 ((R1.put ⟨v1, fun z => by rw [mp] at z; cases z⟩).put ⟨v2, fun z => by rw [mq] at z; cases z⟩) c2⟩
end
end Sk
set_option Elab.async false
set_option linter.all false
set_option maxRecDepth 100000
set_option maxHeartbeats 2000000
namespace Sk
open PySem PySem.Spec PyProof.Rows L2
open Evl (Ex)
/-! ### what is walked -/
@[simp] def hiL (t : HE) : HI := fun s C => t s fun p s1 => match p.frz with
  | some (.list ds) => C ds s1
  | _ => False
@[simp] def hiT (t : HE) : HI := fun s C => t s fun p s1 => match p.frz with
  | some (.tuple ds) => C ds s1
  | _ => False
@[simp] def hiS (t : HE) : HI := fun s C => t s fun p s1 => match p with
  | .dat (.str x) => C (x.cps.toList.map fun c => .str ⟨#[c]⟩) s1
  | _ => False
def rngD (lo : Int) (n : Nat) : List PyData := (List.range n).map fun i => .int (lo + (i : Nat))
@[simp] def hiR1 (ta : HA) : HI := fun s C => ta s fun ps s1 => match ps with
  | [.dat (.int n)] => (-1000000 ≤ n ∧ n ≤ 1000000) ∧ C (rngD 0 n.toNat) s1
  | _ => False
@[simp] def hiR2 (ta : HA) : HI := fun s C => ta s fun ps s1 => match ps with
  | [.dat (.int a), .dat (.int b)] => (-1000000 ≤ a ∧ a ≤ 1000000 ∧ -1000000 ≤ b ∧ b ≤ 1000000) ∧ C (rngD a (b - a).toNat) s1
  | _ => False
def enumD : Nat → List PyData → List PyData
  | _, [] => []
  | i, d :: ds => .tuple [.int i, d] :: enumD (i + 1) ds
@[simp] def hiE (ta : HA) : HI := fun s C => ta s fun ps s1 => match ps with
  | [.dat (.list ds)] => C (enumD 0 ds) s1
  | _ => False
def zipD : List PyData → List PyData → List PyData
  | d :: ds, e :: es => .tuple [d, e] :: zipD ds es
  | _, _ => []
@[simp] def hiZ (ta : HA) : HI := fun s C => ta s fun ps s1 => match ps with
  | [.dat (.list ds), .dat (.list es)] => C (zipD ds es) s1
  | [.dat (.tuple ds), .dat (.tuple es)] => C (zipD ds es) s1
  | _ => False
theorem enumD_at : ∀ {ds : List PyData} {k i : Nat} {d : PyData}, (enumD k ds)[i]? = some d → ∃ e, ds[i]? = some e ∧ d = .tuple [.int (k + i : Nat), e]
  | [], _, _, _, h => by simp [enumD] at h
  | e :: ds, k, 0, d, h => by simp [enumD] at h; exact ⟨e, rfl, by simp [← h]⟩
  | e :: ds, k, i + 1, d, h => by
    obtain ⟨x, h1, h2⟩ := enumD_at (k := k + 1) (i := i) (d := d) (by simpa [enumD] using h)
    exact ⟨x, by simpa using h1, by rw [h2]; simp; omega⟩
theorem enumD_len : ∀ {ds : List PyData} {k : Nat}, (enumD k ds).length = ds.length
  | [], _ => rfl
  | e :: ds, k => by simp [enumD, enumD_len]
theorem zipD_at : ∀ {ds es : List PyData} {i : Nat} {d : PyData}, (zipD ds es)[i]? = some d → ∃ a b, ds[i]? = some a ∧ es[i]? = some b ∧ d = .tuple [a, b]
  | [], _, _, _, h => by simp [zipD] at h
  | _ :: _, [], _, _, h => by simp [zipD] at h
  | a :: ds, b :: es, 0, d, h => by simp [zipD] at h; exact ⟨a, b, rfl, rfl, h.symm⟩
  | a :: ds, b :: es, i + 1, d, h => by
    obtain ⟨x, y, h1, h2, h3⟩ := zipD_at (ds := ds) (es := es) (i := i) (d := d) (by simpa [zipD] using h)
    exact ⟨x, y, by simpa using h1, by simpa using h2, h3⟩
theorem zipD_len : ∀ {ds es : List PyData}, (zipD ds es).length = min ds.length es.length
  | [], _ => by simp [zipD]
  | _ :: _, [] => by simp [zipD]
  | a :: ds, b :: es => by simp [zipD, zipD_len, Nat.succ_min_succ]
section
variable {X : Cx} {f : Fr} {tg e a b c : Expr} {es : List Expr} {t : HE} {r : HA} {pos : Pos}
theorem itOk_list {K : PySem.W.Frag} {G : Hp} {a : Addr} {xs : List V} {ds : List PyData} (h : SqL K G a xs) (hd : DpAll K G xs ds) : ItOk K f G ds (Itl K a) := fun i F O G1 s σ H e R => by
  have hH := Evl.ex_l (e.trans R.gh) h
  refine ⟨fun hi => ⟨xs, hH, by rw [hd.len]; exact hi⟩, fun d hdi => ?_⟩
  obtain ⟨v, hv, V⟩ := hd.at hdi
  exact ⟨⟨xs, v, hH, hv⟩, fun x H' y => by
    obtain ⟨rfl, y⟩ := y
    have := y xs hH
    rw [hv] at this
    cases this
    exact ⟨G1, Ex.refl _, Ex.refl _, R, Dp.ex e _ V⟩⟩
theorem itOk_tup {K : PySem.W.Frag} {G : Hp} {a : Addr} {xs : List V} {ds : List PyData} (h : SqT K G a xs) (hd : DpAll K G xs ds) : ItOk K f G ds (Itt K a) := fun i F O G1 s σ H e R => by
  have hH := Evl.ex_t (e.trans R.gh) h
  refine ⟨fun hi => ⟨xs, hH, by rw [hd.len]; exact hi⟩, fun d hdi => ?_⟩
  obtain ⟨v, hv, V⟩ := hd.at hdi
  exact ⟨⟨xs, v, hH, hv⟩, fun x H' y => by
    obtain ⟨rfl, y⟩ := y
    have := y xs hH
    rw [hv] at this
    cases this
    exact ⟨G1, Ex.refl _, Ex.refl _, R, Dp.ex e _ V⟩⟩
theorem itOk_rng {K : PySem.W.Frag} {G : Hp} {lo : Int} {n : Nat} : ItOk K f G (rngD lo n) (Itr lo n) := fun i F O G1 s σ H e R => by
  refine ⟨fun hi => (show n ≤ i by simpa [rngD] using hi), fun d hdi => ?_⟩
  unfold rngD at hdi
  rw [List.getElem?_map] at hdi
  obtain ⟨k, hk, rfl⟩ := Option.map_eq_some_iff.mp hdi
  obtain ⟨hl, hk2⟩ := List.getElem?_eq_some_iff.mp hk
  simp at hk2 hl
  subst hk2
  exact ⟨hl, fun x H' y => by
    obtain ⟨rfl, rfl⟩ := y
    exact ⟨G1, Ex.refl _, Ex.refl _, R, .int _⟩⟩
theorem itOk_enum {K : PySem.W.Frag} {G : Hp} {a : Addr} {xs : List V} {ds : List PyData} (h : SqL K G a xs) (hd : DpAll K G xs ds) : ItOk K f G (enumD 0 ds) (Ite K a) := fun i F O G1 s σ H e R => by
  have hH := Evl.ex_l (e.trans R.gh) h
  refine ⟨fun hi => ⟨xs, hH, by rw [hd.len]; rw [enumD_len] at hi; exact hi⟩, fun d hdi => ?_⟩
  obtain ⟨x, hx, rfl⟩ := enumD_at hdi
  obtain ⟨v, hv, V⟩ := hd.at hx
  refine ⟨⟨xs, v, hH, hv⟩, fun y H' yl => ?_⟩
  obtain ⟨T, w, rfl, hT, rfl, q⟩ := yl
  have := q xs hH
  rw [hv] at this
  cases this
  have eg := Evl.Ex.new (o := .tup [.int (i : Nat), v]) (R.gn hT)
  exact ⟨_, eg, Evl.Ex.new hT, R.newG hT, .tup (Or.inl (Or.inl upd_same)) (.cons (by rw [Nat.zero_add]; exact .int _) (.cons (Dp.ex (e.trans eg) _ V) .nil))⟩
theorem itOk_zipL {K : PySem.W.Frag} {G : Hp} {a b : Addr} {xs ys : List V} {ds es : List PyData} (h : SqL K G a xs) (hd : DpAll K G xs ds) (h' : SqL K G b ys) (hd' : DpAll K G ys es) : ItOk K f G (zipD ds es) (Itz K a b) := fun i F O G1 s σ H e R => by
  have hH := Evl.ex_l (e.trans R.gh) h
  have hH' := Evl.ex_l (e.trans R.gh) h'
  refine ⟨fun hi => ⟨xs, ys, hH, hH', by rw [hd.len, hd'.len]; rw [zipD_len] at hi; omega⟩, fun d hdi => ?_⟩
  obtain ⟨x, y, hx, hy, rfl⟩ := zipD_at hdi
  obtain ⟨v, hv, V⟩ := hd.at hx
  obtain ⟨v', hv', V'⟩ := hd'.at hy
  refine ⟨⟨xs, ys, v, v', hH, hH', hv, hv'⟩, fun z H' yl => ?_⟩
  obtain ⟨T, w, w', rfl, hT, rfl, q, q'⟩ := yl
  have z1 := q xs hH
  rw [hv] at z1
  cases z1
  have z2 := q' ys hH'
  rw [hv'] at z2
  cases z2
  have eg := Evl.Ex.new (o := .tup [v, v']) (R.gn hT)
  exact ⟨_, eg, Evl.Ex.new hT, R.newG hT, .tup (Or.inl (Or.inl upd_same)) (.cons (Dp.ex (e.trans eg) _ V) (.cons (Dp.ex (e.trans eg) _ V') .nil))⟩
theorem itOk_zipT {K : PySem.W.Frag} {G : Hp} {a b : Addr} {xs ys : List V} {ds es : List PyData} (h : SqT K G a xs) (hd : DpAll K G xs ds) (h' : SqT K G b ys) (hd' : DpAll K G ys es) : ItOk K f G (zipD ds es) (RZ.ItzT K a b) := fun i F O G1 s σ H e R => by
  have hH := Evl.ex_t (e.trans R.gh) h
  have hH' := Evl.ex_t (e.trans R.gh) h'
  refine ⟨fun hi => ⟨xs, ys, hH, hH', by rw [hd.len, hd'.len]; rw [zipD_len] at hi; omega⟩, fun d hdi => ?_⟩
  obtain ⟨x, y, hx, hy, rfl⟩ := zipD_at hdi
  obtain ⟨v, hv, V⟩ := hd.at hx
  obtain ⟨v', hv', V'⟩ := hd'.at hy
  refine ⟨⟨xs, ys, v, v', hH, hH', hv, hv'⟩, fun z H' yl => ?_⟩
  obtain ⟨T, w, w', rfl, hT, rfl, q, q'⟩ := yl
  have z1 := q xs hH
  rw [hv] at z1
  cases z1
  have z2 := q' ys hH'
  rw [hv'] at z2
  cases z2
  have eg := Evl.Ex.new (o := .tup [v, v']) (R.gn hT)
  exact ⟨_, eg, Evl.Ex.new hT, R.newG hT, .tup (Or.inl (Or.inl upd_same)) (.cons (Dp.ex (e.trans eg) _ V) (.cons (Dp.ex (e.trans eg) _ V') .nil))⟩
theorem itOk_str {K : PySem.W.Frag} {G : Hp} {x : Str} : ItOk K f G (x.cps.toList.map fun c => .str ⟨#[c]⟩) (Its x) := fun i F O G1 s σ H e R => by
  refine ⟨fun hi => (show x.cps.size ≤ i by simpa using hi), fun d hdi => ?_⟩
  rw [List.getElem?_map] at hdi
  obtain ⟨k, hk, rfl⟩ := Option.map_eq_some_iff.mp hdi
  obtain ⟨hl, hk2⟩ := List.getElem?_eq_some_iff.mp hk
  refine ⟨(by have z : i < x.cps.size := by simpa using hl
              exact z), fun v H' y => ?_⟩
  obtain ⟨rfl, c, hc, rfl⟩ := y
  have : c = k := by
    rw [← Array.getElem?_toList, hk] at hc
    exact (Option.some.inj hc).symm
  subst this
  exact ⟨G1, Ex.refl _, Ex.refl _, R, .str _⟩
theorem hi_list (h : PE X e (lf X.K f t)) : PI X tg e (lfI X.K f (hiL t)) := (pi_list h).mono fun σ H Q q => by
  obtain ⟨F, O, G, s, C, R, ht, k⟩ := q
  refine ⟨F, O, G, s, _, R, ht, fun p s1 G1 H1 v c1 e1 R1 V1 => ?_⟩
  split at c1
  · rename_i ds hd
    obtain ⟨G2, e2, R2, V2⟩ := R1.frz V1 hd
    cases V2 with
    | lst hs ha => exact ⟨_, rfl, ⟨_, Evl.ex_l R2.gh hs⟩, k _ _ _ _ _ c1 (e1.trans e2) R2 (itOk_list hs ha)⟩
  · exact c1.elim
theorem hi_tup (h : PE X e (lf X.K f t)) : PI X tg e (lfI X.K f (hiT t)) := (pi_tup h).mono fun σ H Q q => by
  obtain ⟨F, O, G, s, C, R, ht, k⟩ := q
  refine ⟨F, O, G, s, _, R, ht, fun p s1 G1 H1 v c1 e1 R1 V1 => ?_⟩
  split at c1
  · rename_i ds hd
    obtain ⟨G2, e2, R2, V2⟩ := R1.frz V1 hd
    cases V2 with
    | tup hs ha => exact ⟨_, rfl, ⟨_, Evl.ex_t R2.gh hs⟩, k _ _ _ _ _ c1 (e1.trans e2) R2 (itOk_tup hs ha)⟩
  · exact c1.elim
theorem hi_str (h : PE X e (lf X.K f t)) : PI X tg e (lfI X.K f (hiS t)) := (pi_str h).mono fun σ H Q q => by
  obtain ⟨F, O, G, s, C, R, ht, k⟩ := q
  refine ⟨F, O, G, s, _, R, ht, fun p s1 G1 H1 v c1 e1 R1 V1 => ?_⟩
  split at c1
  · rename_i x
    have : v = .str x := by cases (show Dp X.K G1 v (.str x) from V1.1); rfl
    exact ⟨x, this, k _ _ _ _ _ c1 e1 R1 itOk_str⟩
  · exact c1.elim
theorem vr_int {K : PySem.W.Frag} {f : Fr} {G H : Hp} {i : Int} {v : V} (h : VR K f G H (.dat (.int i)) v) : v = .int i := by
  cases (show Dp K G v (.int i) from h)
  rfl
theorem vr_str {K : PySem.W.Frag} {f : Fr} {G H : Hp} {i : Str} {v : V} (h : VR K f G H (.dat (.str i)) v) : v = .str i := by
  cases (show Dp K G v (.str i) from h)
  rfl
theorem hi_rng1 {p : Pos} (hg : Gl X "range") (hm : X.mg "range" = none) (ha : PA X [a] (lfA X.K f r)) (hs : starEach [a] X.env = [(false, eval a X.env)] := by rfl) : PI X tg (.Call (.Name "range" p) [a] [] pos) (lfI X.K f (hiR1 r)) := (pi_range1 hg hm ha hs).mono fun σ H Q q => by
  obtain ⟨F, O, G, s, C, R, ht, k⟩ := q
  refine ⟨F, O, G, s, _, R, ht, fun ps s1 G1 H1 vs c1 e1 R1 V1 => ?_⟩
  split at c1
  · rename_i n
    cases V1 with
    | cons v1 V1 =>
      cases V1
      have := vr_int v1
      subst this
      exact ⟨n, rfl, by omega, by omega, k _ _ _ _ _ c1.2 e1 R1 itOk_rng⟩
  · exact c1.elim
theorem hi_rng2 {p : Pos} (hg : Gl X "range") (hm : X.mg "range" = none) (ha : PA X [a, b] (lfA X.K f r)) (hs : starEach [a, b] X.env = [(false, eval a X.env), (false, eval b X.env)] := by rfl) (hs2 : starEach [b] X.env = [(false, eval b X.env)] := by rfl) : PI X tg (.Call (.Name "range" p) [a, b] [] pos) (lfI X.K f (hiR2 r)) := (pi_range2 hg hm ha hs hs2).mono fun σ H Q q => by
  obtain ⟨F, O, G, s, C, R, ht, k⟩ := q
  refine ⟨F, O, G, s, _, R, ht, fun ps s1 G1 H1 vs c1 e1 R1 V1 => ?_⟩
  split at c1
  · rename_i n m
    cases V1 with
    | cons v1 V1 =>
      cases V1 with
      | cons v2 V1 =>
        cases V1
        have := vr_int v1
        subst this
        have := vr_int v2
        subst this
        exact ⟨n, m, rfl, by omega, k _ _ _ _ _ c1.2 e1 R1 itOk_rng⟩
  · exact c1.elim
theorem hi_enum {p : Pos} {elts : List Expr} {kk : Nat} {tpos : Pos} (hg : Gl X "enumerate") (hm : X.mg "enumerate" = none) (ha : PA X [a] (lfA X.K f r)) (hs : starEach [a] X.env = [(false, eval a X.env)] := by rfl) : PI X (.Tuple elts kk tpos) (.Call (.Name "enumerate" p) [a] [] pos) (lfI X.K f (hiE r)) := (pi_enum hg hm ha hs).mono fun σ H Q q => by
  obtain ⟨F, O, G, s, C, R, ht, k⟩ := q
  refine ⟨F, O, G, s, _, R, ht, fun ps s1 G1 H1 vs c1 e1 R1 V1 => ?_⟩
  split at c1
  · rename_i ds
    cases V1 with
    | cons v1 V1 =>
      cases V1
      have v1 : Dp X.K G1 _ (.list ds) := v1
      cases v1 with
      | lst hs ha => exact ⟨_, _, rfl, Evl.ex_l R1.gh hs, k _ _ _ _ _ c1 e1 R1 (itOk_enum hs ha)⟩
  · exact c1.elim
theorem hi_zip {p : Pos} {elts : List Expr} {kk : Nat} {tpos : Pos} (hg : Gl X "zip") (hm : X.mg "zip" = none) (ha : PA X [a, b] (lfA X.K f r)) (hs : starEach [a, b] X.env = (false, eval a X.env) :: starEach [b] X.env := by rfl) (hpl : (backTo pos (starEach [b] X.env)).any (·.1) = false := by rfl) : PI X (.Tuple elts kk tpos) (.Call (.Name "zip" p) [a, b] [] pos) (lfI X.K f (hiZ r)) := (RZ.pi_zipA hg hm ha hs hpl).mono fun σ H Q q => by
  obtain ⟨F, O, G, s, C, R, ht, k⟩ := q
  refine ⟨F, O, G, s, _, R, ht, fun ps s1 G1 H1 vs c1 e1 R1 V1 => ?_⟩
  split at c1
  · rename_i ds es
    cases V1 with
    | cons v1 V1 =>
      cases V1 with
      | cons v2 V1 =>
        cases V1
        have v1 : Dp X.K G1 _ (.list ds) := v1
        have v2 : Dp X.K G1 _ (.list es) := v2
        cases v1 with
        | lst hs ha =>
          cases v2 with
          | lst hs' ha' => exact ⟨_, _, _, _, rfl, Or.inl ⟨Evl.ex_l R1.gh hs, Evl.ex_l R1.gh hs', k _ _ _ _ _ c1 e1 R1 (itOk_zipL hs ha hs' ha')⟩⟩
  · rename_i ds es
    cases V1 with
    | cons v1 V1 =>
      cases V1 with
      | cons v2 V1 =>
        cases V1
        have v1 : Dp X.K G1 _ (.tuple ds) := v1
        have v2 : Dp X.K G1 _ (.tuple es) := v2
        cases v1 with
        | tup hs ha =>
          cases v2 with
          | tup hs' ha' => exact ⟨_, _, _, _, rfl, Or.inr ⟨Evl.ex_t R1.gh hs, Evl.ex_t R1.gh hs', k _ _ _ _ _ c1 e1 R1 (itOk_zipT hs ha hs' ha')⟩⟩
  · exact c1.elim
/-! ### a list's comprehension -/
@[simp] def Sg.wipe (s : Sg) (vs : List Nat) : Sg := ⟨vs.foldr (fun i l => l.set i none) s.sl, s.n⟩
@[simp] def lcs (vs : List Nat) (g : HG) (tt : HT) (t : HE) : List PyData → List PyData → Sg → (PV → Sg → Prop) → Prop
  | [], acc, s, C => C (.own acc) s
  | d :: ds, acc, s, C => g d s fun s1 => tt s1 fun b s2 => if b = true then t s2 fun p s3 => ∃ x, p.frz = some x ∧ acc.length < 100000 ∧ lcs vs g tt t ds (acc ++ [x]) (s3.wipe vs) C else lcs vs g tt t ds acc (s2.wipe vs) C
@[simp] def hLc (it : HI) (g : HG) (tt : HT) (t : HE) (vs : List Nat) : HE := fun s C => it s fun ds s1 => lcs vs g tt t ds [] (s1.wipe vs) C
@[simp] def hYes : HT := fun s C => C true s
theorem wipe_get {σ : L2.St} {s : Sg} {vs : List Nat} : ∀ (i : Nat) (p : PV), (s.wipe vs).sl[i]? = some (some p) → s.sl[i]? = some (some p) ∧ i ∉ vs := by
  induction vs with
  | nil => intro i p h; exact ⟨h, by simp⟩
  | cons v vs ih =>
    intro i p h
    rcases set_get (show ((s.wipe vs).sl.set v none)[i]? = _ from h) with ⟨_, e, _⟩ | ⟨ne, h⟩
    · cases e
    · obtain ⟨h1, h2⟩ := ih i p h
      exact ⟨h1, by simp [h2]; exact fun z => ne z.symm⟩
theorem wipe_len {s : Sg} {vs : List Nat} : (s.wipe vs).sl.length = s.sl.length := by
  induction vs with
  | nil => rfl
  | cons v vs ih => show ((s.wipe vs).sl.set v none).length = _; rw [List.length_set, ih]
/-- into the block -/
theorem Rel.wipe {K : PySem.W.Frag} {G H : Hp} {s : Sg} {σ : L2.St} (R : Rel K f G s σ H) (vs : List Nat) : Rel K f G (s.wipe vs) (L2.wipe σ vs) H where
  gh := R.gh
  fh := R.fh
  go := R.go
  oh := R.oh
  mh := R.mh
  mo := R.mo
  dr := R.dr
  ln := by rw [wipe_length, wipe_len]; exact R.ln
  sl := fun i p h => by
    obtain ⟨h1, h2⟩ := wipe_get (σ := σ) i p h
    obtain ⟨v, h3, h4⟩ := R.sl i p h1
    exact ⟨v, by rw [wipe_out h2]; exact h3, h4⟩
  ds := fun i j p q v ne hi hj mp mq wi wj => by
    obtain ⟨a1, a2⟩ := wipe_get (σ := σ) i p hi
    obtain ⟨b1, b2⟩ := wipe_get (σ := σ) j q hj
    rw [wipe_out a2] at wi
    rw [wipe_out b2] at wj
    exact R.ds i j p q v ne a1 b1 mp mq wi wj
/-- out of it: the same slots but the block's own -/
theorem Rel.outw {K : PySem.W.Frag} {G H : Hp} {s : Sg} {σ σ2 : L2.St} {vs : List Nat} (R : Rel K f G s σ2 H) (e : L2.wipe σ2 vs = L2.wipe σ vs) : Rel K f G (s.wipe vs) σ H where
  gh := R.gh
  fh := R.fh
  go := R.go
  oh := R.oh
  mh := R.mh
  mo := R.mo
  dr := R.dr
  ln := by
    have := congrArg List.length e
    rw [wipe_length, wipe_length] at this
    rw [wipe_len, ← R.ln, this]
  sl := fun i p h => by
    obtain ⟨h1, h2⟩ := wipe_get (σ := σ) i p h
    obtain ⟨v, h3, h4⟩ := R.sl i p h1
    have z : σ2[i]? = σ[i]? := by rw [← wipe_out h2, e, wipe_out h2]
    exact ⟨v, by rw [← z]; exact h3, h4⟩
  ds := fun i j p q v ne hi hj mp mq wi wj => by
    obtain ⟨a1, a2⟩ := wipe_get (σ := σ) i p hi
    obtain ⟨b1, b2⟩ := wipe_get (σ := σ) j q hj
    have z1 : σ2[i]? = σ[i]? := by rw [← wipe_out a2, e, wipe_out a2]
    have z2 : σ2[j]? = σ[j]? := by rw [← wipe_out b2, e, wipe_out b2]
    exact R.ds i j p q v ne a1 b1 mp mq (by rw [z1]; exact wi) (by rw [z2]; exact wj)
/-- a list being made stands beside -/
theorem Rel.beside {K : PySem.W.Frag} {F : Fr} {O : Addr → Prop} {G H : Hp} {s : Sg} {σ : L2.St} {D : Addr} {o : HO} (R : Rel K (fo f F O) G s σ H) (hD : H D = none) : Rel K (fo f (F.up D o) fun a => O a ∨ a = D) G s σ (upd H D o) := by
  have ne : ∀ {a : Addr} {u : HO}, H a = some u → a ≠ D := fun h z => by rw [z, hD] at h; cases h
  have no : ∀ {a : Addr}, H a ≠ none → a ≠ D := fun h z => h (by rw [z]; exact hD)
  exact {
    gh := R.gh.trans (Evl.Ex.new hD)
    fh := fun a u m h => by
      have h' : upd F.F D o a = some u := h
      by_cases q : a = D
      · subst q; rw [upd_same] at h' ⊢; exact h'
      · rw [upd_ne q] at h' ⊢; exact R.fh a u m h'
    go := fun a h => h.elim (fun h => R.go a h) fun h => by rw [h]; exact R.gn hD
    oh := fun a h => h.elim (fun h => by rw [upd_ne (no (R.oh a h))]; exact R.oh a h) fun h => by rw [h, upd_same]; intro z; cases z
    mh := fun a h => by rw [upd_ne (no (R.mh a h))]; exact R.mh a h
    mo := fun h => by obtain ⟨a, b, c, d, e⟩ := R.mo h; exact ⟨Or.inl a, Or.inl b, Or.inl c, d, e⟩
    dr := fun h => by
      obtain ⟨a, b, c, d, e⟩ := R.mo h
      exact (R.dr h).keep (upd_ne (no (R.oh _ a))) (upd_ne (no (R.oh _ b))) (upd_ne (no (R.oh _ c)))
    ln := R.ln
    sl := fun i p h => by
      obtain ⟨v, h1, h2⟩ := R.sl i p h
      refine ⟨v, h1, ?_⟩
      cases p with
      | dat d => exact h2
      | drw => exact h2
      | val _ => exact h2
      | own ds =>
        obtain ⟨a, vs, rfl, k1, k2, k3, k4, k5⟩ := h2
        exact ⟨a, vs, rfl, by rw [upd_ne (ne k1)]; exact k1, k2, fun z => z.elim k3 (ne k1), k4.elim (fun z => Or.inl (by show upd F.F D o a = none; rw [upd_ne (ne k1)]; exact z)) Or.inr, k5⟩
      | byr ds =>
        obtain ⟨a, vs, rfl, k1, k2, k3, k4, k5, k6⟩ := h2
        exact ⟨a, vs, rfl, by rw [upd_ne (ne k1)]; exact k1, k2, fun z => z.elim k3 (ne k1), k4.elim (fun z => Or.inl (by show upd F.F D o a = none; rw [upd_ne (ne k1)]; exact z)) Or.inr, k5, k6⟩
      | dct ds =>
        obtain ⟨a, vs, rfl, k1, k2, k3, k4, k5, k6⟩ := h2
        exact ⟨a, vs, rfl, by rw [upd_ne (ne k1)]; exact k1, k2, fun z => z.elim k3 (ne k1), k4.elim (fun z => Or.inl (by show upd F.F D o a = none; rw [upd_ne (ne k1)]; exact z)) Or.inr, k5, k6⟩
    ds := R.ds }
/-- .. is made longer -/
theorem Rel.beside2 {K : PySem.W.Frag} {F : Fr} {O : Addr → Prop} {G H : Hp} {s : Sg} {σ : L2.St} {D : Addr} {o o' : HO} (R : Rel K (fo f (F.up D o) fun a => O a ∨ a = D) G s σ H) (hM : ¬ F.M D) (hO : ¬ O D) (hd : F.on = true → D ≠ F.m ∧ D ≠ F.l ∧ D ≠ F.c) : Rel K (fo f (F.up D o') fun a => O a ∨ a = D) G s σ (upd H D o') := by
  have gD : G D = none := R.go D (Or.inr rfl)
  exact {
    gh := fun a u h => by rw [upd_ne (fun z => by rw [z, gD] at h; cases h)]; exact R.gh a u h
    fh := fun a u m h => by
      have h' : upd F.F D o' a = some u := h
      by_cases q : a = D
      · subst q; rw [upd_same] at h' ⊢; exact h'
      · rw [upd_ne q] at h' ⊢; exact R.fh a u m (show upd F.F D o a = some u by rw [upd_ne q]; exact h')
    go := R.go
    oh := fun a h => by
      by_cases q : a = D
      · subst q; rw [upd_same]; intro z; cases z
      · rw [upd_ne q]; exact R.oh a h
    mh := fun a h => by
      by_cases q : a = D
      · subst q; rw [upd_same]; intro z; cases z
      · rw [upd_ne q]; exact R.mh a h
    mo := R.mo
    dr := fun h => by
      obtain ⟨a, b, c⟩ := hd h
      exact (R.dr h).keep (upd_ne a.symm) (upd_ne b.symm) (upd_ne c.symm)
    ln := R.ln
    sl := fun i p h => by
      obtain ⟨v, h1, h2⟩ := R.sl i p h
      refine ⟨v, h1, ?_⟩
      cases p with
      | dat d => exact h2
      | drw => exact h2
      | val _ => exact h2
      | own ds =>
        obtain ⟨a, vs, rfl, k1, k2, k3, k4, k5⟩ := h2
        have ne : a ≠ D := fun z => k3 (Or.inr z)
        exact ⟨a, vs, rfl, by rw [upd_ne ne]; exact k1, k2, k3, k4.elim (fun z => Or.inl (by show upd F.F D o' a = none; rw [upd_ne ne]; have z' : upd F.F D o a = none := z; rw [upd_ne ne] at z'; exact z')) Or.inr, k5⟩
      | byr ds =>
        obtain ⟨a, vs, rfl, k1, k2, k3, k4, k5, k6⟩ := h2
        have ne : a ≠ D := fun z => k3 (Or.inr z)
        exact ⟨a, vs, rfl, by rw [upd_ne ne]; exact k1, k2, k3, k4.elim (fun z => Or.inl (by show upd F.F D o' a = none; rw [upd_ne ne]; have z' : upd F.F D o a = none := z; rw [upd_ne ne] at z'; exact z')) Or.inr, k5, k6⟩
      | dct ds =>
        obtain ⟨a, vs, rfl, k1, k2, k3, k4, k5, k6⟩ := h2
        have ne : a ≠ D := fun z => k3 (Or.inr z)
        exact ⟨a, vs, rfl, by rw [upd_ne ne]; exact k1, k2, k3, k4.elim (fun z => Or.inl (by show upd F.F D o' a = none; rw [upd_ne ne]; have z' : upd F.F D o a = none := z; rw [upd_ne ne] at z'; exact z')) Or.inr, k5, k6⟩
    ds := R.ds }
/-- the list is done -/
theorem Rel.beside3 {K : PySem.W.Frag} {F : Fr} {O : Addr → Prop} {G H : Hp} {s : Sg} {σ : L2.St} {D : Addr} {vs : List V} {ds : List PyData} (R : Rel K (fo f (F.up D (.lst vs)) fun a => O a ∨ a = D) G s σ H) (hM : ¬ F.M D) (hO : ¬ O D) (hF : F.F D = none) (hc : F.on = true → D ≠ F.c) (dv : DpAll K G vs ds) : Rel K (fo f F O) G s σ H ∧ VRf K (fo f F O) G H s σ (.own ds) (.ref D) := by
  have hD : H D = some (.lst vs) := R.fh D _ hM (show upd F.F D (.lst vs) D = _ by rw [upd_same])
  have gD : G D = none := R.go D (Or.inr rfl)
  have sl' : ∀ (i : Nat) (p : PV), s.sl[i]? = some (some p) → ∃ v : V, σ[i]? = some (some v) ∧ VR K (fo f F O) G H p v := fun i p h => by
    obtain ⟨v, h1, h2⟩ := R.sl i p h
    refine ⟨v, h1, ?_⟩
    cases p with
    | dat d => exact h2
    | drw => exact h2
    | val _ => exact h2
    | own ds =>
      obtain ⟨a, vs, rfl, k1, k2, k3, k4, k5⟩ := h2
      have ne : a ≠ D := fun z => k3 (Or.inr z)
      exact ⟨a, vs, rfl, k1, k2, fun z => k3 (Or.inl z), k4.elim (fun z => Or.inl (by have z' : upd F.F D (.lst _) a = none := z; rw [upd_ne ne] at z'; exact z')) Or.inr, k5⟩
    | byr ds =>
      obtain ⟨a, vs, rfl, k1, k2, k3, k4, k5, k6⟩ := h2
      have ne : a ≠ D := fun z => k3 (Or.inr z)
      exact ⟨a, vs, rfl, k1, k2, fun z => k3 (Or.inl z), k4.elim (fun z => Or.inl (by have z' : upd F.F D (.lst _) a = none := z; rw [upd_ne ne] at z'; exact z')) Or.inr, k5, k6⟩
    | dct ds =>
      obtain ⟨a, vs, rfl, k1, k2, k3, k4, k5, k6⟩ := h2
      have ne : a ≠ D := fun z => k3 (Or.inr z)
      exact ⟨a, vs, rfl, k1, k2, fun z => k3 (Or.inl z), k4.elim (fun z => Or.inl (by have z' : upd F.F D (.lst _) a = none := z; rw [upd_ne ne] at z'; exact z')) Or.inr, k5, k6⟩
  refine ⟨{ gh := R.gh, fh := fun a u m h => R.fh a u m (show upd F.F D (.lst vs) a = some u from ?_), go := fun a h => R.go a (Or.inl h), oh := fun a h => R.oh a (Or.inl h), mh := R.mh, mo := fun h => ?_, dr := R.dr, ln := R.ln, sl := sl', ds := R.ds }, ⟨D, vs, rfl, hD, gD, hO, Or.inl hF, dv⟩, fun _ i q h1 h2 h3 => ?_⟩
  · have h' : F.F a = some u := h
    rw [upd_ne (fun z => by rw [z, hF] at h'; cases h')]; exact h'
  · obtain ⟨a, b, c, d, e⟩ := R.mo h
    have nn : ∀ {x : Addr}, (O x ∨ x = D) → F.M x → O x := fun z m => z.elim id fun z => absurd (z ▸ m) hM
    exact ⟨nn a d, nn b e, c.elim id fun z => absurd z.symm (hc h), d, e⟩
  · obtain ⟨v, h4, h5⟩ := R.sl i q h1
    rw [h3] at h4
    cases h4
    cases q with
    | dat d => cases h2
    | drw => cases h2
    | val _ => cases h2
    | own ds => obtain ⟨p, _, e, _, _, h6, _⟩ := h5; cases e; exact h6 (Or.inr rfl)
    | byr ds => obtain ⟨p, _, e, _, _, h6, _⟩ := h5; cases e; exact h6 (Or.inr rfl)
    | dct ds => obtain ⟨p, _, e, _, _, h6, _⟩ := h5; cases e; exact h6 (Or.inr rfl)
end
end Sk
set_option Elab.async false
set_option linter.all false
set_option maxRecDepth 100000
set_option maxHeartbeats 2000000
namespace Sk
open PySem PySem.Spec PyProof.Rows L2
open Evl (Ex)
theorem _root_.L2.PTs.mono {X : Cx} {es : List Expr} {t t' : TT} (h : PTs X es t) (m : ∀ σ H Q, t' σ H Q → t σ H Q) : PTs X es t' := ⟨fun pins s σ H Q I q => h.run pins s σ H Q I (m σ H Q q)⟩
theorem pts_yes {X : Cx} {f : Fr} : PTs X [] (lfT X.K f hYes) := pts_nil.mono fun σ H Q q => by
  obtain ⟨F, O, G, s, C, R, ht, k⟩ := q
  exact k _ _ _ _ ht (Ex.refl G) R
theorem wipe_cong {σ σ2 : L2.St} : ∀ {vs : List Nat}, σ2.length = σ.length → (∀ i, i ∉ vs → σ2[i]? = σ[i]?) → L2.wipe σ2 vs = L2.wipe σ vs := fun {vs} hl h => by
  apply List.ext_getElem?
  intro i
  by_cases hi : i ∈ vs
  · have key : ∀ (τ : L2.St) (ws : List Nat), i ∈ ws → (L2.wipe τ ws)[i]? = if i < τ.length then some none else none := fun τ ws => by
      induction ws with
      | nil => intro h; cases h
      | cons w ws ih =>
        intro h
        show ((L2.wipe τ ws).set w none)[i]? = _
        by_cases q : w = i
        · subst q
          rw [List.getElem?_set]
          simp [wipe_length]
        · rw [List.getElem?_set_ne q]
          exact ih (by cases h with
            | head => exact absurd rfl q
            | tail _ h => exact h)
    rw [key _ _ hi, key _ _ hi, hl]
  · rw [wipe_out hi, wipe_out hi]
    exact h i hi
theorem wipe_idem {σ : L2.St} {vs : List Nat} : L2.wipe (L2.wipe σ vs) vs = L2.wipe σ vs := wipe_cong (by rw [wipe_length]) fun i hi => wipe_out hi
theorem Rel.inw {K : PySem.W.Frag} {f : Fr} {G H : Hp} {s0 : Sg} {σ : L2.St} {vs : List Nat} (R : Rel K f G (s0.wipe vs) σ H) : Rel K f G (s0.wipe vs) (L2.wipe σ vs) H where
  gh := R.gh
  fh := R.fh
  go := R.go
  oh := R.oh
  mh := R.mh
  mo := R.mo
  dr := R.dr
  ln := by rw [wipe_length]; exact R.ln
  sl := fun i p h => by
    obtain ⟨v, h3, h4⟩ := R.sl i p h
    exact ⟨v, by rw [wipe_out (wipe_get (σ := σ) i p h).2]; exact h3, h4⟩
  ds := fun i j p q v ne hi hj mp mq wi wj => by
    rw [wipe_out (wipe_get (σ := σ) i p hi).2] at wi
    rw [wipe_out (wipe_get (σ := σ) j q hj).2] at wj
    exact R.ds i j p q v ne hi hj mp mq wi wj
section
variable {X : Cx} {f : Fr} {e : Expr} {t : HE} {tt : HT} {g : HG} {ws : List Nat} {it : HI}
theorem lc_conv {vs : List Nat} (hw : ∀ i, i ∈ ws → i ∈ vs) (hgl : ∀ d s C, g d s C → ∃ C', g d s C' ∧ ∀ s', C' s' → C s' ∧ s'.sl.length = s.sl.length) : ∀ σ H Q, lf X.K f (hLc it g tt t vs) σ H Q → tLc (lfI X.K f it) (lfG X.K f g ws) (lfT X.K f tt) (lf X.K f t) vs σ H Q := fun σ H Q q => by
  obtain ⟨F, O, G, s, C, R, ht, k⟩ := q
  refine ⟨F, O, G, s, _, R, ht, fun ds s1 G1 H1 J c1 e1 R1 ok D hD => ?_⟩
  have hM : ¬ F.M D := fun z => R1.mh D z hD
  have hO : ¬ O D := fun z => R1.oh D z hD
  have hF : F.F D = none := (R1.fr_none hD).elim id fun z => absurd z hM
  have hd : F.on = true → D ≠ F.m ∧ D ≠ F.l ∧ D ≠ F.c := fun h => by
    obtain ⟨a, b, c, _⟩ := R1.mo h
    have nn : ∀ {x : Addr}, O x → D ≠ x := fun z q => hO (by rw [q]; exact z)
    exact ⟨nn a, nn b, nn c⟩
  refine ⟨fun i m H2 => ∃ (G2 : Hp) (s0 : Sg) (acc : List PyData) (vs' : List V), Ex G1 G2 ∧ Rel X.K (fo f (F.up D (.lst vs')) fun a => O a ∨ a = D) G2 (s0.wipe vs) σ H2 ∧ DpAll X.K G2 vs' acc ∧ m = ds.length - i ∧ lcs vs g tt t (ds.drop i) acc (s0.wipe vs) C, ⟨_, G1, s1, [], [], Ex.refl G1, (R1.beside hD).outw rfl, .nil, rfl, c1⟩, ?_⟩
  rintro i m H2 ⟨G2, s0, acc, vs', e2, R2, V2, rfl, w⟩
  obtain ⟨k1, k2⟩ := ok i _ _ G2 _ σ H2 e2 R2
  by_cases hi : i < ds.length
  · have hdi : ds[i]? = some ds[i] := List.getElem?_eq_getElem hi
    obtain ⟨go, yl⟩ := k2 _ hdi
    rw [List.drop_eq_getElem_cons hi] at w
    refine Or.inr ⟨go, fun H' => ∃ (G3 : Hp) (s0 : Sg) (acc : List PyData) (vs' : List V), Ex G1 G3 ∧ Rel X.K (fo f (F.up D (.lst vs')) fun a => O a ∨ a = D) G3 (s0.wipe vs) σ H' ∧ DpAll X.K G3 vs' acc ∧ lcs vs g tt t (ds.drop (i + 1)) acc (s0.wipe vs) C, fun H' h => ?_, fun x H' y => ?_⟩
    · obtain ⟨G3, s3, acc', vs3, b1, b2, b3, b4⟩ := h
      exact ⟨_, by omega, G3, s3, acc', vs3, b1, b2, b3, rfl, b4⟩
    · obtain ⟨G3, e3, _, R3, V3⟩ := yl x H' y
      obtain ⟨C', w', hC'⟩ := hgl _ _ _ w
      refine ⟨_, _, G3, s0.wipe vs, _, C', R3.inw, V3, w', fun s4 σ4 c4 hs R4 => ?_⟩
      obtain ⟨c4, hlen⟩ := hC' s4 c4
      have we : L2.wipe σ4 vs = L2.wipe σ vs := by
        rw [← wipe_idem (σ := σ)]
        refine wipe_cong ?_ fun i hi => hs i fun z => hi (hw i z)
        rw [R4.ln, hlen, wipe_length, ← R3.ln]
      refine ⟨we, _, _, G3, s4, _, R4, c4, fun b s5 G5 H5 c5 e5 R5 => ?_⟩
      cases b with
      | false => exact ⟨G5, s5, acc, vs', (e2.trans e3).trans e5, R5.outw we, Dp.exAll (e3.trans e5) _ V2, c5⟩
      | true =>
        refine ⟨_, _, G5, s5, _, R5, c5, fun p s6 G6 H6 v c6 e6 R6 V6 => ?_⟩
        obtain ⟨x', hx, hlen, hl⟩ := c6
        obtain ⟨G7, e7, R7, V7⟩ := R6.frz V6 hx
        have V2' := Dp.exAll (((e3.trans e5).trans e6).trans e7) _ V2
        refine ⟨vs', R6.fh D _ hM (show upd F.F D (.lst vs') D = _ by rw [upd_same]), by rw [V2.len]; exact Evl.sz_lt hlen, G7, s6, acc ++ [x'], vs' ++ [v], (((e2.trans e3).trans e5).trans e6).trans e7, (R7.beside2 hM hO hd).outw we, V2'.append (.cons V7 .nil), hl⟩
  · rw [List.drop_eq_nil_of_le (by omega)] at w
    obtain ⟨R5, V5⟩ := R2.beside3 hM hO hF (fun h => (hd h).2.2) V2
    exact Or.inl ⟨k1 (by omega), k _ _ _ _ _ w (e1.trans e2) R5 V5⟩
theorem hp_lc {vs : List Nat} (h : PE X e (tLc (lfI X.K f it) (lfG X.K f g ws) (lfT X.K f tt) (lf X.K f t) vs)) (hw : ∀ i, i ∈ ws → i ∈ vs) (hgl : ∀ d s C, g d s C → ∃ C', g d s C' ∧ ∀ s', C' s' → C s' ∧ s'.sl.length = s.sl.length) : PE X e (lf X.K f (hLc it g tt t vs)) := h.mono (lc_conv hw hgl)
/-- y = [..] -/
theorem hs_setLc {st : Stmt} {i : Nat} {vs : List Nat} (h : PS X st (tAsg (tLc (lfI X.K f it) (lfG X.K f g ws) (lfT X.K f tt) (lf X.K f t) vs) (gName i))) (hw : ∀ i, i ∈ ws → i ∈ vs) (hgl : ∀ d s C, g d s C → ∃ C', g d s C' ∧ ∀ s', C' s' → C s' ∧ s'.sl.length = s.sl.length) : PS X st (lfS X.K f (hAsg (hLc it g tt t vs) i)) := hs_asg h (lc_conv hw hgl)
theorem gl_name {i : Nat} : ∀ d s C, gN i d s C → ∃ C', gN i d s C' ∧ ∀ s', C' s' → C s' ∧ s'.sl.length = s.sl.length := fun d s C h => ⟨fun s' => s' = s.put i (.dat d), rfl, fun s' e => by subst e; exact ⟨h, by simp [Sg.put]⟩⟩
theorem gl_pair {i j : Nat} : ∀ d s C, gP i j d s C → ∃ C', gP i j d s C' ∧ ∀ s', C' s' → C s' ∧ s'.sl.length = s.sl.length := fun d s C h => by
  unfold gP at h ⊢
  split at h
  · exact ⟨fun s' => s' = (s.put i (.dat _)).put j (.dat _), rfl, fun s' e => by subst e; exact ⟨h, by simp [Sg.put]⟩⟩
  · exact h.elim
theorem gl_tri {i j l : Nat} : ∀ d s C, gT i j l d s C → ∃ C', gT i j l d s C' ∧ ∀ s', C' s' → C s' ∧ s'.sl.length = s.sl.length := fun d s C h => by
  unfold gT at h ⊢
  split at h
  · exact ⟨fun s' => s' = ((s.put i (.dat _)).put j (.dat _)).put l (.dat _), rfl, fun s' e => by subst e; exact ⟨h, by simp [Sg.put]⟩⟩
  · exact h.elim
end
/-! ### the program's own defs -/
abbrev HSp := List PV → Nat → (PV → Nat → Prop) → Prop
def PV.imm : PV → Bool
  | .dat d => Sk.imm d
  | .own ds => immAll ds
  | .dct kvs => immAll (kvs.map (·.2))
  | .byr _ => false
  | .drw => true
  | .val _ => true
def PV.isD : PV → Bool
  | .dct _ => true
  | .byr _ => true
  | _ => false
def PV.arg : PV → PV
  | .own ds => .dat (.list ds)
  | p => p
def SpH (K : PySem.W.Frag) (k : Nat) (sp : HSp) : Sp := fun vs H Q _ => ∃ f G n ps C, f.F = H ∧ (∀ a, f.M a → f.on = true ∧ (a = f.m ∨ a = f.l)) ∧ Rel K f G ⟨ps.map some, n⟩ (vs.map some) H ∧ (∀ p ∈ ps, p.mut = false) ∧ ps.length = k ∧ sp ps n C ∧
  ∀ p n' G' H' v, C p n' → Ex G G' → Rel K f G' ⟨[], n'⟩ [] H' → VR K f G' H' p v → Q v H'
@[simp] def hCall (sp : HSp) (k : Nat) (ta : HA) : HE := fun s C => ta s fun ps s' => ps.length = k ∧ (∀ p ∈ ps, p.isD = false) ∧ sp (ps.map PV.arg) s'.n fun p n' => (ps.any PV.mut = true → p.imm = true) ∧ C p ⟨s'.sl, n'⟩
theorem Rel.bare {K : PySem.W.Frag} {f : Fr} {G H : Hp} {s : Sg} {σ : L2.St} (R : Rel K f G s σ H) : Rel K f G ⟨[], s.n⟩ [] H where
  gh := R.gh
  fh := R.fh
  go := R.go
  oh := R.oh
  mh := R.mh
  mo := R.mo
  dr := R.dr
  ln := rfl
  sl := fun i p h => by simp at h
  ds := fun i j p q v _ h => by simp at h
theorem pair_at {K : PySem.W.Frag} {f : Fr} {G H : Hp} : ∀ {ps : List PV} {vs : List V} {i : Nat} {p : PV}, VRs K f G H ps vs → ps[i]? = some p → ∃ v, vs[i]? = some v ∧ VR K f G H p v
  | _, _, i, p, .nil, h => by simp at h
  | _, _, 0, p, .cons h1 h2, h => by simp at h; subst h; exact ⟨_, rfl, h1⟩
  | _, _, i + 1, p, .cons h1 h2, h => by
    obtain ⟨v, a, b⟩ := pair_at (i := i) (p := p) h2 (by simpa using h)
    exact ⟨v, by simpa using a, b⟩
theorem spH_call {K : PySem.W.Frag} {f : Fr} {F : Fr} {O : Addr → Prop} {G H : Hp} {s : Sg} {σ : L2.St} {ps : List PV} {vs : List V} {k : Nat} {sp : HSp} {Q : VK} {E : XK} {C : PV → Nat → Prop} (R : Rel K (fo f F O) G s σ H) (W : VRs K (fo f F O) G H ps vs) (hk : ps.length = k) (hD : ∀ p ∈ ps, p.isD = false)
    (h : sp (ps.map PV.arg) s.n fun p n' => (ps.any PV.mut = true → p.imm = true) ∧ C p n')
    (q : ∀ p n' G' H' v, C p n' → Ex G G' → Rel K (fo f F O) G' ⟨s.sl, n'⟩ σ H' → VRf K (fo f F O) G' H' s σ p v → Q v H') : SpH K k sp vs H Q E := by
  classical
  let A : Addr → Prop := fun a => ∃ (i : Nat) (ds : List PyData), ps[i]? = some (.own ds) ∧ vs[i]? = some (.ref a)
  let S : Addr → Prop := fun a => ∃ (i : Nat) (q : PV), s.sl[i]? = some (some q) ∧ q.mut = true ∧ σ[i]? = some (some (.ref a))
  have hA : ∀ a, A a → ∃ ws, H a = some (.lst ws) ∧ G a = none ∧ ¬ O a := fun a ⟨i, ds, h1, h2⟩ => by
    obtain ⟨v, h3, h4⟩ := pair_at W h1
    rw [h2] at h3
    cases h3
    obtain ⟨p, ws, e, k1, k2, k3, _⟩ := h4
    cases e
    exact ⟨ws, k1, k2, k3⟩
  have hS : ∀ a, S a → H a ≠ none ∧ G a = none ∧ ¬ O a := fun a ⟨i, q, h1, h2, h3⟩ => by
    obtain ⟨v, h4, h5⟩ := R.sl i q h1
    rw [h3] at h4
    cases h4
    cases q with
    | dat d => cases h2
    | drw => cases h2
    | val _ => cases h2
    | own ds => obtain ⟨p, ws, e, k1, k2, k3, _⟩ := h5; cases e; exact ⟨(by rw [k1]; intro z; cases z), k2, k3⟩
    | byr ds => obtain ⟨p, ws, e, k1, k2, k3, _⟩ := h5; cases e; exact ⟨(by rw [k1]; intro z; cases z), k2, k3⟩
    | dct ds => obtain ⟨p, ws, e, k1, k2, k3, _⟩ := h5; cases e; exact ⟨(by rw [k1]; intro z; cases z), k2, k3⟩
  let Gc : Hp := fun a => if A a then H a else G a
  let O' : Addr → Prop := fun a => (O a ∨ S a) ∧ ¬ A a
  let f' : Fr := ⟨F.on, F.m, F.l, F.c, H, O', fun a => F.on = true ∧ (a = F.m ∨ a = F.l), F.r⟩
  have gc : Ex G Gc := fun a o h => by
    show (if A a then H a else G a) = some o
    split
    · rename_i ha
      obtain ⟨_, _, h2, _⟩ := hA a ha
      rw [h2] at h; cases h
    · exact h
  have oo : ∀ a, O a → O' a := fun a h => ⟨Or.inl h, fun z => by obtain ⟨_, _, _, n⟩ := hA a z; exact n h⟩
  have lenv : vs.length = ps.length := by
    have := Paired.length W
    omega
  have Mo : ∀ a, f'.M a → O a := fun a ⟨h1, h2⟩ => by
    obtain ⟨a1, a2, _⟩ := R.mo h1
    rcases h2 with h2 | h2
    · rw [h2]; exact a1
    · rw [h2]; exact a2
  have R' : Rel K f' Gc ⟨(ps.map PV.arg).map some, s.n⟩ (vs.map some) H := {
    gh := fun a o h => by
      have h' : (if A a then H a else G a) = some o := h
      split at h'
      · exact h'
      · exact R.gh _ _ h'
    fh := fun a o _ h => h
    go := fun a h => by
      show (if A a then H a else G a) = none
      rw [if_neg h.2]
      exact h.1.elim (fun z => R.go a z) fun z => (hS a z).2.1
    oh := fun a h => h.1.elim (fun z => R.oh a z) fun z => (hS a z).1
    mh := fun a h => R.oh a (Mo a h)
    mo := fun h => by
      obtain ⟨a1, a2, a3, _⟩ := R.mo h
      exact ⟨oo _ a1, oo _ a2, oo _ a3, ⟨h, Or.inl rfl⟩, ⟨h, Or.inr rfl⟩⟩
    dr := R.dr
    ln := by simp [lenv]
    sl := fun i p h => by
      rw [List.getElem?_map] at h
      obtain ⟨p0, h1, e⟩ := Option.map_eq_some_iff.mp h
      cases e
      rw [List.getElem?_map] at h1
      obtain ⟨p1, h2, rfl⟩ := Option.map_eq_some_iff.mp h1
      obtain ⟨v, h3, h4⟩ := pair_at W h2
      refine ⟨v, by rw [List.getElem?_map, h3]; rfl, ?_⟩
      cases p1 with
      | dat d => exact Dp.ex gc _ h4
      | drw => exact h4
      | val _ => exact h4
      | dct kvs => have := hD _ (List.mem_of_getElem? h2); cases this
      | byr kvs => have := hD _ (List.mem_of_getElem? h2); cases this
      | own ds =>
        obtain ⟨a, ws, rfl, k1, k2, k3, k4, k5⟩ := h4
        have ha : A a := ⟨i, ds, h2, h3⟩
        exact .lst (Or.inl (Or.inl (by show (if A a then H a else G a) = _; rw [if_pos ha]; exact k1))) (Dp.exAll gc _ k5)
    ds := fun i j p q v _ h _ mp => by
      rw [List.getElem?_map] at h
      obtain ⟨p0, h1, e⟩ := Option.map_eq_some_iff.mp h
      cases e
      rw [List.getElem?_map] at h1
      obtain ⟨p1, h2, rfl⟩ := Option.map_eq_some_iff.mp h1
      cases p1 with
      | dat d => cases mp
      | drw => cases mp
      | val _ => cases mp
      | own ds => cases mp
      | dct kvs => have := hD _ (List.mem_of_getElem? h2); cases this
      | byr kvs => have := hD _ (List.mem_of_getElem? h2); cases this }
  refine ⟨f', Gc, s.n, ps.map PV.arg, _, rfl, fun a h => h, R', fun p hp => ?_, by simp [hk], h, fun p n' G' H' v c e R2 V2 => ?_⟩
  · obtain ⟨p0, h1, rfl⟩ := List.mem_map.mp hp
    cases p0 with
    | dct kvs => have := hD _ h1; cases this
    | byr kvs => have := hD _ h1; cases this
    | _ => rfl
  obtain ⟨ci, c⟩ := c
  let G2 : Hp := fun a => if A a then none else G' a
  have e2 : Ex G G2 := fun a o h => by
    have n : ¬ A a := fun z => by obtain ⟨_, _, h2, _⟩ := hA a z; rw [h2] at h; cases h
    show (if A a then none else G' a) = some o
    rw [if_neg n]
    exact e _ _ (gc _ _ h)
  have hk2 : ∀ a u, H a = some u → ¬ O a → H' a = some u := fun a u h n => R2.fh a u (fun z => n (Mo a z)) h
  have key : ∀ a, H a ≠ none → ¬ O a → S a → G2 a = none := fun a h n hs => by
    show (if A a then none else G' a) = none
    split
    · rfl
    · rename_i na
      exact R2.go a ⟨Or.inr hs, na⟩
  have slk : ∀ (i : Nat) (p : PV), s.sl[i]? = some (some p) → ∃ v : V, σ[i]? = some (some v) ∧ VR K (fo f F O) G2 H' p v := fun i p h => by
    obtain ⟨w, h1, h2⟩ := R.sl i p h
    refine ⟨w, h1, ?_⟩
    cases p with
    | dat d => exact Dp.ex e2 _ h2
    | drw => exact h2
    | val _ => exact h2
    | own ds =>
      obtain ⟨a, ws, rfl, k1, k2, k3, k4, k5⟩ := h2
      exact ⟨a, ws, rfl, hk2 a _ k1 k3, key a (by rw [k1]; intro z; cases z) k3 ⟨i, _, h, rfl, h1⟩, k3, k4, Dp.exAll e2 _ k5⟩
    | byr ds =>
      obtain ⟨a, ws, rfl, k1, k2, k3, k4, k5, k6⟩ := h2
      exact ⟨a, ws, rfl, hk2 a _ k1 k3, key a (by rw [k1]; intro z; cases z) k3 ⟨i, _, h, rfl, h1⟩, k3, k4, Dp.exAll e2 _ k5, k6⟩
    | dct ds =>
      obtain ⟨a, ws, rfl, k1, k2, k3, k4, k5, k6⟩ := h2
      exact ⟨a, ws, rfl, hk2 a _ k1 k3, key a (by rw [k1]; intro z; cases z) k3 ⟨i, _, h, rfl, h1⟩, k3, k4, k5, Dp.exAll e2 _ k6⟩
  have R3 : Rel K (fo f F O) G2 ⟨s.sl, n'⟩ σ H' := {
    gh := fun a o h => by
      have h' : (if A a then none else G' a) = some o := h
      split at h'
      · cases h'
      · exact R2.gh _ _ h'
    fh := fun a o m h => R2.fh a o (fun z => by
      obtain ⟨h1, h2⟩ := z
      obtain ⟨_, _, _, a4, a5⟩ := R.mo h1
      rcases h2 with h2 | h2
      · exact m (by rw [h2]; exact a4)
      · exact m (by rw [h2]; exact a5)) (R.fh a o m h)
    go := fun a h => by
      show (if A a then none else G' a) = none
      rw [if_neg (oo a h).2]
      exact R2.go a (oo a h)
    oh := fun a h => R2.oh a (oo a h)
    mh := fun a h => by
      by_cases z : f'.M a
      · exact R2.mh a z
      · cases w : H a with
        | none => exact absurd w (R.mh a h)
        | some u => rw [R2.fh a u z w]; intro z; cases z
    mo := R.mo
    dr := R2.dr
    ln := R.ln
    sl := slk
    ds := R.ds }
  have noA : ps.any PV.mut = false → ∀ a, ¬ A a := fun h a ⟨i, ds, h1, _⟩ => by
    have := List.any_eq_false.mp h _ (List.mem_of_getElem? h1)
    exact this rfl
  have gg : ps.any PV.mut = false → Ex G' G2 := fun h a o ho => by
    show (if A a then none else G' a) = some o
    rw [if_neg (noA h a)]
    exact ho
  have gr : Gr G' G2 := fun a xs r => by
    have n : ∀ o, G' a = some o → (∀ ws, o ≠ .lst ws) → G2 a = some o := fun o ho hn => by
      show (if A a then none else G' a) = some o
      split
      · rename_i ha
        obtain ⟨ws, h1, _⟩ := hA a ha
        have : Gc a = some (.lst ws) := by show (if A a then H a else G a) = _; rw [if_pos ha]; exact h1
        rw [e _ _ this] at ho
        cases ho
        exact absurd rfl (hn ws)
      · exact ho
    rcases r with r | ⟨ob, r⟩
    · exact Or.inl (n _ r fun ws z => by cases z)
    · exact Or.inr ⟨ob, n _ r fun ws z => by cases z⟩
  have dpk : ∀ (d : PyData) (w : V), (ps.any PV.mut = true → Sk.imm d = true) → Dp K G' w d → Dp K G2 w d := fun d w hi hd => by
    cases hm : ps.any PV.mut with
    | false => exact Dp.ex (gg hm) _ hd
    | true => exact Dp.gr gr _ (hi hm) hd
  have dpa : ∀ (ds : List PyData) (ws : List V), (ps.any PV.mut = true → immAll ds = true) → DpAll K G' ws ds → DpAll K G2 ws ds := fun d w hi hd => by
    cases hm : ps.any PV.mut with
    | false => exact Dp.exAll (gg hm) _ hd
    | true => exact Dp.grAll gr _ (hi hm) hd
  have newp : ∀ a, G' a = none → ¬ O' a → (H a = none ∨ f'.M a) → G2 a = none ∧ ¬ O a ∧ (F.F a = none ∨ F.M a) ∧ H a = none := fun a h1 h2 h3 => by
    have ha : H a = none := h3.elim id fun z => absurd (oo a (Mo a z)) h2
    refine ⟨?_, fun z => h2 (oo a z), R.fr_none ha, ha⟩
    show (if A a then none else G' a) = none
    split
    · rfl
    · exact h1
  refine q p n' G2 H' v c e2 R3 ?_
  cases p with
  | dat d => exact vrf_dat (dpk d v ci V2)
  | drw => exact ⟨V2, fun z => by cases z⟩
  | val _ => exact ⟨V2, fun z => by cases z⟩
  | own ds =>
    obtain ⟨a, ws, rfl, k1, k2, k3, k4, k5⟩ := V2
    obtain ⟨b1, b2, b3, b4⟩ := newp a k2 k3 k4
    refine ⟨⟨a, ws, rfl, k1, b1, b2, b3, dpa ds ws ci k5⟩, fun _ i q h1 h2 h3 => ?_⟩
    exact (hS a ⟨i, q, h1, h2, h3⟩).1 b4
  | byr ds =>
    obtain ⟨a, ws, rfl, k1, k2, k3, k4, k5, k6⟩ := V2
    obtain ⟨b1, b2, b3, b4⟩ := newp a k2 k3 k4
    refine ⟨⟨a, ws, rfl, k1, b1, b2, b3, dpa ds ws (fun h => by have z := ci h; cases z) k5, k6⟩, fun _ i q h1 h2 h3 => ?_⟩
    exact (hS a ⟨i, q, h1, h2, h3⟩).1 b4
  | dct ds =>
    obtain ⟨a, ws, rfl, k1, k2, k3, k4, k5, k6⟩ := V2
    obtain ⟨b1, b2, b3, b4⟩ := newp a k2 k3 k4
    refine ⟨⟨a, ws, rfl, k1, b1, b2, b3, k5, dpa _ _ ci k6⟩, fun _ i q h1 h2 h3 => ?_⟩
    exact (hS a ⟨i, q, h1, h2, h3⟩).1 b4
section
variable {X : Cx} {f : Fr} {e : Expr} {es : List Expr} {ta : HA} {sp : HSp} {E : XK}
/-- f(e, ..), from the hand layer's rule -/
theorem hp_call {k : Nat} (h : ∀ {t : TA}, PA X es t → PE X e (tCall (SpH X.K k sp) [] E t)) (ha : PA X es (lfA X.K f ta)) : PE X e (lf X.K f (hCall sp k ta)) := (h ha).mono fun σ H Q q => by
  obtain ⟨F, O, G, s, C, R, ht, kk⟩ := q
  refine ⟨F, O, G, s, _, R, ht, fun ps s1 G1 H1 vs c1 e1 R1 V1 => ?_⟩
  obtain ⟨c2, c3, c4⟩ := c1
  rw [List.append_nil]
  exact spH_call R1 V1 c2 c3 c4 fun p n' G' H' v c e2 R2 V2 => kk p ⟨s1.sl, n'⟩ G' H' v c (e1.trans e2) R2 V2
theorem vals_len {k : Nat} {K : PySem.W.Frag} : ∀ vs H Q E, SpH K k sp vs H Q E → vs.length = k := fun vs H Q E h => by
  obtain ⟨f, G, n, ps, C, _, _, R, _, hk, _⟩ := h
  have := R.ln
  simp at this
  omega
/-- a def by its body -/
theorem gnH {P : Program} {w : World} {K : PySem.W.Frag} {mg : Str → Option Value} {base : Heap} {k : Nat} {fa : Addr} {fd : FuncData} {x qual : Str} {st : Stmt} {N ps : List Str} {hs : HS} (Fn : Fun K x qual st fa fd) (S : FnScope N ps (defScope st))
    (body : ∀ (cdv : Value) (A : Around) (outer : List Env) (s : Shared) (H : Hp) (E : XK), (A.deeper (envOfC qual (defScope st) s.heap.objs.size fa cdv)).guards = some [] → Room k (A.deeper (envOfC qual (defScope st) s.heap.objs.size fa cdv)) → PSs (cxOf CX0 P w K mg base N qual (defScope st) fa cdv A outer s H E).nox (defBody st) (lfS K f0 hs))
    (rd : ∀ pvs n C, pvs.length = ps.length → sp pvs n C → hs ⟨fun s => C (.dat .none) s.n, fun p s => C p s.n, fun _ => False, fun _ => False⟩ ⟨pvs.map some ++ List.replicate (N.length - pvs.length) none, n⟩) :
    GnOk P w K mg base CX0 (k + 1) fa fd ps (SpH K ps.length sp) := by
  refine gn_ok Fn S vals_len fun cdv A outer s H vs Q E hgd hr h => ?_
  obtain ⟨f, G, n, pvs, C, hF, hM, R, hm, hk, hsp, kk⟩ := h
  have lnv : vs.length = pvs.length := by
    have := R.ln
    simpa using this
  refine ⟨_, body cdv A outer s H E hgd hr, f, f.O, G, _, _, ?_, rd pvs n C hk hsp, ⟨fun G1 s1 σ1 H1 e1 R1 c => kk _ _ _ _ _ c e1 R1.bare .non, fun p G1 s1 σ1 H1 v e1 R1 V1 c => kk _ _ _ _ _ c e1 R1.bare V1.1, fun _ _ _ _ _ _ z => z.elim, fun _ _ _ _ _ _ z => z.elim⟩⟩
  have ap : ∀ {α : Type} (xs : List α) (m i : Nat) (y : α), (xs.map some ++ List.replicate m none)[i]? = some (some y) → (xs.map some)[i]? = some (some y) := fun xs m i y h => by
    by_cases hi : i < xs.length
    · rw [List.getElem?_append_left (by simpa using hi)] at h; exact h
    · rw [List.getElem?_append_right (by simpa using hi)] at h
      rw [List.getElem?_replicate] at h
      split at h <;> cases h
  have ap2 : ∀ {α : Type} (xs : List α) (m i : Nat) (y : α), (xs.map some)[i]? = some (some y) → (xs.map some ++ List.replicate m none)[i]? = some (some y) := fun xs m i y h => by
    have hi : i < (xs.map some).length := (List.getElem?_eq_some_iff.mp h).1
    rw [List.getElem?_append_left hi]; exact h
  show Rel K f G ⟨_, n⟩ (L2.start N vs) H
  exact { R with
    ln := by simp [L2.start, lnv]
    sl := fun i p h => by
      obtain ⟨v, h1, h2⟩ := R.sl i p (ap _ _ _ _ h)
      exact ⟨v, ap2 _ _ _ _ h1, h2⟩
    ds := fun i j p q v ne hi _ mp => by
      have h1 := ap _ _ _ _ hi
      rw [List.getElem?_map] at h1
      obtain ⟨p0, h2, e⟩ := Option.map_eq_some_iff.mp h1
      cases e
      have := hm _ (List.mem_of_getElem? h2)
      rw [this] at mp
      cases mp }
end
end Sk
set_option Elab.async false
set_option linter.all false
set_option maxRecDepth 100000
set_option maxHeartbeats 2000000
namespace Sk
open PySem PySem.Spec PyProof.Rows L2
open PySem.W (Datum DatumOrd Tup T3 T4)
open Evl (Ex)
def tyD : PyData → String
  | .none => "NoneType"
  | .bool _ => "bool"
  | .int _ => "int"
  | .str _ => "str"
  | .list _ => "list"
  | .tuple _ => "tuple"
  | .dict _ => "dict"
section
variable {X : Cx} {f : Fr}
theorem kit_dp {pins : List (Addr × Obj)} {σ : L2.St} {H : Hp} {s : Shared} {x : V} {u : Value} {d : PyData} (I : Inv X pins σ H s) (h : Dp X.K H x d) (rx : RelV x u) : ∃ P : Heap → Prop, PySem.W.KitX X.K u (.type (tyD d)) P ∧ P s.heap ∧ u ≠ .builtin "__main__.__loader__#opaque" := by
  cases h with
  | non => exact kit_of I rx (.base .non)
  | bl b => exact kit_of I rx (.base (.bl b))
  | int i => exact kit_of I rx (.base (.int i))
  | str i => exact kit_of I rx (.base (.str i))
  | @lst a xs ds hs ha =>
    cases (show u = Value.ref a from rx)
    obtain ⟨its, _, ⟨o, n, h1, h2, _⟩, _⟩ := I.list hs
    exact ⟨_, PySem.W.kitx_list, ⟨o, h1, h2⟩, fun z => nomatch z⟩
  | @tup a xs ds hs ha =>
    cases (show u = Value.ref a from rx)
    obtain ⟨its, _, ⟨o, h1, h2, _⟩, _⟩ := I.tuple hs
    exact ⟨_, PySem.W.kitx_tuple, ⟨o, h1, h2⟩, fun z => nomatch z⟩
def rIsiD (K : PySem.W.Frag) : List V → Hp → VK → Prop := fun xs H Q => ∃ (x : V) (n : String) (d : PyData) (b : Bool), xs = [x, .ty n] ∧ Dp K H x d ∧ kitB (tyD d) n = some b ∧ Q (.bl b) H
theorem call_isiD : CallR X (.builtin "isinstance") (rIsiD X.K) := by
  intro pins s σ H xs us Q I r h
  obtain ⟨x, n, d, b, rfl, k, e, q⟩ := h
  obtain ⟨u1, u2, rfl, r1, r2⟩ := vals2 r
  cases (show u2 = Value.type n from r2)
  obtain ⟨P, Z, p, hx⟩ := kit_dp I k r1
  exact PySem.W.kia_one Z I.kIn p (kit_ty e) hx fun tk => ⟨.bl b, H, I.tok tk, rfl, q⟩
/-- what is read may be one's own -/
theorem VR.dp {K : PySem.W.Frag} {G H : Hp} {p : PV} {v : V} {d : PyData} (h : VR K f G H p v) (g : Ex G H) (e : p.frz = some d) : Dp K H v d := by
  cases p with
  | dat d' => cases e; exact Dp.ex g _ h
  | own ds =>
    cases e
    obtain ⟨a, vs, rfl, h1, _, _, _, h5⟩ := h
    exact .lst (Or.inl (Or.inl h1)) (Dp.exAll g _ h5)
  | dct _ => cases e
  | drw => cases e
  | val _ => cases e
  | byr _ => cases e
def isiW : List PV → (PV → Prop) → Prop := fun ps C => match ps with
  | [p, .val (.ty n)] => ∃ d b, p.frz = some d ∧ kitB (tyD d) n = some b ∧ C (.dat (.bool b))
  | _ => False
theorem op_isi : Op X.K f (rIsiD X.K) isiW := fun F O G s σ H ps vs C Q R V w k => by
  unfold isiW at w
  split at w
  · rename_i p n
    obtain ⟨d, b, h1, h2, h3⟩ := w
    cases V with
    | cons v1 V =>
      cases V with
      | cons v2 V =>
        cases V
        cases (show _ = V.ty n from v2)
        exact ⟨_, n, d, b, rfl, v1.dp R.gh h1, h2, k _ _ _ _ h3 (Ex.refl G) R (vrf_dat (.bl b))⟩
  · exact w.elim
/-! ### operators -/
/-- two ints -/
@[simp] def i2 (C : Int → Int → Prop) (g : Int → Int → PyData) : List PV → (PV → Prop) → Prop := fun ps K => match ps with
  | [.dat (.int i), .dat (.int j)] => C i j ∧ K (.dat (g i j))
  | _ => False
theorem op_i2 {Cd : Int → Int → Prop} {g : Int → Int → V} {g' : Int → Int → PyData} (hg : ∀ i j G, Dp X.K G (g i j) (g' i j)) : Op X.K f (op2 (rI Cd g)) (i2 Cd g') := fun F O G s σ H ps vs C Q R V w k => by
  unfold i2 at w
  split at w
  · rename_i i j
    cases V with
    | cons v1 V =>
      cases V with
      | cons v2 V =>
        cases V
        cases vr_int v1
        cases vr_int v2
        exact ⟨i, j, rfl, rfl, w.1, k _ _ _ _ w.2 (Ex.refl G) R (vrf_dat (hg i j G))⟩
  · exact w.elim
@[simp] def i2' (g : Int → Int → PyData) : List PV → (PV → Prop) → Prop := fun ps K => match ps with
  | [.dat (.int i), .dat (.int j)] => K (.dat (g i j))
  | _ => False
theorem op_i2' {g : Int → Int → V} {g' : Int → Int → PyData} (hg : ∀ i j G, Dp X.K G (g i j) (g' i j)) : Op X.K f (op2 (rI0 g)) (i2' g') := fun F O G s σ H ps vs C Q R V w k => by
  unfold i2' at w
  split at w
  · rename_i i j
    cases V with
    | cons v1 V =>
      cases V with
      | cons v2 V =>
        cases V
        cases vr_int v1
        cases vr_int v2
        exact ⟨i, j, rfl, rfl, k _ _ _ _ w (Ex.refl G) R (vrf_dat (hg i j G))⟩
  · exact w.elim
abbrev subW := i2' fun i j => .int (i - j)
abbrev addIW := i2' fun i j => .int (i + j)
abbrev mulW := i2 CMulW fun i j => .int (i * j)
abbrev fdivW := i2 CDivW fun i j => .int (i / j)
abbrev modW := i2 (fun _ j => 0 < j) fun i j => .int (i % j)
abbrev powW := i2 CPow fun i j => .int (i ^ j.toNat)
abbrev ltW := i2' fun i j => .bool (decide (i < j))
abbrev leW := i2' fun i j => .bool (decide (i ≤ j))
abbrev gtW := i2' fun i j => .bool (decide (j < i))
abbrev geW := i2' fun i j => .bool (decide (j ≤ i))
theorem op_subW : Op X.K f (op2 (rI0 fun i j => .int (i - j))) subW := op_i2' fun _ _ _ => .int _
theorem op_addIW : Op X.K f (op2 (rI0 fun i j => .int (i + j))) addIW := op_i2' fun _ _ _ => .int _
theorem op_mulWW : Op X.K f (op2 (rI CMulW fun i j => .int (i * j))) mulW := op_i2 fun _ _ _ => .int _
theorem op_fdivWW : Op X.K f (op2 (rI CDivW fun i j => .int (i / j))) fdivW := op_i2 fun _ _ _ => .int _
theorem op_modWW : Op X.K f (op2 (rI (fun _ j => 0 < j) fun i j => .int (i % j))) modW := op_i2 fun _ _ _ => .int _
theorem op_powW : Op X.K f (op2 (rI CPow fun i j => .int (i ^ j.toNat))) powW := op_i2 fun _ _ _ => .int _
theorem op_ltW : Op X.K f (op2 (rI0 fun i j => .bl (decide (i < j)))) ltW := op_i2' fun _ _ _ => .bl _
theorem op_leW : Op X.K f (op2 (rI0 fun i j => .bl (decide (i ≤ j)))) leW := op_i2' fun _ _ _ => .bl _
theorem op_gtW : Op X.K f (op2 (rI0 fun i j => .bl (decide (j < i)))) gtW := op_i2' fun _ _ _ => .bl _
theorem op_geW : Op X.K f (op2 (rI0 fun i j => .bl (decide (j ≤ i)))) geW := op_i2' fun _ _ _ => .bl _
/-- a reading of data in, a truth out -/
def dd (sh : PyData → PyData → Prop) (g : PyData → PyData → Bool) : List PV → (PV → Prop) → Prop := fun ps K => match ps with
  | [p, q] => ∃ d e, p.frz = some d ∧ q.frz = some e ∧ sh d e ∧ K (.dat (.bool (g d e)))
  | _ => False
abbrev eqW := dd (fun d e => SeqAt.shaped d = true ∧ SeqAt.shaped e = true) fun d e => PyData.eqv d e
abbrev neW := dd (fun d e => SeqAt.shaped d = true ∧ SeqAt.shaped e = true) fun d e => !PyData.eqv d e
theorem op_eqW : Op X.K f (op2 (rEqD X.K)) eqW := fun F O G s σ H ps vs C Q R V w k => by
  unfold eqW dd at w
  split at w
  · obtain ⟨d, e, h1, h2, ⟨h3, h4⟩, h5⟩ := w
    cases V with
    | cons v1 V =>
      cases V with
      | cons v2 V =>
        cases V
        exact ⟨d, e, v1.dp R.gh h1, v2.dp R.gh h2, h3, h4, k _ _ _ _ h5 (Ex.refl G) R (vrf_dat (.bl _))⟩
  · exact w.elim
theorem op_neW : Op X.K f (op2 (rNeD X.K)) neW := fun F O G s σ H ps vs C Q R V w k => by
  unfold neW dd at w
  split at w
  · obtain ⟨d, e, h1, h2, ⟨h3, h4⟩, h5⟩ := w
    cases V with
    | cons v1 V =>
      cases V with
      | cons v2 V =>
        cases V
        exact ⟨d, e, v1.dp R.gh h1, v2.dp R.gh h2, h3, h4, k _ _ _ _ h5 (Ex.refl G) R (vrf_dat (.bl _))⟩
  · exact w.elim
/-- typed: <, in -/
def ltA (α : Type) [DecidableEq α] [DatumOrd α] : List PV → (PV → Prop) → Prop := fun ps K => match ps with
  | [p, q] => ∃ a b : α, p.frz = some (Datum.toD a) ∧ q.frz = some (Datum.toD b) ∧ K (.dat (.bool (DatumOrd.lt a b)))
  | _ => False
theorem op_ltAW {α : Type} [DecidableEq α] [DatumOrd α] : Op X.K f (op2 (rLtA α X.K)) (ltA α) := fun F O G s σ H ps vs C Q R V w k => by
  unfold ltA at w
  split at w
  · obtain ⟨a, b, h1, h2, h5⟩ := w
    cases V with
    | cons v1 V =>
      cases V with
      | cons v2 V =>
        cases V
        exact ⟨a, b, v1.dp R.gh h1, v2.dp R.gh h2, k _ _ _ _ h5 (Ex.refl G) R (vrf_dat (.bl _))⟩
  · exact w.elim
def inA (α : Type) [DecidableEq α] [Datum α] (neg : Bool) : List PV → (PV → Prop) → Prop := fun ps K => match ps with
  | [p, q] => ∃ (a : α) (xs : List α), p.frz = some (Datum.toD a) ∧ (q.frz = some (.list (xs.map Datum.toD)) ∨ q.frz = some (.tuple (xs.map Datum.toD))) ∧ K (.dat (.bool (if neg then decide (a ∉ xs) else decide (a ∈ xs))))
  | _ => False
theorem op_inAW {α : Type} [DecidableEq α] [Datum α] {neg : Bool} : Op X.K f (op2 (rInA α X.K neg)) (inA α neg) := fun F O G s σ H ps vs C Q R V w k => by
  unfold inA at w
  split at w
  · obtain ⟨a, b, h1, h2, h5⟩ := w
    cases V with
    | cons v1 V =>
      cases V with
      | cons v2 V =>
        cases V
        exact ⟨a, b, v1.dp R.gh h1, h2.imp (fun z => v2.dp R.gh z) (fun z => v2.dp R.gh z), k _ _ _ _ h5 (Ex.refl G) R (vrf_dat (.bl _))⟩
  · exact w.elim
/-- a sign in a text -/
def inS : List PV → (PV → Prop) → Prop := fun ps K => match ps with
  | [.dat (.str c), .dat (.str z)] => ∃ n, c = ⟨#[n]⟩ ∧ K (.dat (.bool (decide (n ∈ z.cps.toList))))
  | _ => False
theorem op_inS : Op X.K f (op2 fun x y H Q => ∃ (c : Nat) (z : Str), x = .str ⟨#[c]⟩ ∧ y = .str z ∧ Q (.bl (decide (c ∈ z.cps.toList))) H) inS := fun F O G s σ H ps vs C Q R V w k => by
  unfold inS at w
  split at w
  · obtain ⟨n, rfl, h5⟩ := w
    cases V with
    | cons v1 V =>
      cases V with
      | cons v2 V =>
        cases V
        cases vr_str v1
        cases vr_str v2
        exact ⟨n, _, rfl, rfl, k _ _ _ _ h5 (Ex.refl G) R (vrf_dat (.bl _))⟩
  · exact w.elim
/-- is None -/
def isN (neg : Bool) : List PV → (PV → Prop) → Prop := fun ps K => match ps with
  | [.dat d, .dat .none] => K (.dat (.bool (if neg then !(match d with | .none => true | _ => false) else match d with | .none => true | _ => false)))
  | _ => False
theorem op_isNW : Op X.K f (op2 fun x y H Q => y = .non ∧ Q (.bl (decide (x = .non))) H) (isN false) := fun F O G s σ H ps vs C Q R V w k => by
  unfold isN at w
  split at w
  · cases V with
    | cons v1 V =>
      cases V with
      | cons v2 V =>
        cases V
        cases (show Dp X.K G _ .none from v2)
        refine ⟨rfl, k _ _ _ _ w (Ex.refl G) R (vrf_dat ?_)⟩
        have v1 : Dp X.K G _ _ := v1
        cases v1 <;> exact .bl _
  · exact w.elim
theorem op_notNW : Op X.K f (op2 fun x y H Q => y = .non ∧ Q (.bl (!decide (x = .non))) H) (isN true) := fun F O G s σ H ps vs C Q R V w k => by
  unfold isN at w
  split at w
  · cases V with
    | cons v1 V =>
      cases V with
      | cons v2 V =>
        cases V
        cases (show Dp X.K G _ .none from v2)
        refine ⟨rfl, k _ _ _ _ w (Ex.refl G) R (vrf_dat ?_)⟩
        have v1 : Dp X.K G _ _ := v1
        cases v1 <;> exact .bl _
  · exact w.elim
/-- text + text -/
def addS : List PV → (PV → Prop) → Prop := fun ps K => match ps with
  | [.dat (.str a), .dat (.str b)] => a.length + b.length ≤ 100000 ∧ K (.dat (.str (a ++ b)))
  | _ => False
theorem op_addS : Op X.K f (op2 fun x y H Q => ∃ i j, x = .str i ∧ y = .str j ∧ i.length + j.length ≤ sizeLine ∧ Q (.str (i ++ j)) H) addS := fun F O G s σ H ps vs C Q R V w k => by
  unfold addS at w
  split at w
  · cases V with
    | cons v1 V =>
      cases V with
      | cons v2 V =>
        cases V
        cases vr_str v1
        cases vr_str v2
        exact ⟨_, _, rfl, rfl, Evl.sz_of w.1, k _ _ _ _ w.2 (Ex.refl G) R (vrf_dat (.str _))⟩
  · exact w.elim
end
end Sk
set_option Elab.async false
set_option linter.all false
set_option maxRecDepth 100000
set_option maxHeartbeats 2000000
namespace Sk
open PySem PySem.Spec PyProof.Rows L2
open PySem.W (Datum DatumOrd Tup T3 T4)
open Evl (Ex)
section
variable {X : Cx} {f : Fr}
/-- list + list, of any kind -/
def rCatL (K : PySem.W.Frag) : R2 := fun x y H Q => ∃ l b xs zs, x = .ref l ∧ y = .ref b ∧ SqL K H l xs ∧ SqL K H b zs ∧ xs.length + zs.length ≤ sizeLine ∧ ∀ p, H p = none → Q (.ref p) (upd H p (.lst (xs ++ zs)))
theorem op_catL : OpR X (binaryOp .Add) (rCatL X.K) := by
  intro pins s σ H x y v u Q I rx ry h
  obtain ⟨l, b, xs, zs, rfl, rfl, hx, hy, hz, q⟩ := h
  cases (show v = Value.ref l from rx)
  cases (show u = Value.ref b from ry)
  obtain ⟨its, r, pl, _⟩ := I.list hx
  obtain ⟨jts, r2, pk, _⟩ := I.list hy
  have l1 := r.length
  have l2 := r2.length
  obtain ⟨⟨c1, d1, t1, z1⟩, g1, q1, m1, y1⟩ := pl.isList
  obtain ⟨⟨c2, d2, t2, z2⟩, g2, q2, m2, y2⟩ := pk.isList
  simp only at q1 y1 q2 y2
  subst q1 y1 q2 y2
  have small : its.toArray.size + jts.toArray.size ≤ sizeLine := by
    simp only [List.size_toArray]
    omega
  have add := list_addW l b its.toArray jts.toArray m1 m2 d1 d2 z1 z2 small
  refine PySem.concat_meets ⟨_, g1, rfl⟩ ⟨_, g2, rfl⟩ noFill_list_add seq_list_add
    PySem.F.slot_list_add PySem.F.entry_list_add
    (PySem.F.args_list_add_2 _ _) add ⟨g1, g2, ?_⟩
  have ea : its.toArray ++ jts.toArray = (its ++ jts).toArray := by simp
  rw [ea]
  exact ⟨V.ref s.heap.objs.size, _, I.lnew (t' := s.toks) (Vals.append r r2) (by rw [List.length_append]; exact hz), rfl, q _ I.fresh⟩
/-- the items of a list or a tuple -/
def PV.seq : PV → Option (List PyData)
  | .dat (.list ds) => some ds
  | .dat (.tuple ds) => some ds
  | .own ds => some ds
  | _ => none
theorem VR.sq {K : PySem.W.Frag} {G H : Hp} {p : PV} {v : V} {ds : List PyData} (h : VR K f G H p v) (g : Ex G H) (e : p.seq = some ds) : ∃ a vs, v = .ref a ∧ (SqL K H a vs ∨ SqT K H a vs) ∧ DpAll K G vs ds := by
  cases p with
  | own es =>
    cases e
    obtain ⟨a, vs, rfl, h1, _, _, _, h5⟩ := h
    exact ⟨a, vs, rfl, Or.inl (Or.inl (Or.inl h1)), h5⟩
  | dat d =>
    have h : Dp K G v d := h
    cases h with
    | lst hs ha => cases e; exact ⟨_, _, rfl, Or.inl (Evl.ex_l g hs), ha⟩
    | tup hs ha => cases e; exact ⟨_, _, rfl, Or.inr (Evl.ex_t g hs), ha⟩
    | _ => cases e
  | dct _ => cases e
  | drw => cases e
  | val _ => cases e
  | byr _ => cases e
def PV.lst : PV → Option (List PyData)
  | .dat (.list ds) => some ds
  | .own ds => some ds
  | _ => none
theorem VR.sl {K : PySem.W.Frag} {G H : Hp} {p : PV} {v : V} {ds : List PyData} (h : VR K f G H p v) (g : Ex G H) (e : p.lst = some ds) : ∃ a vs, v = .ref a ∧ SqL K H a vs ∧ DpAll K G vs ds := by
  cases p with
  | own es =>
    cases e
    obtain ⟨a, vs, rfl, h1, _, _, _, h5⟩ := h
    exact ⟨a, vs, rfl, Or.inl (Or.inl h1), h5⟩
  | dat d =>
    have h : Dp K G v d := h
    cases h with
    | lst hs ha => cases e; exact ⟨_, _, rfl, Evl.ex_l g hs, ha⟩
    | tup hs ha => cases e
    | _ => cases e
  | dct _ => cases e
  | drw => cases e
  | val _ => cases e
  | byr _ => cases e
/-- an item -/
def ixW : List PV → (PV → Prop) → Prop := fun ps C => match ps with
  | [p, .dat (.int i)] => (∃ ds d, p.seq = some ds ∧ atI ds i = some d ∧ C (.dat d)) ∨ ∃ z c, p = .dat (.str z) ∧ z.length ≤ 100000 ∧ atI z.cps.toList i = some c ∧ C (.dat (.str ⟨#[c]⟩))
  | _ => False
theorem atI_dp {K : PySem.W.Frag} {G : Hp} {vs : List V} {ds : List PyData} {i : Int} {d : PyData} (h : DpAll K G vs ds) (e : atI ds i = some d) : ∃ v, atI vs i = some v ∧ Dp K G v d := by
  unfold atI at e ⊢
  rw [h.len]
  cases q : ixN ds.length i with
  | none => rw [q] at e; cases e
  | some j =>
    rw [q] at e
    exact h.at e
theorem op_ixW : Op X.K f (op2 (rIx X.K)) ixW := fun F O G s σ H ps vs C Q R V w k => by
  unfold ixW at w
  split at w
  · rename_i p i
    cases V with
    | cons v1 V =>
      cases V with
      | cons v2 V =>
        cases V
        cases vr_int v2
        rcases w with ⟨ds, d, h1, h2, h3⟩ | ⟨z, c, rfl, h1, h2, h3⟩
        · obtain ⟨a, ws, rfl, hs, ha⟩ := v1.sq R.gh h1
          obtain ⟨x, hx, dx⟩ := atI_dp ha h2
          rcases hs with hs | hs
          · exact Or.inl ⟨a, ws, i, x, rfl, rfl, hs, hx, k _ _ _ _ h3 (Ex.refl G) R (vrf_dat dx)⟩
          · exact Or.inr (Or.inl ⟨a, ws, i, x, rfl, rfl, hs, hx, k _ _ _ _ h3 (Ex.refl G) R (vrf_dat dx)⟩)
        · cases vr_str v1
          exact Or.inr (Or.inr ⟨z, i, c, rfl, rfl, Evl.sz_of h1, h2, k _ _ _ _ h3 (Ex.refl G) R (vrf_dat (.str _))⟩)
  · exact w.elim
/-- len -/
def lenW : List PV → (PV → Prop) → Prop := fun ps C => match ps with
  | [p] => (∃ ds, p.seq = some ds ∧ C (.dat (.int ds.length))) ∨ (∃ z, p = .dat (.str z) ∧ z.length ≤ sizeLine ∧ C (.dat (.int z.length))) ∨ ∃ kvs, p = .dct kvs ∧ C (.dat (.int kvs.length))
  | _ => False
def rLen (K : PySem.W.Frag) : List V → Hp → VK → Prop := fun xs H Q => (∃ p ys, xs = [.ref p] ∧ (SqL K H p ys ∨ SqT K H p ys) ∧ Q (.int ys.length) H) ∨ (∃ z, xs = [.str z] ∧ z.length ≤ sizeLine ∧ Q (.int z.length) H) ∨ ∃ a kvs, xs = [V.ref a] ∧ H a = some (.dK kvs) ∧ Q (.int kvs.length) H
theorem call_lenAll : CallR X (.builtin "len") (rLen X.K) := call_len_seq.or (call_len_str.or call_lenD)
theorem op_lenW : Op X.K f (rLen X.K) lenW := fun F O G s σ H ps vs C Q R V w k => by
  unfold lenW at w
  split at w
  · cases V with
    | cons v1 V =>
      cases V
      rcases w with ⟨ds, h1, h2⟩ | ⟨z, rfl, h1, h2⟩ | ⟨kvs, rfl, h1⟩
      · obtain ⟨a, ws, rfl, hs, ha⟩ := v1.sq R.gh h1
        exact Or.inl ⟨a, ws, rfl, hs, by rw [ha.len]; exact k _ _ _ _ h2 (Ex.refl G) R (vrf_dat (.int _))⟩
      · cases vr_str v1
        exact Or.inr (Or.inl ⟨z, rfl, h1, k _ _ _ _ h2 (Ex.refl G) R (vrf_dat (.int _))⟩)
      · obtain ⟨a, ws, rfl, b1, b2, b3, b4, b5, b6⟩ := v1
        have : ws.length = kvs.length := by simpa using congrArg List.length b5
        exact Or.inr (Or.inr ⟨a, ws, rfl, b1, by rw [this]; exact k _ _ _ _ h1 (Ex.refl G) R (vrf_dat (.int _))⟩)
  · exact w.elim
/-- list(x) -/
def listW : List PV → (PV → Prop) → Prop := fun ps C => match ps with
  | [p] => ∃ ds, p.seq = some ds ∧ C (.own ds)
  | _ => False
theorem op_listW : Op X.K f (fun xs H Q => ∃ p ys, xs = [.ref p] ∧ (SqL X.K H p ys ∨ SqT X.K H p ys) ∧ ∀ l, H l = none → Q (.ref l) (upd H l (.lst ys))) listW := fun F O G s σ H ps vs C Q R V w k => by
  unfold listW at w
  split at w
  · cases V with
    | cons v1 V =>
      cases V
      obtain ⟨ds, h1, h2⟩ := w
      obtain ⟨a, ws, rfl, hs, ha⟩ := v1.sq R.gh h1
      exact ⟨a, ws, rfl, hs, fun l hl => k _ _ _ _ h2 (Ex.refl G) (R.new hl) (R.own hl ha)⟩
  · exact w.elim
/-- tuple(x) -/
def tupW : List PV → (PV → Prop) → Prop := fun ps C => match ps with
  | [p] => ∃ ds, p.seq = some ds ∧ C (.dat (.tuple ds))
  | _ => False
theorem op_tupW : Op X.K f (fun xs H Q => ∃ p ys, xs = [.ref p] ∧ ((SqL X.K H p ys ∧ ∀ l, H l = none → Q (.ref l) (upd H l (.tup ys))) ∨ (SqT X.K H p ys ∧ Q (.ref p) H))) tupW := fun F O G s σ H ps vs C Q R V w k => by
  unfold tupW at w
  split at w
  · rename_i p
    cases V with
    | cons v1 V =>
      cases V
      obtain ⟨ds, h1, h2⟩ := w
      have new : ∀ ws, DpAll X.K G ws ds → ∀ l, H l = none → Q (.ref l) (upd H l (.tup ws)) := fun ws ha l hl => k _ _ _ _ h2 (Evl.Ex.new (R.gn hl)) (R.newG hl) (vrf_dat (.tup (Or.inl (Or.inl upd_same)) (Dp.exAll (Evl.Ex.new (R.gn hl)) _ ha)))
      cases p with
      | own es =>
        cases h1
        obtain ⟨a, ws, rfl, b1, _, _, _, b5⟩ := v1
        exact ⟨a, ws, rfl, Or.inl ⟨Or.inl (Or.inl b1), new ws b5⟩⟩
      | dat d =>
        have v1 : Dp X.K G _ d := v1
        cases v1 with
        | lst hs ha => cases h1; exact ⟨_, _, rfl, Or.inl ⟨Evl.ex_l R.gh hs, new _ ha⟩⟩
        | tup hs ha => cases h1; exact ⟨_, _, rfl, Or.inr ⟨Evl.ex_t R.gh hs, k _ _ _ _ h2 (Ex.refl G) R (vrf_dat (.tup hs ha))⟩⟩
        | _ => cases h1
      | dct _ => cases h1
      | drw => cases h1
      | val _ => cases h1
      | byr _ => cases h1
  · exact w.elim
/-- all, any of truths -/
def allW (g : List Bool → Bool) : List PV → (PV → Prop) → Prop := fun ps C => match ps with
  | [p] => ∃ bs : List Bool, p.lst = some (bs.map .bool) ∧ C (.dat (.bool (g bs)))
  | _ => False
theorem bools_dp {K : PySem.W.Frag} {G : Hp} : ∀ {bs : List Bool} {vs : List V}, DpAll K G vs (bs.map .bool) → vs = bs.map V.bl
  | [], _, h => by cases h; rfl
  | b :: bs, _, h => by
    cases h with
    | cons h1 h2 =>
      cases h1
      rw [bools_dp h2]
      rfl
theorem op_allW : Op X.K f (rAll X.K) (allW fun bs => bs.all id) := fun F O G s σ H ps vs C Q R V w k => by
  unfold allW at w
  split at w
  · cases V with
    | cons v1 V =>
      cases V
      obtain ⟨bs, h1, h2⟩ := w
      obtain ⟨a, ws, rfl, hs, ha⟩ := v1.sl R.gh h1
      exact ⟨a, bs, rfl, by rw [← bools_dp ha]; exact hs, k _ _ _ _ h2 (Ex.refl G) R (vrf_dat (.bl _))⟩
  · exact w.elim
theorem op_anyW : Op X.K f (rAny X.K) (allW fun bs => bs.any id) := fun F O G s σ H ps vs C Q R V w k => by
  unfold allW at w
  split at w
  · cases V with
    | cons v1 V =>
      cases V
      obtain ⟨bs, h1, h2⟩ := w
      obtain ⟨a, ws, rfl, hs, ha⟩ := v1.sl R.gh h1
      exact ⟨a, bs, rfl, by rw [← bools_dp ha]; exact hs, k _ _ _ _ h2 (Ex.refl G) R (vrf_dat (.bl _))⟩
  · exact w.elim
/-- repr -/
def reprW : List PV → (PV → Prop) → Prop := fun ps C => match ps with
  | [p] => ∃ d, p.frz = some d ∧ d.showable = true ∧ d.hasDict = false ∧ d.depth ≤ 100 ∧ d.shown.length ≤ sizeLine ∧ C (.dat (.str d.shown))
  | _ => False
theorem op_reprW : Op X.K f (rRepr X.K) reprW := fun F O G s σ H ps vs C Q R V w k => by
  unfold reprW at w
  split at w
  · cases V with
    | cons v1 V =>
      cases V
      obtain ⟨d, h1, h2, h3, h4, h5, h6⟩ := w
      exact ⟨_, d, rfl, v1.dp R.gh h1, h2, h3, h4, h5, k _ _ _ _ h6 (Ex.refl G) R (vrf_dat (.str _))⟩
  · exact w.elim
end
end Sk
set_option Elab.async false
set_option linter.all false
set_option maxRecDepth 100000
set_option maxHeartbeats 2000000
namespace Sk
open PySem PySem.Spec PyProof.Rows L2
open PySem.W (Datum DatumOrd Tup T3 T4)
open Evl (Ex)
section
variable {X : Cx} {f : Fr}
/-- list * int, of any kind -/
def rRepL (K : PySem.W.Frag) : R2 := fun x y H Q => ∃ l k xs, x = .ref l ∧ y = .int k ∧ SqL K H l xs ∧ -(2 ^ 63) ≤ k ∧ k < 2 ^ 63 ∧ xs.length * k.toNat ≤ sizeLine ∧ ∀ p, H p = none → Q (.ref p) (upd H p (.lst (List.replicate k.toNat xs).flatten))
theorem op_repL : OpR X (binaryOp .Mult) (rRepL X.K) := by
  intro pins s σ H x y v u Q I rx ry h
  obtain ⟨l, k, xs, rfl, rfl, hx, b1, b2, hz, q⟩ := h
  cases (show v = Value.ref l from rx)
  obtain ⟨t, rfl⟩ := (show ∃ t, u = Value.int k t from ry)
  obtain ⟨its, r, pl, _⟩ := I.list hx
  have l1 := r.length
  obtain ⟨⟨c1, d1, t1, z1⟩, g1, q1, m1, y1⟩ := pl.isList
  simp only at q1 y1
  subst q1 y1
  have sz : its.toArray.size * k.toNat ≤ 2 ^ 24 := by
    simp only [List.size_toArray]
    rw [← l1]
    exact hz
  have fit : ¬ (!Builtin.List.listFitsIndex k) = true := by simp [Builtin.List.listFitsIndex]; omega
  have lng : ¬ Builtin.List.listTooLong (its.toArray.size * k.toNat) = true := by simp [Builtin.List.listTooLong, sizeLine]; simpa using sz
  have inner := lm_list_mul_any l its.toArray m1 d1 z1 k t fit (by omega) lng
  have outer := lm_int_rmul_list_any k t l its.toArray m1 d1 z1
  refine wpAny_binaryOp_repeat_ref (T := "list") (U := "int") (by decide) ⟨_, g1, rfl⟩ (fun s' => typeIs_int s' k t)
    noFill_list_mul PySem.F.fills_int_mul PySem.F.slot_int_rmul
    repeat_list PySem.F.slot_int_index.lookup ?_
  refine call_meets PySem.F.slot_int_rmul (typeIs_int s k t) PySem.F.entry_int_rmul
    (PySem.F.args_int_rmul_2 _ _) outer ⟨g1, rfl, ⟨_, g1, rfl⟩, ?_⟩
  refine call_meets PySem.F.slot_list_mul ⟨_, g1, rfl⟩ PySem.F.entry_list_mul
    (PySem.F.args_list_mul_2 _ _) inner ⟨g1, ?_⟩
  have ea : List.foldl (fun x1 x2 => x1 ++ x2) #[] (List.replicate (if its.toArray.isEmpty = true then 0 else k.toNat) its.toArray) = (List.replicate k.toNat its).flatten.toArray := listMul_foldl_if ..
  rw [ea]
  exact ⟨V.ref s.heap.objs.size, _, I.lnew (t' := s.toks) (r.rep k.toNat) (by rw [PyProof.Rows.lm_len_rep_flat, Nat.mul_comm]; exact hz), rfl, q _ I.fresh⟩
/-- + : numbers, texts, lists -/
def rAddAll (K : PySem.W.Frag) : R2 := fun x y H Q => (rI0 (fun i j => .int (i + j)) x y H Q) ∨ (∃ i j, x = .str i ∧ y = .str j ∧ i.length + j.length ≤ sizeLine ∧ Q (.str (i ++ j)) H) ∨ rCatL K x y H Q
theorem op_addAll : OpR X (binaryOp .Add) (rAddAll X.K) := by
  intro pins s σ H x y v u Q I rx ry h
  rcases h with h | h | h
  · exact op_add pins s σ H x y v u Q I rx ry h
  · exact op_add_str pins s σ H x y v u Q I rx ry h
  · exact op_catL pins s σ H x y v u Q I rx ry h
def addW : List PV → (PV → Prop) → Prop := fun ps C => match ps with
  | [.dat (.int i), .dat (.int j)] => C (.dat (.int (i + j)))
  | [.dat (.str a), .dat (.str b)] => a.length + b.length ≤ 100000 ∧ C (.dat (.str (a ++ b)))
  | [p, q] => ∃ ds es, p.lst = some ds ∧ q.lst = some es ∧ ds.length + es.length ≤ 100000 ∧ C (.own (ds ++ es))
  | _ => False
theorem op_addW : Op X.K f (op2 (rAddAll X.K)) addW := fun F O G s σ H ps vs C Q R V w k => by
  unfold addW at w
  split at w
  · cases V with
    | cons v1 V =>
      cases V with
      | cons v2 V =>
        cases V
        cases vr_int v1
        cases vr_int v2
        exact Or.inl ⟨_, _, rfl, rfl, k _ _ _ _ w (Ex.refl G) R (vrf_dat (.int _))⟩
  · cases V with
    | cons v1 V =>
      cases V with
      | cons v2 V =>
        cases V
        cases vr_str v1
        cases vr_str v2
        exact Or.inr (Or.inl ⟨_, _, rfl, rfl, Evl.sz_of w.1, k _ _ _ _ w.2 (Ex.refl G) R (vrf_dat (.str _))⟩)
  · cases V with
    | cons v1 V =>
      cases V with
      | cons v2 V =>
        cases V
        obtain ⟨ds, es, h1, h2, h3, h4⟩ := w
        obtain ⟨a, xs, rfl, s1, d1⟩ := v1.sl R.gh h1
        obtain ⟨b, ys, rfl, s2, d2⟩ := v2.sl R.gh h2
        exact Or.inr (Or.inr ⟨a, b, xs, ys, rfl, rfl, s1, s2, by rw [d1.len, d2.len]; exact Evl.sz_of h3, fun p hp => k _ _ _ _ h4 (Ex.refl G) (R.new hp) (R.own hp (d1.append d2))⟩)
  · exact w.elim
def rMulAll (K : PySem.W.Frag) : R2 := fun x y H Q => (rI CMulW (fun i j => .int (i * j)) x y H Q) ∨ rRepL K x y H Q
theorem op_mulAll : OpR X (binaryOp .Mult) (rMulAll X.K) := by
  intro pins s σ H x y v u Q I rx ry h
  rcases h with h | h
  · exact op_mulW pins s σ H x y v u Q I rx ry h
  · exact op_repL pins s σ H x y v u Q I rx ry h
def mulW' : List PV → (PV → Prop) → Prop := fun ps C => match ps with
  | [.dat (.int i), .dat (.int j)] => CMulW i j ∧ C (.dat (.int (i * j)))
  | [p, .dat (.int k)] => ∃ ds, p.lst = some ds ∧ k ≤ 100000 ∧ -100000 ≤ k ∧ ds.length * k.toNat ≤ 100000 ∧ C (.own (List.replicate k.toNat ds).flatten)
  | _ => False
theorem dpAll_rep {K : PySem.W.Frag} {G : Hp} {vs : List V} {ds : List PyData} (h : DpAll K G vs ds) : ∀ n, DpAll K G (List.replicate n vs).flatten (List.replicate n ds).flatten
  | 0 => .nil
  | n + 1 => by
    rw [List.replicate_succ, List.replicate_succ, List.flatten_cons, List.flatten_cons]
    exact h.append (dpAll_rep h n)
theorem op_mulW' : Op X.K f (op2 (rMulAll X.K)) mulW' := fun F O G s σ H ps vs C Q R V w k => by
  unfold mulW' at w
  split at w
  · cases V with
    | cons v1 V =>
      cases V with
      | cons v2 V =>
        cases V
        cases vr_int v1
        cases vr_int v2
        exact Or.inl ⟨_, _, rfl, rfl, w.1, k _ _ _ _ w.2 (Ex.refl G) R (vrf_dat (.int _))⟩
  · cases V with
    | cons v1 V =>
      cases V with
      | cons v2 V =>
        cases V
        cases vr_int v2
        obtain ⟨ds, h1, h2, h3, h4, h5⟩ := w
        obtain ⟨a, xs, rfl, s1, d1⟩ := v1.sl R.gh h1
        exact Or.inr ⟨a, _, xs, rfl, rfl, s1, by omega, by omega, by rw [d1.len]; exact Evl.sz_of h4, fun p hp => k _ _ _ _ h5 (Ex.refl G) (R.new hp) (R.own hp (dpAll_rep d1 _))⟩
  · exact w.elim
/-- slices -/
def cutD (ds : List PyData) (lo hi : Option Int) : List PyData := (ds.drop (HT.sIx ds.length 0 lo)).take (HT.sIx ds.length ds.length hi - HT.sIx ds.length 0 lo)
theorem cut_dp {K : PySem.W.Frag} {G : Hp} {vs : List V} {ds : List PyData} {lo hi : Option Int} (h : DpAll K G vs ds) : DpAll K G (cutV vs lo hi) (cutD ds lo hi) := by
  unfold cutV cutD
  rw [h.len]
  exact (h.drop _).take _
def rSlAll (K : PySem.W.Frag) : V → Option Int → Option Int → Hp → VK → Prop := fun x lo hi H Q => rSlS x lo hi H Q ∨ rSlA K x lo hi H Q ∨ rSlL K x lo hi H Q
theorem sl_all : SlR X (rSlAll X.K) := by
  intro pins s σ H x v vl vu lo hi sl Q I rx hs pl pu h
  rcases h with h | h | h
  · exact sl_str pins s σ H x v vl vu lo hi sl Q I rx hs pl pu h
  · exact sl_tupA pins s σ H x v vl vu lo hi sl Q I rx hs pl pu h
  · exact sl_list pins s σ H x v vl vu lo hi sl Q I rx hs pl pu h
/-- part: none, or a number -/
@[simp] def slW (p : PV) (lo hi : Option Int) (C : PV → Prop) : Prop := match p with
  | .dat (.str z) => z.length ≤ sizeLine ∧ C (.dat (.str (cutS z lo hi)))
  | .dat (.tuple ds) => C (.dat (.tuple (cutD ds lo hi)))
  | .dat (.list ds) => C (.own (cutD ds lo hi))
  | .own ds => C (.own (cutD ds lo hi))
  | _ => False
abbrev HOp := Sg → (Option Int → Sg → Prop) → Prop
@[simp] def hNo : HOp := fun s C => C none s
@[simp] def hPt (t : HE) : HOp := fun s C => t s fun p s1 => ∃ i, p = .dat (.int i) ∧ C (some i) s1
def lfO (K : PySem.W.Frag) (f : Fr) (t : HOp) : TO := fun σ H Q => ∃ F O G s C, Rel K (fo f F O) G s σ H ∧ t s C ∧ ∀ o s' G' H', C o s' → Ex G G' → Rel K (fo f F O) G' s' σ H' → Q o H'
theorem _root_.L2.PO.mono {e : Option Expr} {t t' : TO} (h : PO X e t) (m : ∀ σ H Q, t' σ H Q → t σ H Q) : PO X e t' := ⟨fun pins s σ H Q I q => h.run pins s σ H Q I (m σ H Q q)⟩
theorem ho_none : PO X none (lfO X.K f hNo) := po_none.mono fun σ H Q q => by
  obtain ⟨F, O, G, s, C, R, ht, k⟩ := q
  exact k _ _ _ _ ht (Ex.refl G) R
theorem ho_some {e : Expr} {t : HE} (h : PE X e (lf X.K f t)) : PO X (some e) (lfO X.K f (hPt t)) := (po_some h).mono fun σ H Q q => by
  obtain ⟨F, O, G, s, C, R, ht, k⟩ := q
  refine ⟨F, O, G, s, _, R, ht, fun p s1 G1 H1 v c1 e1 R1 V1 => ?_⟩
  obtain ⟨i, rfl, c2⟩ := c1
  exact ⟨i, vr_int V1.1, k _ _ _ _ c2 e1 R1⟩
/-- the sliced thing: a slot's (read when the ends are), or a value -/
@[simp] def hSl (j : Nat) (tl th : HOp) : HE := fun s C => (∃ p, s.sl[j]? = some (some p)) ∧ tl s fun lo s1 => th s1 fun hi s2 => ∃ p, s2.sl[j]? = some (some p) ∧ slW p lo hi fun q => C q s2
theorem op_slW {F : Fr} {O : Addr → Prop} {G H : Hp} {s : Sg} {σ : L2.St} {p : PV} {v : V} {lo hi : Option Int} {C : PV → Prop} {Q : VK} (R : Rel X.K (fo f F O) G s σ H) (V : VR X.K (fo f F O) G H p v) (w : slW p lo hi C)
    (k : ∀ p G' H' v, C p → Ex G G' → Rel X.K (fo f F O) G' s σ H' → VRf X.K (fo f F O) G' H' s σ p v → Q v H') : rSlAll X.K v lo hi H Q := by
  unfold slW at w
  split at w
  · cases vr_str V
    exact Or.inl ⟨_, rfl, w.1, k _ _ _ _ w.2 (Ex.refl G) R (vrf_dat (.str _))⟩
  · rename_i ds
    have V : Dp X.K G v (.tuple ds) := V
    cases V with
    | tup hs ha =>
      refine Or.inr (Or.inl ⟨_, _, rfl, Evl.ex_t R.gh hs, fun e => ?_, fun e p hp => k _ _ _ _ w (Evl.Ex.new (R.gn hp)) (R.newG hp) (vrf_dat (.tup (Or.inl (Or.inl upd_same)) (Dp.exAll (Evl.Ex.new (R.gn hp)) _ (cut_dp ha))))⟩)
      have : cutD ds lo hi = ds := by
        unfold cutD
        rw [← ha.len, e.1, e.2]
        simp [ha.len]
      rw [this] at w
      exact k _ _ _ _ w (Ex.refl G) R (vrf_dat (.tup hs ha))
  · rename_i ds
    have V : Dp X.K G v (.list ds) := V
    cases V with
    | lst hs ha => exact Or.inr (Or.inr ⟨_, _, rfl, Evl.ex_l R.gh hs, fun p hp => k _ _ _ _ w (Ex.refl G) (R.new hp) (R.own hp (cut_dp ha))⟩)
  · obtain ⟨a, vs, rfl, h1, h2, h3, h4, h5⟩ := V
    exact Or.inr (Or.inr ⟨_, _, rfl, Or.inl (Or.inl h1), fun p hp => k _ _ _ _ w (Ex.refl G) (R.new hp) (R.own hp (cut_dp h5))⟩)
  · exact w.elim
theorem hp_sl {e : Expr} {j : Nat} {lo hi : Option Expr} {tl th : HOp} {p2 pos : Pos} (h : PE X e (tVar j)) (hl : PO X lo (lfO X.K f tl)) (hh : PO X hi (lfO X.K f th)) : PE X (.Subscript e (.Slice lo hi none p2) pos) (lf X.K f (hSl j tl th)) := (pe_slice sl_all h hl hh).mono fun σ H Q q => by
  obtain ⟨F, O, G, s, C, R, ⟨⟨p, hp⟩, ht⟩, k⟩ := q
  obtain ⟨v, hv, _⟩ := R.sl j p hp
  refine ⟨v, hv, F, O, G, s, _, R, ht, fun lo s1 G1 H1 c1 e1 R1 => ⟨F, O, G1, s1, _, R1, c1, fun hi s2 G2 H2 c2 e2 R2 => ?_⟩⟩
  obtain ⟨p2, hp2, c3⟩ := c2
  obtain ⟨v2, hv2, V2⟩ := R2.sl j p2 hp2
  rw [hv] at hv2
  cases hv2
  exact op_slW R2 V2 c3 fun p G3 H3 v c e3 R3 V3 => k _ _ _ _ _ c ((e1.trans e2).trans e3) R3 V3
end
end Sk
set_option Elab.async false
set_option linter.all false
set_option maxRecDepth 100000
set_option maxHeartbeats 2000000
namespace Sk
open PySem PySem.Spec PyProof.Rows L2
open PySem.W (Datum DatumOrd Tup T3 T4)
open Evl (Ex)
/-- a type that sorted takes -/
class Srt (α : Type) [DecidableEq α] [DatumOrd α] : Prop extends OrdL α where
  kind : (∀ a : α, ∃ x r, (Datum.toD a) = PyData.tuple (x :: r)) ∨ ∀ a : α, (Datum.toD a) ≠ PyData.none ∧ ∀ xs, (Datum.toD a) ≠ PyData.tuple xs
instance : Srt Int where
  kind := Or.inr fun a => ⟨fun z => (by cases z), fun xs (z : PyData.int a = _) => (by cases z)⟩
instance : Srt Str where
  kind := Or.inr fun a => ⟨fun z => (by cases z), fun xs (z : PyData.str a = _) => (by cases z)⟩
instance {α β : Type} [DecidableEq α] [DatumOrd α] [DecidableEq β] [DatumOrd β] [OrdL α] [OrdL β] : Srt (α × β) where
  kind := Or.inl fun a => ⟨_, _, rfl⟩
section
variable {X : Cx} {f : Fr}
theorem each_of {K : PySem.W.Frag} {H : Hp} {α : Type} [DecidableEq α] [Datum α] : ∀ {ws : List V} {xs : List α} {us : List Value}, DpAll K H ws (xs.map Datum.toD) → Vals ws us → PySem.W.EachIs (fun v b => ∃ x : V, RelV x v ∧ Dp K H x (Datum.toD b)) us xs
  | _, [], _, h, r => by cases h; cases r; exact .nil
  | _, x :: xs, _, h, r => by
    cases h with
    | cons h1 h2 =>
      cases r with
      | cons r1 r2 => exact .cons ⟨_, r1, h1⟩ (each_of h2 r2)
theorem of_each {K : PySem.W.Frag} {H : Hp} {α : Type} [DecidableEq α] [Datum α] : ∀ {us : List Value} {xs : List α}, PySem.W.EachIs (fun v b => ∃ x : V, RelV x v ∧ Dp K H x (Datum.toD b)) us xs → ∃ ws, Vals ws us ∧ DpAll K H ws (xs.map Datum.toD)
  | _, _, .nil => ⟨[], .nil, .nil⟩
  | _, _, .cons ⟨x, r, h⟩ t => by
    obtain ⟨ws, h1, h2⟩ := of_each t
    exact ⟨x :: ws, .cons r h1, .cons h h2⟩
def sortA (α : Type) [DecidableEq α] [DatumOrd α] : List PV → (PV → Prop) → Prop := fun ps C => match ps with
  | [p] => ∃ xs : List α, p.lst = some (xs.map Datum.toD) ∧ C (.own ((sortL xs).map Datum.toD))
  | _ => False
def rSortG (α : Type) [DecidableEq α] [DatumOrd α] (K : PySem.W.Frag) : List V → Hp → VK → Prop := fun vs H Q => ∃ (G : Hp) (a : Addr) (ws : List V) (xs : List α), Ex G H ∧ vs = [.ref a] ∧ SqL K H a ws ∧ DpAll K G ws (xs.map Datum.toD) ∧ ∀ ys p, DpAll K G ys ((sortL xs).map Datum.toD) → H p = none → Q (.ref p) (upd H p (.lst ys))
theorem cr_sortG {α : Type} [DecidableEq α] [DatumOrd α] [Srt α] (hu : X.A.units + 64 < cLine) (hd : Datum.depth α ≤ 50) : CallR X (.builtin "sorted") (rSortG α X.K) := by
  intro pins s σ H vs us Q I r h
  obtain ⟨G, a, ws, xs, gh, rfl, hs, hv, q⟩ := h
  obtain ⟨its, rv, hl, hz⟩ := I.list hs
  rw [Vals.ref1 r]
  have e := each_of hv rv
  have er : PySem.W.EachIs (fun v (b : α) => ∃ as, Reads s.heap v (Datum.toD b) as) its xs := e.mono fun v b ⟨x, r1, d1⟩ => Dp.reads I _ _ _ (Dp.ex gh _ d1) r1
  have lx : xs.length = its.length := by
    have := hv.len
    have := rv.length
    simp at *
    omega
  have big : xs.length ≤ sizeLine := by
    have := rv.length
    omega
  refine PySem.W.sorted_data hl.isList e er (PySem.W.AllAlike.of fun a b => DatumOrd.alike a b) ?_ big (fun b _ => ?_) fun out h1 h2 => ?_
  · rcases (Srt.kind (α := α)) with k | k
    · exact PySem.W.Sortable.tuples k
    · exact PySem.W.Sortable.others k
  · have := Datum.depth_le b
    omega
  · obtain ⟨ys, v2, d2⟩ := of_each h2
    obtain ⟨ep, he⟩ := PyProof.Rows.sortedAll_at s.heap its out.toArray
    have same : (PySem.W.dataLe false (Datum.toD : α → PyData)) = leD := by
      funext a b
      rw [PySem.W.dataLe_eq]
      show (!PySem.W.dataLt (Datum.toD b) (Datum.toD a)) = !DatumOrd.lt b a
      rw [DatumOrd.lt_eq]
    rw [same] at d2
    have l2 : ys.length ≤ sizeLine := by
      have := v2.length
      omega
    exact ⟨.ref _, upd H (s.heap.objs.size + 1) (.lst ys), I.laid (t' := s.toks) (fun _ _ => PyProof.Rows.sortedAll_old) (Nat.le_succ _) ⟨l2, out, ep, v2, he⟩, rfl, q ys _ d2 (I.hok.fresh (Nat.le_succ _))⟩
theorem op_sortA {α : Type} [DecidableEq α] [DatumOrd α] : Op X.K f (rSortG α X.K) (sortA α) := fun F O G s σ H ps vs C Q R V w k => by
  unfold sortA at w
  split at w
  · cases V with
    | cons v1 V =>
      cases V
      obtain ⟨xs, h1, h2⟩ := w
      obtain ⟨a, ws, rfl, hs, ha⟩ := v1.sl R.gh h1
      exact ⟨G, a, ws, xs, R.gh, rfl, hs, ha, fun ys p dy hp => k _ _ _ _ h2 (Ex.refl G) (R.new hp) (R.own hp dy)⟩
  · exact w.elim
/-! ### sorted(set(xs)) -/
def sortUA (α : Type) [DecidableEq α] [DatumOrd α] (b : Nat) : List PV → (PV → Prop) → Prop := fun ps C => match ps with
  | [p] => ∃ xs : List α, p.seq = some (xs.map Datum.toD) ∧ xs.length < b ∧ C (.own ((sortU xs).map Datum.toD))
  | _ => False
def rSSI (K : PySem.W.Frag) : V → Hp → VK → Prop := fun x H1 Q => ∃ (a : Addr) (ns : List Int), x = .ref a ∧ Sq K H1 a (ns.map V.int) ∧ ns.length < 4000 ∧ ∀ (ms : List Int) (p : Addr), ms.Pairwise (· < ·) → (∀ k, k ∈ ms ↔ k ∈ ns) → H1 p = none → Q (.ref p) (upd H1 p (.lst (ms.map V.int)))
def rSSS (K : PySem.W.Frag) : V → Hp → VK → Prop := fun x H1 Q => ∃ (a : Addr) (ns : List Str), x = .ref a ∧ Sq K H1 a (ns.map V.str) ∧ ns.length < 4000 ∧ ∀ (ms : List Str) (p : Addr), ms.Pairwise slt → (∀ k, k ∈ ms ↔ k ∈ ns) → H1 p = none → Q (.ref p) (upd H1 p (.lst (ms.map V.str)))
def rSST (K : PySem.W.Frag) : V → Hp → VK → Prop := fun x H1 Q => ∃ (T : List Key → V → Prop) (a : Addr) (xs : List V) (ks : List (List Key)) (sh : Nat → Bool), (∀ k y, T k y → TupV K H1 k y) ∧ x = .ref a ∧ Sq K H1 a xs ∧ Paired T ks xs ∧ ks.length < 64 ∧ (∀ k ∈ ks, Shape sh k ∧ k ≠ []) ∧
  ∀ (ls : List (List Key)) (ys : List V) (p : Addr), ls.Nodup → ls.Pairwise tle → (∀ k, k ∈ ls ↔ k ∈ ks) → Paired T ls ys → H1 p = none → Q (.ref p) (upd H1 p (.lst ys))
theorem op_sortUI : Op X.K f (op1 (rSSI X.K)) (sortUA Int 4000) := fun F O G s σ H ps vs C Q R V w k => by
  unfold sortUA at w
  split at w
  · cases V with
    | cons v1 V =>
      cases V
      obtain ⟨xs, h1, hl, h2⟩ := w
      obtain ⟨a, ws, rfl, hs, ha⟩ := v1.sq R.gh h1
      have e := ints_dpAll ha
      subst e
      refine ⟨a, xs, rfl, hs, hl, fun ms p hp hm hn => k _ _ _ _ h2 (Ex.refl G) (R.new hn) (R.own hn ?_)⟩
      have : ms = sortU xs := sortU_eq (List.Pairwise.imp (fun {a b} h => decide_eq_true h) hp) hm
      subst this
      exact dpAll_ints _
  · exact w.elim
theorem op_sortUS : Op X.K f (op1 (rSSS X.K)) (sortUA Str 4000) := fun F O G s σ H ps vs C Q R V w k => by
  unfold sortUA at w
  split at w
  · cases V with
    | cons v1 V =>
      cases V
      obtain ⟨xs, h1, hl, h2⟩ := w
      obtain ⟨a, ws, rfl, hs, ha⟩ := v1.sq R.gh h1
      have e := strs_dpAll ha
      subst e
      refine ⟨a, xs, rfl, hs, hl, fun ms p hp hm hn => k _ _ _ _ h2 (Ex.refl G) (R.new hn) (R.own hn ?_)⟩
      have : ms = sortU xs := sortU_eq (List.Pairwise.imp (fun {a b} h => decide_eq_true h) hp) hm
      subst this
      exact dpAll_strs _
  · exact w.elim
end
/-- a type of flat keys -/
class FK (α : Type) [DecidableEq α] [DatumOrd α] where
  key : α → Key
  rt : Bool
  inj : ∀ a b, key a = key b → a = b
  isR : ∀ a, (key a).isRight = rt
  toV : ∀ (K : PySem.W.Frag) (G : Hp) (v : V) (a : α), Dp K G v (Datum.toD a) → v = kV (key a)
  ofV : ∀ (K : PySem.W.Frag) (G : Hp) (a : α), Dp K G (kV (key a)) (Datum.toD a)
  ltk : ∀ a b : α, PyProof.Rows.lexLt itemOrd [kc (key a)] [kc (key b)] = DatumOrd.lt a b
instance : FK Int where
  key := .inl
  rt := false
  inj := fun a b h => Sum.inl.inj h
  isR := fun _ => rfl
  toV := fun K G v a h => by cases (show Dp K G v (.int a) from h); rfl
  ofV := fun K G a => .int a
  ltk := fun a b => by rw [← DatumOrd.lt_eq]; show _ = PySem.W.dataLt (.int a) (.int b); simp only [PySem.W.dataLt, PySem.W.keyToks, kc]
instance : FK Str where
  key := .inr
  rt := true
  inj := fun a b h => Sum.inr.inj h
  isR := fun _ => rfl
  toV := fun K G v a h => by cases (show Dp K G v (.str a) from h); rfl
  ofV := fun K G a => .str a
  ltk := fun a b => by rw [← DatumOrd.lt_eq]; show _ = PySem.W.dataLt (.str a) (.str b); simp only [PySem.W.dataLt, PySem.W.keyToks, kc]
section
variable {X : Cx} {f : Fr} {α β : Type} [DecidableEq α] [DatumOrd α] [DecidableEq β] [DatumOrd β] [FK α] [FK β] [OrdL α] [OrdL β]
def pk (p : α × β) : List Key := [FK.key p.1, FK.key p.2]
theorem pk_inj {p q : α × β} (h : pk p = pk q) : p = q := by
  unfold pk at h
  injection h with h1 h2
  injection h2 with h2 _
  exact Prod.ext (FK.inj _ _ h1) (FK.inj _ _ h2)
theorem kc_inj {a b : Key} (h : kc a = kc b) : a = b := by
  cases a <;> cases b <;> simp [kc] at h
  · exact congrArg _ h
  · exact congrArg _ (PySem.W.str_of_cps (by rw [h]))
theorem pk_lt (p q : α × β) : PyProof.Rows.lexLt itemOrd ((pk p).map kc) ((pk q).map kc) = DatumOrd.lt p q := by
  show PyProof.Rows.lexLt itemOrd [kc (FK.key p.1), kc (FK.key p.2)] [kc (FK.key q.1), kc (FK.key q.2)] = if p.1 = q.1 then DatumOrd.lt p.2 q.2 else DatumOrd.lt p.1 q.1
  by_cases e : p.1 = q.1
  · rw [if_pos e, e, lex_self (O := itemOrd), FK.ltk]
  · rw [if_neg e, PySem.W.lex_atom (fun z => e (FK.inj _ _ (kc_inj z))), FK.ltk]
theorem op_sortUT : Op X.K f (op1 (rSST X.K)) (sortUA (α × β) 64) := fun F O G s σ H ps vs C Q R V w k => by
  unfold sortUA at w
  split at w
  · cases V with
    | cons v1 V =>
      cases V
      obtain ⟨xs, h1, hl, h2⟩ := w
      obtain ⟨a, ws, rfl, hs, ha⟩ := v1.sq R.gh h1
      let T : List Key → V → Prop := fun k y => ∃ p : α × β, k = pk p ∧ Dp X.K G y (Datum.toD p)
      have hT : ∀ k y, T k y → TupV X.K H k y := fun k y ⟨p, e, d⟩ => by
        have d : Dp X.K G y (.tuple [Datum.toD p.1, Datum.toD p.2]) := d
        cases d with
        | tup hs ha =>
          cases ha with
          | cons d1 t =>
            cases t with
            | cons d2 t =>
              cases t
              have e1 := FK.toV _ _ _ _ d1
              have e2 := FK.toV _ _ _ _ d2
              subst e1 e2 e
              exact ⟨_, rfl, Evl.ex_t R.gh hs⟩
      have hp : Paired T (xs.map pk) ws := by
        clear h1 hl h2 hs
        induction xs generalizing ws with
        | nil => cases ha; exact .nil
        | cons x xs ih =>
          cases ha with
          | cons d t => exact .cons ⟨x, rfl, d⟩ (ih _ t)
      refine ⟨T, a, ws, xs.map pk, fun i => if i = 0 then FK.rt α else FK.rt β, hT, rfl, hs, hp, by simpa using hl, fun q hq => ?_, fun ls ys p nd up mem pr hn => k _ _ _ _ h2 (Ex.refl G) (R.new hn) (R.own hn ?_)⟩
      · obtain ⟨x, _, rfl⟩ := List.mem_map.mp hq
        refine ⟨fun i y hy => ?_, by simp [pk]⟩
        match i, hy with
        | 0, hy => simp [pk] at hy; subst hy; simp [FK.isR]
        | 1, hy => simp [pk] at hy; subst hy; simp [FK.isR]
        | i + 2, hy => simp [pk] at hy
      · have form : ∀ L' : List (List Key), (∀ q ∈ L', ∃ x : α × β, q = pk x) → ∃ ms : List (α × β), L' = ms.map pk := by
          intro L'
          induction L' with
          | nil => intro _; exact ⟨[], rfl⟩
          | cons q r ih =>
            intro hq
            obtain ⟨x, rfl⟩ := hq q List.mem_cons_self
            obtain ⟨ms, rfl⟩ := ih fun j hj => hq j (List.mem_cons_of_mem _ hj)
            exact ⟨x :: ms, rfl⟩
        obtain ⟨ms, rfl⟩ := form ls fun q hq => by
          obtain ⟨x, _, e⟩ := List.mem_map.mp ((mem q).mp hq)
          exact ⟨x, e.symm⟩
        have nd2 : ms.Nodup := List.Pairwise.imp (fun h e => h (congrArg _ e)) (List.pairwise_map.mp nd)
        have up2 : ms.Pairwise fun a b => leD a b = true := List.Pairwise.imp (fun {a b} (h : tle (pk a) (pk b)) => by
          unfold tle at h
          rw [pk_lt] at h
          unfold leD
          rw [h]
          rfl) (List.pairwise_map.mp up)
        have mem2 : ∀ m, m ∈ ms ↔ m ∈ xs := fun m => by
          have z := mem (pk m)
          constructor
          · intro hm
            obtain ⟨x, hx, e⟩ := List.mem_map.mp (z.mp (List.mem_map.mpr ⟨m, hm, rfl⟩))
            rw [← pk_inj e]; exact hx
          · intro hm
            obtain ⟨x, hx, e⟩ := List.mem_map.mp (z.mpr (List.mem_map.mpr ⟨m, hm, rfl⟩))
            rw [← pk_inj e]; exact hx
        have e : ms = sortU xs := sortU_eq (rising_of up2 nd2) mem2
        rw [← e]
        clear e mem2 up2 nd2 form mem up nd
        induction ms generalizing ys with
        | nil => cases pr; exact .nil
        | cons m ms ih =>
          cases pr with
          | cons t r =>
            obtain ⟨p', e, d⟩ := t
            rw [← pk_inj e] at d
            exact .cons d (ih _ r)
  · exact w.elim
/-! the rules over them -/
theorem hp_sortUT {a : Expr} {oa : HA → HA} {p p2 q pos : Pos} (hc : X.calm = true) (hu : X.A.units + 64 < cLine) (hg : Gl X "sorted") (hm : X.mg "sorted" = none) (hg2 : Gl X "set") (hm2 : X.mg "set" = none) (A : Opd X f a oa)
    (na : starEach [a] X.env = (false, eval a X.env) :: starEach [] X.env := by rfl) : PE X (.Call (.Name "sorted" p) [.Call (.Name "set" p2) [a] [] q] [] pos) (lf X.K f (hC (sortUA (α × β) 64) (oa hNil))) := by
  obtain ⟨t, h1, h2⟩ := A.ex
  refine (pe_sortSetT hc hu hg hm hg2 hm2 h1 na).mono fun σ H Q w => ?_
  have z := h2 tNil hNil (fun σ H Q q => by
    obtain ⟨F, O, G, s, C, R, ht, k⟩ := q
    exact k _ _ _ _ _ ht (Ex.refl G) R .nil) σ H _ ((op_sortUT (X := X) (f := f) (α := α) (β := β)).lift _ σ H Q w)
  exact z
end
section
variable {X : Cx} {f : Fr}
theorem hp_sortUI {a : Expr} {oa : HA → HA} {p p2 q pos : Pos} (hc : X.calm = true) (hu : X.A.units + 64 < cLine) (hg : Gl X "sorted") (hm : X.mg "sorted" = none) (hg2 : Gl X "set") (hm2 : X.mg "set" = none) (A : Opd X f a oa)
    (na : starEach [a] X.env = (false, eval a X.env) :: starEach [] X.env := by rfl) : PE X (.Call (.Name "sorted" p) [.Call (.Name "set" p2) [a] [] q] [] pos) (lf X.K f (hC (sortUA Int 4000) (oa hNil))) := by
  obtain ⟨t, h1, h2⟩ := A.ex
  refine (pe_sortSetI hc hu hg hm hg2 hm2 h1 na).mono fun σ H Q w => ?_
  have z := h2 tNil hNil (fun σ H Q q => by
    obtain ⟨F, O, G, s, C, R, ht, k⟩ := q
    exact k _ _ _ _ _ ht (Ex.refl G) R .nil) σ H _ ((op_sortUI (X := X) (f := f)).lift _ σ H Q w)
  exact z
theorem hp_sortUS {a : Expr} {oa : HA → HA} {p p2 q pos : Pos} (hc : X.calm = true) (hu : X.A.units + 64 < cLine) (hg : Gl X "sorted") (hm : X.mg "sorted" = none) (hg2 : Gl X "set") (hm2 : X.mg "set" = none) (A : Opd X f a oa)
    (na : starEach [a] X.env = (false, eval a X.env) :: starEach [] X.env := by rfl) : PE X (.Call (.Name "sorted" p) [.Call (.Name "set" p2) [a] [] q] [] pos) (lf X.K f (hC (sortUA Str 4000) (oa hNil))) := by
  obtain ⟨t, h1, h2⟩ := A.ex
  refine (pe_sortSetS hc hu hg hm hg2 hm2 h1 na).mono fun σ H Q w => ?_
  have z := h2 tNil hNil (fun σ H Q q => by
    obtain ⟨F, O, G, s, C, R, ht, k⟩ := q
    exact k _ _ _ _ _ ht (Ex.refl G) R .nil) σ H _ ((op_sortUS (X := X) (f := f)).lift _ σ H Q w)
  exact z
end
end Sk
set_option Elab.async false
set_option linter.all false
set_option maxRecDepth 100000
set_option maxHeartbeats 2000000
namespace Sk
open PySem PySem.Spec PyProof.Rows L2
open PySem.W (Datum DatumOrd Tup T3 T4)
open Evl (Ex)
section
variable {K : PySem.W.Frag} {f : Fr} {F : Fr} {O : Addr → Prop} {G H : Hp} {s : Sg} {σ : L2.St}
/-- a slot's own object is changed -/
theorem Rel.poke {j : Nat} {q p : PV} {a : Addr} {u o : HO} (R : Rel K (fo f F O) G s σ H) (hj : s.sl[j]? = some (some q)) (hm : q.mut = true) (hs : σ[j]? = some (some (.ref a))) (ha : H a = some u) (ga : G a = none) (oa : ¬ O a) (fa : F.F a = none ∨ F.M a)
    (V : VR K (fo f F O) G (upd H a o) p (.ref a)) : Rel K (fo f F O) G (s.put j p) σ (upd H a o) := by
  have jl : j < s.sl.length := (List.getElem?_eq_some_iff.mp hj).1
  exact {
    gh := fun b u h => by rw [upd_ne (fun z => by rw [z, ga] at h; cases h)]; exact R.gh b u h
    fh := fun b u m h => by
      have ne : b ≠ a := fun z => by
        subst z
        rcases fa with fa | fa
        · rw [show F.F b = some u from h] at fa; cases fa
        · exact m fa
      rw [upd_ne ne]; exact R.fh b u m h
    go := R.go
    oh := fun b h => by
      have ne : b ≠ a := fun z => oa (by rw [← z]; exact h)
      rw [upd_ne ne]; exact R.oh b h
    mh := fun b h => by
      by_cases e : b = a
      · subst e; rw [upd_same]; intro z; cases z
      · rw [upd_ne e]; exact R.mh b h
    mo := R.mo
    dr := fun h => by
      obtain ⟨x, y, z, _⟩ := R.mo h
      exact (R.dr h).keep (upd_ne fun e => oa (e ▸ x)) (upd_ne fun e => oa (e ▸ y)) (upd_ne fun e => oa (e ▸ z))
    ln := by simp only [Sg.put, List.length_set]; exact R.ln
    sl := fun i r hr => by
      rcases set_get hr with ⟨e, e2, hl⟩ | ⟨e, h2⟩
      · cases e2
        subst e
        exact ⟨_, hs, V⟩
      · obtain ⟨w, hw, hv⟩ := R.sl i r h2
        refine ⟨w, hw, ?_⟩
        cases r with
        | dat d => exact hv
        | drw => exact hv
        | val _ => exact hv
        | own ds =>
          obtain ⟨b, ws, rfl, k1, k2, k3, k4, k5⟩ := hv
          have ne : b ≠ a := fun z => R.ds j i q _ _ e hj h2 hm rfl hs (by rw [hw, z])
          exact ⟨b, ws, rfl, by rw [upd_ne ne]; exact k1, k2, k3, k4, k5⟩
        | byr ds =>
          obtain ⟨b, ws, rfl, k1, k2, k3, k4, k5, k6⟩ := hv
          have ne : b ≠ a := fun z => R.ds j i q _ _ e hj h2 hm rfl hs (by rw [hw, z])
          exact ⟨b, ws, rfl, by rw [upd_ne ne]; exact k1, k2, k3, k4, k5, k6⟩
        | dct ds =>
          obtain ⟨b, ws, rfl, k1, k2, k3, k4, k5, k6⟩ := hv
          have ne : b ≠ a := fun z => R.ds j i q _ _ e hj h2 hm rfl hs (by rw [hw, z])
          exact ⟨b, ws, rfl, by rw [upd_ne ne]; exact k1, k2, k3, k4, k5, k6⟩
    ds := fun x y pa pb w ne hx hy mx my wx wy => by
      rcases set_get hx with ⟨e, e2, hl⟩ | ⟨e, h2⟩
      · cases e2
        subst e
        rcases set_get hy with ⟨e', e2', _⟩ | ⟨e', h2'⟩
        · exact ne e'
        · exact R.ds _ y q pb w ne hj h2' hm my wx wy
      · rcases set_get hy with ⟨e', e2', _⟩ | ⟨e', h2'⟩
        · cases e2'
          subst e'
          exact R.ds x _ pa q w ne h2 hj mx hm wx wy
        · exact R.ds x y pa pb w ne h2 h2' mx my wx wy }
end
/-! ### lists of one's own -/
@[simp] def hApp (j : Nat) (t : HE) : HE := fun s C => (∃ ds, s.sl[j]? = some (some (.own ds))) ∧ t s fun p s1 => ∃ x ds, p.frz = some x ∧ s1.sl[j]? = some (some (.own ds)) ∧ ds.length < 100000 ∧ C (.dat .none) (s1.put j (.own (ds ++ [x])))
@[simp] def hPop (j : Nat) : HE := fun s C => ∃ ds d, s.sl[j]? = some (some (.own ds)) ∧ ds[ds.length - 1]? = some d ∧ C (.dat d) (s.put j (.own ds.dropLast))
@[simp] def hSetL (j : Nat) (t ti : HE) : HS := fun D s => t s fun p s1 => ∃ x, p.frz = some x ∧ (∃ ds, s1.sl[j]? = some (some (.own ds))) ∧ ti s1 fun q s2 => ∃ k n ds, q = .dat (.int k) ∧ s2.sl[j]? = some (some (.own ds)) ∧ ixN ds.length k = some n ∧ D.nx (s2.put j (.own (ds.set n x)))
/-! ### dicts of one's own -/
@[simp] def keyD : PyData → Option Key
  | .int i => some (.inl i)
  | .str x => some (.inr x)
  | _ => none
def putD (kvs : List (Key × PyData)) (k : Key) (d : PyData) : List (Key × PyData) := if (kvs.any fun kv => decide (kv.1 = k)) = true then kvs.map (fun kv => if kv.1 = k then (kv.1, d) else kv) else kvs ++ [(k, d)]
def mergeD (kvs more : List (Key × PyData)) : List (Key × PyData) := more.foldl (fun acc kv => putD acc kv.1 kv.2) kvs
def getD' (kvs : List (Key × PyData)) (k : Key) : Option PyData := (kvs.find? fun kv => decide (kv.1 = k)).map (·.2)
@[simp] def hDnew : HE := fun s C => C (.dct []) s
@[simp] def hDput (j : Nat) (t ti : HE) : HS := fun D s => t s fun p s1 => ∃ x, p.frz = some x ∧ (∃ kvs, s1.sl[j]? = some (some (.dct kvs))) ∧ ti s1 fun q s2 => ∃ d k kvs, q = .dat d ∧ keyD d = some k ∧ s2.sl[j]? = some (some (.dct kvs)) ∧ kvs.length < 100000 ∧ D.nx (s2.put j (.dct (putD kvs k x)))
def dinW (neg : Bool) : List PV → (PV → Prop) → Prop := fun ps C => match ps with
  | [.dat d, .dct kvs] => ∃ k, keyD d = some k ∧ C (.dat (.bool (if neg then !(getD' kvs k).isSome else (getD' kvs k).isSome)))
  | _ => False
section
variable {K : PySem.W.Frag} {G : Hp}
/-- a dict's entries hold -/
def KVD (K : PySem.W.Frag) (G : Hp) (ws : List (Key × V)) (kvs : List (Key × PyData)) : Prop := ws.map (·.1) = kvs.map (·.1) ∧ DpAll K G (ws.map (·.2)) (kvs.map (·.2))
theorem KVD.nil : KVD K G [] [] := ⟨rfl, .nil⟩
theorem KVD.cons_inv {ws : List (Key × V)} {k : Key} {d : PyData} {kvs : List (Key × PyData)} (h : KVD K G ws ((k, d) :: kvs)) : ∃ v r, ws = (k, v) :: r ∧ Dp K G v d ∧ KVD K G r kvs := by
  obtain ⟨h1, h2⟩ := h
  match ws, h1, h2 with
  | (k', v) :: r, h1, h2 =>
    simp only [List.map_cons, List.cons.injEq] at h1
    obtain ⟨e1, e2⟩ := h1
    subst e1
    cases h2 with
    | cons a b => exact ⟨v, r, rfl, a, e2, b⟩
theorem KVD.cons {v : V} {k : Key} {d : PyData} {r : List (Key × V)} {kvs : List (Key × PyData)} (h : Dp K G v d) (t : KVD K G r kvs) : KVD K G ((k, v) :: r) ((k, d) :: kvs) := ⟨by simp [t.1], .cons h t.2⟩
theorem KVD.any {k : Key} : ∀ {kvs : List (Key × PyData)} {ws : List (Key × V)}, KVD K G ws kvs → (ws.any fun kv => decide (kv.1 = k)) = (kvs.any fun kv => decide (kv.1 = k))
  | [], ws, h => by
    have : ws = [] := by
      have := congrArg List.length h.1
      simpa using this
    subst this; rfl
  | (k', d) :: kvs, ws, h => by
    obtain ⟨v, r, rfl, _, t⟩ := h.cons_inv
    simp [KVD.any t]
theorem KVD.map {k : Key} {v : V} {d : PyData} (hd : Dp K G v d) : ∀ {kvs : List (Key × PyData)} {ws : List (Key × V)}, KVD K G ws kvs → KVD K G (ws.map fun kv => if kv.1 = k then (kv.1, v) else kv) (kvs.map fun kv => if kv.1 = k then (kv.1, d) else kv)
  | [], ws, h => by
    have : ws = [] := by
      have := congrArg List.length h.1
      simpa using this
    subst this; exact .nil
  | (k', d') :: kvs, ws, h => by
    obtain ⟨v', r, rfl, h1, t⟩ := h.cons_inv
    by_cases e : k' = k
    · simp only [List.map_cons, e, if_true]
      exact .cons hd (KVD.map hd t)
    · simp only [List.map_cons, e, if_false]
      exact .cons h1 (KVD.map hd t)
theorem KVD.snoc {k : Key} {v : V} {d : PyData} (hd : Dp K G v d) {kvs : List (Key × PyData)} {ws : List (Key × V)} (h : KVD K G ws kvs) : KVD K G (ws ++ [(k, v)]) (kvs ++ [(k, d)]) := ⟨by simp [h.1], by simp only [List.map_append]; exact h.2.append (.cons hd .nil)⟩
theorem KVD.put {k : Key} {v : V} {d : PyData} (hd : Dp K G v d) {kvs : List (Key × PyData)} {ws : List (Key × V)} (h : KVD K G ws kvs) : KVD K G (putK ws k v) (putD kvs k d) := by
  unfold putK putD
  rw [KVD.any h]
  split
  · exact h.map hd
  · exact h.snoc hd
theorem KVD.merge : ∀ {more : List (Key × PyData)} {mw : List (Key × V)} {kvs : List (Key × PyData)} {ws : List (Key × V)}, KVD K G ws kvs → KVD K G mw more → KVD K G (mergeK ws mw) (mergeD kvs more)
  | [], mw, kvs, ws, h, m => by
    have : mw = [] := by
      have := congrArg List.length m.1
      simpa using this
    subst this; exact h
  | (k, d) :: more, mw, kvs, ws, h, m => by
    obtain ⟨v, r, rfl, h1, t⟩ := m.cons_inv
    exact (show KVD K G (mergeK (putK ws k v) r) (mergeD (putD kvs k d) more) from KVD.merge (h.put h1) t)
theorem KVD.get {k : Key} : ∀ {kvs : List (Key × PyData)} {ws : List (Key × V)}, KVD K G ws kvs → (valV ws k).isSome = (getD' kvs k).isSome ∧ ∀ d, getD' kvs k = some d → ∃ v, valV ws k = some v ∧ Dp K G v d
  | [], ws, h => by
    have : ws = [] := by
      have := congrArg List.length h.1
      simpa using this
    subst this; exact ⟨rfl, fun d z => by cases z⟩
  | (k', d') :: kvs, ws, h => by
    obtain ⟨v', r, rfl, h1, t⟩ := h.cons_inv
    obtain ⟨i1, i2⟩ := KVD.get (k := k) t
    by_cases e : k' = k
    · rw [valV_pos e]
      unfold getD'
      simp only [List.find?_cons, e, decide_true]
      exact ⟨rfl, fun d z => by cases z; exact ⟨v', rfl, h1⟩⟩
    · rw [valV_neg e]
      unfold getD' at i1 i2 ⊢
      simp only [List.find?_cons, e, decide_false]
      exact ⟨i1, i2⟩
theorem key_dp {v : V} {d : PyData} {k : Key} (h : Dp K G v d) (e : keyD d = some k) : v = kV k := by
  cases h with
  | int i => cases e; rfl
  | str x => cases e; rfl
  | _ => cases e
end
section
variable {X : Cx} {f : Fr} {e o a : Expr} {t ti : HE} {x : Str} {apos cpos pos p : Pos}
theorem hp_app {j : Nat} (he : PE X e (lf X.K f t)) (h : ∀ {ta : TA}, PA X [e] ta → PE X a (tBM X.K "list" rAppend (tVar j) ta)) (hs : starEach [e] X.env = (false, eval e X.env) :: starEach [] X.env := by rfl) : PE X a (lf X.K f (hApp j t)) := (h (pa_cons he pa_nil hs)).mono fun σ H Q q => by
  obtain ⟨F, O, G, s, C, R, ⟨⟨ds0, hj⟩, ht⟩, k⟩ := q
  obtain ⟨v, hv, V⟩ := R.sl j _ hj
  obtain ⟨b, ws, rfl, k1, k2, k3, k4, k5⟩ := V
  refine ⟨_, hv, Or.inl ⟨rfl, ws, Or.inl (Or.inl k1)⟩, F, O, G, s, _, R, ht, fun p s1 G1 H1 y c1 e1 R1 V1 => ?_⟩
  obtain ⟨x, ds, hx, hj1, hl, c2⟩ := c1
  obtain ⟨G2, e2, R2, V2⟩ := R1.frz V1 hx
  obtain ⟨v', hv', V'⟩ := R2.sl j _ hj1
  rw [hv] at hv'
  cases hv'
  obtain ⟨b', ws', eb, m1, m2, m3, m4, m5⟩ := V'
  cases eb
  refine ⟨_, ws', y, rfl, rfl, m1, by rw [m5.len]; exact Evl.sz_lt hl, k _ _ _ _ _ c2 (e1.trans e2) ?_ (vrf_dat .non)⟩
  exact R2.poke hj1 rfl hv m1 m2 m3 m4 ⟨_, _, rfl, upd_same, m2, m3, m4, m5.append (.cons V2 .nil)⟩
theorem hp_pop {j : Nat} (h : PE X a (tBM0 X.K "list" rPop (tVar j))) : PE X a (lf X.K f (hPop j)) := h.mono fun σ H Q q => by
  obtain ⟨F, O, G, s, C, R, ⟨ds, d, hj, hd, c⟩, k⟩ := q
  obtain ⟨v, hv, V⟩ := R.sl j _ hj
  obtain ⟨b, ws, rfl, k1, k2, k3, k4, k5⟩ := V
  obtain ⟨y, hy, dy⟩ := k5.at hd
  refine ⟨_, hv, Or.inl ⟨rfl, ws, Or.inl (Or.inl k1)⟩, b, ws, y, rfl, rfl, k1, by rw [k5.len]; exact hy, k _ _ _ _ _ c (Ex.refl G) ?_ (vrf_dat dy)⟩
  refine R.poke hj rfl hv k1 k2 k3 k4 ⟨_, _, rfl, upd_same, k2, k3, k4, ?_⟩
  rw [List.dropLast_eq_take, List.dropLast_eq_take, k5.len]
  exact k5.take _
theorem hs_setL {j : Nat} {st : Stmt} (h : PS X st (tAsg (lf X.K f t) (gSub (tVar j) (lf X.K f ti) rSetL))) : PS X st (lfS X.K f (hSetL j t ti)) := h.mono fun D σ H q => by
  obtain ⟨F, O, G, s, D', R, ht, k⟩ := q
  refine ⟨F, O, G, s, _, R, ht, fun p s1 G1 H1 y c1 e1 R1 V1 => ?_⟩
  obtain ⟨x, hx, ⟨ds0, hj0⟩, c2⟩ := c1
  obtain ⟨G2, e2, R2, V2⟩ := R1.frz V1 hx
  obtain ⟨v, hv, _⟩ := R2.sl j _ hj0
  refine ⟨v, hv, F, O, G2, s1, _, R2, c2, fun q s3 G3 H3 z c3 e3 R3 V3 => ?_⟩
  obtain ⟨i, n, ds, rfl, hj1, hn, c4⟩ := c3
  obtain ⟨v', hv', V'⟩ := R3.sl j _ hj1
  rw [hv] at hv'
  cases hv'
  obtain ⟨b, ws, eb, m1, m2, m3, m4, m5⟩ := V'
  subst eb
  cases vr_int V3.1
  refine ⟨b, ws, i, n, rfl, rfl, m1, by rw [m5.len]; exact hn, k.nx _ _ _ _ ((e1.trans e2).trans e3) ?_ c4⟩
  exact R3.poke hj1 rfl hv m1 m2 m3 m4 ⟨_, _, rfl, upd_same, m2, m3, m4, m5.set (Dp.ex e3 _ V2)⟩
theorem hp_dnew (h : PE X e tDNewK) : PE X e (lf X.K f hDnew) := h.mono fun σ H Q q => by
  obtain ⟨F, O, G, s, C, R, ht, k⟩ := q
  intro p hp
  exact k _ _ _ _ _ ht (Ex.refl G) (R.new hp) (R.ownD hp rfl .nil)
theorem hs_dput {j : Nat} {st : Stmt} (h : PS X st (sDPut (tVar j) (lf X.K f ti) (lf X.K f t))) : PS X st (lfS X.K f (hDput j t ti)) := h.mono fun D σ H q => by
  obtain ⟨F, O, G, s, D', R, ht, k⟩ := q
  refine ⟨F, O, G, s, _, R, ht, fun p s1 G1 H1 y c1 e1 R1 V1 => ?_⟩
  obtain ⟨x, hx, ⟨kv0, hj0⟩, c2⟩ := c1
  obtain ⟨G2, e2, R2, V2⟩ := R1.frz V1 hx
  obtain ⟨v, hv, _⟩ := R2.sl j _ hj0
  refine ⟨v, hv, F, O, G2, s1, _, R2, c2, fun q s3 G3 H3 z c3 e3 R3 V3 => ?_⟩
  obtain ⟨d, kk, kvs, rfl, hk, hj1, hl, c4⟩ := c3
  obtain ⟨v', hv', V'⟩ := R3.sl j _ hj1
  rw [hv] at hv'
  cases hv'
  obtain ⟨b, ws, eb, m1, m2, m3, m4, m5, m6⟩ := V'
  subst eb
  have ez := key_dp (show Dp X.K G3 z d from V3.1) hk
  subst ez
  have lw : ws.length = kvs.length := by simpa using congrArg List.length m5
  refine ⟨b, _, rfl, DPut.k m1 (by rw [lw]; exact Evl.sz_lt hl), k.nx _ _ _ _ ((e1.trans e2).trans e3) ?_ c4⟩
  have kv := KVD.put (k := kk) (Dp.ex e3 _ V2) ⟨m5, m6⟩
  exact R3.poke hj1 rfl hv m1 m2 m3 m4 ⟨_, _, rfl, upd_same, m2, m3, m4, kv.1, kv.2⟩
theorem din_conv {r : Bool} {oa ob : HA → HA} {ta tb : TE} (a2 : ∀ (tr : TA) (r : HA), (∀ σ H Q, lfA X.K f r σ H Q → tr σ H Q) → ∀ σ H Q, lfA X.K f (oa r) σ H Q → tCons ta tr σ H Q) (b2 : ∀ (tr : TA) (r : HA), (∀ σ H Q, lfA X.K f r σ H Q → tr σ H Q) → ∀ σ H Q, lfA X.K f (ob r) σ H Q → tCons tb tr σ H Q) :
    ∀ σ H Q, lf X.K f (hC (dinW r) (oa (ob hNil))) σ H Q → ta σ H fun y H1 => tb σ H1 fun x H2 => ∃ a o, x = V.ref a ∧ DGet H2 a y o ∧ Q (.bl (if r then !o.isSome else o.isSome)) H2 := fun σ H Q q => by
  have op : Op X.K f (fun vs H Q => match vs with | [y, x] => ∃ a o, x = V.ref a ∧ DGet H a y o ∧ Q (.bl (if r then !o.isSome else o.isSome)) H | _ => False) (dinW r) := fun F O G s σ H ps vs C Q R V w k => by
    unfold dinW at w
    split at w
    · obtain ⟨kk, hk, c⟩ := w
      cases V with
      | cons v1 V =>
        cases V with
        | cons v2 V =>
          cases V
          obtain ⟨b, ws, rfl, m1, m2, m3, m4, m5, m6⟩ := v2
          have ez := key_dp (show Dp X.K G _ _ from v1) hk
          subst ez
          refine ⟨b, _, rfl, DGet.k m1, ?_⟩
          rw [(KVD.get (k := kk) ⟨m5, m6⟩).1]
          exact k _ _ _ _ c (Ex.refl G) R (vrf_dat (.bl _))
    · exact w.elim
  have z := a2 (tCons tb tNil) (ob hNil) (fun σ H Q => b2 tNil hNil (fun σ H Q q => by
    obtain ⟨F, O, G, s, C, R, ht, k⟩ := q
    exact k _ _ _ _ _ ht (Ex.refl G) R .nil) σ H Q) σ H _ (op.lift _ σ H Q q)
  exact z
theorem hp_din {oa ob : HA → HA} (hu : X.A.units + 1 < cLine) (A : Opd X f a oa) (B : Opd X f o ob) (h1 : behindInMarks .In o = false := by first | exact nobehind _ (by decide) (by decide) | rfl) : PE X (.Compare a [.In] [o] pos) (lf X.K f (hC (dinW false) (oa (ob hNil)))) := by
  obtain ⟨ta, a1, a2⟩ := A.ex
  obtain ⟨tb, b1, b2⟩ := B.ex
  exact (pe_cmp (pc_din hu a1 b1) h1).mono (din_conv (r := false) a2 b2)
theorem hp_dnin {oa ob : HA → HA} (hu : X.A.units + 1 < cLine) (A : Opd X f a oa) (B : Opd X f o ob) (h1 : behindInMarks .NotIn o = false := by first | exact nobehind _ (by decide) (by decide) | rfl) : PE X (.Compare a [.NotIn] [o] pos) (lf X.K f (hC (dinW true) (oa (ob hNil)))) := by
  obtain ⟨ta, a1, a2⟩ := A.ex
  obtain ⟨tb, b1, b2⟩ := B.ex
  exact (pe_cmp (pc_dnotin hu a1 b1) h1).mono (din_conv (r := true) a2 b2)
theorem ht_din {oa ob : HA → HA} (hu : X.A.units + 1 < cLine) (A : Opd X f a oa) (B : Opd X f o ob) (h1 : behindInMarks .In o = false := by first | exact nobehind _ (by decide) (by decide) | rfl) : PT X (.Compare a [.In] [o] pos) (lfT X.K f (hB (hC (dinW false) (oa (ob hNil))))) := by
  obtain ⟨ta, a1, a2⟩ := A.ex
  obtain ⟨tb, b1, b2⟩ := B.ex
  exact (pt_cmp (pc_din hu a1 b1) h1).mono fun σ H Q q => din_conv (r := false) a2 b2 _ _ _ (lfT_B _ _ _ q)
theorem ht_dnin {oa ob : HA → HA} (hu : X.A.units + 1 < cLine) (A : Opd X f a oa) (B : Opd X f o ob) (h1 : behindInMarks .NotIn o = false := by first | exact nobehind _ (by decide) (by decide) | rfl) : PT X (.Compare a [.NotIn] [o] pos) (lfT X.K f (hB (hC (dinW true) (oa (ob hNil))))) := by
  obtain ⟨ta, a1, a2⟩ := A.ex
  obtain ⟨tb, b1, b2⟩ := B.ex
  exact (pt_cmp (pc_dnotin hu a1 b1) h1).mono fun σ H Q q => din_conv (r := true) a2 b2 _ _ _ (lfT_B _ _ _ q)
end
end Sk
set_option Elab.async false
set_option linter.all false
set_option maxRecDepth 100000
set_option maxHeartbeats 2000000
namespace Sk
open PySem PySem.Spec PyProof.Rows L2
open PySem.W (Datum DatumOrd Tup T3 T4)
open Evl (Ex)
/-! ### sep.join(texts) -/
def joinW (a : Str) : List PV → (PV → Prop) → Prop := fun ps C => match ps with
  | [p] => ∃ ys : List Str, p.seq = some (ys.map .str) ∧ (ys.map (·.length)).sum + ys.length * a.length ≤ 16777216 ∧ C (.dat (.str (Txt.join a ys)))
  | _ => False
/-! ### sorted(a dict) -/
def sortDW (α : Type) [DecidableEq α] [DatumOrd α] [FK α] : List PV → (PV → Prop) → Prop := fun ps C => match ps with
  | [.dct kvs] => ∃ xs : List α, kvs.map (·.1) = xs.map FK.key ∧ C (.own ((sortU xs).map Datum.toD))
  | _ => False
/-! ### dict(pairs), d.update(dict) -/
def pairsD : List PyData → Option (List (Key × PyData))
  | [] => some []
  | .tuple [d, e] :: r => match keyD d, pairsD r with
    | some k, some t => some ((k, e) :: t)
    | _, _ => none
  | _ => none
def dictW : List PV → (PV → Prop) → Prop := fun ps C => match ps with
  | [p] => ∃ ds kvs, p.lst = some ds ∧ pairsD ds = some kvs ∧ C (.dct (mergeD [] kvs))
  | _ => False
@[simp] def hUpd (j : Nat) (t : HE) : HE := fun s C => (∃ kvs, s.sl[j]? = some (some (.dct kvs))) ∧ t s fun p s1 => ∃ more kvs, p = .dct more ∧ s1.sl[j]? = some (some (.dct kvs)) ∧ kvs.length + more.length ≤ 100000 ∧ C (.dat .none) (s1.put j (.dct (mergeD kvs more)))
def rUpd : V → List V → Hp → VK → Prop := fun x xs H Q => ∃ a b kvs more, x = .ref a ∧ xs = [.ref b] ∧ H a = some (.dK kvs) ∧ H b = some (.dK more) ∧ a ≠ b ∧ kvs.length + more.length ≤ sizeLine ∧ Q .non (upd H a (.dK (mergeK kvs more)))
section
variable {X : Cx} {f : Fr}
theorem op_joinW {a : Str} : Op X.K f (op1 fun x H Q => ∃ b p, ∃ ys : List Str, V.str a = .str b ∧ [x] = [V.ref p] ∧ (SqL X.K H p (ys.map V.str) ∨ SqT X.K H p (ys.map V.str)) ∧ (ys.map (·.length)).sum + ys.length * b.length ≤ 16777216 ∧ Q (.str (Txt.join b ys)) H) (joinW a) := fun F O G s σ H ps vs C Q R V w k => by
  unfold joinW at w
  split at w
  · cases V with
    | cons v2 V =>
      cases V
      obtain ⟨ys, h1, h2, h3⟩ := w
      obtain ⟨b, ws, rfl, hs, ha⟩ := v2.sq R.gh h1
      have e : ws = ys.map V.str := strs_dpAll ha
      subst e
      exact ⟨_, b, ys, rfl, rfl, hs, h2, k _ _ _ _ h3 (Ex.refl G) R (vrf_dat (.str _))⟩
  · exact w.elim
theorem hp_join {o e : Expr} {a : Str} {ob : HA → HA} {apos pos : Pos} (A : PE X o (tC (.str a))) (B : Opd X f e ob) (hs : starEach [e] X.env = [(false, eval e X.env)] := by rfl) (hbase : attributeBase o "join" X.env (eval o X.env) = eval o X.env := by rfl) (hline : (apos.endLine == pos.line) = true := by rfl) :
    PE X (.Call (.Attribute o "join" apos) [e] [] pos) (lf X.K f (hC (joinW a) (ob hNil))) := by
  obtain ⟨tb, b1, b2⟩ := B.ex
  refine (pe_m1 PySem.F.slot_str_join PySem.F.type_str_join mt_join A b1 hs hbase hline).mono fun σ H Q q => ?_
  have z := b2 tNil hNil (fun σ H Q q => by
    obtain ⟨F, O, G, s, C, R, ht, k⟩ := q
    exact k _ _ _ _ _ ht (Ex.refl G) R .nil) σ H _ ((op_joinW (X := X) (f := f) (a := a)).lift _ σ H Q q)
  exact ⟨⟨a, rfl⟩, z⟩
/-- d.update(e) -/
theorem mt_update : MtR X "dict.update" rUpd := by
  intro pins s σ H x vs v us Q I rx rv h
  obtain ⟨a, b, kvs, more, rfl, rfl, ha, hb, hne, hz, q⟩ := h
  cases (show v = Value.ref a from rx)
  obtain ⟨u, rfl, ru⟩ := vals1 rv
  cases (show u = Value.ref b from ru)
  obtain ⟨z1, y1, xs, r1, d1⟩ := dk_of I.hok ha
  obtain ⟨z2, y2, ys, r2, d2⟩ := dk_of I.hok hb
  have l1 : kvs.length = xs.length := Paired.length r1
  have l2 : more.length = ys.length := Paired.length r2
  refine call_meetsIn PySem.F.slot_dict_update d1.typeIs PySem.F.entry_dict_update (PySem.F.args_dict_update_2 _ _)
    (meets_dict_update (mixKind X.prog X.w) a b hne y2) ⟨xs, ys, d1, d2, by omega, fun h' e1 e2 sb => ?_⟩
  have rel : KV (mergeK kvs more) (merged xs ys) := KV.merge r2 r1
  have big : (mergeK kvs more).length ≤ sizeLine := by
    have := length_mergeK more kvs
    omega
  obtain ⟨ob, _, _, hob, _⟩ := id e1
  exact ⟨.non, _, d_write (t' := s.toks) I (by rw [ha]; exact True.intro) sb ⟨ob, hob⟩ (dk_new big y1 rel e1), rfl, q⟩
theorem hp_upd {j : Nat} {a e : Expr} {t : HE} (h : ∀ {ta : TA}, PA X [e] ta → PE X a (tBM X.K "dict" rUpd (tVar j) ta)) (he : PE X e (lf X.K f t)) (hs : starEach [e] X.env = (false, eval e X.env) :: starEach [] X.env := by rfl) : PE X a (lf X.K f (hUpd j t)) := (h (pa_cons he pa_nil hs)).mono fun σ H Q q => by
  obtain ⟨F, O, G, s, C, R, ⟨⟨kv0, hj⟩, ht⟩, k⟩ := q
  obtain ⟨v, hv, V⟩ := R.sl j _ hj
  obtain ⟨b, ws, rfl, k1, k2, k3, k4, k5, k6⟩ := V
  refine ⟨_, hv, ?_, F, O, G, s, _, R, ht, fun p s1 G1 H1 y c1 e1 R1 V1 => ?_⟩
  · exact Or.inr (Or.inr (Or.inl ⟨rfl, Or.inl ⟨ws, k1⟩⟩))
  obtain ⟨more, kvs, rfl, hj1, hl, c2⟩ := c1
  obtain ⟨v', hv', V'⟩ := R1.sl j _ hj1
  rw [hv] at hv'
  cases hv'
  obtain ⟨b', ws', eb, m1, m2, m3, m4, m5, m6⟩ := V'
  cases eb
  obtain ⟨⟨c, us, rfl, n1, n2, n3, n4, n5, n6⟩, nf⟩ := V1
  have ne : b ≠ c := fun z => nf rfl j _ hj1 rfl (by rw [hv, z])
  have la : ws'.length = kvs.length := by simpa using congrArg List.length m5
  have lb : us.length = more.length := by simpa using congrArg List.length n5
  refine ⟨b, c, ws', us, rfl, rfl, m1, n1, ne, by rw [la, lb]; exact Evl.sz_of hl, k _ _ _ _ _ c2 e1 ?_ (vrf_dat .non)⟩
  have kv := KVD.merge ⟨m5, m6⟩ ⟨n5, n6⟩
  exact R1.poke hj1 rfl hv m1 m2 m3 m4 ⟨_, _, rfl, upd_same, m2, m3, m4, kv.1, kv.2⟩
/-- dict(pairs) -/
theorem pairs_dp {G : Hp} {K : PySem.W.Frag} : ∀ {ds : List PyData} {kvs : List (Key × PyData)} {vs : List V}, pairsD ds = some kvs → DpAll K G vs ds → ∃ (ps : List Addr) (ws : List (Key × V)), vs = ps.map V.ref ∧ Paired (fun p kv => SqT K G p [kV kv.1, kv.2]) ps ws ∧ KVD K G ws kvs
  | [], _, _, h, a => by cases h; cases a; exact ⟨[], [], rfl, .nil, .nil⟩
  | .tuple [d, e] :: r, kvs, vs, h, a => by
    rw [pairsD] at h
    split at h
    · rename_i k t hk ht
      cases h
      cases a with
      | cons a1 a2 =>
        obtain ⟨ps, ws, rfl, h1, h2⟩ := pairs_dp ht a2
        cases a1 with
        | tup hs ha =>
          cases ha with
          | cons d1 ha =>
            cases ha with
            | cons d2 ha =>
              cases ha
              have := key_dp d1 hk
              subst this
              exact ⟨_ :: ps, (k, _) :: ws, rfl, .cons hs h1, .cons d2 h2⟩
    · cases h
theorem op_dictW : Op X.K f (fun xs H Q => ∃ (a : Addr) (ps : List Addr) (kvs : List (Key × V)), xs = [.ref a] ∧ SqL X.K H a (ps.map V.ref) ∧ Paired (fun p kv => SqT X.K H p [kV kv.1, kv.2]) ps kvs ∧ ∀ p, H p = none → Q (.ref p) (upd H p (.dK (mergeK [] kvs)))) dictW := fun F O G s σ H ps vs C Q R V w k => by
  unfold dictW at w
  split at w
  · cases V with
    | cons v1 V =>
      cases V
      obtain ⟨ds, kvs, h1, h2, h3⟩ := w
      obtain ⟨a, ws, rfl, hs, ha⟩ := v1.sl R.gh h1
      obtain ⟨ps, us, rfl, p1, p2⟩ := pairs_dp h2 ha
      have p3 : Paired (fun p kv => SqT X.K H p [kV kv.1, kv.2]) ps us := by
        clear p2 ha hs
        induction p1 with
        | nil => exact .nil
        | cons h _ ih => exact .cons (Evl.ex_t R.gh h) ih
      have kv := KVD.merge (K := X.K) (G := G) .nil p2
      exact ⟨a, ps, us, rfl, hs, p3, fun p hp => k _ _ _ _ h3 (Ex.refl G) (R.new hp) (R.ownD hp kv.1 kv.2)⟩
  · exact w.elim
/-- sorted of a dict with keys of one kind -/
def rSortD (α : Type) [DecidableEq α] [DatumOrd α] [FK α] (K : PySem.W.Frag) : List V → Hp → VK → Prop := fun vs H Q => ∃ (a : Addr) (kvs : List (Key × V)) (xs : List α), vs = [.ref a] ∧ H a = some (.dK kvs) ∧ kvs.map (·.1) = xs.map FK.key ∧ ∀ p, H p = none → Q (.ref p) (upd H p (.lst ((sortU xs).map fun x => kV (FK.key x))))
/-- what is known of a kind of keys that sorted takes -/
class SK (α : Type) [DecidableEq α] [DatumOrd α] [FK α] [OrdL α] : Prop where
  run : ∀ (P : Program) (w : World) (h : Heap), ∃ (good : Value → Prop) (S : SrtK P w h good), (∀ (k : α) v, keyIs (FK.key k) v = true → good v) ∧
    ∀ (ms : List α) (us : List Value), Paired (fun k v => keyIs k v = true) (ms.map FK.key) us → us.Pairwise (Upto S.κ) → (ms.map FK.key).Nodup → Rising ms
instance : SK Int where
  run := fun P w h => ⟨_, srtI P w h, (fun k v hv => by
    rcases keyIs_shape hv with ⟨i, u, e, rfl⟩ | ⟨i, u, e, rfl⟩ <;> first | exact ⟨i, u, rfl⟩ | cases e), fun ms us h1 h2 h3 => List.Pairwise.imp (fun {a b} (z : a < b) => decide_eq_true z) (lt_of_upto h1 h2 h3)⟩
instance : SK Str where
  run := fun P w h => ⟨_, srtS P w h, (fun k v hv => by
    rcases keyIs_shape hv with ⟨i, u, e, rfl⟩ | ⟨i, u, e, rfl⟩ <;> first | exact ⟨i, u, rfl⟩ | cases e), fun ms us h1 h2 h3 => List.Pairwise.imp (fun {a b} (z : a.cps.toList < b.cps.toList) => (show decide (a.cps.toList < b.cps.toList) = true from decide_eq_true z)) (slt_of_upto h1 h2 h3)⟩
theorem cr_sortD {α : Type} [DecidableEq α] [DatumOrd α] [FK α] [OrdL α] [SK α] (hc : X.calm = true) : CallR X (.builtin "sorted") (rSortD α X.K) := by
  intro pins s σ H vs us Q I r h
  obtain ⟨a, kvs, xs, rfl, ha, hk, q⟩ := h
  obtain ⟨u, rfl, ru⟩ := vals1 r
  cases (show u = Value.ref a from ru)
  obtain ⟨z, lo, ws, rel, dd⟩ := dk_of I.hok ha
  obtain ⟨ep, hat⟩ := dd.dictAt
  have keys : ws.map (·.1) = xs.map FK.key := rel.keys.symm.trans hk
  have lw : ws.length = xs.length := by simpa using congrArg List.length keys
  have lk : kvs.length = xs.length := by simpa using congrArg List.length hk
  have nd : (xs.map FK.key).Nodup := by
    obtain ⟨_, _, _, _, _, _, _, _, n⟩ := id dd
    rw [← keys]; exact n
  refine sorted_by fun {R'} hR => ?_
  refine PySem.W.kdu_collect (A := X.A.in1) (PySem.W.kdl_dict (knd := mixKind X.prog X.w) (kvs := ws) (ep := ep) lo) (I.ok.hd hc) hat (by omega) fun h' tk acc hkeep hacc => ?_
  obtain ⟨good, S, g1, g2⟩ := SK.run (α := α) X.prog X.w h'
  have pr : Paired (fun k v => keyIs k v = true) (xs.map FK.key) acc.toList := by
    rw [← keys]
    have gen : ∀ (qs : List (Key × Value)) (us : List Value), us.length = qs.length → (∀ (j : Nat) (v : Value), us[j]? = some v → ∃ k x, qs[j]? = some (k, x) ∧ keyIs k v = true) → Paired (fun k v => keyIs k v = true) (qs.map (·.1)) us := by
      intro qs
      induction qs with
      | nil => intro us hl _; have : us = [] := List.length_eq_zero_iff.mp hl; subst this; exact .nil
      | cons q qs ih =>
        intro us hl hg
        match us, hl, hg with
        | u :: us, hl, hg =>
          obtain ⟨k, x, e1, e2⟩ := hg 0 u rfl
          have e1' : q = (k, x) := Option.some.inj e1
          subst e1'
          exact .cons e2 (ih us (by simpa using hl) fun j v e => by
            obtain ⟨k, x, a, b⟩ := hg (j + 1) v (by simpa using e)
            exact ⟨k, x, by simpa using a, b⟩)
    exact gen ws acc.toList (by rw [Array.length_toList, hacc.1]) fun j v e => hacc.2 j v (by rw [← Array.getElem?_toList]; exact e)
  have la : acc.toList.length = xs.length := by rw [Array.length_toList, hacc.1, lw]
  refine hR { s with heap := h', toks := tk } acc.toList good S (fun v hv => ?_) (by omega) fun out c h2 k2 hget pm pw => ?_
  · obtain ⟨i, hi⟩ := List.getElem?_of_mem hv
    obtain ⟨k, hkm, hkk⟩ := paired_at pr hi
    rw [List.getElem?_map] at hkm
    obtain ⟨x, _, rfl⟩ := Option.map_eq_some_iff.mp hkm
    exact g1 x v hkk
  · obtain ⟨L2, p2, h3⟩ := paired_perm pm pr
    have form : ∀ L' : List Key, (∀ q ∈ L', ∃ x : α, q = FK.key x) → ∃ ms : List α, L' = ms.map FK.key := by
      intro L'
      induction L' with
      | nil => intro _; exact ⟨[], rfl⟩
      | cons q r ih =>
        intro hq
        obtain ⟨x, rfl⟩ := hq q List.mem_cons_self
        obtain ⟨ms, rfl⟩ := ih fun j hj => hq j (List.mem_cons_of_mem _ hj)
        exact ⟨x :: ms, rfl⟩
    obtain ⟨ms, rfl⟩ := form L2 fun q hq => by
      obtain ⟨x, _, e⟩ := List.mem_map.mp (p2.mem_iff.mp hq)
      exact ⟨x, e.symm⟩
    have nd2 := p2.nodup_iff.mpr nd
    have rs := g2 ms out.toList h3 pw nd2
    have mem : ∀ m, m ∈ ms ↔ m ∈ xs := fun m => by
      have z := p2.mem_iff (a := FK.key m)
      constructor
      · intro hm
        obtain ⟨x, hx, e⟩ := List.mem_map.mp (z.mp (List.mem_map.mpr ⟨m, hm, rfl⟩))
        rw [← FK.inj _ _ e]; exact hx
      · intro hm
        obtain ⟨x, hx, e⟩ := List.mem_map.mp (z.mpr (List.mem_map.mpr ⟨m, hm, rfl⟩))
        rw [← FK.inj _ _ e]; exact hx
    have e := sortU_eq rs mem
    subst e
    have vv : Vals ((sortU xs).map fun x => kV (FK.key x)) out.toList := by
      have z := vals_of_keys h3
      rwa [List.map_map] at z
    have lo2 : ((sortU xs).map fun x => kV (FK.key x)).length ≤ sizeLine := by
      have := sortU_len xs
      simp only [List.length_map]
      omega
    have I1 : Inv X pins σ H { s with heap := h', toks := tk } := I.kept hkeep
    exact sorted_back I1 k2 rfl rfl (Nat.le_refl _) hget vv lo2 fun hn => q _ hn
theorem op_sortDW {α : Type} [DecidableEq α] [DatumOrd α] [FK α] : Op X.K f (rSortD α X.K) (sortDW α) := fun F O G s σ H ps vs C Q R V w k => by
  unfold sortDW at w
  split at w
  · cases V with
    | cons v1 V =>
      cases V
      obtain ⟨xs, h1, h2⟩ := w
      obtain ⟨a, ws, rfl, m1, m2, m3, m4, m5, m6⟩ := v1
      refine ⟨a, ws, xs, rfl, m1, m5.trans h1, fun p hp => k _ _ _ _ h2 (Ex.refl G) (R.new hp) (R.own hp ?_)⟩
      generalize sortU xs = ys
      induction ys with
      | nil => exact .nil
      | cons y ys ih => exact .cons (FK.ofV _ _ _) ih
  · exact w.elim
end
end Sk
set_option Elab.async false
set_option linter.all false
set_option maxRecDepth 100000
set_option maxHeartbeats 2000000
namespace Sk
open PySem PySem.Spec PyProof.Rows L2
open PySem.W (Datum DatumOrd Tup T3 T4)
open Evl (Ex)
def rEqP (K : PySem.W.Frag) (neg : Bool) : R2 := fun x y H Q => ∃ d e, Dp K H x d ∧ Dp K H y e ∧ d.plain = true ∧ e.plain = true ∧ min d.depth e.depth ≤ 60 ∧ Q (.bl (if neg then !PyData.eqv d e else PyData.eqv d e)) H
def rInP (K : PySem.W.Frag) (neg : Bool) : R2 := fun x y H Q => ∃ d ds, Dp K H x d ∧ (Dp K H y (.list ds) ∨ Dp K H y (.tuple ds)) ∧ d.plain = true ∧ PyData.plainAll ds = true ∧ min (PyData.depthAll ds) d.depth ≤ 60 ∧ Q (.bl (if neg then !ds.any fun z => PyData.eqv z d else ds.any fun z => PyData.eqv z d)) H
def eqP (neg : Bool) : List PV → (PV → Prop) → Prop := fun ps C => match ps with
  | [p, q] => ∃ d e, p.frz = some d ∧ q.frz = some e ∧ d.plain = true ∧ e.plain = true ∧ min d.depth e.depth ≤ 60 ∧ C (.dat (.bool (if neg then !PyData.eqv d e else PyData.eqv d e)))
  | _ => False
def inP (neg : Bool) : List PV → (PV → Prop) → Prop := fun ps C => match ps with
  | [p, q] => ∃ d ds, p.frz = some d ∧ q.seq = some ds ∧ d.plain = true ∧ PyData.plainAll ds = true ∧ min (PyData.depthAll ds) d.depth ≤ 60 ∧ C (.dat (.bool (if neg then !ds.any fun z => PyData.eqv z d else ds.any fun z => PyData.eqv z d)))
  | _ => False
section
variable {X : Cx} {f : Fr}
theorem op_eqP (hu : X.A.units + 64 < cLine) : OpR X (compareOp .Eq) (rEqP X.K false) := by
  intro pins s σ H x y v u Q I rx ry h
  obtain ⟨d, e, hd, he, sd, se, hm, q⟩ := h
  obtain ⟨as, r1⟩ := Dp.reads I d x v hd rx
  obtain ⟨bs, r2⟩ := Dp.reads I e y u he ry
  exact SeqAt.eq_plain r1 r2 sd se (by omega) ⟨.bl _, H, I, rfl, q⟩
theorem op_neP (hu : X.A.units + 64 < cLine) : OpR X (compareOp .NotEq) (rEqP X.K true) := by
  intro pins s σ H x y v u Q I rx ry h
  obtain ⟨d, e, hd, he, sd, se, hm, q⟩ := h
  obtain ⟨as, r1⟩ := Dp.reads I d x v hd rx
  obtain ⟨bs, r2⟩ := Dp.reads I e y u he ry
  exact SeqAt.ne_plain r1 r2 sd se (by omega) ⟨.bl _, H, I, rfl, q⟩
theorem op_inP (hu : X.A.units + 64 < cLine) : OpR X (compareOp .In) (rInP X.K false) := by
  intro pins s σ H x y v u Q I rx ry h
  obtain ⟨d, ds, hd, he, sd, se, hm, q⟩ := h
  obtain ⟨as, r1⟩ := Dp.reads I d x v hd rx
  rcases he with he | he
  · obtain ⟨bs, r2⟩ := Dp.reads I _ y u he ry
    exact SeqAt.in_list_data r2 r1 se sd (by omega) ⟨.bl _, H, I, rfl, q⟩
  · obtain ⟨bs, r2⟩ := Dp.reads I _ y u he ry
    exact SeqAt.in_tuple_data r2 r1 se sd (by omega) ⟨.bl _, H, I, rfl, q⟩
theorem op_ninP (hu : X.A.units + 64 < cLine) : OpR X (compareOp .NotIn) (rInP X.K true) := by
  intro pins s σ H x y v u Q I rx ry h
  obtain ⟨d, ds, hd, he, sd, se, hm, q⟩ := h
  obtain ⟨as, r1⟩ := Dp.reads I d x v hd rx
  rcases he with he | he
  · obtain ⟨bs, r2⟩ := Dp.reads I _ y u he ry
    exact SeqAt.notIn_list_data r2 r1 se sd (by omega) ⟨.bl _, H, I, rfl, q⟩
  · obtain ⟨bs, r2⟩ := Dp.reads I _ y u he ry
    exact SeqAt.notIn_tuple_data r2 r1 se sd (by omega) ⟨.bl _, H, I, rfl, q⟩
theorem op_eqPW {neg : Bool} : Op X.K f (op2 (rEqP X.K neg)) (eqP neg) := fun F O G s σ H ps vs C Q R V w k => by
  unfold eqP at w
  split at w
  · obtain ⟨d, e, h1, h2, h3, h4, h6, h5⟩ := w
    cases V with
    | cons v1 V =>
      cases V with
      | cons v2 V =>
        cases V
        exact ⟨d, e, v1.dp R.gh h1, v2.dp R.gh h2, h3, h4, h6, k _ _ _ _ h5 (Ex.refl G) R (vrf_dat (.bl _))⟩
  · exact w.elim
theorem op_inPW {neg : Bool} : Op X.K f (op2 (rInP X.K neg)) (inP neg) := fun F O G s σ H ps vs C Q R V w k => by
  unfold inP at w
  split at w
  · rename_i p q
    obtain ⟨d, ds, h1, h2, h3, h4, h6, h5⟩ := w
    cases V with
    | cons v1 V =>
      cases V with
      | cons v2 V =>
        cases V
        refine ⟨d, ds, v1.dp R.gh h1, ?_, h3, h4, h6, k _ _ _ _ h5 (Ex.refl G) R (vrf_dat (.bl _))⟩
        cases q with
        | own es => cases h2; exact Or.inl (v2.dp R.gh rfl)
        | dat e =>
          cases e with
          | list es => cases h2; exact Or.inl (v2.dp R.gh rfl)
          | tuple es => cases h2; exact Or.inr (v2.dp R.gh rfl)
          | _ => cases h2
        | _ => cases h2
  · exact w.elim
theorem plainAll_D {α : Type} [DecidableEq α] [Datum α] : ∀ xs : List α, PyData.plainAll (xs.map Datum.toD) = true
  | [] => rfl
  | x :: xs => by rw [List.map_cons, PyData.plainAll, Datum.plain, plainAll_D xs]; rfl
theorem any_D {α : Type} [DecidableEq α] [Datum α] (a : α) : ∀ xs : List α, ((xs.map Datum.toD).any fun z => PyData.eqv z (Datum.toD a)) = decide (a ∈ xs)
  | [] => by simp
  | x :: xs => by
    rw [List.map_cons, List.any_cons, Datum.eqv, any_D a xs, ← Bool.decide_or]
    exact decide_eq_decide.mpr ⟨fun h => h.elim (fun z => by rw [z]; exact List.mem_cons_self) (List.mem_cons_of_mem _), fun h => by
      rcases List.mem_cons.mp h with h | h
      · exact Or.inl h.symm
      · exact Or.inr h⟩
theorem depthAll_D {α : Type} [DecidableEq α] [Datum α] : ∀ xs : List α, PyData.depthAll (xs.map Datum.toD) ≤ Datum.depth α
  | [] => Nat.zero_le _
  | x :: xs => by rw [List.map_cons, PyData.depthAll]; exact Nat.max_le.mpr ⟨Datum.depth_le x, depthAll_D xs⟩
end
/-! ### the drawing -/
theorem Rel.drawn {K : PySem.W.Frag} {f : Fr} {G H H' : Hp} {s : Sg} {σ : L2.St} {n' : Nat} (R : Rel K f G s σ H) (on : f.on = true) (hM : ∀ a, f.M a → a = f.m ∨ a = f.l) (d : DrwOk f.m f.l f.c n' H') (k : ∀ a o, a ≠ f.m → a ≠ f.l → H a = some o → H' a = some o) : Rel K f G ⟨[], n'⟩ [] H' := by
  obtain ⟨o1, o2, o3, m1, m2⟩ := R.mo on
  have h1 : H' f.m ≠ none := by obtain ⟨_, _, _, _, h, _⟩ := d; rw [h]; intro z; cases z
  have h2 : H' f.l ≠ none := by obtain ⟨_, _, _, _, _, _, _, _, _, _, h, _⟩ := d; rw [h]; intro z; cases z
  have some : ∀ a, H a ≠ none → H' a ≠ none := fun a h => by
    by_cases e1 : a = f.m
    · rw [e1]; exact h1
    by_cases e2 : a = f.l
    · rw [e2]; exact h2
    cases q : H a with
    | none => exact absurd q h
    | some u => rw [k a u e1 e2 q]; intro z; cases z
  exact {
    gh := fun a o h => k a o (fun z => by rw [z, R.go _ o1] at h; cases h) (fun z => by rw [z, R.go _ o2] at h; cases h) (R.gh _ _ h)
    fh := fun a o m h => k a o (fun z => m (by rw [z]; exact m1)) (fun z => m (by rw [z]; exact m2)) (R.fh a o m h)
    go := R.go
    oh := fun a h => some a (R.oh a h)
    mh := fun a h => some a (R.mh a h)
    mo := R.mo
    dr := fun _ => d
    ln := rfl
    sl := fun i p h => by simp at h
    ds := fun i j p q v _ h => by simp at h }
/-- mixed(c, k): some number -/
def spMixed : HSp := fun ps n C => ∃ c k : Int, ps = [.dat (.int c), .dat (.int k)] ∧ 0 ≤ c ∧ c < 4294967296 ∧ 0 ≤ k ∧ k < 536870912 ∧ ∀ i : Int, 0 ≤ i → i < 2147483647 → C (.dat (.int i)) n
/-- draw(m, many): some number below many -/
def spDraw : HSp := fun ps n C => ∃ k : Int, ps = [.drw, .dat (.int k)] ∧ 0 < k ∧ k ≤ 1000000 ∧ n < 268435456 ∧ ∀ i : Int, 0 ≤ i → i < k → C (.dat (.int i)) (n + 1)
end Sk
set_option Elab.async false
set_option linter.all false
set_option maxRecDepth 100000
set_option maxHeartbeats 2000000
namespace Sk
open PySem PySem.Spec PyProof.Rows L2
open PySem.W (Datum DatumOrd Tup T3 T4)
open Evl (Ex)
/-- a def of the law's top that keeps its promise -/
structure Has (P : Program) (w : World) (K : PySem.W.Frag) (mg : Str → Option Value) (base : Heap) (k : Nat) (x : Str) (n : Nat) (sp : HSp) : Prop where
  ex : ∃ fa fd ps, ps.length = n ∧ GnOk P w K mg base CX0 k fa fd ps (SpH K n sp) ∧ mg x = some (.ref fa) ∧ PySem.W.keepIn K (.ref fa) = true ∧ Binds K fd ps []
/-- a constant of the top -/
structure Cst (K : PySem.W.Frag) (mg : Str → Option Value) (x : Str) (d : PyData) : Prop where
  ex : ∃ v u, mg x = some u ∧ RelV v u ∧ ∀ G, Dp K G v d
theorem u64 {k : Nat} {A : Around} (r : Room k A) : A.units + 64 < cLine := by have := r.un; omega
theorem u1 {k : Nat} {A : Around} (r : Room k A) : A.units + 1 < cLine := by have := r.un; omega
theorem u150 {k : Nat} {A : Around} (r : Room k A) : A.units + 150 < cLine := by have := r.un; omega
theorem uD {k n : Nat} {A : Around} (r : Room k A) (h : n ≤ 60) : A.units + n < cLine := by have := r.un; omega
section
variable {X : Cx} {e a o : Expr} {es : List Expr} {ta : HA} {sp : HSp} {x : Str} {p pos : Pos} {k n : Nat} {d : PyData}
theorem hp_callH (h : Has X.prog X.w X.K X.mg X.base k x n sp) (hgd : X.A.guards = some []) (hr : Room k X.A) (hg : Gl X x) (ha : PA X (e :: es) (lfA X.K f0 ta))
    (hdb : (x == ("__debug__" : Str)) = false := by decide) (he : starEach (e :: es) X.env = (false, eval e X.env) :: starEach es X.env := by rfl) (hpl : (backTo pos (starEach es X.env)).any (·.1) = false := by rfl) : PE X (.Call (.Name x p) (e :: es) [] pos) (lf X.K f0 (hCall sp n ta)) := by
  obtain ⟨fa, fd, ps, _, G, hm, kp, b⟩ := h.ex
  exact hp_call (E := E0) (fun z => pe_callG G hgd hr hg hm kp b pass0 z hdb he hpl) ha
theorem hp_c (h : Cst X.K X.mg x d) (hg : Gl X x) (hdb : (x == ("__debug__" : Str)) = false := by decide) : PE X (.Name x pos) (lf X.K f0 (hK d)) := by
  obtain ⟨v, u, hm, r, hd⟩ := h.ex
  exact hp_k (pe_glob hg hm r hdb) hd
end
/-- a written number below nought -/
theorem hp_neg {X : Cx} {a : Expr} {i : Int} {pos : Pos} (h : PE X a (tC (.int i))) : PE X (.UnaryOp .USub a pos) (lf X.K f0 (hK (.int (-i)))) := (pe_un un_neg h).mono fun σ H Q q => by
  obtain ⟨F, O, G, s, C, R, ht, k⟩ := q
  exact ⟨i, rfl, k _ _ _ _ _ ht (Ex.refl G) R (vrf_dat (.int _))⟩
/-- {k: v}, both written -/
@[simp] def hD1 (k : Key) (d : PyData) : HE := fun s C => C (.dct [(k, d)]) s
theorem hp_d1 {X : Cx} {a b : Expr} {k : Key} {v : V} {d : PyData} {pos : Pos} (ha : PE X a (tC (kV k))) (hb : PE X b (tC v)) (hv : ∀ G, Dp X.K G v d) : PE X (.Dict [some a] [b] pos) (lf X.K f0 (hD1 k d)) := (pe_disp (pps_cons ha hb pps_nil) (by rfl) (by rfl) (fun z => by cases z) (by show 1 ≤ 15; omega)).mono fun σ H Q q => by
  obtain ⟨F, O, G, s, C, R, ht, kk⟩ := q
  intro p hp
  refine ⟨upd_same, [(k, v)], rfl, (by show 1 ≤ 15; omega), ?_⟩
  have e : upd (upd H p (.dK [])) p (.dK (mergeK [] [(k, v)])) = upd H p (.dK [(k, v)]) := by
    funext x
    by_cases z : x = p
    · subst z; rw [upd_same, upd_same]; rfl
    · rw [upd_ne z, upd_ne z, upd_ne z]
  rw [e]
  exact kk _ _ _ _ _ ht (Ex.refl G) (R.new hp) (R.ownD hp rfl (.cons (hv G) .nil))
/-- a def by its body, at the law's top -/
theorem Has.mk' {P : Program} {w : World} {K : PySem.W.Frag} {mg : Str → Option Value} {base : Heap} {k : Nat} {fa : Addr} {fd : FuncData} {x : Str} {st : Stmt} {N ps : List Str} {hs : HS} {sp : HSp} (Fn : Fun K x x st fa fd) (hm : mg x = some (.ref fa)) (b : Binds K fd ps []) (S : FnScope N ps (defScope st))
    (body : ∀ (cdv : Value) (A : Around) (outer : List Env) (s : Shared) (H : Hp) (E : XK), (A.deeper (envOfC x (defScope st) s.heap.objs.size fa cdv)).guards = some [] → Room k (A.deeper (envOfC x (defScope st) s.heap.objs.size fa cdv)) → PSs (cxOf CX0 P w K mg base N x (defScope st) fa cdv A outer s H E).nox (defBody st) (lfS K f0 hs))
    (rd : ∀ pvs n C, pvs.length = ps.length → sp pvs n C → hs ⟨fun s => C (.dat .none) s.n, fun p s => C p s.n, fun _ => False, fun _ => False⟩ ⟨pvs.map some ++ List.replicate (N.length - pvs.length) none, n⟩) : Has P w K mg base (k + 1) x ps.length sp :=
  ⟨fa, fd, ps, rfl, gnH Fn S body rd, hm, Fn.kp, b⟩
end Sk

set_option Elab.async false
set_option linter.all false
set_option maxRecDepth 100000
set_option maxHeartbeats 4000000
namespace Sk
open PySem PySem.Spec PyProof.Rows L2
open Evl (Ex)
/-- the drawing's reading -/
def t_draw (K : PySem.W.Frag) : TS :=
  tSeq (tAsg (tDGet (tVar 0) (tC (.str "at"))) (gName 2))
  (tSeq (sDPut (tVar 0) (tC (.str "at")) (tOp (rI0 fun i j => .int (i + j)) (tVar 2) (tC (.int 1))))
  (tSeq (tIfS (tTest (tOp (rEqP K true) (tDGet (tVar 0) (tC (.str "left"))) (tLst tNil)))
      (tSeq (tAsg (tOp (rI (fun _ j => 0 < j) fun i j => .int (i % j)) (tVar 2) (tCB (fun xs H Q => ∃ p ys, xs = [.ref p] ∧ (SqL K H p ys ∨ SqT K H p ys) ∧ Q (.int ys.length) H) (tCons (tDGet (tVar 0) (tC (.str "left"))) tNil))) (gName 3))
      (tSeq (tAsg (tOp (rIxL K) (tDGet (tVar 0) (tC (.str "left"))) (tVar 3)) (gName 4))
        (tIfS (tTest (tOp (rI0 fun i j => .bl (decide (j < i))) (tVar 4) (tC (.int 0))))
          (tSeq (tAsg (tOp (rI CDivW fun i j => .int (i / j)) (tVar 4) (tVar 1)) (gSub (tDGet (tVar 0) (tC (.str "left"))) (tVar 3) rSetL))
            (tRet (tOp (rI (fun _ j => 0 < j) fun i j => .int (i % j)) (tVar 4) (tVar 1)))) tNext))) tNext)
  (tRet (tOp (rI (fun _ j => 0 < j) fun i j => .int (i % j))
    (tCall (SpH K 2 spMixed) [] E0 (tCons (tCall (SpH K 2 spMixed) [] E0 (tCons (tOp (rI0 fun i j => .int (i + j)) (tOp (rIxL K) (tDGet (tVar 0) (tC (.str "cells"))) (tOp (rI (fun _ j => 0 < j) fun i j => .int (i % j)) (tVar 2) (tC (.int 64)))) (tOp (rI CMulW fun i j => .int (i * j)) (tC (.int 31)) (tOp (rI CDivW fun i j => .int (i / j)) (tVar 2) (tC (.int 64))))) (tCons (tVar 2) tNil)))
      (tCons (tOp (rI0 fun i j => .int (i + j)) (tVar 2) (tC (.int 7))) tNil))) (tVar 1)))))
section
variable {K : PySem.W.Frag}
theorem plain_ints (ls : List Int) : PyData.plainAll (ls.map PyData.int) = true := plainAll_D (α := Int) ls
theorem eqv_nil (ds : List PyData) : PyData.eqv (.list ds) (.list []) = ds.isEmpty := by
  cases ds <;> simp [PyData.eqv, PyData.eqvAll]
/-- the drawing's dict -/
abbrev dkv (c l : Addr) (k : Int) (rest : List (Key × V)) : List (Key × V) := (.inr "cells", .ref c) :: (.inr "left", .ref l) :: (.inr "at", .int k) :: rest
theorem k_cl : ¬ ((Sum.inr ("cells" : Str) : Key) = Sum.inr ("left" : Str)) := by decide
theorem k_ca : ¬ ((Sum.inr ("cells" : Str) : Key) = Sum.inr ("at" : Str)) := by decide
theorem k_la : ¬ ((Sum.inr ("left" : Str) : Key) = Sum.inr ("at" : Str)) := by decide
theorem k_al : ¬ ((Sum.inr ("at" : Str) : Key) = Sum.inr ("left" : Str)) := by decide
theorem v_cells {c l : Addr} {k : Int} {rest : List (Key × V)} : valV (dkv c l k rest) (.inr "cells") = some (.ref c) := valV_pos rfl
theorem v_left {c l : Addr} {k : Int} {rest : List (Key × V)} : valV (dkv c l k rest) (.inr "left") = some (.ref l) := by rw [valV_neg k_cl, valV_pos rfl]
theorem v_at {c l : Addr} {k : Int} {rest : List (Key × V)} : valV (dkv c l k rest) (.inr "at") = some (.int k) := by rw [valV_neg k_ca, valV_neg k_la, valV_pos rfl]
theorem put_at {c l : Addr} {k i : Int} {rest : List (Key × V)} : ∃ rest', putK (dkv c l k rest) (.inr "at") (.int i) = dkv c l i rest' ∧ rest'.length = rest.length := by
  refine ⟨rest.map fun kv => if kv.1 = (Sum.inr ("at" : Str) : Key) then (kv.1, .int i) else kv, ?_, by simp⟩
  have e1 := k_ca
  have e2 := k_la
  unfold putK
  rw [if_pos (by simp [dkv])]
  simp [dkv, e1, e2]
theorem put_left {c l l' : Addr} {k : Int} {rest : List (Key × V)} : ∃ rest', putK (dkv c l k rest) (.inr "left") (.ref l') = dkv c l' k rest' ∧ rest'.length = rest.length := by
  refine ⟨rest.map fun kv => if kv.1 = (Sum.inr ("left" : Str) : Key) then (kv.1, .ref l') else kv, ?_, by simp⟩
  have e1 := k_cl
  have e2 := k_al
  unfold putK
  rw [if_pos (by simp [dkv])]
  simp [dkv, e1, e2]
theorem dget_of {H : Hp} {a : Addr} {kvs : List (Key × V)} {x : Str} {v : V} (h : H a = some (.dK kvs)) (e : valV kvs (.inr x) = some v) : DGet H a (.str x) (some v) := .inl ⟨kvs, .inr x, .inl h, rfl, e.symm⟩
theorem big_dkv {c l : Addr} {k : Int} {rest : List (Key × V)} (h : rest.length ≤ 100) : (dkv c l k rest).length < sizeLine := by
  show rest.length + 3 < sizeLine
  rw [sizeLine_eq]; omega
theorem mod_at {ls : List Int} {k : Int} (h0 : 0 ≤ k) (hl : ls ≠ []) : ∃ j x, ixN (ls.map V.int).length (k % (ls.map V.int).length) = some j ∧ ls[j]? = some x := by
  have hp : 0 < ls.length := List.length_pos_iff.mpr hl
  have h1 : 0 ≤ k % (ls.length : Int) := Int.emod_nonneg _ (by omega)
  have h2 : k % (ls.length : Int) < ls.length := Int.emod_lt_of_pos _ (by omega)
  have hj : (k % (ls.length : Int)).toNat < ls.length := by omega
  refine ⟨(k % (ls.length : Int)).toNat, ls[(k % (ls.length : Int)).toNat], ?_, List.getElem?_eq_getElem hj⟩
  unfold ixN
  rw [List.length_map, if_pos h1, if_pos h2]
theorem rd_draw {vs : List V} {H : Hp} {Q : VK} {E : XK} (h : SpH K 2 spDraw vs H Q E) : t_draw K ⟨fun _ H' => Q .non H', Q, fun _ _ => False, fun _ _ => False⟩ (L2.start ["_law_m", "_law_many", "_law_k", "_law_at", "_law_cell"] vs) H := by
  obtain ⟨f, G, n, ps, C, hF, hM, R, hm, hk, ⟨k, rfl, k0, k1, hn, hC⟩, kk⟩ := h
  obtain ⟨v0, e0, on, rfl⟩ := R.sl 0 _ rfl
  obtain ⟨v1, e1, V1⟩ := R.sl 1 _ rfl
  cases vr_int V1
  have hv : vs = [.ref f.m, .int k] := by
    have ln := R.ln
    match vs, e0, e1, ln with
    | [a, b], e0, e1, _ =>
      simp at e0 e1
      rw [e0, e1]
  subst hv
  obtain ⟨at', cs, ls, rest, hmm, a0, an, hc, hcl, hcb, hl, hll, hlb, hrl, hcn⟩ := R.dr on
  have hmm : H f.m = some (.dK (dkv f.c f.l at' rest)) := hmm
  have ml : f.m ≠ f.l := fun z => by rw [z, hl] at hmm; cases hmm
  have mc : f.m ≠ f.c := fun z => by rw [z, hc] at hmm; cases hmm
  -- k = m["at"]; m["at"] = k + 1
  refine ⟨.ref f.m, rfl, f.m, .int at', rfl, dget_of hmm v_at, ?_⟩
  obtain ⟨rest', hput, hrl'⟩ := put_at (c := f.c) (l := f.l) (k := at') (i := at' + 1) (rest := rest)
  refine ⟨_, rfl, at', 1, rfl, rfl, .ref f.m, rfl, f.m, _, rfl, DPut.k (k := .inr "at") hmm (big_dkv hrl), ?_⟩
  rw [hput]
  -- what holds from now on
  have keep : ∀ (H' : Hp), (∀ a o, a ≠ f.m → a ≠ f.l → H a = some o → H' a = some o) → H' f.m = some (.dK (dkv f.c f.l (at' + 1) rest')) → ∀ ls' : List Int, H' f.l = some (.lst (ls'.map V.int)) → ls'.length ≤ 63 → (∀ x ∈ ls', 0 ≤ x) → Rel K f G ⟨[], n + 1⟩ [] H' := fun H' hk' h1 ls' h2 h3 h4 =>
    R.drawn on (fun a ha => (hM a ha).2) ⟨at' + 1, cs, ls', rest', h1, by omega, by show at' + 1 ≤ ((n + 1 : Nat) : Int); have : at' ≤ ((n : Nat) : Int) := an; omega, hk' _ _ mc.symm hcn hc, hcl, hcb, h2, h3, h4, by omega, hcn⟩ hk'
  -- the last row
  have last : ∀ (σ : L2.St) (H' : Hp), σ[0]? = some (some (.ref f.m)) → σ[1]? = some (some (.int k)) → σ[2]? = some (some (.int at')) → (∀ a o, a ≠ f.m → a ≠ f.l → H a = some o → H' a = some o) → H' f.m = some (.dK (dkv f.c f.l (at' + 1) rest')) → H' f.l = some (.lst (ls.map V.int)) →
      (tRet (tOp (rI (fun _ j => 0 < j) fun i j => .int (i % j))
        (tCall (SpH K 2 spMixed) [] E0 (tCons (tCall (SpH K 2 spMixed) [] E0 (tCons (tOp (rI0 fun i j => .int (i + j)) (tOp (rIxL K) (tDGet (tVar 0) (tC (.str "cells"))) (tOp (rI (fun _ j => 0 < j) fun i j => .int (i % j)) (tVar 2) (tC (.int 64)))) (tOp (rI CMulW fun i j => .int (i * j)) (tC (.int 31)) (tOp (rI CDivW fun i j => .int (i / j)) (tVar 2) (tC (.int 64))))) (tCons (tVar 2) tNil)))
          (tCons (tOp (rI0 fun i j => .int (i + j)) (tVar 2) (tC (.int 7))) tNil))) (tVar 1))) ⟨fun _ H' => Q .non H', Q, fun _ _ => False, fun _ _ => False⟩ σ H' := by
    intro σ H' s0 s1 s2 hk' h1 h2
    have R' := keep H' hk' h1 ls h2 hll hlb
    have hc' := hk' _ _ mc.symm hcn hc
    have b : at' ≤ ((n : Nat) : Int) := an
    have m0 : 0 ≤ at' % 64 := Int.emod_nonneg _ (by decide)
    have m1 : at' % 64 < 64 := Int.emod_lt_of_pos _ (by decide)
    have hj : (at' % 64).toNat < cs.length := by omega
    have hx := List.getElem_mem hj
    obtain ⟨x0, x1⟩ := hcb _ hx
    have d0 : 0 ≤ at' / 64 := Int.ediv_nonneg a0 (by decide)
    have d1 : at' / 64 ≤ at' := Int.ediv_le_self _ a0
    have d2 : at' / 64 < 4194305 := by omega
    have hat : atI (cs.map V.int) (at' % 64) = some (.int cs[(at' % 64).toNat]) := by
      unfold atI ixN
      rw [List.length_map, if_pos m0, if_pos (by omega)]
      show (cs.map V.int)[(at' % 64).toNat]? = _
      rw [List.getElem?_map, List.getElem?_eq_getElem hj]; rfl
    refine ⟨.ref f.m, s0, f.m, .ref f.c, rfl, dget_of h1 v_cells, .int at', s2, at', 64, rfl, rfl, (by show (0 : Int) < 64; decide), f.c, _, at' % 64, _, rfl, rfl, Or.inl (Or.inl hc'), hat, ?_⟩
    refine ⟨.int at', s2, at', 64, rfl, rfl, wide_div (b := 7) (by decide) (by decide) (by decide) (by decide), 31, at' / 64, rfl, rfl, wide_mul (a := 6) (b := 40) (by decide) (by omega) (by decide) (by decide) (by decide), _, 31 * (at' / 64), rfl, rfl, .int at', s2, ?_⟩
    have call : ∀ (p q : Int) (H2 : Hp) (n2 : Nat) (G2 : Hp) (Q2 : VK), Rel K f G2 ⟨[], n2⟩ [] H2 → 0 ≤ p → p < 4294967296 → 0 ≤ q → q < 536870912 → (∀ (i : Int) H3 G3, 0 ≤ i → i < 2147483647 → Ex G2 G3 → Rel K f G3 ⟨[], n2⟩ [] H3 → Q2 (.int i) H3) → SpH K 2 spMixed ([.int p, .int q] ++ []) H2 Q2 E0 := by
      intro p q H2 n2 G2 Q2 R2 p0 p1 q0 q1 kq
      refine spH_call (f := f0) (F := f) (O := f.O) (s := ⟨[], n2⟩) (σ := []) (ps := [.dat (.int p), .dat (.int q)]) (C := fun pv n' => n' = n2 ∧ ∃ i : Int, pv = .dat (.int i) ∧ 0 ≤ i ∧ i < 2147483647) R2 (.cons (.int p) (.cons (.int q) .nil)) rfl (fun a ha => by
        rcases List.mem_cons.mp ha with rfl | ha
        · rfl
        · rcases List.mem_cons.mp ha with rfl | ha
          · rfl
          · cases ha) ⟨p, q, rfl, p0, p1, q0, q1, fun i i0 i1 => ⟨(fun z => by cases z), rfl, i, rfl, i0, i1⟩⟩ fun pv n' G3 H3 v c e3 R3 V3 => ?_
      obtain ⟨rfl, i, rfl, i0, i1⟩ := c
      cases vr_int V3.1
      exact kq i H3 G3 i0 i1 e3 R3
    refine call _ _ _ _ _ _ R' (by omega) (by omega) a0 (by omega) fun i H3 G3 i0 i1 e3 R3 => ?_
    refine ⟨.int at', s2, at', 7, rfl, rfl, ?_⟩
    refine call _ _ _ _ _ _ R3 i0 (by omega) (by omega) (by omega) fun i2 H4 G4 j0 j1 e4 R4 => ?_
    refine ⟨.int k, s1, i2, k, rfl, rfl, k0, ?_⟩
    exact kk _ _ _ _ _ (hC _ (Int.emod_nonneg _ (by omega)) (Int.emod_lt_of_pos _ k0)) (e3.trans e4) R4 (.int _)
  generalize hH1 : upd H f.m (.dK (dkv f.c f.l (at' + 1) rest')) = H1
  have h1m : H1 f.m = some (.dK (dkv f.c f.l (at' + 1) rest')) := by rw [← hH1, upd_same]
  have h1o : ∀ a o, a ≠ f.m → H a = some o → H1 a = some o := fun a o ne h => by rw [← hH1, upd_ne ne]; exact h
  have h1l := h1o _ _ ml.symm hl
  -- if m["left"] != []
  refine ⟨.ref f.m, rfl, f.m, .ref f.l, rfl, dget_of h1m v_left, Nat.zero_le _, fun p hp => ?_⟩
  have pm : f.m ≠ p := fun z => by rw [← z, h1m] at hp; cases hp
  have pl : f.l ≠ p := fun z => by rw [← z, h1l] at hp; cases hp
  have h2m : upd H1 p (.lst []) f.m = some (.dK (dkv f.c f.l (at' + 1) rest')) := by rw [upd_ne pm]; exact h1m
  have h2l : upd H1 p (.lst []) f.l = some (.lst (ls.map V.int)) := by rw [upd_ne pl]; exact h1l
  have h2o : ∀ a o, a ≠ f.m → a ≠ f.l → H a = some o → upd H1 p (.lst []) a = some o := fun a o n1 n2 h => by
    have z := h1o a o n1 h
    rw [upd_ne (fun e => by rw [e, hp] at z; cases z)]; exact z
  refine ⟨.list (ls.map .int), .list [], .lst (Or.inl (Or.inl h2l)) (dpAll_ints _), .lst (Or.inl (Or.inl upd_same)) .nil, plain_ints ls, rfl, (by
    have : PyData.depth (.list []) ≤ 60 := by simp [PyData.depth, PyData.depthAll]
    omega), _, rfl, ?_⟩
  rw [eqv_nil]
  cases hls : ls with
  | nil =>
    refine iteF ?_
    exact last _ _ rfl rfl rfl h2o h2m h2l
  | cons y r =>
    refine iteT ?_
    have ne : ls ≠ [] := by rw [hls]; intro z; cases z
    have hp2 : 0 < ls.length := List.length_pos_iff.mpr ne
    obtain ⟨j, x, hj, hx⟩ := mod_at a0 ne
    have x0 : 0 ≤ x := hlb x (List.mem_of_getElem? hx)
    have jl : j < ls.length := (List.getElem?_eq_some_iff.mp hx).1
    refine ⟨.int at', rfl, .ref f.m, rfl, f.m, .ref f.l, rfl, dget_of h2m v_left, f.l, _, rfl, Or.inl (Or.inl (Or.inl h2l)), at', _, rfl, rfl, (by show (0 : Int) < ((ls.map V.int).length : Nat); rw [List.length_map]; omega), ?_⟩
    refine ⟨.ref f.m, rfl, f.m, .ref f.l, rfl, dget_of h2m v_left, _, rfl, f.l, _, _, .int x, rfl, rfl, Or.inl (Or.inl h2l), (by unfold atI; rw [hj]; show (ls.map V.int)[j]? = _; rw [List.getElem?_map, hx]; rfl), ?_⟩
    refine ⟨_, rfl, x, 0, rfl, rfl, _, rfl, ?_⟩
    by_cases hx0 : 0 < x
    · rw [decide_eq_true hx0]
      refine iteT ?_
      refine ⟨_, rfl, _, rfl, x, k, rfl, rfl, wide_div (b := 30) k0 (by omega) (by decide) (by decide), .ref f.m, rfl, f.m, .ref f.l, rfl, dget_of h2m v_left, _, rfl, f.l, _, _, j, rfl, rfl, h2l, hj, ?_⟩
      refine ⟨_, rfl, _, rfl, x, k, rfl, rfl, k0, ?_⟩
      have q0 : 0 ≤ x / k := Int.ediv_nonneg x0 (by omega)
      have hset : (ls.map V.int).set j (.int (x / k)) = (ls.set j (x / k)).map V.int := by rw [List.map_set]
      rw [hset]
      refine kk _ (n + 1) G _ _ (hC _ (Int.emod_nonneg _ (by omega)) (Int.emod_lt_of_pos _ k0)) (Ex.refl G) (keep _ (fun a o n1 n2 h => by rw [upd_ne n2]; exact h2o a o n1 n2 h) (by rw [upd_ne ml]; exact h2m) _ upd_same (by rw [List.length_set]; exact hll) fun z hz => ?_) (.int _)
      rcases List.mem_or_eq_of_mem_set hz with hz | rfl
      · exact hlb z hz
      · exact q0
    · rw [decide_eq_false hx0]
      exact iteF (last _ _ rfl rfl rfl h2o h2m h2l)
end
end Sk

set_option Elab.async false
set_option linter.all false
set_option maxRecDepth 100000
set_option maxHeartbeats 4000000
namespace Sk
open PySem PySem.Spec PyProof.Rows L2
open Evl (Ex)
/-- folded(script): sixty-four numbers -/
def spFolded : HSp := fun ps n C => ∃ ns : List Int, ps = [.dat (.list (ns.map .int))] ∧ ns.length ≤ 63 ∧ ∀ cs : List Int, cs.length = 64 → (∀ x ∈ cs, 0 ≤ x ∧ x < 2147483647) → C (.own (cs.map .int)) n
def h_lefts : HE := hLc (hiL (hV 0)) (gN 2) hYes (hIf (hB (hC geW (hL 2 (hE (hC powW (hE (hK (.int 10)) (hE (hK (.int 18)) hNil))) hNil)))) (hV 2) (hK (.int 0))) [2]
def t_begun (K : PySem.W.Frag) (more : List (TE × TE)) : TS :=
  tSeq (tAsg (tDisp ((tC (.str "cells"), tCall (SpH K 1 spFolded) [] E0 (tCons (tVar 0) tNil)) :: (tC (.str "left"), tLst tNil) :: (tC (.str "at"), tC (.int 0)) :: more)) (gName 1))
  (tSeq (sDPut (tVar 1) (tC (.str "left")) (lf K f0 h_lefts)) (tRet (tVar 1)))
/-- begun(script): the drawing, at its start -/
def spBegun (K : PySem.W.Frag) : Sp := fun vs H Q _ => ∃ (a : Addr) (ns : List Int), vs = [.ref a] ∧ SqL K H a (ns.map V.int) ∧ ns.length ≤ 63 ∧ ∀ m l c H', Ex H H' → H m = none → H l = none → H c = none → DrwOk m l c 0 H' → Q (.ref m) H'
def mores (kv : List (Str × Int)) : List (TE × TE) := kv.map fun p => (tC (.str p.1), tC (.int p.2))
theorem tp_mores {σ : L2.St} : ∀ (kv : List (Str × Int)) (H : Hp) (Q : List (V × V) → Hp → Prop), Q (kv.map fun p => (V.str p.1, V.int p.2)) H → tPairs (mores kv) σ H Q
  | [], _, _, h => h
  | p :: kv, H, Q, h => tp_mores kv H _ h
theorem lefts_ok (ds : List Int) : ∀ (acc : List Int) (p0 : Option PV), acc.length + ds.length ≤ 63 → (∀ x ∈ acc, 0 ≤ x) →
    lcs [2] (gN 2) hYes (hIf (hB (hC geW (hL 2 (hE (hC powW (hE (hK (.int 10)) (hE (hK (.int 18)) hNil))) hNil)))) (hV 2) (hK (.int 0))) (ds.map .int) (acc.map .int) ⟨[p0, none, none], 0⟩ (fun p s' => ∃ ls : List Int, p = .own (ls.map .int) ∧ ls.length ≤ 63 ∧ ∀ x ∈ ls, 0 ≤ x) := by
  induction ds with
  | nil => intro acc p0 h h2; exact ⟨acc, rfl, by simpa using h, h2⟩
  | cons d ds ih =>
    intro acc p0 h h2
    have hp : CPow 10 18 := by unfold CPow; decide
    have step : ∀ x : Int, 0 ≤ x → lcs [2] (gN 2) hYes (hIf (hB (hC geW (hL 2 (hE (hC powW (hE (hK (.int 10)) (hE (hK (.int 18)) hNil))) hNil)))) (hV 2) (hK (.int 0))) (ds.map .int) ((acc.map PyData.int) ++ [.int x]) ⟨[p0, none, none], 0⟩ (fun p s' => ∃ ls : List Int, p = .own (ls.map .int) ∧ ls.length ≤ 63 ∧ ∀ x ∈ ls, 0 ≤ x) := fun x hx => by
      have e : (acc.map PyData.int) ++ [.int x] = (acc ++ [x]).map .int := by simp
      rw [e]
      refine ih _ _ (by simp at h ⊢; omega) fun y hy => ?_
      rcases List.mem_append.mp hy with hy | hy
      · exact h2 y hy
      · rw [List.mem_singleton.mp hy]; exact hx
    have al : (acc.map PyData.int).length < 100000 := by simp at h ⊢; omega
    simp only [List.map_cons, lcs, gN, hYes, hIf, hB, hC, hL, hE, hNil, hK, hV, i2, i2', Sg.put, List.set_cons_succ, List.set_cons_zero, List.getElem?_cons_succ, List.getElem?_cons_zero, PV.frz, if_true, Option.some.injEq, exists_eq_left', PV.dat.injEq]
    refine ⟨⟨_, rfl⟩, hp, _, rfl, ?_⟩
    by_cases hd : (10 : Int) ^ Int.toNat 18 ≤ d
    · rw [decide_eq_true hd]
      have d0 : 0 ≤ d := by
        have : (0 : Int) ≤ 10 ^ Int.toNat 18 := by decide
        omega
      exact ⟨al, step d d0⟩
    · rw [decide_eq_false hd]
      exact ⟨al, step 0 (Int.le_refl _)⟩
theorem rd_begun {K : PySem.W.Frag} {kv : List (Str × Int)} {vs : List V} {H : Hp} {Q : VK} {E : XK} (hkv : kv.length ≤ 10) (hmer : ∀ c l, mergeK [] ((Sum.inr ("cells" : Str), V.ref c) :: (Sum.inr ("left" : Str), V.ref l) :: (Sum.inr ("at" : Str), V.int 0) :: kv.map fun p => ((Sum.inr p.1 : Key), V.int p.2)) = dkv c l 0 (kv.map fun p => ((Sum.inr p.1 : Key), V.int p.2)))
    (h : spBegun K vs H Q E) : t_begun K (mores kv) ⟨fun _ H' => Q .non H', Q, fun _ _ => False, fun _ _ => False⟩ (L2.start ["_law_script", "_law_m", "_law_cell"] vs) H := by
  obtain ⟨a, ns, rfl, hs, hn, k⟩ := h
  intro m0 hm0
  have e1 : Ex H (upd H m0 (.dK [])) := Evl.Ex.new hm0
  have hs1 := Evl.ex_l e1 hs
  -- folded(script)
  refine ⟨.ref a, rfl, ?_⟩
  refine ⟨⟨false, 0, 0, 0, upd H m0 (.dK []), fun _ => False, fun _ => False, 0⟩, upd H m0 (.dK []), 0, [.dat (.list (ns.map .int))], fun p n' => ∃ cs : List Int, p = .own (cs.map .int) ∧ cs.length = 64 ∧ ∀ x ∈ cs, 0 ≤ x ∧ x < 2147483647, rfl, (fun _ z => z.elim), ?_, ?_, rfl, ⟨ns, rfl, hn, fun cs h1 h2 => ⟨cs, rfl, h1, h2⟩⟩, ?_⟩
  · exact {
      gh := Ex.refl _
      fh := fun _ _ _ h => h
      go := fun _ z => z.elim
      oh := fun _ z => z.elim
      mh := fun _ z => z.elim
      mo := fun z => by cases z
      dr := fun z => by cases z
      ln := rfl
      sl := fun i p h => by
        match i, h with
        | 0, h =>
          simp at h; subst h
          exact ⟨.ref a, rfl, .lst hs1 (dpAll_ints ns)⟩
        | i + 1, h => simp at h
      ds := fun i j p q v _ h _ mp => by
        match i, h with
        | 0, h => simp at h; subst h; cases mp
        | i + 1, h => simp at h }
  · intro p hp
    rcases List.mem_cons.mp hp with rfl | hp
    · rfl
    · cases hp
  intro p n' G' H1 v c eG R V
  obtain ⟨cs, rfl, hcl, hcb⟩ := c
  obtain ⟨c, ws, rfl, hc, _, _, hcF, hcd⟩ := V
  have hws := ints_dpAll hcd
  subst hws
  have e2 : Ex (upd H m0 (.dK [])) H1 := fun b o hb => R.fh b o (fun z => z) hb
  have hc0 : upd H m0 (.dK []) c = none := hcF.elim id fun z => z.elim
  have hcm : c ≠ m0 := fun z => by rw [z, upd_same] at hc0; cases hc0
  have hcH : H c = none := by rw [upd_ne hcm] at hc0; exact hc0
  have hm1 : H1 m0 = some (.dK []) := e2 _ _ upd_same
  -- []
  refine ⟨Nat.zero_le _, fun l0 hl0 => ?_⟩
  have e3 : Ex H1 (upd H1 l0 (.lst [])) := Evl.Ex.new hl0
  have hm2 := e3 _ _ hm1
  refine tp_mores kv _ _ ⟨hm2, (Sum.inr ("cells" : Str), V.ref c) :: (Sum.inr ("left" : Str), V.ref l0) :: (Sum.inr ("at" : Str), V.int 0) :: kv.map (fun p => ((Sum.inr p.1 : Key), V.int p.2)), ?_, ?_, ?_⟩
  · simp only [List.map_cons, List.map_map, kV, List.cons.injEq, true_and]
    rfl
  · simp only [List.length_cons, List.length_map]; omega
  rw [hmer]
  generalize hr : (kv.map fun p => ((Sum.inr p.1 : Key), V.int p.2)) = rest
  have hrl : rest.length ≤ 10 := by rw [← hr, List.length_map]; exact hkv
  -- m["left"] = [..]
  generalize hH2 : upd (upd H1 l0 (.lst [])) m0 (.dK (dkv c l0 0 rest)) = H2
  have m2 : H2 m0 = some (.dK (dkv c l0 0 rest)) := by rw [← hH2, upd_same]
  have o2 : ∀ b o, b ≠ m0 → H1 b = some o → H2 b = some o := fun b o ne h => by rw [← hH2, upd_ne ne]; exact e3 _ _ h
  have s2 : SqL K H2 a (ns.map V.int) := by
    rcases hs with (hs | ⟨ob, hs⟩) | hs
    · exact Or.inl (Or.inl (o2 _ _ (ne_of_none hs hm0) (e2 _ _ (e1 _ _ hs))))
    · exact Or.inl (Or.inr ⟨ob, o2 _ _ (ne_of_none hs hm0) (e2 _ _ (e1 _ _ hs))⟩)
    · exact Or.inr hs
  refine ⟨⟨false, 0, 0, 0, H2, fun _ => False, fun _ => False, 0⟩, fun _ => False, H2, ⟨[some (.dat (.list (ns.map .int))), none, none], 0⟩, fun p s' => ∃ ls : List Int, p = .own (ls.map .int) ∧ ls.length ≤ 63 ∧ ∀ x ∈ ls, 0 ≤ x, ?_, ?_, ?_⟩
  · exact {
      gh := Ex.refl _
      fh := fun _ _ _ h => h
      go := fun _ z => z.elim
      oh := fun _ z => z.elim
      mh := fun _ z => z.elim
      mo := fun z => by cases z
      dr := fun z => by cases z
      ln := rfl
      sl := fun i p h => by
        match i, h with
        | 0, h =>
          simp at h; subst h
          exact ⟨.ref a, rfl, .lst s2 (dpAll_ints ns)⟩
        | 1, h => simp at h
        | 2, h => simp at h
        | i + 3, h => simp at h
      ds := fun i j p q v _ h _ mp => by
        match i, h with
        | 0, h => simp at h; subst h; cases mp
        | 1, h => simp at h
        | 2, h => simp at h
        | i + 3, h => simp at h }
  · exact lefts_ok ns [] _ (by simpa using hn) (fun x hx => by cases hx)
  intro p s' G3 H3 v c3 e3' R3 V3
  obtain ⟨ls, rfl, hll, hlb⟩ := c3
  obtain ⟨⟨l1, ws, rfl, hl1, _, _, hF1, hd1⟩, _⟩ := V3
  have hws := ints_dpAll hd1
  subst hws
  have n2 : H2 l1 = none := hF1.elim id fun z => z.elim
  have e4 : Ex H2 H3 := fun b o hb => R3.fh b o (fun z => z) hb
  obtain ⟨rest', hput, hrl'⟩ := put_left (c := c) (l := l0) (l' := l1) (k := 0) (rest := rest)
  refine ⟨.ref m0, rfl, m0, _, rfl, DPut.k (k := .inr "left") (e4 _ _ m2) (big_dkv (by omega)), ?_⟩
  rw [hput]
  refine ⟨.ref m0, rfl, ?_⟩
  have c2 : H2 c = some (.lst (cs.map V.int)) := o2 _ _ hcm hc
  have lm : l1 ≠ m0 := fun z => by rw [z, m2] at n2; cases n2
  have all : ∀ b o, H b = some o → H3 b = some o := fun b o hb => e4 _ _ (o2 _ _ (ne_of_none hb hm0) (e2 _ _ (e1 _ _ hb)))
  refine k m0 l1 c _ (fun b o hb => by rw [upd_ne (ne_of_none hb hm0)]; exact all b o hb) hm0 ?_ hcH ⟨0, cs, ls, rest', upd_same, Int.le_refl _, Int.le_refl _, by rw [upd_ne hcm]; exact e4 _ _ c2, hcl, hcb, by rw [upd_ne lm]; exact hl1, hll, hlb, by omega, fun z => by rw [z, n2] at c2; cases c2⟩
  cases q : H l1 with
  | none => rfl
  | some o => rw [o2 _ _ lm (e2 _ _ (e1 _ _ q))] at n2; cases n2
end Sk
set_option Elab.async false
set_option linter.all false
set_option maxRecDepth 100000
set_option maxHeartbeats 2000000
/-! helps for readings -/
namespace Sk
open PySem PySem.Spec PyProof.Rows L2
open PySem.W (Datum DatumOrd Tup T3 T4)
open Evl (Ex)
/-- [f(a) for a in xs], where each item comes to a datum and leaves the slots -/
theorem lcs_map {α : Type} {vs : List Nat} {g : HG} {t : HE} {s : Sg} {xs : List α} (e f : α → PyData)
    (h : ∀ a ∈ xs, ∀ K : PV → Sg → Prop, (∀ s3, s3.wipe vs = s → K (.dat (f a)) s3) → g (e a) s fun s1 => t s1 K) :
    ∀ (acc : List PyData) (C : PV → Sg → Prop), acc.length + xs.length ≤ 100000 → C (.own (acc ++ xs.map f)) s → lcs vs g hYes t (xs.map e) acc s C := by
  induction xs with
  | nil => intro acc C _ c; simpa using c
  | cons a xs ih =>
    intro acc C hl c
    have hl' : acc.length + (xs.length + 1) ≤ 100000 := by simpa using hl
    show g (e a) s fun s1 => hYes s1 fun b s2 => if b = true then t s2 fun p s3 => ∃ x, p.frz = some x ∧ acc.length < 100000 ∧ lcs vs g hYes t (xs.map e) (acc ++ [x]) (s3.wipe vs) C else lcs vs g hYes t (xs.map e) acc (s2.wipe vs) C
    refine h a List.mem_cons_self _ fun s3 hs3 => ⟨f a, rfl, by omega, ?_⟩
    rw [hs3]
    refine ih (fun b hb => h b (List.mem_cons_of_mem _ hb)) _ C (by simp; omega) ?_
    simpa using c
/-- .. with a test -/
theorem lcs_filter {α : Type} {vs : List Nat} {g : HG} {tt : HT} {t : HE} {s : Sg} {xs : List α} (e f : α → PyData) (p : α → Bool)
    (h : ∀ a ∈ xs, ∀ K : Bool → Sg → Prop, (∀ s2, (p a = false → s2.wipe vs = s) → (p a = true → ∀ K2 : PV → Sg → Prop, (∀ s3, s3.wipe vs = s → K2 (.dat (f a)) s3) → t s2 K2) → K (p a) s2) → g (e a) s fun s1 => tt s1 K) :
    ∀ (acc : List PyData) (C : PV → Sg → Prop), acc.length + xs.length ≤ 100000 → C (.own (acc ++ (xs.filter p).map f)) s → lcs vs g tt t (xs.map e) acc s C := by
  induction xs with
  | nil => intro acc C _ c; simpa using c
  | cons a xs ih =>
    intro acc C hl c
    have hl' : acc.length + (xs.length + 1) ≤ 100000 := by simpa using hl
    show g (e a) s fun s1 => tt s1 fun b s2 => if b = true then t s2 fun p s3 => ∃ x, p.frz = some x ∧ acc.length < 100000 ∧ lcs vs g tt t (xs.map e) (acc ++ [x]) (s3.wipe vs) C else lcs vs g tt t (xs.map e) acc (s2.wipe vs) C
    refine h a List.mem_cons_self _ fun s2 hs hk => ?_
    cases hp : p a with
    | false =>
      rw [if_neg Bool.false_ne_true, hs hp]
      refine ih (fun b hb => h b (List.mem_cons_of_mem _ hb)) _ C (by omega) ?_
      simpa [List.filter_cons, hp] using c
    | true =>
      rw [if_pos rfl]
      refine hk hp _ fun s3 hs3 => ⟨f a, rfl, by omega, ?_⟩
      rw [hs3]
      refine ih (fun b hb => h b (List.mem_cons_of_mem _ hb)) _ C (by simp; omega) ?_
      simpa [List.filter_cons, hp] using c
/-- all over truths -/
theorem allW_b {g : List Bool → Bool} {bs : List Bool} {p : PV} {C : PV → Prop} (h : p.lst = some (bs.map .bool)) (c : C (.dat (.bool (g bs)))) : allW g [p] C := ⟨bs, h, c⟩
theorem inP_D {α : Type} [DecidableEq α] [Datum α] {neg : Bool} {p q : PV} {C : PV → Prop} (a : α) (xs : List α) (hp : p.frz = some (Datum.toD a)) (hq : q.seq = some (xs.map Datum.toD)) (hd : Datum.depth α ≤ 60) (c : C (.dat (.bool (if neg then !decide (a ∈ xs) else decide (a ∈ xs))))) : inP neg [p, q] C := by
  refine ⟨_, _, hp, hq, Datum.plain a, plainAll_D xs, ?_, ?_⟩
  · have := Datum.depth_le a
    omega
  · rw [any_D]; exact c
theorem eqP_D {α : Type} [DecidableEq α] [Datum α] {neg : Bool} {p q : PV} {C : PV → Prop} (a b : α) (hp : p.frz = some (Datum.toD a)) (hq : q.frz = some (Datum.toD b)) (hd : Datum.depth α ≤ 60) (c : C (.dat (.bool (if neg then !decide (a = b) else decide (a = b))))) : eqP neg [p, q] C := by
  refine ⟨_, _, hp, hq, Datum.plain a, Datum.plain b, ?_, ?_⟩
  · have := Datum.depth_le a
    omega
  · rw [Datum.eqv]; exact c
@[simp] def ty_str : PyData → Bool
  | .none => false
  | .bool _ => false
  | .int _ => false
  | .str _ => true
  | .list _ => false
  | .tuple _ => false
  | .dict _ => false
theorem kit_str (d : PyData) : kitB (tyD d) "str" = some (ty_str d) := by cases d <;> rfl
@[simp] def ty_int : PyData → Bool
  | .none => false
  | .bool _ => true
  | .int _ => true
  | .str _ => false
  | .list _ => false
  | .tuple _ => false
  | .dict _ => false
theorem kit_int (d : PyData) : kitB (tyD d) "int" = some (ty_int d) := by cases d <;> rfl
@[simp] def ty_bool : PyData → Bool
  | .none => false
  | .bool _ => true
  | .int _ => false
  | .str _ => false
  | .list _ => false
  | .tuple _ => false
  | .dict _ => false
theorem kit_bool (d : PyData) : kitB (tyD d) "bool" = some (ty_bool d) := by cases d <;> rfl
@[simp] def ty_tuple : PyData → Bool
  | .none => false
  | .bool _ => false
  | .int _ => false
  | .str _ => false
  | .list _ => false
  | .tuple _ => true
  | .dict _ => false
theorem kit_tuple (d : PyData) : kitB (tyD d) "tuple" = some (ty_tuple d) := by cases d <;> rfl
@[simp] def ty_list : PyData → Bool
  | .none => false
  | .bool _ => false
  | .int _ => false
  | .str _ => false
  | .list _ => true
  | .tuple _ => false
  | .dict _ => false
theorem kit_list (d : PyData) : kitB (tyD d) "list" = some (ty_list d) := by cases d <;> rfl
/-! what operations come to, for rewriting -/
@[simp] theorem frz_dat {d : PyData} : (PV.dat d).frz = some d := rfl
@[simp] theorem frz_own {d : List PyData} : (PV.own d).frz = some (.list d) := rfl
@[simp] theorem lst_dat {d : List PyData} : (PV.dat (.list d)).lst = some d := rfl
@[simp] theorem lst_own' {d : List PyData} : (PV.own d).lst = some d := rfl
@[simp] theorem seq_lst {d : List PyData} : (PV.dat (.list d)).seq = some d := rfl
@[simp] theorem seq_tup {d : List PyData} : (PV.dat (.tuple d)).seq = some d := rfl
@[simp] theorem seq_str {z : Str} : (PV.dat (.str z)).seq = none := rfl
@[simp] theorem lst_str {z : Str} : (PV.dat (.str z)).lst = none := rfl
@[simp] theorem lst_tp {d : List PyData} : (PV.dat (.tuple d)).lst = none := rfl
@[simp] theorem seq_own {d : List PyData} : (PV.own d).seq = some d := rfl
@[simp] theorem arg_dat {d : PyData} : (PV.dat d).arg = .dat d := rfl
@[simp] theorem arg_own {d : List PyData} : (PV.own d).arg = .dat (.list d) := rfl
@[simp] theorem arg_drw : PV.drw.arg = .drw := rfl
@[simp] theorem mut_dat {d : PyData} : (PV.dat d).mut = false := rfl
@[simp] theorem mut_own {d : List PyData} : (PV.own d).mut = true := rfl
@[simp] theorem mut_drw : PV.drw.mut = false := rfl
@[simp] theorem isD_dat {d : PyData} : (PV.dat d).isD = false := rfl
@[simp] theorem isD_own {d : List PyData} : (PV.own d).isD = false := rfl
@[simp] theorem isD_drw : PV.drw.isD = false := rfl

@[simp] theorem isi_str {d : PyData} {C : PV → Prop} : isiW [.dat d, .val (.ty "str")] C ↔ C (.dat (.bool (ty_str d))) := by simp [isiW, kit_str]
@[simp] theorem isi_int {d : PyData} {C : PV → Prop} : isiW [.dat d, .val (.ty "int")] C ↔ C (.dat (.bool (ty_int d))) := by simp [isiW, kit_int]
@[simp] theorem isi_bool {d : PyData} {C : PV → Prop} : isiW [.dat d, .val (.ty "bool")] C ↔ C (.dat (.bool (ty_bool d))) := by simp [isiW, kit_bool]
@[simp] theorem isi_tuple {d : PyData} {C : PV → Prop} : isiW [.dat d, .val (.ty "tuple")] C ↔ C (.dat (.bool (ty_tuple d))) := by simp [isiW, kit_tuple]
@[simp] theorem isi_list {d : PyData} {C : PV → Prop} : isiW [.dat d, .val (.ty "list")] C ↔ C (.dat (.bool (ty_list d))) := by simp [isiW, kit_list]
@[simp] theorem isi_own {ds : List PyData} {C : PV → Prop} : isiW [.own ds, .val (.ty "list")] C ↔ C (.dat (.bool true)) := by simp [isiW, kit_list]
@[simp] theorem len_str {z : Str} {C : PV → Prop} : lenW [.dat (.str z)] C ↔ z.length ≤ sizeLine ∧ C (.dat (.int z.length)) := by simp [lenW]
@[simp] theorem len_tup {ds : List PyData} {C : PV → Prop} : lenW [.dat (.tuple ds)] C ↔ C (.dat (.int ds.length)) := by simp [lenW]
@[simp] theorem len_lst {ds : List PyData} {C : PV → Prop} : lenW [.dat (.list ds)] C ↔ C (.dat (.int ds.length)) := by simp [lenW]
@[simp] theorem len_own {ds : List PyData} {C : PV → Prop} : lenW [.own ds] C ↔ C (.dat (.int ds.length)) := by simp [lenW]
@[simp] theorem ix_tup {ds : List PyData} {i : Int} {C : PV → Prop} : ixW [.dat (.tuple ds), .dat (.int i)] C ↔ ∃ d, atI ds i = some d ∧ C (.dat d) := by simp [ixW]
@[simp] theorem ix_lst {ds : List PyData} {i : Int} {C : PV → Prop} : ixW [.dat (.list ds), .dat (.int i)] C ↔ ∃ d, atI ds i = some d ∧ C (.dat d) := by simp [ixW]
@[simp] theorem ix_own {ds : List PyData} {i : Int} {C : PV → Prop} : ixW [.own ds, .dat (.int i)] C ↔ ∃ d, atI ds i = some d ∧ C (.dat d) := by simp [ixW]
@[simp] theorem ix_st {z : Str} {i : Int} {C : PV → Prop} : ixW [.dat (.str z), .dat (.int i)] C ↔ z.length ≤ 100000 ∧ ∃ c, atI z.cps.toList i = some c ∧ C (.dat (.str ⟨#[c]⟩)) := by simp [ixW]
@[simp] theorem add_ii {i j : Int} {C : PV → Prop} : addW [.dat (.int i), .dat (.int j)] C ↔ C (.dat (.int (i + j))) := Iff.rfl
@[simp] theorem add_ss {i j : Str} {C : PV → Prop} : addW [.dat (.str i), .dat (.str j)] C ↔ i.length + j.length ≤ 100000 ∧ C (.dat (.str (i ++ j))) := Iff.rfl
@[simp] theorem mul_ii {i j : Int} {C : PV → Prop} : mulW' [.dat (.int i), .dat (.int j)] C ↔ CMulW i j ∧ C (.dat (.int (i * j))) := Iff.rfl
@[simp] theorem lst_own {ds : List PyData} {C : PV → Prop} : listW [.own ds] C ↔ C (.own ds) := by simp [listW]
@[simp] theorem lst_lst {ds : List PyData} {C : PV → Prop} : listW [.dat (.list ds)] C ↔ C (.own ds) := by simp [listW]
@[simp] theorem lst_tup {ds : List PyData} {C : PV → Prop} : listW [.dat (.tuple ds)] C ↔ C (.own ds) := by simp [listW]
@[simp] theorem tup_own {ds : List PyData} {C : PV → Prop} : tupW [.own ds] C ↔ C (.dat (.tuple ds)) := by simp [tupW]
@[simp] theorem tup_lst {ds : List PyData} {C : PV → Prop} : tupW [.dat (.list ds)] C ↔ C (.dat (.tuple ds)) := by simp [tupW]
@[simp] theorem in_sign {c : Nat} {z : Str} {C : PV → Prop} : inS [.dat (.str ⟨#[c]⟩), .dat (.str z)] C ↔ C (.dat (.bool (decide (c ∈ z.cps.toList)))) := by
  simp [inS]
def isNoneD : PyData → Bool
  | .none => true
  | _ => false
@[simp] theorem is_none {d : PyData} {C : PV → Prop} : isN false [.dat d, .dat .none] C ↔ C (.dat (.bool (isNoneD d))) := by cases d <;> simp [isN, isNoneD]
@[simp] theorem not_none {d : PyData} {C : PV → Prop} : isN true [.dat d, .dat .none] C ↔ C (.dat (.bool (!isNoneD d))) := by cases d <;> simp [isN, isNoneD]
@[simp] theorem eq_int {i j : Int} {neg : Bool} {C : PV → Prop} : eqP neg [.dat (.int i), .dat (.int j)] C ↔ C (.dat (.bool (if neg then !decide (i = j) else decide (i = j)))) := by
  have h : PyData.eqv (.int i) (.int j) = decide (i = j) := Datum.eqv i j
  simp [eqP, h, PyData.plain, PyData.depth]
@[simp] theorem eq_str {i j : Str} {neg : Bool} {C : PV → Prop} : eqP neg [.dat (.str i), .dat (.str j)] C ↔ C (.dat (.bool (if neg then !decide (i = j) else decide (i = j)))) := by
  have h : PyData.eqv (.str i) (.str j) = decide (i = j) := Datum.eqv i j
  simp [eqP, h, PyData.plain, PyData.depth]
end Sk
set_option Elab.async false
set_option linter.all false
set_option maxRecDepth 100000
set_option maxHeartbeats 2000000
/-! the machines' shared defs: what they promise, and that their readings keep it -/
namespace Sk
open PySem PySem.Spec PyProof.Rows L2
open PySem.W (Datum DatumOrd Tup T3 T4)
open Evl (Ex)
@[simp] def c_BARS : PyData := (.tuple [(.str "stop"), (.str "spin"), (.str "out"), (.str "own"), (.str "beside"), (.str "hide"), (.str "as")])
@[simp] def c_HIDDEN : PyData := (.str "")
@[simp] def c_LETTERS : PyData := (.str "abcdefghijklmnopqrstuvwxyz")
@[simp] def c_MOST_DEEDS : PyData := (.int 8)
@[simp] def c_MOST_LETTERS : PyData := (.int 6)
@[simp] def c_MOST_NODES : PyData := (.int 300)

def letters : Str := "abcdefghijklmnopqrstuvwxyz"
def bars : List Str := ["stop", "spin", "out", "own", "beside", "hide", "as"]
def isWordS (z : Str) : Bool := decide (1 ≤ z.length) && decide (z.length ≤ 6) && !decide (z ∈ bars) && z.cps.toList.all fun c => decide (c ∈ letters.cps)
def isWordD : PyData → Bool
  | .str z => isWordS z
  | _ => false
def sp_is_word_e81331 : HSp := fun ps n C => ∃ d, ps = [.dat d] ∧ (∀ z, d = .str z → z.length ≤ sizeLine) ∧ C (.dat (.bool (isWordD d))) n
def h_is_word_e81331 : HS :=
    (hSeq (hIfS (hOr (hNot (hB (hC isiW (hL 0 (fun s C => hNil s fun ps s2 => C (.val (.ty "str") :: ps) s2))))) (hOr (hNot (hB (hChain leW leW (hE (hK (.int 1))) (hE (hC lenW (hL 0 hNil))) (hE (hK c_MOST_LETTERS))))) (hB (hC (inP false) (hL 0 (hE (hK c_BARS) hNil)))))) (hRet (hK (.bool false))) hNext)
    (hRet (hC (allW fun bs => bs.all id) (hE (hLc (hiS (hV 0)) (gN 1) hYes (hC inS (hL 1 (hE (hK c_LETTERS) hNil))) [1]) hNil))))

theorem rd_is_word_e81331 : ∀ pvs n C, pvs.length = 1 → sp_is_word_e81331 pvs n C → h_is_word_e81331 ⟨fun s => C (.dat .none) s.n, fun p s => C p s.n, fun _ => False, fun _ => False⟩ ⟨pvs.map some ++ List.replicate (2 - pvs.length) none, n⟩ := by
  intro pvs n C _ h
  obtain ⟨d, rfl, hz, c⟩ := h
  unfold h_is_word_e81331
  cases d with
  | str z =>
    simp
    refine ⟨hz z rfl, ?_⟩
    by_cases h1 : (z.length : Int) < 1
    · exact Or.inl ⟨h1, by
        have e : isWordD (.str z) = false := by
          have : ¬ 1 ≤ z.length := by omega
          simp [isWordD, isWordS, this]
        rw [e] at c; exact c⟩
    refine Or.inr ⟨by omega, ?_⟩
    by_cases h2 : (6 : Int) < z.length
    · exact Or.inl ⟨h2, by
        have e : isWordD (.str z) = false := by
          have : ¬ z.length ≤ 6 := by omega
          simp [isWordD, isWordS, this]
        rw [e] at c; exact c⟩
    refine Or.inr ⟨by omega, inP_D z bars rfl rfl (by decide) ?_⟩
    have l1 : 1 ≤ z.length := by omega
    have l2 : z.length ≤ 6 := by omega
    by_cases h3 : z ∈ bars
    · refine Or.inr ⟨by simp [h3], ?_⟩
      have e : isWordD (.str z) = false := by simp [isWordD, isWordS, h3]
      rw [e] at c; exact c
    · refine Or.inl ⟨by simp [h3], ?_⟩
      have e : isWordD (.str z) = z.cps.toList.all fun x => decide (x ∈ letters.cps) := by simp [isWordD, isWordS, h3, l1, l2]
      rw [e] at c
      refine lcs_map (fun c => PyData.str ⟨#[c]⟩) (fun x => .bool (decide (x ∈ letters.cps))) (fun a _ K hK => ?_) [] _ (by simp; show z.length ≤ 100000; omega) ?_
      · simp
        refine hK _ ?_
        simp
      · simp
        refine allW_b (bs := z.cps.toList.map fun x => decide (x ∈ letters.cps)) (by simp) ?_
        simpa [List.all_map, Function.comp] using c
  | _ => simpa [isWordD] using c
end Sk
set_option Elab.async false
set_option linter.all false
set_option maxRecDepth 100000
set_option maxHeartbeats 2000000
namespace Sk
open PySem PySem.Spec PyProof.Rows L2
open PySem.W (Datum DatumOrd Tup T3 T4)
open Evl (Ex)
def isNumD : PyData → Int → Bool
  | .int i, m => decide (0 ≤ i) && decide (i < m)
  | _, _ => false
def sp_is_number_562222 : HSp := fun ps n C => ∃ d m, ps = [.dat d, .dat (.int m)] ∧ C (.dat (.bool (isNumD d m))) n
def h_is_number_562222 : HS :=
    (hRet (hAndV (hC isiW (hL 0 (fun s C => hNil s fun ps s2 => C (.val (.ty "int") :: ps) s2))) (hAndV (hNotV (hC isiW (hL 0 (fun s C => hNil s fun ps s2 => C (.val (.ty "bool") :: ps) s2)))) (hChain leW ltW (hE (hK (.int 0))) (hL 0) (hL 1)))))
theorem rd_is_number_562222 : ∀ pvs n C, pvs.length = 2 → sp_is_number_562222 pvs n C → h_is_number_562222 ⟨fun s => C (.dat .none) s.n, fun p s => C p s.n, fun _ => False, fun _ => False⟩ ⟨pvs.map some ++ List.replicate (2 - pvs.length) none, n⟩ := by
  intro pvs n C _ h
  obtain ⟨d, m, rfl, c⟩ := h
  unfold h_is_number_562222
  cases d with
  | int i =>
    simp
    by_cases h1 : 0 ≤ i
    · exact Or.inr ⟨h1, by simpa [isNumD, h1] using c⟩
    · exact Or.inl ⟨by omega, by simpa [isNumD, h1] using c⟩
  | _ => simpa [isNumD] using c
def isEmptyD : PyData → Bool
  | .str z => decide (z = "")
  | _ => false
def isMoveD : PyData → Int → Bool
  | .tuple [a, b], m => isNumD b m && (isWordD a || isEmptyD a)
  | _, _ => false
def sp_is_move_84a0bd : HSp := fun ps n C => ∃ d m, ps = [.dat d, .dat (.int m)] ∧ (∀ z x, d = .tuple [.str z, x] → z.length ≤ sizeLine) ∧ C (.dat (.bool (isMoveD d m))) n
def h_is_move_84a0bd : HS :=
    (hSeq (hIfS (hOr (hNot (hB (hC isiW (hL 0 (fun s C => hNil s fun ps s2 => C (.val (.ty "tuple") :: ps) s2))))) (hOr (hB (hC (eqP true) (hE (hC lenW (hL 0 hNil)) (hE (hK (.int 2)) hNil)))) (hNot (hB (hCall sp_is_number_562222 2 (hE (hC ixW (hL 0 (hE (hK (.int 1)) hNil))) (hL 1 hNil))))))) (hRet (hK (.bool false))) hNext)
    (hRet (hOrV (hCall sp_is_word_e81331 1 (hE (hC ixW (hL 0 (hE (hK (.int 0)) hNil))) hNil)) (hAndV (hC isiW (hE (hC ixW (hL 0 (hE (hK (.int 0)) hNil))) (fun s C => hNil s fun ps s2 => C (.val (.ty "str") :: ps) s2))) (hC (eqP false) (hE (hC ixW (hL 0 (hE (hK (.int 0)) hNil))) (hE (hK c_HIDDEN) hNil)))))))
theorem rd_is_move_84a0bd : ∀ pvs n C, pvs.length = 2 → sp_is_move_84a0bd pvs n C → h_is_move_84a0bd ⟨fun s => C (.dat .none) s.n, fun p s => C p s.n, fun _ => False, fun _ => False⟩ ⟨pvs.map some ++ List.replicate (2 - pvs.length) none, n⟩ := by
  intro pvs n C _ h
  obtain ⟨d, m, rfl, hz, c⟩ := h
  unfold h_is_move_84a0bd
  cases d with
  | tuple ds =>
    match ds, hz, c with
    | [], hz, c => simpa [isMoveD] using c
    | [a], hz, c => simpa [isMoveD] using c
    | [a, b], hz, c =>
      have e0 : atI [a, b] 0 = some a := rfl
      have e1 : atI [a, b] 1 = some b := rfl
      simp [e0, e1, sp_is_number_562222, sp_is_word_e81331]
      refine ⟨b, m, ⟨rfl, rfl⟩, ?_⟩
      cases hn : isNumD b m with
      | false => simpa [isMoveD, hn] using c
      | true =>
        simp [isMoveD, hn] at c
        refine ⟨fun z e => hz z b (by rw [e]), ?_⟩
        cases hw : isWordD a with
        | true => simpa [hw] using c
        | false =>
          simp [hw] at c
          cases a <;> simpa [isEmptyD] using c
    | a :: b :: e :: r, hz, c =>
      have : ¬ ((r.length : Int) + 1 + 1 + 1 = 2) := by omega
      simpa [isMoveD, this] using c
  | _ => simpa [isMoveD] using c
end Sk
set_option Elab.async false
set_option linter.all false
set_option maxRecDepth 100000
set_option maxHeartbeats 2000000
namespace Sk
open PySem PySem.Spec PyProof.Rows L2
open PySem.W (Datum DatumOrd Tup T3 T4)
open Evl (Ex)
def mvOf : PyData → Str × Int
  | .tuple [.str s, .int i] => (s, i)
  | _ => ("", 0)
theorem isMove_toD {d : PyData} {m : Int} (h : isMoveD d m = true) : d = Datum.toD (mvOf d) ∧ 0 ≤ (mvOf d).2 ∧ (mvOf d).2 < m ∧ (isWordS (mvOf d).1 = true ∨ (mvOf d).1 = "") := by
  match d, h with
  | .tuple [a, b], h =>
    simp [isMoveD] at h
    obtain ⟨h1, h2⟩ := h
    match b, h1 with
    | .int i, h1 =>
      simp [isNumD] at h1
      match a, h2 with
      | .str s, h2 =>
        simp [isWordD, isEmptyD] at h2
        exact ⟨rfl, h1.1, h1.2, h2⟩
      | .none, h2 => simp [isWordD, isEmptyD] at h2
      | .bool _, h2 => simp [isWordD, isEmptyD] at h2
      | .int _, h2 => simp [isWordD, isEmptyD] at h2
      | .list _, h2 => simp [isWordD, isEmptyD] at h2
      | .tuple _, h2 => simp [isWordD, isEmptyD] at h2
      | .dict _, h2 => simp [isWordD, isEmptyD] at h2
def chainLt (xs : List (Str × Int)) : Bool := (xs.zip (xs.drop 1)).all fun p => DatumOrd.lt p.1 p.2
def isRowD : PyData → Int → Bool
  | .tuple ds, m => ds.all (isMoveD · m) && chainLt (ds.map mvOf)
  | _, _ => false
theorem cut1_none (ds : List PyData) : cutD ds (some 1) none = ds.drop 1 := by
  unfold cutD
  rw [show HT.sIx ds.length 0 (some 1) = min 1 ds.length from HT.sIx_nat ds.length 0 1, HT.sIx_none]
  cases ds with
  | nil => rfl
  | cons x r =>
    have : min 1 (x :: r).length = 1 := by rw [List.length_cons]; omega
    rw [this]
    show (List.take ((x :: r).length - 1) r) = r
    rw [List.length_cons, Nat.add_sub_cancel]
    exact List.take_length
theorem zipD_map {α β : Type} (e : α → PyData) (e' : β → PyData) : ∀ (xs : List α) (ys : List β), zipD (xs.map e) (ys.map e') = (xs.zip ys).map fun p => .tuple [e p.1, e' p.2]
  | [], _ => by simp [zipD]
  | _ :: _, [] => by simp [zipD]
  | x :: xs, y :: ys => by simp [zipD, zipD_map e e' xs ys]
theorem map_mvOf {ds : List PyData} {m : Int} (h : ds.all (isMoveD · m) = true) : ds = (ds.map mvOf).map Datum.toD := by
  induction ds with
  | nil => rfl
  | cons d ds ih =>
    rw [List.all_cons, Bool.and_eq_true] at h
    rw [List.map_cons, List.map_cons, ← (isMove_toD h.1).1, ← ih h.2]
def sp_is_node_row_5d6d4a : HSp := fun ps n C => ∃ d m, ps = [.dat d, .dat (.int m)] ∧ (∀ ds, d = .tuple ds → ds.length ≤ 90000 ∧ ∀ z x, .tuple [.str z, x] ∈ ds → z.length ≤ sizeLine) ∧ C (.dat (.bool (isRowD d m))) n
def h_is_node_row_5d6d4a : HS :=
    (hSeq (hIfS (hOr (hNot (hB (hC isiW (hL 0 (fun s C => hNil s fun ps s2 => C (.val (.ty "tuple") :: ps) s2))))) (hNot (hB (hC (allW fun bs => bs.all id) (hE (hLc (hiT (hV 0)) (gN 2) hYes (hCall sp_is_move_84a0bd 2 (hL 2 (hL 1 hNil))) [2]) hNil))))) (hRet (hK (.bool false))) hNext)
    (hRet (hC (allW fun bs => bs.all id) (hE (hLc (hiZ (hE (hV 0) (hE (hSl 0 (hPt (hK (.int 1))) hNo) hNil))) (gP 3 4) hYes (hC (ltA (Str × Int)) (hL 3 (hL 4 hNil))) [3, 4]) hNil))))
theorem rd_is_node_row_5d6d4a : ∀ pvs n C, pvs.length = 2 → sp_is_node_row_5d6d4a pvs n C → h_is_node_row_5d6d4a ⟨fun s => C (.dat .none) s.n, fun p s => C p s.n, fun _ => False, fun _ => False⟩ ⟨pvs.map some ++ List.replicate (5 - pvs.length) none, n⟩ := by
  intro pvs n C _ h
  obtain ⟨d, m, rfl, hz, c⟩ := h
  unfold h_is_node_row_5d6d4a
  cases d with
  | tuple ds =>
    obtain ⟨hl, hz⟩ := hz ds rfl
    simp
    have key : ∀ (C2 : PV → Sg → Prop), C2 (.own (ds.map fun d => .bool (isMoveD d m))) ⟨[some (.dat (.tuple ds)), some (.dat (.int m)), none, none, none], n⟩ → lcs [2] (gN 2) hYes (hCall sp_is_move_84a0bd 2 (hL 2 (hL 1 hNil))) ds [] ⟨[some (.dat (.tuple ds)), some (.dat (.int m)), none, none, none], n⟩ C2 := fun C2 c2 => by
      have e : ds = ds.map fun d => d := by simp
      have z := lcs_map (vs := [2]) (g := gN 2) (t := hCall sp_is_move_84a0bd 2 (hL 2 (hL 1 hNil))) (s := ⟨[some (.dat (.tuple ds)), some (.dat (.int m)), none, none, none], n⟩) (xs := ds) (fun d => d) (fun d => .bool (isMoveD d m)) (fun a ha K hK => by
        simp [sp_is_move_84a0bd]
        refine ⟨a, m, ⟨rfl, rfl⟩, fun z x e => hz z x (by rw [← e]; exact ha), ?_⟩
        refine hK _ ?_
        simp) [] C2 (by simp; omega) (by simpa using c2)
      rw [← e] at z
      exact z
    refine key _ ?_
    simp
    refine allW_b (bs := ds.map (isMoveD · m)) (by simp) ?_
    have ea : ((ds.map (isMoveD · m)).all id) = ds.all (isMoveD · m) := by simp [List.all_map, Function.comp]
    rw [ea]
    cases ha : ds.all (isMoveD · m) with
    | false =>
      simp
      simpa [isRowD, ha] using c
    | true =>
      simp
      generalize hxs : ds.map mvOf = xs
      have e1 : ds = xs.map Datum.toD := by rw [← hxs]; exact map_mvOf ha
      have e2 : zipD ds (cutD ds (some 1) none) = (xs.zip (xs.drop 1)).map fun p => .tuple [Datum.toD p.1, Datum.toD p.2] := by
        rw [cut1_none, e1, ← List.map_drop, zipD_map]
      have hxl : xs.length = ds.length := by rw [← hxs, List.length_map]
      rw [e2]
      refine lcs_map (fun p : (Str × Int) × (Str × Int) => PyData.tuple [Datum.toD p.1, Datum.toD p.2]) (fun p => .bool (DatumOrd.lt p.1 p.2)) (fun a _ K hK => ?_) [] _ (by simp [List.length_zip]; omega) ?_
      · simp
        refine ⟨a.1, a.2, rfl, rfl, ?_⟩
        refine hK _ ?_
        simp
      · simp
        refine allW_b (bs := (xs.zip (xs.drop 1)).map fun p => DatumOrd.lt p.1 p.2) (by simp) ?_
        have e3 : isRowD (.tuple ds) m = chainLt xs := by
          show (ds.all (isMoveD · m) && chainLt (ds.map mvOf)) = _
          rw [ha, hxs]; rfl
        rw [e3] at c
        simpa [List.all_map, Function.comp, chainLt] using c
  | _ => simpa [isRowD] using c
end Sk
set_option Elab.async false
set_option linter.all false
set_option maxRecDepth 100000
set_option maxHeartbeats 2000000
namespace Sk
open PySem PySem.Spec PyProof.Rows L2
open PySem.W (Datum DatumOrd Tup T3 T4)
open Evl (Ex)
/-- a machine: a row of moves for each node -/
abbrev Mch := Tup (Tup (Str × Int))
def Mch.rows (M : Mch) : List (List (Str × Int)) := M.items.map Tup.items
def rowDeeds (r : List (Str × Int)) : List Str := (r.filter fun p => decide (p.1 ≠ ("" : Str))).map (·.1)
def Mch.deeds (M : Mch) : List Str := (M.rows.map rowDeeds).flatten
def Mch.size (M : Mch) : Nat := (M.rows.map List.length).sum
/-! keys of dicts -/
theorem putD_keys {kvs : List (Key × PyData)} {k : Key} {d : PyData} : ∀ x, x ∈ (putD kvs k d).map (·.1) ↔ x ∈ kvs.map (·.1) ∨ x = k := by
  intro x
  unfold putD
  split
  · rename_i h
    have e : (kvs.map fun kv => if kv.1 = k then (kv.1, d) else kv).map (·.1) = kvs.map (·.1) := by
      rw [List.map_map]
      apply List.map_congr_left
      intro a _
      simp only [Function.comp]
      split <;> rfl
    rw [e]
    constructor
    · exact Or.inl
    · rintro (h2 | rfl)
      · exact h2
      · obtain ⟨a, ha, e⟩ := List.any_eq_true.mp h
        exact List.mem_map.mpr ⟨a, ha, of_decide_eq_true e⟩
  · simp
theorem putD_len {kvs : List (Key × PyData)} {k : Key} {d : PyData} : (putD kvs k d).length ≤ kvs.length + 1 := by
  unfold putD
  split <;> simp
theorem mergeD_keys : ∀ {more kvs : List (Key × PyData)} (x : Key), x ∈ (mergeD kvs more).map (·.1) ↔ x ∈ kvs.map (·.1) ∨ x ∈ more.map (·.1)
  | [], kvs, x => by simp [mergeD]
  | p :: more, kvs, x => by
    show x ∈ (mergeD (putD kvs p.1 p.2) more).map (·.1) ↔ _
    rw [mergeD_keys, putD_keys]
    simp only [List.map_cons, List.mem_cons]
    constructor
    · rintro ((h | h) | h)
      · exact Or.inl h
      · exact Or.inr (Or.inl h)
      · exact Or.inr (Or.inr h)
    · rintro (h | h | h)
      · exact Or.inl (Or.inl h)
      · exact Or.inl (Or.inr h)
      · exact Or.inr h
theorem mergeD_len : ∀ {more kvs : List (Key × PyData)}, (mergeD kvs more).length ≤ kvs.length + more.length
  | [], kvs => by simp [mergeD]
  | p :: more, kvs => by
    show (mergeD (putD kvs p.1 p.2) more).length ≤ _
    have := mergeD_len (more := more) (kvs := putD kvs p.1 p.2)
    have := putD_len (kvs := kvs) (k := p.1) (d := p.2)
    simp only [List.length_cons]
    omega
/-- keys that are texts -/
theorem txt_keys {kvs : List (Key × PyData)} (h : ∀ k ∈ kvs.map (·.1), ∃ x : Str, k = .inr x) : ∃ xs : List Str, kvs.map (·.1) = xs.map FK.key := by
  induction kvs with
  | nil => exact ⟨[], rfl⟩
  | cons p kvs ih =>
    obtain ⟨xs, e⟩ := ih fun k hk => h k (by simp only [List.map_cons, List.mem_cons]; exact Or.inr hk)
    obtain ⟨x, ex⟩ := h p.1 (by simp)
    exact ⟨x :: xs, by simp only [List.map_cons, e, ex]; rfl⟩
theorem pairs_txt : ∀ xs : List Str, pairsD (xs.map fun x => .tuple [.str x, .bool true]) = some (xs.map fun x => ((.inr x : Key), PyData.bool true))
  | [] => rfl
  | x :: xs => by simp [pairsD, pairs_txt xs]
def sp_deeds_by_079b22 : HSp := fun ps n C => ∃ M : Mch, ps = [.dat (Datum.toD M)] ∧ M.size ≤ 40000 ∧ (∀ r ∈ M.rows, r.length ≤ 40000) ∧ C (.own ((sortU M.deeds).map .str)) n
def h_deeds_by_079b22 : HS :=
    (hSeq (hAsg hDnew 1)
    (hSeq (hFor (hiT (hV 0)) (gN 2) (hDrop (hUpd 1 (hC dictW (hE (hLc (hiT (hV 2)) (gP 3 4) (hB (hC (eqP true) (hL 3 (hE (hK c_HIDDEN) hNil)))) (hTup (hE (hV 3) (hE (hK (.bool true)) hNil))) [3, 4]) hNil)))))
    (hRet (hC (sortDW Str) (hL 1 hNil)))))
theorem rd_deeds_by_079b22 : ∀ pvs n C, pvs.length = 1 → sp_deeds_by_079b22 pvs n C → h_deeds_by_079b22 ⟨fun s => C (.dat .none) s.n, fun p s => C p s.n, fun _ => False, fun _ => False⟩ ⟨pvs.map some ++ List.replicate (5 - pvs.length) none, n⟩ := by
  intro pvs n C _ h
  obtain ⟨M, rfl, hs, hr, c⟩ := h
  unfold h_deeds_by_079b22
  have hM : (Datum.toD M : PyData) = .tuple (M.items.map Datum.toD) := rfl
  rw [hM]
  simp only [hSeq, hAsg, hDnew, hFor, hiT, hV, Sg.put, List.map_cons, List.map_nil, List.length_cons, List.length_nil, List.cons_append, List.nil_append, List.set_cons_succ, List.set_cons_zero, List.replicate, List.getElem?_cons_zero, frz_dat]
  -- the loop, from any dict
  have loop : ∀ (rs : List (Tup (Str × Int))) (kvs : List (Key × PyData)) (o3 : Option PV), (∀ k ∈ kvs.map (·.1), ∃ x : Str, k = .inr x) → (∀ r ∈ rs, r.items.length ≤ 40000) → kvs.length + (rs.map fun r => r.items.length).sum ≤ 40000 →
      (∀ (kvs' : List (Key × PyData)) (o3' : Option PV), (∀ k ∈ kvs'.map (·.1), ∃ x : Str, k = .inr x) → (∀ x : Str, (.inr x : Key) ∈ kvs'.map (·.1) ↔ (.inr x : Key) ∈ kvs.map (·.1) ∨ ∃ r ∈ rs, x ∈ rowDeeds r.items) → C (.own ((sortU M.deeds).map .str)) n →
        (hRet (hC (sortDW Str) (hL 1 hNil))) ⟨fun s => C (.dat .none) s.n, fun p s => C p s.n, fun _ => False, fun _ => False⟩ ⟨[some (.dat (.tuple (M.items.map Datum.toD))), some (.dct kvs'), o3', none, none], n⟩) →
      each (gN 2) (hDrop (hUpd 1 (hC dictW (hE (hLc (hiT (hV 2)) (gP 3 4) (hB (hC (eqP true) (hL 3 (hE (hK c_HIDDEN) hNil)))) (hTup (hE (hV 3) (hE (hK (.bool true)) hNil))) [3, 4]) hNil))))
        ⟨(hRet (hC (sortDW Str) (hL 1 hNil))) ⟨fun s => C (.dat .none) s.n, fun p s => C p s.n, fun _ => False, fun _ => False⟩, fun p s => C p s.n, fun _ => False, fun _ => False⟩ (rs.map Datum.toD) ⟨[some (.dat (.tuple (M.items.map Datum.toD))), some (.dct kvs), o3, none, none], n⟩ := by
    intro rs
    induction rs with
    | nil =>
      intro kvs o3 hk _ _ fin
      exact fin kvs o3 hk (fun x => ⟨Or.inl, fun h => h.elim id fun ⟨r, hr, _⟩ => by cases hr⟩) c
    | cons r rs ih =>
      intro kvs o3 hk hrl hsum fin
      have hr0 := hrl r List.mem_cons_self
      have hsum' : kvs.length + (r.items.length + (rs.map fun r => r.items.length).sum) ≤ 40000 := by simpa using hsum
      have hrD : (Datum.toD r : PyData) = .tuple (r.items.map Datum.toD) := rfl
      simp only [List.map_cons, each, gN, hDrop, hUpd, hC, hE, hLc, hiT, hV, Sg.put, Sg.wipe, List.set_cons_succ, List.set_cons_zero, List.getElem?_cons_succ, List.getElem?_cons_zero, frz_dat, hrD, List.foldr]
      refine ⟨⟨_, rfl⟩, ?_⟩
      refine lcs_filter (fun p : Str × Int => (Datum.toD p : PyData)) (fun p => .tuple [.str p.1, .bool true]) (fun p => decide (p.1 ≠ ("" : Str))) (fun a ha K hK => ?_) [] _ (by simp; omega) ?_
      · show gP 3 4 (.tuple [.str a.1, .int a.2]) _ _
        simp
        by_cases he : a.1 = ("" : Str)
        · have e : decide (a.1 ≠ ("" : Str)) = false := by simp [he]
          refine Or.inl ⟨he, ?_⟩
          rw [← e]
          exact hK _ (fun _ => by simp) fun h => absurd h (by rw [e]; decide)
        · have e : decide (a.1 ≠ ("" : Str)) = true := by simp [he]
          refine Or.inr ⟨he, ?_⟩
          rw [← e]
          refine hK _ (fun h => absurd h (by rw [e]; decide)) fun _ K2 hK2 => ?_
          simp
          refine hK2 _ ?_
          simp
      · have hp := pairs_txt ((r.items.filter fun p => decide (p.1 ≠ ("" : Str))).map (·.1))
        rw [List.map_map, List.map_map] at hp
        have fl : (r.items.filter fun p => decide (p.1 ≠ ("" : Str))).length ≤ r.items.length := List.length_filter_le _ _
        have ml := mergeD_len (kvs := []) (more := (r.items.filter fun p => decide (p.1 ≠ ("" : Str))).map ((fun x : Str => ((Sum.inr x : Key), PyData.bool true)) ∘ (·.1)))
        simp only [List.length_nil, List.length_map] at ml
        refine ⟨_, rfl, _, _, rfl, hp, _, kvs, rfl, rfl, by omega, ?_⟩
        have mk := fun (x : Key) => mergeD_keys (kvs := kvs) (more := mergeD [] ((r.items.filter fun p => decide (p.1 ≠ ("" : Str))).map ((fun x : Str => ((Sum.inr x : Key), PyData.bool true)) ∘ (·.1)))) x
        have mk2 := fun (x : Key) => mergeD_keys (kvs := []) (more := (r.items.filter fun p => decide (p.1 ≠ ("" : Str))).map ((fun x : Str => ((Sum.inr x : Key), PyData.bool true)) ∘ (·.1))) x
        have mk3 : ∀ x : Key, x ∈ ((r.items.filter fun p => decide (p.1 ≠ ("" : Str))).map ((fun x : Str => ((Sum.inr x : Key), PyData.bool true)) ∘ (·.1))).map (·.1) ↔ ∃ y ∈ rowDeeds r.items, x = .inr y := fun x => by
          simp only [rowDeeds, List.mem_map, Function.comp]
          constructor
          · rintro ⟨q, ⟨a, ha, rfl⟩, rfl⟩
            exact ⟨a.1, ⟨a, ha, rfl⟩, rfl⟩
          · rintro ⟨y, ⟨a, ha, rfl⟩, rfl⟩
            exact ⟨_, ⟨a, ha, rfl⟩, rfl⟩
        have all : ∀ x : Key, x ∈ (mergeD kvs (mergeD [] ((r.items.filter fun p => decide (p.1 ≠ ("" : Str))).map ((fun x : Str => ((Sum.inr x : Key), PyData.bool true)) ∘ (·.1))))).map (·.1) ↔ x ∈ kvs.map (·.1) ∨ ∃ y ∈ rowDeeds r.items, x = .inr y := fun x => by
          rw [mk, mk2, mk3]
          simp
        refine ih _ _ (fun k hk2 => ?_) (fun q hq => hrl q (List.mem_cons_of_mem _ hq)) ?_ fun kvs' o3' hk3 hm3 c3 => ?_
        · rcases (all k).mp hk2 with h | ⟨y, _, rfl⟩
          · exact hk k h
          · exact ⟨y, rfl⟩
        · have := mergeD_len (kvs := kvs) (more := mergeD [] ((r.items.filter fun p => decide (p.1 ≠ ("" : Str))).map ((fun x : Str => ((Sum.inr x : Key), PyData.bool true)) ∘ (·.1))))
          omega
        · refine fin kvs' o3' hk3 (fun x => ?_) c3
          rw [hm3 x, all]
          constructor
          · rintro ((h | ⟨y, hy, e⟩) | ⟨q, hq, h⟩)
            · exact Or.inl h
            · exact Or.inr ⟨r, List.mem_cons_self, by rw [Sum.inr.inj e]; exact hy⟩
            · exact Or.inr ⟨q, List.mem_cons_of_mem _ hq, h⟩
          · rintro (h | ⟨q, hq, h⟩)
            · exact Or.inl (Or.inl h)
            · rcases List.mem_cons.mp hq with rfl | hq
              · exact Or.inl (Or.inr ⟨x, h, rfl⟩)
              · exact Or.inr ⟨q, hq, h⟩
  refine loop M.items [] none (fun k hk => by cases hk) (fun r hr' => hr r.items (List.mem_map.mpr ⟨r, hr', rfl⟩)) (by simpa [Mch.size, Mch.rows, Function.comp_def] using hs) fun kvs' o3' hk hm c => ?_
  obtain ⟨xs, ex⟩ := txt_keys hk
  simp
  refine ⟨xs, ex, ?_⟩
  have e : sortU xs = sortU M.deeds := sortU_eq (sortU_rising xs) fun x => by
    rw [mem_sortU]
    have z := hm x
    rw [ex] at z
    have l : (Sum.inr x : Key) ∈ xs.map FK.key ↔ x ∈ xs := by
      constructor
      · intro h
        obtain ⟨y, hy, e⟩ := List.mem_map.mp h
        rw [← Sum.inr.inj (show (Sum.inr y : Key) = Sum.inr x from e)]; exact hy
      · intro h
        exact List.mem_map.mpr ⟨x, h, rfl⟩
    rw [← l, z]
    simp only [Mch.deeds, Mch.rows, List.mem_flatten, List.mem_map, List.map_nil, List.not_mem_nil, false_or]
    constructor
    · rintro ⟨r, hr, hx⟩
      exact ⟨_, ⟨r.items, ⟨r, hr, rfl⟩, rfl⟩, hx⟩
    · rintro ⟨_, ⟨_, ⟨r, hr, rfl⟩, rfl⟩, hx⟩
      exact ⟨r, hr, hx⟩
  rw [e]
  exact c
end Sk
set_option Elab.async false
set_option linter.all false
set_option maxRecDepth 100000
set_option maxHeartbeats 2000000
namespace Sk
open PySem PySem.Spec PyProof.Rows L2
open PySem.W (Datum DatumOrd Tup T3 T4)
open Evl (Ex)
structure MOk (M : Mch) : Prop where
  lo : 1 ≤ M.items.length
  hi : M.items.length ≤ 300
  mv : ∀ r ∈ M.items, ∀ p ∈ r.items, 0 ≤ p.2 ∧ p.2 < M.items.length ∧ (isWordS p.1 = true ∨ p.1 = ("" : Str))
  up : ∀ r ∈ M.items, Rising r.items
  ds : (sortU M.deeds).length ≤ 8
  sz : M.size ≤ 40000
theorem MOk.row {M : Mch} (h : MOk M) : ∀ r ∈ M.rows, r.length ≤ 40000 := fun r hr => by
  have gen : ∀ (rs : List (List (Str × Int))), r ∈ rs → r.length ≤ (rs.map List.length).sum := fun rs => by
    induction rs with
    | nil => intro h; cases h
    | cons q rs ih =>
      intro h
      rw [List.map_cons, List.sum_cons]
      rcases List.mem_cons.mp h with rfl | h
      · omega
      · have := ih h; omega
  exact Nat.le_trans (gen _ hr) h.sz
theorem word_len {z : Str} (h : isWordS z = true ∨ z = ("" : Str)) : z.length ≤ sizeLine := by
  rcases h with h | rfl
  · unfold isWordS at h
    simp at h
    have := h.1.1.2
    rw [sizeLine_eq]; omega
  · exact Nat.zero_le _
theorem isMove_ok {p : Str × Int} {m : Int} (h0 : 0 ≤ p.2) (h1 : p.2 < m) (h2 : isWordS p.1 = true ∨ p.1 = ("" : Str)) : isMoveD (Datum.toD p) m = true := by
  show (isNumD (.int p.2) m && (isWordD (.str p.1) || isEmptyD (.str p.1))) = true
  simp [isNumD, isWordD, isEmptyD, h0, h1, h2]
theorem chain_ok : ∀ {xs : List (Str × Int)}, Rising xs → chainLt xs = true
  | [], _ => rfl
  | [x], _ => rfl
  | x :: y :: r, h => by
    have h1 : DatumOrd.lt x y = true := (List.pairwise_cons.mp h).1 y List.mem_cons_self
    have ih := chain_ok (xs := y :: r) (List.pairwise_cons.mp h).2
    unfold chainLt at ih ⊢
    simp only [List.drop_succ_cons, List.drop_zero, List.zip_cons_cons, List.all_cons, h1, Bool.true_and] at ih ⊢
    exact ih
theorem MOk.isRow {M : Mch} (h : MOk M) {r : Tup (Str × Int)} (hr : r ∈ M.items) : isRowD (Datum.toD r) M.items.length = true := by
  show ((r.items.map Datum.toD).all (isMoveD · M.items.length) && chainLt ((r.items.map Datum.toD).map mvOf)) = true
  have e : (r.items.map Datum.toD).map mvOf = r.items := by
    rw [List.map_map]
    exact List.map_id'' (fun p => rfl) _
  rw [e, chain_ok (h.up r hr), Bool.and_true, List.all_eq_true]
  intro d hd
  obtain ⟨p, hp, rfl⟩ := List.mem_map.mp hd
  obtain ⟨a, b, c⟩ := h.mv r hr p hp
  exact isMove_ok a b c
def sp_is_machine_569ab3 : HSp := fun ps n C => ∃ M : Mch, ps = [.dat (Datum.toD M)] ∧ MOk M ∧ C (.dat (.bool true)) n
def h_is_machine_569ab3 : HS :=
    (hSeq (hIfS (hOr (hNot (hB (hC isiW (hL 0 (fun s C => hNil s fun ps s2 => C (.val (.ty "tuple") :: ps) s2))))) (hNot (hB (hChain leW leW (hE (hK (.int 1))) (hE (hC lenW (hL 0 hNil))) (hE (hK c_MOST_NODES)))))) (hRet (hK (.bool false))) hNext)
    (hRet (hAndV (hC (allW fun bs => bs.all id) (hE (hLc (hiT (hV 0)) (gN 1) hYes (hCall sp_is_node_row_5d6d4a 2 (hL 1 (hE (hC lenW (hL 0 hNil)) hNil))) [1]) hNil)) (hC leW (hE (hC lenW (hE (hCall sp_deeds_by_079b22 1 (hL 0 hNil)) hNil)) (hE (hK c_MOST_DEEDS) hNil))))))
theorem rd_is_machine_569ab3 : ∀ pvs n C, pvs.length = 1 → sp_is_machine_569ab3 pvs n C → h_is_machine_569ab3 ⟨fun s => C (.dat .none) s.n, fun p s => C p s.n, fun _ => False, fun _ => False⟩ ⟨pvs.map some ++ List.replicate (2 - pvs.length) none, n⟩ := by
  intro pvs n C _ h
  obtain ⟨M, rfl, ok, c⟩ := h
  unfold h_is_machine_569ab3
  have hM : (Datum.toD M : PyData) = .tuple (M.items.map Datum.toD) := rfl
  rw [hM]
  have lo := ok.lo
  have hi := ok.hi
  have a1 : ¬ ((M.items.length : Int) < 1) := by omega
  have a2 : ¬ ((300 : Int) < M.items.length) := by omega
  have a3 : (1 : Int) ≤ M.items.length := by omega
  have a4 : (M.items.length : Int) ≤ 300 := by omega
  simp [a1, a2, a3, a4]
  refine lcs_map (fun r : Tup (Str × Int) => (Datum.toD r : PyData)) (fun _ => .bool true) (fun r hr K hK => ?_) [] _ (by simp; omega) ?_
  · simp [sp_is_node_row_5d6d4a]
    refine ⟨Datum.toD r, M.items.length, ⟨rfl, rfl⟩, fun ds hds => ?_, ?_⟩
    · have e : ds = r.items.map Datum.toD := (PyData.tuple.inj hds).symm
      subst e
      have hr' : r.items ∈ M.rows := List.mem_map.mpr ⟨r, hr, rfl⟩
      refine ⟨by have := ok.row _ hr'; simp; omega, fun z x hx => ?_⟩
      obtain ⟨p, hp, e⟩ := List.mem_map.mp hx
      have e : PyData.tuple [.str p.1, .int p.2] = .tuple [.str z, x] := e
      simp at e
      rw [← e.1]
      exact word_len (ok.mv r hr p hp).2.2
    · rw [ok.isRow hr]
      refine hK _ ?_
      simp
  · simp
    refine allW_b (bs := M.items.map fun _ => true) (by simp) ?_
    have e : ((M.items.map fun _ => true).all id) = true := by simp
    rw [e]
    simp [sp_deeds_by_079b22]
    refine ⟨M, rfl, ok.sz, ok.row, ?_⟩
    have := ok.ds
    have e2 : decide (((sortU M.deeds).length : Int) ≤ 8) = true := decide_eq_true (by omega)
    rw [e2]
    exact c
def sp_need_machine_f4028c : HSp := fun ps n C => ∃ M : Mch, ps = [.dat (Datum.toD M)] ∧ MOk M ∧ C (.dat .none) n
def h_need_machine_f4028c : HS :=
    (hIfS (hNot (hB (hCall sp_is_machine_569ab3 1 (hL 0 hNil)))) hNever hNext)
theorem rd_need_machine_f4028c : ∀ pvs n C, pvs.length = 1 → sp_need_machine_f4028c pvs n C → h_need_machine_f4028c ⟨fun s => C (.dat .none) s.n, fun p s => C p s.n, fun _ => False, fun _ => False⟩ ⟨pvs.map some ++ List.replicate (1 - pvs.length) none, n⟩ := by
  intro pvs n C _ h
  obtain ⟨M, rfl, ok, c⟩ := h
  unfold h_need_machine_f4028c
  simp [sp_is_machine_569ab3]
  exact ⟨M, rfl, ok, c⟩
def sp_deeds_of_32170a : HSp := fun ps n C => ∃ M : Mch, ps = [.dat (Datum.toD M)] ∧ MOk M ∧ C (.dat (.tuple ((sortU M.deeds).map .str))) n
def h_deeds_of_32170a : HS :=
    (hSeq (hDrop (hCall sp_need_machine_f4028c 1 (hL 0 hNil)))
    (hRet (hC tupW (hE (hCall sp_deeds_by_079b22 1 (hL 0 hNil)) hNil))))
theorem rd_deeds_of_32170a : ∀ pvs n C, pvs.length = 1 → sp_deeds_of_32170a pvs n C → h_deeds_of_32170a ⟨fun s => C (.dat .none) s.n, fun p s => C p s.n, fun _ => False, fun _ => False⟩ ⟨pvs.map some ++ List.replicate (1 - pvs.length) none, n⟩ := by
  intro pvs n C _ h
  obtain ⟨M, rfl, ok, c⟩ := h
  unfold h_deeds_of_32170a
  simp [sp_need_machine_f4028c, sp_deeds_by_079b22]
  exact ⟨M, rfl, ok, M, rfl, ok.sz, ok.row, c⟩
/-- the nodes that one comes to -/
inductive Reach (M : Mch) : Int → Prop
  | start : Reach M 0
  | step {x : Int} {r : List (Str × Int)} {p : Str × Int} : Reach M x → M.rows[x.toNat]? = some r → p ∈ r → Reach M p.2
end Sk
set_option Elab.async false
set_option linter.all false
set_option maxRecDepth 100000
set_option maxHeartbeats 2000000
namespace Sk
open PySem PySem.Spec PyProof.Rows L2
open PySem.W (Datum DatumOrd Tup T3 T4)
open Evl (Ex)
def mkm (ks : List Int) : List (Key × PyData) := ks.map fun k => ((.inl k : Key), PyData.bool true)
theorem get_mkm (k : Int) : ∀ ks : List Int, (getD' (mkm ks) (.inl k)).isSome = decide (k ∈ ks)
  | [] => rfl
  | x :: ks => by
    have ih := get_mkm k ks
    unfold getD' mkm at ih ⊢
    by_cases e : x = k
    · subst e; simp
    · have e2 : ¬ ((Sum.inl x : Key) = Sum.inl k) := fun z => e (Sum.inl.inj z)
      have e3 : ¬ k = x := fun z => e z.symm
      simp only [List.map_cons, List.find?_cons, e2, decide_false, List.mem_cons, e3, false_or]
      exact ih
theorem put_mkm {k : Int} {ks : List Int} (h : k ∉ ks) : putD (mkm ks) (.inl k) (.bool true) = mkm (ks ++ [k]) := by
  unfold putD
  have e : ((mkm ks).any fun kv => decide (kv.1 = (.inl k : Key))) = false := by
    rw [List.any_eq_false]
    intro p hp
    obtain ⟨x, hx, rfl⟩ := List.mem_map.mp hp
    intro z
    exact h (by rw [← Sum.inl.inj (of_decide_eq_true z)]; exact hx)
  rw [if_neg (by rw [e]; decide)]
  simp [mkm]
/-- while the nodes are gone through; ex: whose moves are not all looked at -/
structure Going (M : Mch) (ex : Int → Prop) (ks ws : List Int) : Prop where
  nd : ks.Nodup
  rng : ∀ k ∈ ks, 0 ≤ k ∧ k < M.items.length
  rch : ∀ k ∈ ks, Reach M k
  sub : ∀ x ∈ ws, x ∈ ks
  zero : (0 : Int) ∈ ks
  cl : ∀ x ∈ ks, x ∉ ws → ¬ ex x → ∀ r, M.rows[x.toNat]? = some r → ∀ p ∈ r, p.2 ∈ ks
theorem Going.small {M : Mch} {ex : Int → Prop} {ks ws : List Int} (h : Going M ex ks ws) : ks.length ≤ M.items.length := by
  have := nodup_le ks ((List.range M.items.length).map fun i => ((i : Nat) : Int)) h.nd fun k hk => by
    obtain ⟨a, b⟩ := h.rng k hk
    exact List.mem_map.mpr ⟨k.toNat, List.mem_range.mpr (by omega), by omega⟩
  simpa using this
def sp_come_to_38411a : HSp := fun ps n C => ∃ M : Mch, ps = [.dat (Datum.toD M)] ∧ MOk M ∧ ∀ xs : List Int, Rising xs → (∀ x, x ∈ xs ↔ Reach M x) → C (.own (xs.map .int)) n
abbrev comeBody : HS := hIfS (hB (hC (dinW true) (hL 4 (hL 1 hNil)))) (hSeq (hDput 1 (hK (PyData.bool true)) (hV 4)) (hDrop (hApp 2 (hV 4)))) hNext
theorem come_row {M : Mch} (ok : MOk M) {w : Int} {n : Nat} {D : HD} : ∀ (rest : List (Str × Int)) (ks ws : List Int) (o3 o4 : Option PV), Going M (fun x => x = w) ks ws → (∀ p ∈ rest, Reach M p.2 ∧ 0 ≤ p.2 ∧ p.2 < M.items.length) → ws.length + 2 * (M.items.length - ks.length) ≤ 1000 →
    (∀ (ks' ws' : List Int) (o3' o4' : Option PV), Going M (fun x => x = w) ks' ws' → (∀ k ∈ ks, k ∈ ks') → (∀ p ∈ rest, p.2 ∈ ks') → 2 * (M.items.length - ks'.length) + ws'.length ≤ 2 * (M.items.length - ks.length) + ws.length → D.nx ⟨[some (.dat (Datum.toD M)), some (.dct (mkm ks')), some (.own (ws'.map .int)), o3', o4'], n⟩) →
    each (gP 3 4) comeBody D (rest.map Datum.toD) ⟨[some (.dat (Datum.toD M)), some (.dct (mkm ks)), some (.own (ws.map .int)), o3, o4], n⟩ := by
  intro rest
  induction rest with
  | nil => intro ks ws o3 o4 g _ _ fin; exact fin ks ws o3 o4 g (fun _ h => h) (fun p hp => by cases hp) (Nat.le_refl _)
  | cons p rest ih =>
    intro ks ws o3 o4 g hr hm fin
    obtain ⟨h1, h2, h3⟩ := hr p List.mem_cons_self
    have small := g.small
    have lo := ok.lo
    have hi := ok.hi
    show gP 3 4 (.tuple [.str p.1, .int p.2]) _ _
    have din : ∀ C : PV → Prop, C (.dat (.bool (!decide (p.2 ∈ ks)))) → dinW true [.dat (.int p.2), .dct (mkm ks)] C := fun C c => ⟨.inl p.2, rfl, by rw [get_mkm]; exact c⟩
    by_cases hp : p.2 ∈ ks
    · simp
      refine din _ ?_
      simp [hp]
      refine ih ks ws _ _ g (fun q hq => hr q (List.mem_cons_of_mem _ hq)) hm fun ks' ws' o3' o4' g' s' t' m' => fin ks' ws' o3' o4' g' s' (fun q hq => ?_) m'
      rcases List.mem_cons.mp hq with rfl | hq
      · exact s' _ hp
      · exact t' q hq
    · simp
      refine din _ ?_
      simp [hp]
      have kl : (mkm ks).length < 100000 := by simp [mkm]; omega
      refine ⟨kl, by omega, ?_⟩
      rw [put_mkm hp]
      have e : (ws.map PyData.int) ++ [.int p.2] = (ws ++ [p.2]).map .int := by simp
      rw [e]
      have g2 : Going M (fun x => x = w) (ks ++ [p.2]) (ws ++ [p.2]) := by
        refine ⟨?_, fun k hk => ?_, fun k hk => ?_, fun x hx => ?_, List.mem_append_left _ g.zero, fun x hx hw ne r hrr q hq => ?_⟩
        · rw [List.nodup_append]
          exact ⟨g.nd, by simp, fun a ha b hb e => by rw [List.mem_singleton.mp hb] at e; exact hp (e ▸ ha)⟩
        · rcases List.mem_append.mp hk with hk | hk
          · exact g.rng k hk
          · rw [List.mem_singleton.mp hk]; exact ⟨h2, h3⟩
        · rcases List.mem_append.mp hk with hk | hk
          · exact g.rch k hk
          · rw [List.mem_singleton.mp hk]; exact h1
        · rcases List.mem_append.mp hx with hx | hx
          · exact List.mem_append_left _ (g.sub x hx)
          · exact List.mem_append_right _ hx
        · rcases List.mem_append.mp hx with hx | hx
          · exact List.mem_append_left _ (g.cl x hx (fun z => hw (List.mem_append_left _ z)) ne r hrr q hq)
          · exact absurd (List.mem_append_right _ hx) hw
      have sm2 := g2.small
      simp at sm2
      refine ih _ _ _ _ g2 (fun q hq => hr q (List.mem_cons_of_mem _ hq)) (by simp; omega) fun ks' ws' o3' o4' g' s' t' m' => fin ks' ws' o3' o4' g' (fun k hk => s' k (List.mem_append_left _ hk)) (fun q hq => ?_) (by simp at m'; omega)
      rcases List.mem_cons.mp hq with rfl | hq
      · exact s' _ (List.mem_append_right _ (List.mem_singleton.mpr rfl))
      · exact t' q hq
def h_come_to_38411a : HS :=
    (hSeq (hDrop (hCall sp_need_machine_f4028c 1 (hL 0 hNil)))
    (hSeq (hAsg (hD1 (.inl 0) (.bool true)) 1)
    (hSeq (hAsg (hLst (hE (hK (.int 0)) hNil)) 2)
    (hSeq (hWhile (hB (hC (eqP true) (hL 2 (hE (hLst hNil) hNil)))) (hFor (hiT (hC ixW (hL 0 (hE (hPop 2) hNil)))) (gP 3 4) (hIfS (hB (hC (dinW true) (hL 4 (hL 1 hNil)))) (hSeq (hDput 1 (hK (.bool true)) (hV 4))
    (hDrop (hApp 2 (hV 4)))) hNext)))
    (hRet (hC (sortDW Int) (hL 1 hNil)))))))
theorem rd_come_to_38411a : ∀ pvs n C, pvs.length = 1 → sp_come_to_38411a pvs n C → h_come_to_38411a ⟨fun s => C (.dat .none) s.n, fun p s => C p s.n, fun _ => False, fun _ => False⟩ ⟨pvs.map some ++ List.replicate (5 - pvs.length) none, n⟩ := by
  intro pvs n C _ h
  obtain ⟨M, rfl, ok, c⟩ := h
  unfold h_come_to_38411a
  simp [sp_need_machine_f4028c]
  refine ⟨M, rfl, ok, ?_⟩
  have lo := ok.lo
  have hi := ok.hi
  refine ⟨fun s => ∃ (ks ws : List Int) (o3 o4 : Option PV), s = ⟨[some (.dat (Datum.toD M)), some (.dct (mkm ks)), some (.own (ws.map .int)), o3, o4], n⟩ ∧ Going M (fun _ => False) ks ws ∧ ws.length + 2 * (M.items.length - ks.length) ≤ 1000, fun s => match s.sl with
    | [_, some (.dct kvs), some (.own ws), _, _] => 2 * (M.items.length - kvs.length) + ws.length
    | _ => 0, ⟨[0], [0], none, none, rfl, ⟨by simp, fun k hk => ?_, fun k hk => ?_, fun x hx => hx, List.mem_singleton.mpr rfl, fun x hx hw => absurd hx hw⟩, by simp; omega⟩, ?_⟩
  · rw [List.mem_singleton.mp hk]; omega
  · rw [List.mem_singleton.mp hk]; exact .start
  rintro _ ⟨ks, ws, o3, o4, rfl, g, hm⟩
  have small := g.small
  simp [dats]
  refine eqP_D (α := List Int) ws [] rfl rfl (by decide) ?_
  rcases List.eq_nil_or_concat ws with rfl | ⟨ws', w, rfl⟩
  · simp [sortDW]
    refine ⟨ks, by simp [mkm]; intro a _; rfl, ?_⟩
    refine c _ (sortU_rising ks) fun x => ?_
    rw [mem_sortU]
    constructor
    · exact g.rch x
    · intro h
      induction h with
      | start => exact g.zero
      | step _ hr hp ih => exact g.cl _ ih (by simp) (fun z => z) _ hr _ hp
  · have wk : w ∈ ks := g.sub w (by simp)
    obtain ⟨w0, w1⟩ := g.rng w wk
    have hwl : w.toNat < M.items.length := by omega
    have hrow : M.items[w.toNat]? = some M.items[w.toNat] := List.getElem?_eq_getElem hwl
    have hrm : M.items[w.toNat] ∈ M.items := List.getElem_mem hwl
    have hrr : M.rows[w.toNat]? = some (M.items[w.toNat]).items := by
      unfold Mch.rows
      rw [List.getElem?_map, hrow]; rfl
    have hat : atI (M.items.map (Datum.toD : Tup (Str × Int) → PyData)) w = some (Datum.toD M.items[w.toNat]) := by
      unfold atI ixN
      rw [List.length_map, if_pos w0, if_pos (by omega)]
      show (M.items.map Datum.toD)[w.toNat]? = _
      rw [List.getElem?_map, hrow]; rfl
    have hM : (Datum.toD M : PyData) = .tuple (M.items.map Datum.toD) := rfl
    have hR : (Datum.toD M.items[w.toNat] : PyData) = .tuple ((M.items[w.toNat]).items.map Datum.toD) := rfl
    simp
    show ixW [PV.dat (.tuple (M.items.map Datum.toD)), .dat (.int w)] _
    rw [ix_tup]
    refine ⟨_, hat, ?_⟩
    have g1 : Going M (fun x => x = w) ks ws' := ⟨g.nd, g.rng, g.rch, fun x hx => g.sub x (by simp [hx]), g.zero, fun x hx hn ne r hr p hp => g.cl x hx (by simp; exact ⟨hn, ne⟩) (fun z => z) r hr p hp⟩
    have hm' : ws'.length + 1 + 2 * (M.items.length - ks.length) ≤ 1000 := by simpa using hm
    refine come_row ok (w := w) (M.items[w.toNat]).items ks ws' o3 o4 g1 (fun p hp => ?_) (by omega) fun ks' ws2 o3' o4' g' s' t' m' => ?_
    · obtain ⟨a, b, _⟩ := ok.mv _ hrm p hp
      exact ⟨.step (g.rch w wk) hrr hp, a, b⟩
    · have sm := g'.small
      refine ⟨⟨ks', ws2, ⟨o3', o4', rfl⟩, ⟨g'.nd, g'.rng, g'.rch, g'.sub, g'.zero, fun x hx hn _ r hr p hp => ?_⟩, by omega⟩, ?_⟩
      · by_cases e : x = w
        · subst e
          rw [hrr] at hr
          cases hr
          exact t' p hp
        · exact g'.cl x hx hn e r hr p hp
      · have l1 : (mkm ks).length = ks.length := by simp [mkm]
        have l2 : (mkm ks').length = ks'.length := by simp [mkm]
        show 2 * (M.items.length - (mkm ks').length) + (ws2.map PyData.int).length < _
        rw [l1, l2, List.length_map]
        omega
end Sk
set_option Elab.async false
set_option linter.all false
set_option maxRecDepth 100000
set_option maxHeartbeats 2000000
namespace Sk
open PySem PySem.Spec PyProof.Rows L2
open PySem.W (Datum DatumOrd Tup T3 T4)
open Evl (Ex)
theorem cmul {i j : Int} (h : i.natAbs < 2 ^ 100) (h2 : j.natAbs < 2 ^ 100) : CMulW i j := wide_mul h h2 (by decide) (by decide) (by decide)
abbrev sp__law_mixed_2d863d : HSp := spMixed
def h__law_mixed_2d863d : HS :=
    (hSeq (hAsg (hC addW (hE (hC addW (hE (hC modW (hE (hC mulW' (hE (hC mulW' (hL 0 (hE (hC addW (hE (hK (.int 1)) (hE (hC mulW' (hE (hK (.int 2)) (hL 1 hNil))) hNil))) hNil))) (hE (hK (.int 48271)) hNil))) (hE (hK (.int 2147483647)) hNil))) (hE (hC mulW' (hE (hC mulW' (hE (hK (.int 7919)) (hL 1 hNil))) (hL 1 hNil))) hNil))) (hE (hC mulW' (hE (hK (.int 104729)) (hL 1 hNil))) hNil))) 2)
    (hRet (hC fdivW (hE (hC modW (hE (hC mulW' (hL 2 (hE (hK (.int 69621)) hNil))) (hE (hK (.int 2147483629)) hNil))) (hE (hK (.int 7)) hNil)))))
theorem rd__law_mixed_2d863d : ∀ pvs n C, pvs.length = 2 → sp__law_mixed_2d863d pvs n C → h__law_mixed_2d863d ⟨fun s => C (.dat .none) s.n, fun p s => C p s.n, fun _ => False, fun _ => False⟩ ⟨pvs.map some ++ List.replicate (3 - pvs.length) none, n⟩ := by
  intro pvs n C _ h
  obtain ⟨c, k, rfl, c0, c1, k0, k1, q⟩ := h
  unfold h__law_mixed_2d863d
  have a1 : 0 ≤ c * (1 + 2 * k) := Int.mul_nonneg c0 (by omega)
  have a2 : c * (1 + 2 * k) ≤ 4294967296 * 1073741825 := Int.mul_le_mul (by omega) (by omega) (by omega) (by decide)
  have b0 : 0 ≤ 7919 * k * k := Int.mul_nonneg (by omega) k0
  have b1 : 7919 * k * k ≤ (7919 * 536870912) * 536870912 := Int.mul_le_mul (by omega) (by omega) (by omega) (by decide)
  have m0 : 0 ≤ c * (1 + 2 * k) * 48271 % 2147483647 := Int.emod_nonneg _ (by decide)
  have m1 : c * (1 + 2 * k) * 48271 % 2147483647 < 2147483647 := Int.emod_lt_of_pos _ (by decide)
  generalize hx : c * (1 + 2 * k) = x at *
  generalize hy : 7919 * k * k = y at *
  generalize hz : x * 48271 % 2147483647 = z at *
  simp [hx, hy, hz]
  have e2 : (2 : Nat) ^ 100 = 1267650600228229401496703205376 := by decide
  have n0 : 0 ≤ (z + y + 104729 * k) * 69621 % 2147483629 := Int.emod_nonneg _ (by decide)
  have n1 : (z + y + 104729 * k) * 69621 % 2147483629 < 2147483629 := Int.emod_lt_of_pos _ (by decide)
  refine ⟨cmul (by rw [e2]; omega) (by rw [e2]; omega), cmul (by rw [e2]; omega) (by rw [e2]; omega), cmul (by rw [e2]; omega) (by rw [e2]; omega), cmul (by rw [e2]; omega) (by rw [e2]; omega), cmul (by rw [e2]; omega) (by rw [e2]; omega), cmul (by rw [e2]; omega) (by rw [e2]; omega), cmul (by rw [e2]; omega) (by rw [e2]; omega), wide_div (b := 10) (by decide) (by decide) (by decide) (by decide), q _ ?_ ?_⟩
  · exact Int.ediv_nonneg n0 (by decide)
  · generalize (z + y + 104729 * k) * 69621 % 2147483629 = u at *
    omega
abbrev sp__law_folded_8cf898 : HSp := spFolded
theorem atI_int {cs : List Int} {i : Int} (h0 : 0 ≤ i) (h1 : i < cs.length) : ∃ x, atI (cs.map PyData.int) i = some (.int x) ∧ x ∈ cs ∧ ixN cs.length i = some i.toNat := by
  have hl : i.toNat < cs.length := by omega
  refine ⟨cs[i.toNat], ?_, List.getElem_mem hl, ?_⟩
  · unfold atI ixN
    rw [List.length_map, if_pos h0, if_pos (by omega)]
    show (cs.map PyData.int)[i.toNat]? = _
    rw [List.getElem?_map, List.getElem?_eq_getElem hl]; rfl
  · unfold ixN
    rw [if_pos h0, if_pos h1]
def Cells (cs : List Int) : Prop := cs.length = 64 ∧ ∀ x ∈ cs, 0 ≤ x ∧ x < 2147483647
theorem Cells.set {cs : List Int} (h : Cells cs) {j : Nat} {x : Int} (h0 : 0 ≤ x) (h1 : x < 2147483647) : Cells (cs.set j x) := ⟨by rw [List.length_set]; exact h.1, fun y hy => by
  rcases List.mem_or_eq_of_mem_set hy with hy | rfl
  · exact h.2 y hy
  · exact ⟨h0, h1⟩⟩
theorem fold1 {D : HD} {p0 : Option PV} {n : Nat} : ∀ (ns : List Int) (i : Nat) (cs : List Int) (o2 o3 : Option PV), Cells cs → i + ns.length ≤ 1000 → (∀ (cs' : List Int) (o2' o3' : Option PV), Cells cs' → D.nx ⟨[p0, some (.own (cs'.map .int)), o2', o3'], n⟩) →
    each (gP 2 3) (hSetL 1 (hC modW (hE (hC addW (hE (hC mulW' (hE (hC ixW (hL 1 (hE (hC modW (hL 2 (hE (hK (.int 64)) hNil))) hNil))) (hE (hK (.int 48271)) hNil))) (hL 3 hNil))) (hE (hK (.int 2147483647)) hNil))) (hC modW (hL 2 (hE (hK (.int 64)) hNil)))) D (enumD i (ns.map .int)) ⟨[p0, some (.own (cs.map .int)), o2, o3], n⟩ := by
  intro ns
  induction ns with
  | nil => intro i cs o2 o3 hc _ fin; exact fin cs o2 o3 hc
  | cons x ns ih =>
    intro i cs o2 o3 hc hi fin
    have m0 : 0 ≤ (i : Int) % 64 := Int.emod_nonneg _ (by decide)
    have m1 : (i : Int) % 64 < 64 := Int.emod_lt_of_pos _ (by decide)
    obtain ⟨y, h1, h2, h3⟩ := atI_int (cs := cs) m0 (by rw [hc.1]; exact m1)
    obtain ⟨y0, y1⟩ := hc.2 y h2
    have e2 : (2 : Nat) ^ 100 = 1267650600228229401496703205376 := by decide
    have r0 : 0 ≤ (y * 48271 + x) % 2147483647 := Int.emod_nonneg _ (by decide)
    have r1 : (y * 48271 + x) % 2147483647 < 2147483647 := Int.emod_lt_of_pos _ (by decide)
    simp [enumD, h1]
    refine ⟨cmul (by rw [e2]; omega) (by rw [e2]; omega), _, h3, ?_⟩
    have e : ((cs.map PyData.int).set ((i : Int) % 64).toNat (.int ((y * 48271 + x) % 2147483647))) = (cs.set ((i : Int) % 64).toNat ((y * 48271 + x) % 2147483647)).map .int := by rw [List.map_set]
    rw [e]
    have hi' : i + (ns.length + 1) ≤ 1000 := by simpa using hi
    exact ih (i + 1) _ _ _ (hc.set r0 r1) (by omega) fin
theorem fold2 {D : HD} {p0 : Option PV} {n : Nat} : ∀ (ks : List Nat) (cs : List Int) (o2 o3 : Option PV), Cells cs → (∀ k ∈ ks, k < 63) → (∀ (cs' : List Int) (o2' o3' : Option PV), Cells cs' → D.nx ⟨[p0, some (.own (cs'.map .int)), o2', o3'], n⟩) →
    each (gN 2) (hSetL 1 (hC modW (hE (hC addW (hE (hC ixW (hL 1 (hL 2 hNil))) (hE (hC mulW' (hE (hC ixW (hL 1 (hE (hC subW (hL 2 (hE (hK (.int 1)) hNil))) hNil))) (hE (hK (.int 16807)) hNil))) hNil))) (hE (hK (.int 2147483647)) hNil))) (hV 2)) D (ks.map fun i => .int (1 + (i : Nat))) ⟨[p0, some (.own (cs.map .int)), o2, o3], n⟩ := by
  intro ks
  induction ks with
  | nil => intro cs o2 o3 hc _ fin; exact fin cs o2 o3 hc
  | cons k ks ih =>
    intro cs o2 o3 hc hk fin
    have k1 := hk k List.mem_cons_self
    obtain ⟨y, h1, h2, h3⟩ := atI_int (cs := cs) (i := 1 + (k : Int)) (by omega) (by rw [hc.1]; omega)
    obtain ⟨x, g1, g2, g3⟩ := atI_int (cs := cs) (i := (k : Int)) (by omega) (by rw [hc.1]; omega)
    obtain ⟨y0, y1⟩ := hc.2 y h2
    obtain ⟨x0, x1⟩ := hc.2 x g2
    have e2 : (2 : Nat) ^ 100 = 1267650600228229401496703205376 := by decide
    have r0 : 0 ≤ (y + x * 16807) % 2147483647 := Int.emod_nonneg _ (by decide)
    have r1 : (y + x * 16807) % 2147483647 < 2147483647 := Int.emod_lt_of_pos _ (by decide)
    have ek : (1 : Int) + k - 1 = k := by omega
    simp [h1, ek, g1]
    refine ⟨cmul (by rw [e2]; omega) (by rw [e2]; omega), _, h3, ?_⟩
    have e : ((cs.map PyData.int).set (1 + (k : Int)).toNat (.int ((y + x * 16807) % 2147483647))) = (cs.set (1 + (k : Int)).toNat ((y + x * 16807) % 2147483647)).map .int := by rw [List.map_set]
    rw [e]
    exact ih _ _ _ (hc.set r0 r1) (fun q hq => hk q (List.mem_cons_of_mem _ hq)) fin
def h__law_folded_8cf898 : HS :=
    (hSeq (hAsg (hLc (hiR1 (hE (hK (.int 64)) hNil)) (gN 2) hYes (hC addW (hE (hK (.int 17)) (hL 2 hNil))) [2]) 1)
    (hSeq (hFor (hiE (hE (hV 0) hNil)) (gP 2 3) (hSetL 1 (hC modW (hE (hC addW (hE (hC mulW' (hE (hC ixW (hL 1 (hE (hC modW (hL 2 (hE (hK (.int 64)) hNil))) hNil))) (hE (hK (.int 48271)) hNil))) (hL 3 hNil))) (hE (hK (.int 2147483647)) hNil))) (hC modW (hL 2 (hE (hK (.int 64)) hNil)))))
    (hSeq (hFor (hiR2 (hE (hK (.int 1)) (hE (hK (.int 64)) hNil))) (gN 2) (hSetL 1 (hC modW (hE (hC addW (hE (hC ixW (hL 1 (hL 2 hNil))) (hE (hC mulW' (hE (hC ixW (hL 1 (hE (hC subW (hL 2 (hE (hK (.int 1)) hNil))) hNil))) (hE (hK (.int 16807)) hNil))) hNil))) (hE (hK (.int 2147483647)) hNil))) (hV 2)))
    (hRet (hM 1)))))
theorem rd__law_folded_8cf898 : ∀ pvs n C, pvs.length = 1 → sp__law_folded_8cf898 pvs n C → h__law_folded_8cf898 ⟨fun s => C (.dat .none) s.n, fun p s => C p s.n, fun _ => False, fun _ => False⟩ ⟨pvs.map some ++ List.replicate (4 - pvs.length) none, n⟩ := by
  intro pvs n C _ h
  obtain ⟨ns, rfl, hn, q⟩ := h
  unfold h__law_folded_8cf898
  simp [rngD]
  refine lcs_map (fun i : Nat => PyData.int (i : Nat)) (fun i => .int (17 + (i : Nat))) (fun a _ K hK => ?_) [] _ (by simp) ?_
  · simp
    refine hK _ ?_
    simp
  · simp only [List.nil_append]
    have e : (List.range 64).map (fun i : Nat => PyData.int (17 + (i : Nat))) = ((List.range 64).map fun i : Nat => (17 : Int) + (i : Nat)).map .int := by simp
    rw [e]
    refine fold1 ns 0 _ _ _ ⟨by simp, fun x hx => ?_⟩ (by omega) fun cs o2 o3 hc => ?_
    · obtain ⟨i, hi, rfl⟩ := List.mem_map.mp hx
      have := List.mem_range.mp hi
      omega
    · simp [rngD]
      refine fold2 (List.range 63) cs _ _ hc (fun k hk => List.mem_range.mp hk) fun cs' o2' o3' hc' => ?_
      simp
      exact q cs' hc'.1 hc'.2
end Sk
set_option Elab.async false
set_option linter.all false
set_option maxRecDepth 100000
set_option maxHeartbeats 4000000
namespace Sk
open PySem PySem.Spec PyProof.Rows L2
open PySem.W (Datum DatumOrd Tup T3 T4)
open Evl (Ex)
open TL (tl tl_append tl_join joinL)
/-- texts of letters alone -/
def Lets (z : Str) : Prop := ∀ c ∈ z.cps.toList, c ∈ letters.cps
theorem letter_at (i : Int) : ∃ c, atI (letters.cps.toList) (i % 26) = some c ∧ c ∈ letters.cps := by
  have m0 : 0 ≤ i % 26 := Int.emod_nonneg _ (by decide)
  have m1 : i % 26 < 26 := Int.emod_lt_of_pos _ (by decide)
  have hl : (i % 26).toNat < letters.cps.toList.length := by
    have : letters.cps.toList.length = 26 := by decide
    omega
  refine ⟨letters.cps.toList[(i % 26).toNat], ?_, Array.mem_toList_iff.mp (List.getElem_mem hl)⟩
  unfold atI ixN
  have : letters.cps.toList.length = 26 := by decide
  rw [if_pos m0, if_pos (by omega)]
  exact List.getElem?_eq_getElem hl
theorem lets_append {a b : Str} (ha : Lets a) (hb : Lets b) : Lets (a ++ b) := fun c hc => by
  have e : (a ++ b).cps.toList = a.cps.toList ++ b.cps.toList := tl_append a b
  rw [e] at hc
  rcases List.mem_append.mp hc with h | h
  · exact ha c h
  · exact hb c h
theorem lets_one {c : Nat} (h : c ∈ letters.cps) : Lets ⟨#[c]⟩ := fun x hx => by
  simp at hx
  subst hx; exact h
theorem lets_cut {a : Str} {lo hi : Option Int} (ha : Lets a) : Lets (cutS a lo hi) := fun c hc => by
  unfold cutS at hc
  exact ha c (List.mem_of_mem_drop (List.mem_of_mem_take (by simpa using hc)))
theorem join_tl (ys : List Str) : (Txt.join ("" : Str) ys).cps.toList = (ys.map tl).flatten := by
  rw [TL.join_eq]
  show tl (Str.join ("" : Str) ys) = _
  rw [tl_join]
  have gen : ∀ ps : List (List Nat), joinL (tl ("" : Str)) ps = ps.flatten := by
    intro ps
    induction ps with
    | nil => rfl
    | cons p ps ih =>
      cases ps with
      | nil => simp [joinL]
      | cons q r =>
        show p ++ (tl ("" : Str) ++ joinL (tl ("" : Str)) (q :: r)) = _
        rw [ih]; rfl
  exact gen _

theorem join_lets : ∀ ys : List Str, (∀ y ∈ ys, Lets y ∧ y.length = 1) → Lets (Txt.join ("" : Str) ys) ∧ (Txt.join ("" : Str) ys).length = ys.length := fun ys h => by
  have e : (Txt.join ("" : Str) ys).cps.toList = (ys.map tl).flatten := by
    rw [TL.join_eq]
    show tl (Str.join ("" : Str) ys) = _
    rw [tl_join]
    have gen : ∀ ps : List (List Nat), joinL (tl ("" : Str)) ps = ps.flatten := by
      intro ps
      induction ps with
      | nil => rfl
      | cons p ps ih =>
        cases ps with
        | nil => simp [joinL]
        | cons q r =>
          show p ++ (tl ("" : Str) ++ joinL (tl ("" : Str)) (q :: r)) = _
          rw [ih]; rfl
    exact gen _
  constructor
  · intro c hc
    rw [e] at hc
    obtain ⟨l, hl, hcl⟩ := List.mem_flatten.mp hc
    obtain ⟨y, hy, rfl⟩ := List.mem_map.mp hl
    exact (h y hy).1 c hcl
  · have e2 : (Txt.join ("" : Str) ys).length = (ys.map tl).flatten.length := by rw [← e]; rfl
    rw [e2, List.length_flatten, List.map_map]
    clear e e2
    induction ys with
    | nil => rfl
    | cons y ys ih =>
      have h1 : (tl y).length = 1 := (h y List.mem_cons_self).2
      have ih := ih fun z hz => h z (List.mem_cons_of_mem _ hz)
      simp only [List.map_cons, List.sum_cons, Function.comp, List.length_cons] at ih ⊢
      omega
theorem cut_hi {a : Str} {h : Int} (h0 : 0 ≤ h) : (cutS a none (some h)).length = min h.toNat a.length := by
  unfold cutS
  have e : HT.sIx a.length a.length (some h) = min h.toNat a.length := by
    have := HT.sIx_nat a.length a.length h.toNat
    rw [← this]; congr 2; omega
  rw [HT.sIx_none, e]
  have : a.length = a.cps.toList.length := rfl
  show ((a.cps.toList.drop 0).take (min h.toNat a.length - 0)).toArray.size = _
  simp
  have : a.length = a.cps.size := rfl
  omega
theorem cut_both {a : Str} {l h : Int} (l0 : 0 ≤ l) (lh : l ≤ h) (ha : h ≤ a.length) : (cutS a (some l) (some h)).length = (h - l).toNat := by
  unfold cutS
  have e : HT.sIx a.length a.length (some h) = h.toNat := by
    have := HT.sIx_nat a.length a.length h.toNat
    rw [show ((h.toNat : Nat) : Int) = h by omega] at this
    rw [this]; omega
  have e1 : HT.sIx a.length 0 (some l) = l.toNat := by
    have := HT.sIx_nat a.length 0 l.toNat
    rw [show ((l.toNat : Nat) : Int) = l by omega] at this
    rw [this]; omega
  rw [e, e1]
  have z : a.length = a.cps.size := rfl
  show ((a.cps.toList.drop l.toNat).take (h.toNat - l.toNat)).toArray.size = _
  simp
  omega
def fixW (w : Str) : Str := if w ∈ bars then ("zz" : Str) ++ cutS w none (some 1) ++ ("z" : Str) else w
def GoodW (w : Str) : Prop := Lets w ∧ 1 ≤ w.length ∧ w.length ≤ 6
theorem len_app (a b : Str) : (a ++ b).length = a.length + b.length := by
  show (a ++ b).cps.size = a.cps.size + b.cps.size
  have : (a ++ b).cps = a.cps ++ b.cps := rfl
  rw [this, Array.size_append]
theorem word_of {w : Str} (h : GoodW w) (hb : w ∉ bars) : isWordS w = true := by
  unfold isWordS
  simp only [Bool.and_eq_true, decide_eq_true_eq, Bool.not_eq_true', decide_eq_false_iff_not, List.all_eq_true]
  exact ⟨⟨⟨h.2.1, h.2.2⟩, hb⟩, h.1⟩
theorem fix_word {w : Str} (h : GoodW w) : isWordS (fixW w) = true := by
  unfold fixW
  split
  · rename_i hb
    have lz : ∀ c, c ∈ ("z" : Str).cps.toList → c ∈ letters.cps := by decide +kernel
    have lzz : ∀ c, c ∈ ("zz" : Str).cps.toList → c ∈ letters.cps := by decide +kernel
    have c1 : (cutS w none (some 1)).length = min 1 w.length := cut_hi (by decide)
    have ln : (("zz" : Str) ++ cutS w none (some 1) ++ ("z" : Str)).length = 4 := by
      have a : ("zz" : Str).length = 2 := rfl
      have b : ("z" : Str).length = 1 := rfl
      have := h.2.1
      rw [len_app, len_app, c1, a, b]
      omega
    refine word_of ⟨lets_append (lets_append lzz (lets_cut h.1)) lz, by rw [ln]; decide, by rw [ln]; decide⟩ fun hm => ?_
    have hd : (("zz" : Str) ++ cutS w none (some 1) ++ ("z" : Str)).cps.toList.head? = some 122 := by
      show (tl _).head? = _
      rw [tl_append, tl_append]; rfl
    have hall : ∀ x ∈ bars, x.cps.toList.head? ≠ some 122 := by decide
    exact hall _ hm hd
  · rename_i hb
    exact word_of h hb
abbrev wordBody : HS := (hSeq (hAsg (hC ixW (hL 2 (hE (hC modW (hE (hC addW (hL 3 (hE (hC mulW' (hL 7 (hL 11 hNil))) hNil))) (hE (hK (.int 26)) hNil))) hNil))) 12)
    (hIfS (hB (hC (eqP false) (hL 4 (hE (hK (.int 3)) hNil)))) (hDrop (hApp 10 (hC addW (hL 12 (hE (hSl 8 hNo (hPt (hC modW (hE (hC mulW' (hL 11 (hL 7 hNil))) (hE (hK (.int 6)) hNil))))) hNil))))) (hDrop (hApp 10 (hC addW (hE (hC addW (hE (hSl 8 hNo (hPt (hV 6))) (hL 12 hNil))) (hE (hSl 8 (hPt (hC addW (hL 6 (hE (hK (.int 1)) hNil)))) (hPt (hV 5))) hNil)))))))
def lcAt (i : Int) : Nat := (atI (letters.cps.toList) (i % 26)).getD 0
/-- the k-th word -/
def wdS (base : Str) (start way sz at' v : Int) (k : Nat) : Str := if way = 3 then (⟨#[lcAt (start + v * (k : Nat))]⟩ : Str) ++ cutS base none (some ((k : Int) * v % 6)) else cutS base none (some at') ++ (⟨#[lcAt (start + v * (k : Nat))]⟩ : Str) ++ cutS base (some (at' + 1)) (some (1 + sz))
theorem word_loop {D : HD} {n : Nat} {many start way sz at' v : Int} {base : Str} (bl : Lets base) (bn : base.length = 8) (s0 : 0 ≤ start) (s1 : start < 26) (z0 : 0 ≤ sz) (z1 : sz < 6) (t0 : 0 ≤ at') (t1 : at' < 1 + sz) (v0 : 1 ≤ v) (v1 : v ≤ 25) : ∀ (ks js : List Nat) (o11 o12 : Option PV), (∀ k ∈ ks, k < 12) → (∀ w ∈ js.map (wdS base start way sz at' v), GoodW w) → js.length + ks.length ≤ 1000 →
    (∀ (o11' o12' : Option PV), (∀ w ∈ (js ++ ks).map (wdS base start way sz at' v), GoodW w) → D.nx ⟨[some .drw, some (.dat (.int many)), some (.dat (.str "abcdefghijklmnopqrstuvwxyz")), some (.dat (.int start)), some (.dat (.int way)), some (.dat (.int (1 + sz))), some (.dat (.int at')), some (.dat (.int v)), some (.dat (.str base)), none, some (.own (((js ++ ks).map (wdS base start way sz at' v)).map .str)), o11', o12', none, none], n⟩) →
    each (gN 11) wordBody D (ks.map fun i => PyData.int ((i : Nat) : Int)) ⟨[some .drw, some (.dat (.int many)), some (.dat (.str "abcdefghijklmnopqrstuvwxyz")), some (.dat (.int start)), some (.dat (.int way)), some (.dat (.int (1 + sz))), some (.dat (.int at')), some (.dat (.int v)), some (.dat (.str base)), none, some (.own ((js.map (wdS base start way sz at' v)).map .str)), o11, o12, none, none], n⟩ := by
  intro ks
  induction ks with
  | nil => intro js o11 o12 _ hg _ fin; simpa using fin o11 o12 (by simpa using hg)
  | cons k ks ih =>
    intro js o11 o12 hk hg hl fin
    have k12 := hk k List.mem_cons_self
    have e2 : (2 : Nat) ^ 100 = 1267650600228229401496703205376 := by decide
    have kv0 : 0 ≤ v * (k : Int) := Int.mul_nonneg (by omega) (by omega)
    have kv1 : v * (k : Int) ≤ 25 * 12 := Int.mul_le_mul (by omega) (by omega) (by omega) (by omega)
    obtain ⟨c, hc, hcl⟩ := letter_at (start + v * k)
    have hl' : js.length + (ks.length + 1) ≤ 1000 := by simpa using hl
    have L26 : ("abcdefghijklmnopqrstuvwxyz" : Str).length ≤ 100000 := by decide +kernel
    have ec : lcAt (start + v * k) = c := by unfold lcAt; rw [hc]; rfl
    have next : ∀ (w : Str), w = wdS base start way sz at' v k → GoodW w → each (gN 11) wordBody D (ks.map fun i => PyData.int ((i : Nat) : Int)) ⟨[some .drw, some (.dat (.int many)), some (.dat (.str "abcdefghijklmnopqrstuvwxyz")), some (.dat (.int start)), some (.dat (.int way)), some (.dat (.int (1 + sz))), some (.dat (.int at')), some (.dat (.int v)), some (.dat (.str base)), none, some (.own ((js.map (wdS base start way sz at' v)).map .str ++ [.str w])), some (.dat (.int (k : Nat))), some (.dat (.str ⟨#[c]⟩)), none, none], n⟩ := fun w hwe hw => by
      have e : (js.map (wdS base start way sz at' v)).map PyData.str ++ [.str w] = ((js ++ [k]).map (wdS base start way sz at' v)).map .str := by rw [hwe]; simp
      rw [e]
      refine ih (js ++ [k]) _ _ (fun q hq => hk q (List.mem_cons_of_mem _ hq)) (fun y hy => ?_) (by simp; omega) fun a b h2 => ?_
      · rw [List.map_append] at hy
        rcases List.mem_append.mp hy with hy | hy
        · exact hg y hy
        · rw [List.mem_singleton.mp hy, ← hwe]; exact hw
      · have z := fin a b (by simpa using h2)
        simpa using z
    have hc' : atI ("abcdefghijklmnopqrstuvwxyz" : Str).cps.toList ((start + v * k) % 26) = some c := hc
    have bs : base.length ≤ sizeLine := by rw [bn]; decide
    have m0 : 0 ≤ (k : Int) * v % 6 := Int.emod_nonneg _ (by decide)
    have m1 : (k : Int) * v % 6 < 6 := Int.emod_lt_of_pos _ (by decide)
    have one : (⟨#[c]⟩ : Str).length = 1 := rfl
    have g1 : GoodW ((⟨#[c]⟩ : Str) ++ cutS base none (some ((k : Int) * v % 6))) := by
      refine ⟨lets_append (lets_one hcl) (lets_cut bl), ?_⟩
      rw [len_app, one, cut_hi m0, bn]
      omega
    have g2 : GoodW (cutS base none (some at') ++ (⟨#[c]⟩ : Str) ++ cutS base (some (at' + 1)) (some (1 + sz))) := by
      refine ⟨lets_append (lets_append (lets_cut bl) (lets_one hcl)) (lets_cut bl), ?_⟩
      rw [len_app, len_app, one, cut_hi t0, bn, cut_both (by omega) (by omega) (by rw [bn]; omega)]
      omega
    have l1 := g1.2.2
    have l2 := g2.2.2
    rw [len_app] at l1
    rw [len_app, len_app] at l2
    simp only [List.map_map] at next
    simp [hc']
    refine ⟨cmul (by rw [e2]; omega) (by rw [e2]; omega), L26, ?_⟩
    by_cases hw : way = 3
    · refine Or.inr ⟨hw, cmul (by rw [e2]; omega) (by rw [e2]; omega), bs, by omega, by omega, next _ (by unfold wdS; rw [if_pos hw, ec]) g1⟩
    · refine Or.inl ⟨hw, bs, by omega, bs, by rw [len_app]; omega, by omega, next _ (by unfold wdS; rw [if_neg hw, ec]) g2⟩
abbrev sp__law_draw_a6e186 : HSp := spDraw
/-! the words as lists of numbers: all unlike, by looking at each way -/
def ltN (i : Nat) : Nat := 97 + i % 26
def wL (s sz a v k : Nat) (w3 : Bool) : List Nat :=
  let base := (List.range 8).map fun i => ltN (s + 5 * i)
  if w3 then ltN (s + v * k) :: base.take (k * v % 6) else base.take a ++ [ltN (s + v * k)] ++ (base.drop (a + 1)).take (sz - a)
def barsL : List (List Nat) := bars.map fun z => z.cps.toList
def fixL (w : List Nat) : List Nat := if w ∈ barsL then [122, 122] ++ w.take 1 ++ [122] else w
def encL (w : List Nat) : Nat := w.foldl (fun a c => a * 128 + c) 1
def barsP : List (Nat × List Nat) := [(511522800, [115, 116, 111, 112]), (511456494, [115, 112, 105, 110]), (3930868, [111, 117, 116]), (3931118, [111, 119, 110]), (7792655757925, [98, 101, 115, 105, 100, 101]), (488272485, [104, 105, 100, 101]), (28915, [97, 115])]
def isBarE (w : List Nat) : Bool := barsP.any fun p => Nat.beq p.1 (encL w) && decide (p.2 = w)
theorem isBarE_iff (w : List Nat) : isBarE w = true ↔ w ∈ barsL := by
  have h1 : barsP.map (·.2) = barsL := by decide +kernel
  have h2 : ∀ p ∈ barsP, p.1 = encL p.2 := by decide +kernel
  unfold isBarE
  rw [List.any_eq_true, ← h1, List.mem_map]
  constructor
  · rintro ⟨p, hp, e⟩
    rw [Bool.and_eq_true] at e
    exact ⟨p, hp, of_decide_eq_true e.2⟩
  · rintro ⟨p, hp, e⟩
    refine ⟨p, hp, ?_⟩
    rw [Bool.and_eq_true]
    exact ⟨by rw [h2 p hp, e]; exact Nat.beq_refl _, decide_eq_true e⟩
def fixE (w : List Nat) : Nat := if isBarE w then encL ([122, 122] ++ w.take 1 ++ [122]) else encL w
def undB : List Nat → Bool
  | [] => true
  | x :: xs => !xs.any (Nat.beq x) && undB xs
theorem undB_nodup : ∀ {xs : List Nat}, undB xs = true → xs.Nodup
  | [], _ => List.nodup_nil
  | x :: xs, h => by
    unfold undB at h
    rw [Bool.and_eq_true, Bool.not_eq_true'] at h
    refine List.nodup_cons.mpr ⟨fun hm => ?_, undB_nodup h.2⟩
    have := List.any_eq_false.mp h.1 x hm
    exact this (Nat.beq_refl x)
def chkWs (s : Nat) : Bool := (List.range 6).all fun sz => (List.range (sz + 1)).all fun a => [1, 3, 7, 11, 17, 25].all fun v => undB ((List.range 12).map fun k => fixE (wL s sz a v k false))
def chkW : Bool := (List.range 26).all chkWs
def chkW3 : Bool := (List.range 26).all fun s => [1, 3, 7, 11, 17, 25].all fun v => undB ((List.range 12).map fun k => fixE (wL s 0 0 v k true))
theorem chkW_0 : chkWs 0 = true := by decide +kernel
theorem chkW_1 : chkWs 1 = true := by decide +kernel
theorem chkW_2 : chkWs 2 = true := by decide +kernel
theorem chkW_3 : chkWs 3 = true := by decide +kernel
theorem chkW_4 : chkWs 4 = true := by decide +kernel
theorem chkW_5 : chkWs 5 = true := by decide +kernel
theorem chkW_6 : chkWs 6 = true := by decide +kernel
theorem chkW_7 : chkWs 7 = true := by decide +kernel
theorem chkW_8 : chkWs 8 = true := by decide +kernel
theorem chkW_9 : chkWs 9 = true := by decide +kernel
theorem chkW_10 : chkWs 10 = true := by decide +kernel
theorem chkW_11 : chkWs 11 = true := by decide +kernel
theorem chkW_12 : chkWs 12 = true := by decide +kernel
theorem chkW_13 : chkWs 13 = true := by decide +kernel
theorem chkW_14 : chkWs 14 = true := by decide +kernel
theorem chkW_15 : chkWs 15 = true := by decide +kernel
theorem chkW_16 : chkWs 16 = true := by decide +kernel
theorem chkW_17 : chkWs 17 = true := by decide +kernel
theorem chkW_18 : chkWs 18 = true := by decide +kernel
theorem chkW_19 : chkWs 19 = true := by decide +kernel
theorem chkW_20 : chkWs 20 = true := by decide +kernel
theorem chkW_21 : chkWs 21 = true := by decide +kernel
theorem chkW_22 : chkWs 22 = true := by decide +kernel
theorem chkW_23 : chkWs 23 = true := by decide +kernel
theorem chkW_24 : chkWs 24 = true := by decide +kernel
theorem chkW_25 : chkWs 25 = true := by decide +kernel
theorem chkW_ok : chkW = true := by
  have e : List.range 26 = [0, 1, 2, 3, 4, 5, 6, 7, 8, 9, 10, 11, 12, 13, 14, 15, 16, 17, 18, 19, 20, 21, 22, 23, 24, 25] := by decide +kernel
  unfold chkW
  rw [e]
  simp only [List.all_cons, List.all_nil, chkW_0, chkW_1, chkW_2, chkW_3, chkW_4, chkW_5, chkW_6, chkW_7, chkW_8, chkW_9, chkW_10, chkW_11, chkW_12, chkW_13, chkW_14, chkW_15, chkW_16, chkW_17, chkW_18, chkW_19, chkW_20, chkW_21, chkW_22, chkW_23, chkW_24, chkW_25, Bool.and_self]
theorem chkW3_ok : chkW3 = true := by decide +kernel
theorem lcAt_eq (n : Nat) : lcAt (n : Int) = ltN n := by
  have el : letters.cps.toList = (List.range 26).map fun i => 97 + i := by decide +kernel
  have hm : n % 26 < 26 := Nat.mod_lt _ (by decide)
  unfold lcAt ltN
  rw [el]
  have e : (n : Int) % 26 = ((n % 26 : Nat) : Int) := by omega
  rw [e]
  unfold atI ixN
  rw [List.length_map, List.length_range, if_pos (by omega), if_pos (by omega)]
  show (((List.range 26).map fun i => 97 + i)[((n % 26 : Nat) : Int).toNat]?).getD 0 = _
  rw [Int.toNat_natCast, List.getElem?_map, List.getElem?_range hm]; rfl
theorem encL_inj' : True := trivial
theorem cut_hi_l {a : Str} {h : Nat} : (cutS a none (some (h : Int))).cps.toList = a.cps.toList.take h := by
  unfold cutS
  rw [HT.sIx_none, HT.sIx_nat]
  show (((a.cps.toList.drop 0).take (min h a.length - 0)).toArray).toList = _
  have z : a.length = a.cps.toList.length := by simp [Str.length]
  simp only [List.drop_zero, Nat.sub_zero]
  rw [z]
  rcases Nat.le_total h a.cps.toList.length with q | q
  · rw [Nat.min_eq_left q]
  · rw [Nat.min_eq_right q, List.take_of_length_le q, List.take_length]
theorem cut_both_l {a : Str} {l h : Nat} (hl : l ≤ a.length) (hh : h ≤ a.length) : (cutS a (some (l : Int)) (some (h : Int))).cps.toList = (a.cps.toList.drop l).take (h - l) := by
  unfold cutS
  rw [HT.sIx_nat, HT.sIx_nat, Nat.min_eq_left hl, Nat.min_eq_left hh]
theorem words_und {base : Str} {start way sz at' v many : Int} (bt : base.cps.toList = (List.range 8).map fun i : Nat => lcAt (start + 5 * (i : Nat))) (s0 : 0 ≤ start) (s1 : start < 26) (z0 : 0 ≤ sz) (z1 : sz < 6) (t0 : 0 ≤ at') (t1 : at' < 1 + sz) (hv : v ∈ ([1, 3, 7, 11, 17, 25] : List Int)) (hm : many ≤ 12) :
    (((List.range many.toNat).map (wdS base start way sz at' v)).map fixW).Nodup := by
  obtain ⟨s, rfl⟩ : ∃ s : Nat, start = s := ⟨start.toNat, by omega⟩
  obtain ⟨z, rfl⟩ : ∃ z : Nat, sz = z := ⟨sz.toNat, by omega⟩
  obtain ⟨a, rfl⟩ : ∃ a : Nat, at' = a := ⟨at'.toNat, by omega⟩
  have v0 : 0 ≤ v := by simp at hv; omega
  obtain ⟨w, rfl⟩ : ∃ w : Nat, v = w := ⟨v.toNat, by omega⟩
  have hw : w ∈ ([1, 3, 7, 11, 17, 25] : List Nat) := by simp at hv ⊢; omega
  have bt' : base.cps.toList = (List.range 8).map fun i => ltN (s + 5 * i) := by
    rw [bt]
    apply List.map_congr_left
    intro i _
    rw [← lcAt_eq]
    congr 1
  have bn : base.length = 8 := by
    have : base.length = base.cps.toList.length := by simp [Str.length]
    rw [this, bt']; simp
  have ew : ∀ k : Nat, (wdS base s way z a w k).cps.toList = wL s z a w k (decide (way = 3)) := fun k => by
    have em : lcAt ((s : Int) + (w : Int) * (k : Nat)) = ltN (s + w * k) := by
      rw [← lcAt_eq]
      congr 1
    unfold wdS wL
    rw [em]
    by_cases h3 : way = 3
    · rw [if_pos h3, if_pos (decide_eq_true h3)]
      have e1 : ((k : Int) * (w : Int) % 6) = ((k * w % 6 : Nat) : Int) := by
        rw [Int.natCast_emod, Int.natCast_mul]; rfl
      rw [e1]
      show tl (_ ++ _) = _
      rw [tl_append]
      show [ltN (s + w * k)] ++ (cutS base none _).cps.toList = _
      rw [cut_hi_l, bt']; rfl
    · rw [if_neg h3, if_neg (by simp [h3])]
      show tl (_ ++ _ ++ _) = _
      rw [tl_append, tl_append]
      show (cutS base none _).cps.toList ++ [ltN (s + w * k)] ++ (cutS base _ _).cps.toList = _
      have e1 : (a : Int) + 1 = ((a + 1 : Nat) : Int) := by omega
      have e2 : 1 + (z : Int) = ((z + 1 : Nat) : Int) := by omega
      rw [e1, e2, cut_hi_l, cut_both_l (by omega) (by omega), bt', show z + 1 - (a + 1) = z - a by omega]
  have inj : ∀ x y : Str, x.cps.toList = y.cps.toList → x = y := fun x y h => by
    cases x; cases y
    congr 1
    exact Array.toList_inj.mp h
  have eE : ∀ x : Str, encL (fixW x).cps.toList = fixE x.cps.toList := fun x => by
    have hb : x ∈ bars ↔ isBarE x.cps.toList = true := by
      rw [isBarE_iff]
      unfold barsL
      rw [List.mem_map]
      exact ⟨fun h => ⟨x, h, rfl⟩, fun ⟨y, h, e⟩ => inj y x e ▸ h⟩
    unfold fixW fixE
    by_cases h : x ∈ bars
    · rw [if_pos h, if_pos (hb.mp h)]
      congr 1
      show tl (_ ++ _ ++ _) = _
      rw [tl_append, tl_append]
      have e1 : (1 : Int) = ((1 : Nat) : Int) := rfl
      show tl ("zz" : Str) ++ (cutS x none (some 1)).cps.toList ++ tl ("z" : Str) = _
      rw [e1, cut_hi_l]; rfl
    · rw [if_neg h, if_neg fun z => h (hb.mpr z)]
  have ends : ∀ w3 : Bool, (List.range 12).all (fun k => true) = true → undB ((List.range 12).map fun k => fixE (wL s (if w3 then 0 else z) (if w3 then 0 else a) w k w3)) = true := fun w3 _ => by
    cases w3 with
    | true =>
      have := chkW3_ok
      unfold chkW3 at this
      rw [List.all_eq_true] at this
      have := this s (List.mem_range.mpr (by omega))
      rw [List.all_eq_true] at this
      exact this w hw
    | false =>
      have := chkW_ok
      unfold chkW at this
      rw [List.all_eq_true] at this
      have := this s (List.mem_range.mpr (by omega))
      unfold chkWs at this
      rw [List.all_eq_true] at this
      have := this z (List.mem_range.mpr (by omega))
      rw [List.all_eq_true] at this
      have := this a (List.mem_range.mpr (by omega))
      rw [List.all_eq_true] at this
      exact this w hw
  have e3 : ∀ k, wL s (if decide (way = 3) then 0 else z) (if decide (way = 3) then 0 else a) w k (decide (way = 3)) = wL s z a w k (decide (way = 3)) := fun k => by
    cases decide (way = 3) <;> rfl
  have nd := undB_nodup (ends (decide (way = 3)) (by simp))
  have nd2 : ((List.range many.toNat).map fun k => fixE (wL s z a w k (decide (way = 3)))).Nodup := by
    refine List.Pairwise.sublist (List.Sublist.map _ ?_) (show List.Nodup _ by simpa only [e3] using nd)
    exact List.range_sublist.mpr (by omega)
  have nd3 : (((List.range many.toNat).map (wdS base s way z a w)).map fun x => encL (fixW x).cps.toList).Nodup := by
    rw [List.map_map]
    have : ((fun x => encL (fixW x).cps.toList) ∘ wdS base s way z a w) = fun k => fixE (wL s z a w k (decide (way = 3))) := by
      funext k
      show encL (fixW (wdS base s way z a w k)).cps.toList = _
      rw [eE, ew]
    rw [this]; exact nd2
  have nd4 : ((((List.range many.toNat).map (wdS base s way z a w)).map fixW).map fun x => encL x.cps.toList).Nodup := by rw [List.map_map]; exact nd3
  exact List.Pairwise.of_map _ (fun x y h e => h (by rw [e])) nd4
def sp__law_words_aaf2f6 : HSp := fun ps n C => ∃ many : Int, ps = [.drw, .dat (.int many)] ∧ 0 ≤ many ∧ many ≤ 12 ∧ n < 134217728 ∧ ∀ ws : List Str, (ws.length : Int) = many → (∀ w ∈ ws, isWordS w = true) → ws.Nodup → C (.own (ws.map .str)) (n + 5)
def h__law_words_aaf2f6 : HS :=
    (hSeq (hAsg (hK (.str "abcdefghijklmnopqrstuvwxyz")) 2)
    (hSeq (fun D s => (hTup (hE (hCall sp__law_draw_a6e186 2 (hL 0 (hE (hK (.int 26)) hNil))) (hE (hCall sp__law_draw_a6e186 2 (hL 0 (hE (hK (.int 4)) hNil))) hNil))) s fun p s1 => ∃ d, p.frz = some d ∧ (gP 3 4) d s1 D.nx)
    (hSeq (hAsg (hC addW (hE (hK (.int 1)) (hE (hCall sp__law_draw_a6e186 2 (hL 0 (hE (hK (.int 6)) hNil))) hNil))) 5)
    (hSeq (hAsg (hCall sp__law_draw_a6e186 2 (hL 0 (hL 5 hNil))) 6)
    (hSeq (hAsg (hC ixW (hE (hLst (hE (hK (.int 1)) (hE (hK (.int 3)) (hE (hK (.int 7)) (hE (hK (.int 11)) (hE (hK (.int 17)) (hE (hK (.int 25)) hNil))))))) (hE (hCall sp__law_draw_a6e186 2 (hL 0 (hE (hK (.int 6)) hNil))) hNil))) 7)
    (hSeq (hAsg (hC (joinW "") (hE (hLc (hiR1 (hE (hK (.int 8)) hNil)) (gN 9) hYes (hC ixW (hL 2 (hE (hC modW (hE (hC addW (hL 3 (hE (hC mulW' (hE (hK (.int 5)) (hL 9 hNil))) hNil))) (hE (hK (.int 26)) hNil))) hNil))) [9]) hNil)) 8)
    (hSeq (hAsg (hLst hNil) 10)
    (hSeq (hFor (hiR1 (hL 1 hNil)) (gN 11) (hSeq (hAsg (hC ixW (hL 2 (hE (hC modW (hE (hC addW (hL 3 (hE (hC mulW' (hL 7 (hL 11 hNil))) hNil))) (hE (hK (.int 26)) hNil))) hNil))) 12)
    (hIfS (hB (hC (eqP false) (hL 4 (hE (hK (.int 3)) hNil)))) (hDrop (hApp 10 (hC addW (hL 12 (hE (hSl 8 hNo (hPt (hC modW (hE (hC mulW' (hL 11 (hL 7 hNil))) (hE (hK (.int 6)) hNil))))) hNil))))) (hDrop (hApp 10 (hC addW (hE (hC addW (hE (hSl 8 hNo (hPt (hV 6))) (hL 12 hNil))) (hE (hSl 8 (hPt (hC addW (hL 6 (hE (hK (.int 1)) hNil)))) (hPt (hV 5))) hNil))))))))
    (hSeq (hAsg (hLst (hE (hK (.str "stop")) (hE (hK (.str "spin")) (hE (hK (.str "out")) (hE (hK (.str "own")) (hE (hK (.str "beside")) (hE (hK (.str "hide")) (hE (hK (.str "as")) hNil)))))))) 13)
    (hRet (hLc (hiL (hV 10)) (gN 14) hYes (hIf (hB (hC (inP true) (hL 14 (hL 13 hNil)))) (hV 14) (hC addW (hE (hC addW (hE (hK (.str "zz")) (hE (hSl 14 hNo (hPt (hK (.int 1)))) hNil))) (hE (hK (.str "z")) hNil)))) [14])))))))))))
theorem rd__law_words_aaf2f6 : ∀ pvs n C, pvs.length = 2 → sp__law_words_aaf2f6 pvs n C → h__law_words_aaf2f6 ⟨fun s => C (.dat .none) s.n, fun p s => C p s.n, fun _ => False, fun _ => False⟩ ⟨pvs.map some ++ List.replicate (15 - pvs.length) none, n⟩ := by
  intro pvs n C _ h
  obtain ⟨many, rfl, m0, m1, hn, q⟩ := h
  unfold h__law_words_aaf2f6
  have drw : ∀ (k : Int) (n : Nat) (C : PV → Nat → Prop), 0 < k → k ≤ 1000000 → n < 268435456 → (∀ i : Int, 0 ≤ i → i < k → C (.dat (.int i)) (n + 1)) → spDraw [.drw, .dat (.int k)] n C := fun k n C a b c d => ⟨k, rfl, a, b, c, d⟩
  simp only [hSeq, hAsg, hK, Sg.put, List.map_cons, List.map_nil, List.length_cons, List.length_nil, List.cons_append, List.nil_append, List.set_cons_succ, List.set_cons_zero, List.replicate, hTup, hC, hE, hCall, hL, hNil, List.getElem?_cons_zero, List.getElem?_cons_succ]
  simp [dats]
  refine drw 26 n _ (by decide) (by decide) (by omega) fun start s0 s1 => ?_
  simp
  refine drw 4 _ _ (by decide) (by decide) (by omega) fun way w0 w1 => ?_
  simp
  refine drw 6 _ _ (by decide) (by decide) (by omega) fun sz z0 z1 => ?_
  simp
  refine drw (1 + sz) _ _ (by omega) (by omega) (by omega) fun at' t0 t1 => ?_
  refine drw 6 _ _ (by decide) (by decide) (by omega) fun st q0 q1 => ?_
  obtain ⟨v, hv, hvm, _⟩ := atI_int (cs := [1, 3, 7, 11, 17, 25]) q0 q1
  have v1 : 1 ≤ v ∧ v ≤ 25 := by
    simp at hvm
    omega
  refine ⟨_, rfl, (ix_lst (ds := [.int 1, .int 3, .int 7, .int 11, .int 17, .int 25])).mpr ⟨_, hv, ?_⟩⟩
  have e2 : (2 : Nat) ^ 100 = 1267650600228229401496703205376 := by decide
  -- the base
  let lt : Int → Str := fun i => ⟨#[(atI (letters.cps.toList) (i % 26)).getD 0]⟩
  have hlt : ∀ i, atI (letters.cps.toList) (i % 26) = some ((atI (letters.cps.toList) (i % 26)).getD 0) ∧ Lets (lt i) ∧ (lt i).length = 1 := fun i => by
    obtain ⟨c, h1, h2⟩ := letter_at i
    refine ⟨by rw [h1]; rfl, ?_, rfl⟩
    show Lets ⟨#[_]⟩
    rw [h1]; exact lets_one h2
  refine lcs_map (fun i : Nat => PyData.int (0 + (i : Nat))) (fun i => .str (lt (start + 5 * (i : Nat)))) (fun a ha K hK => ?_) [] _ (by simp) ?_
  · have ha' := List.mem_range.mp ha
    simp
    refine ⟨cmul (by decide) (by rw [e2]; omega), by show (26 : Nat) ≤ 100000; decide, _, (hlt _).1, hK _ ?_⟩
    simp
  have hys : ∀ y ∈ (List.range 8).map fun i : Nat => lt (start + 5 * (i : Nat)), Lets y ∧ y.length = 1 := fun y hy => by
    obtain ⟨i, _, rfl⟩ := List.mem_map.mp hy
    exact (hlt _).2
  obtain ⟨bl, bn⟩ := join_lets _ hys
  have bn : (Txt.join ("" : Str) ((List.range 8).map fun i : Nat => lt (start + 5 * (i : Nat)))).length = 8 := by rw [bn]; simp
  simp
  refine ⟨(List.range 8).map fun i : Nat => lt (start + 5 * (i : Nat)), by simp, ?_, ?_⟩
  · have e3 : ((List.range 8).map fun i : Nat => lt (start + 5 * (i : Nat))).map Str.length = List.replicate 8 1 := by
      rw [List.map_map, List.eq_replicate_iff]
      exact ⟨by simp, fun b hb => by
        obtain ⟨i, _, rfl⟩ := List.mem_map.mp hb
        exact (hlt _).2.2⟩
    rw [e3]
    have : ("" : Str).length = 0 := rfl
    rw [this]; simp
  have bt : (Txt.join ("" : Str) ((List.range 8).map fun i : Nat => lt (start + 5 * (i : Nat)))).cps.toList = (List.range 8).map fun i : Nat => lcAt (start + 5 * (i : Nat)) := by
    rw [join_tl, List.map_map]
    rfl
  generalize Txt.join ("" : Str) ((List.range 8).map fun i : Nat => lt (start + 5 * (i : Nat))) = base at bl bn bt
  refine ⟨⟨by omega, by omega⟩, ?_⟩
  have er : rngD 0 many.toNat = (List.range many.toNat).map fun i => PyData.int ((i : Nat) : Int) := by simp [rngD]
  rw [er]
  refine word_loop bl bn s0 s1 z0 z1 t0 t1 v1.1 v1.2 (List.range many.toNat) [] none none (fun k hk => by have := List.mem_range.mp hk; omega) (fun w hw => by cases hw) (by simp; omega) fun o11 o12 hg => ?_
  rw [List.nil_append] at hg ⊢
  have und := words_und bt s0 s1 z0 z1 t0 t1 hvm (way := way) m1
  generalize hws : (List.range many.toNat).map (wdS base start way sz at' v) = ws at hg und ⊢
  have hl' : ws.length = many.toNat := by rw [← hws]; simp
  simp [dats]
  refine lcs_map (fun w : Str => PyData.str w) (fun w => .str (fixW w)) (fun w hw K hK => ?_) [] _ (by simp; omega) ?_
  · have gw := hg w hw
    simp
    refine inP_D w bars rfl rfl (by decide) ?_
    have wl : w.length ≤ sizeLine := by
      have := gw.2.2
      rw [sizeLine_eq]; omega
    by_cases hb : w ∈ bars
    · simp [hb]
      have c1 : (cutS w none (some 1)).length = min 1 w.length := cut_hi (by decide)
      have a : ("zz" : Str).length = 2 := rfl
      have b : ("z" : Str).length = 1 := rfl
      refine ⟨wl, by omega, by rw [len_app]; omega, ?_⟩
      have e : fixW w = ("zz" : Str) ++ cutS w none (some 1) ++ ("z" : Str) := by unfold fixW; rw [if_pos hb]
      rw [← e]
      refine hK _ ?_
      simp
    · simp [hb]
      have e : fixW w = w := by unfold fixW; rw [if_neg hb]
      rw [e] at hK
      refine hK _ ?_
      simp
  · simp
    have e : (ws.map fun w => PyData.str (fixW w)) = (ws.map fixW).map .str := by simp
    rw [e]
    refine q _ (by simp; omega) (fun w hw => ?_) und
    obtain ⟨u, hu, rfl⟩ := List.mem_map.mp hw
    exact fix_word (hg u hu)
end Sk
set_option Elab.async false
set_option linter.all false
set_option maxRecDepth 100000
set_option maxHeartbeats 4000000
namespace Sk
open PySem PySem.Spec PyProof.Rows L2
open PySem.W (Datum DatumOrd Tup T3 T4)
open Evl (Ex)
/-- a move that a drawn machine may have -/
def VM (many : Int) (ws : List Str) (p : Str × Int) : Prop := 0 ≤ p.2 ∧ p.2 < many ∧ (p.1 ∈ ws ∨ p.1 = ("" : Str))
theorem drw' (k : Int) (n : Nat) (C : PV → Nat → Prop) : 0 < k → k ≤ 1000000 → n < 268435456 → (∀ i : Int, 0 ≤ i → i < k → C (.dat (.int i)) (n + 1)) → spDraw [.drw, .dat (.int k)] n C := fun a b c d => ⟨k, rfl, a, b, c, d⟩
abbrev moveBody : HS := (hSeq (hAsg (hOrV (hC (eqP false) (hL 2 (hE (hLst hNil) hNil))) (hC ltW (hE (hCall sp__law_draw_a6e186 2 (hL 0 (hE (hK (.int 6)) hNil))) (hL 4 hNil)))) 9)
    (hSeq (hAsg (hIf (hB (hV 9)) (hK (.str "")) (hC ixW (hL 2 (hE (hCall sp__law_draw_a6e186 2 (hL 0 (hE (hC lenW (hL 2 hNil)) hNil))) hNil)))) 10)
    (hDrop (hApp 7 (hTup (hE (hV 10) (hE (hC ixW (hE (hLst (hE (hC modW (hE (hC addW (hL 6 (hE (hK (.int 1)) hNil))) (hL 3 hNil))) (hE (hCall sp__law_draw_a6e186 2 (hL 0 (hL 3 hNil))) hNil))) (hE (hCall sp__law_draw_a6e186 2 (hL 0 (hE (hK (.int 2)) hNil))) hNil))) hNil)))))))
theorem atI_str {ws : List Str} {i : Int} (h0 : 0 ≤ i) (h1 : i < ws.length) : ∃ x, atI (ws.map PyData.str) i = some (.str x) ∧ x ∈ ws := by
  have hl : i.toNat < ws.length := by omega
  refine ⟨ws[i.toNat], ?_, List.getElem_mem hl⟩
  unfold atI ixN
  rw [List.length_map, if_pos h0, if_pos (by omega)]
  show (ws.map PyData.str)[i.toNat]? = _
  rw [List.getElem?_map, List.getElem?_eq_getElem hl]; rfl
theorem move_loop {D : HD} {most many hid : Int} {ws : List Str} {o5 : Option PV} {k : Int} (mm : 1 ≤ many) (mh : many ≤ 1000) (hk : 0 ≤ k) (hw : ws.length ≤ 1000) : ∀ (js : List Nat) (row : List (Str × Int)) (o8 o9 o10 : Option PV) (n : Nat), (∀ p ∈ row, VM many ws p) → row.length + js.length ≤ 1000 → n + 4 * js.length < 268435456 →
    (∀ (row' : List (Str × Int)) (o8' o9' o10' : Option PV) (n' : Nat), row'.length = row.length + js.length → (∀ p ∈ row', VM many ws p) → n' ≤ n + 4 * js.length → D.nx ⟨[some .drw, some (.dat (.int most)), some (.dat (.list (ws.map .str))), some (.dat (.int many)), some (.dat (.int hid)), o5, some (.dat (.int k)), some (.own (row'.map Datum.toD)), o8', o9', o10'], n'⟩) →
    each (gN 8) moveBody D (js.map fun i => PyData.int ((i : Nat) : Int)) ⟨[some .drw, some (.dat (.int most)), some (.dat (.list (ws.map .str))), some (.dat (.int many)), some (.dat (.int hid)), o5, some (.dat (.int k)), some (.own (row.map Datum.toD)), o8, o9, o10], n⟩ := by
  intro js
  induction js with
  | nil => intro row o8 o9 o10 n hv _ _ fin; exact fin row o8 o9 o10 n rfl hv (by simp)
  | cons j js ih =>
    intro row o8 o9 o10 n hv hl hn fin
    have hl' : row.length + (js.length + 1) ≤ 1000 := by simpa using hl
    have hn' : n + 4 * (js.length + 1) < 268435456 := by simpa using hn
    have next : ∀ (p : Str × Int) (a b c : Option PV) (n2 : Nat), VM many ws p → n2 ≤ n + 4 → each (gN 8) moveBody D (js.map fun i => PyData.int ((i : Nat) : Int)) ⟨[some .drw, some (.dat (.int most)), some (.dat (.list (ws.map .str))), some (.dat (.int many)), some (.dat (.int hid)), o5, some (.dat (.int k)), some (.own (row.map Datum.toD ++ [.tuple [.str p.1, .int p.2]])), a, b, c], n2⟩ := fun p a b c n2 hp h2 => by
      have e : row.map (Datum.toD : Str × Int → PyData) ++ [.tuple [.str p.1, .int p.2]] = (row ++ [p]).map Datum.toD := by rw [List.map_append]; rfl
      rw [e]
      refine ih _ _ _ _ _ (fun y hy => ?_) (by simp; omega) (by omega) fun row' x y z n' h3 h4 h5 => fin row' x y z n' (by simp at h3 ⊢; omega) h4 (by simp; omega)
      rcases List.mem_append.mp hy with hy | hy
      · exact hv y hy
      · rw [List.mem_singleton.mp hy]; exact hp
    have r0 : 0 ≤ (k + 1) % many := Int.emod_nonneg _ (by omega)
    have r1 : (k + 1) % many < many := Int.emod_lt_of_pos _ (by omega)
    -- the move's deed is there
    have last : ∀ (deed : Str) (b : Option PV) (n2 : Nat), (deed ∈ ws ∨ deed = ("" : Str)) → n2 ≤ n + 2 → 
        (hDrop (hApp 7 (hTup (hE (hV 10) (hE (hC ixW (hE (hLst (hE (hC modW (hE (hC addW (hL 6 (hE (hK (.int 1)) hNil))) (hL 3 hNil))) (hE (hCall sp__law_draw_a6e186 2 (hL 0 (hL 3 hNil))) hNil))) (hE (hCall sp__law_draw_a6e186 2 (hL 0 (hE (hK (.int 2)) hNil))) hNil))) hNil))))) { D with nx := each (gN 8) moveBody D (js.map fun i => PyData.int ((i : Nat) : Int)), ct := each (gN 8) moveBody D (js.map fun i => PyData.int ((i : Nat) : Int)), bk := D.nx }
          ⟨[some .drw, some (.dat (.int most)), some (.dat (.list (ws.map .str))), some (.dat (.int many)), some (.dat (.int hid)), o5, some (.dat (.int k)), some (.own (row.map Datum.toD)), some (.dat (.int (j : Nat))), b, some (.dat (.str deed))], n2⟩ := fun deed b n2 hd h2 => by
      simp [dats]
      refine ⟨by omega, drw' many _ _ (by omega) (by omega) (by omega) fun i i0 i1 => ?_⟩
      simp
      refine drw' 2 _ _ (by decide) (by decide) (by omega) fun c c0 c1 => ?_
      have hc : ∃ x, atI [PyData.int ((k + 1) % many), .int i] c = some (.int x) ∧ 0 ≤ x ∧ x < many := by
        obtain ⟨x, h1, h2, _⟩ := atI_int (cs := [(k + 1) % many, i]) (i := c) c0 c1
        refine ⟨x, h1, ?_⟩
        simp at h2
        rcases h2 with rfl | rfl
        · exact ⟨r0, r1⟩
        · exact ⟨i0, i1⟩
      obtain ⟨x, hx, x0, x1⟩ := hc
      simp [hx]
      exact ⟨by omega, next (deed, x) _ _ _ _ ⟨x0, x1, hd⟩ (by omega)⟩
    simp [-hDrop, dats]
    refine eqP_D (α := List Str) ws [] rfl rfl (by decide) ?_
    by_cases he : ws = []
    · subst he
      simp [-hDrop]
      refine last ("" : Str) _ _ (Or.inr rfl) ?_
      omega
    · have wl : 0 < ws.length := List.length_pos_iff.mpr he
      simp [-hDrop, he]
      refine drw' 6 _ _ (by decide) (by decide) (by omega) fun a a0 a1 => ?_
      simp [-hDrop]
      by_cases hh : a < hid
      · simp [-hDrop, hh]
        refine Or.inr (last ("" : Str) _ _ (Or.inr rfl) ?_)
        omega
      · simp [-hDrop, hh]
        refine ⟨by omega, drw' ws.length _ _ (by omega) (by omega) (by omega) fun i i0 i1 => ?_⟩
        obtain ⟨x, hx, hm⟩ := atI_str i0 i1
        simp [-hDrop, hx]
        refine last x _ _ (Or.inl hm) ?_
        omega
theorem rows_flat {ws : List Str} {many : Int} {M : Mch} (h : ∀ r ∈ M.items, ∀ p ∈ r.items, VM many ws p) : ∀ x ∈ M.deeds, x ∈ ws := fun x hx => by
  unfold Mch.deeds Mch.rows rowDeeds at hx
  obtain ⟨l, hl, hxl⟩ := List.mem_flatten.mp hx
  rw [List.map_map] at hl
  obtain ⟨r, hr, rfl⟩ := List.mem_map.mp hl
  obtain ⟨p, hp, rfl⟩ := List.mem_map.mp hxl
  obtain ⟨hp1, hp2⟩ := List.mem_filter.mp hp
  have hp2 := of_decide_eq_true hp2
  exact (h r hr p hp1).2.2.resolve_right hp2
abbrev nodeBody : HS := (hSeq (hAsg (hLst hNil) 7)
    (hSeq (hFor (hiR1 (hE (hC ixW (hE (hLst (hE (hK (.int 0)) (hE (hK (.int 1)) (hE (hK (.int 1)) (hE (hK (.int 2)) (hE (hK (.int 2)) (hE (hK (.int 3)) (hE (hK (.int 1)) (hE (hK (.int 4)) hNil))))))))) (hE (hCall sp__law_draw_a6e186 2 (hL 0 (hE (hK (.int 8)) hNil))) hNil))) hNil)) (gN 8) moveBody)
    (hDrop (hApp 5 (hC tupW (hE (hC (sortUA (Str × Int) 64) (hL 7 hNil)) hNil))))))
theorem node_loop {D : HD} {most many hid : Int} {ws : List Str} (mm : 1 ≤ many) (mh : many ≤ 1000) (hw : ws.length ≤ 1000) : ∀ (ks : List Nat) (found : List (Tup (Str × Int))) (o6 o7 o8 o9 o10 : Option PV) (n : Nat), (∀ r ∈ found, (∀ p ∈ r.items, VM many ws p) ∧ Rising r.items ∧ r.items.length ≤ 4) → found.length + ks.length ≤ 1000 → n + 17 * ks.length < 268435456 →
    (∀ (found' : List (Tup (Str × Int))) (o6' o7' o8' o9' o10' : Option PV) (n' : Nat), found'.length = found.length + ks.length → (∀ r ∈ found', (∀ p ∈ r.items, VM many ws p) ∧ Rising r.items ∧ r.items.length ≤ 4) → n' ≤ n + 17 * ks.length → D.nx ⟨[some .drw, some (.dat (.int most)), some (.dat (.list (ws.map .str))), some (.dat (.int many)), some (.dat (.int hid)), some (.own (found'.map Datum.toD)), o6', o7', o8', o9', o10'], n'⟩) →
    each (gN 6) nodeBody D (ks.map fun i => PyData.int ((i : Nat) : Int)) ⟨[some .drw, some (.dat (.int most)), some (.dat (.list (ws.map .str))), some (.dat (.int many)), some (.dat (.int hid)), some (.own (found.map Datum.toD)), o6, o7, o8, o9, o10], n⟩ := by
  intro ks
  induction ks with
  | nil => intro found o6 o7 o8 o9 o10 n hv _ _ fin; exact fin found o6 o7 o8 o9 o10 n rfl hv (by simp)
  | cons k ks ih =>
    intro found o6 o7 o8 o9 o10 n hv hl hn fin
    have hl' : found.length + (ks.length + 1) ≤ 1000 := by simpa using hl
    have hn' : n + 17 * (ks.length + 1) < 268435456 := by simpa using hn
    simp [-hDrop, dats]
    refine drw' 8 _ _ (by decide) (by decide) (by omega) fun a a0 a1 => ?_
    obtain ⟨m, hm, hmm, _⟩ := atI_int (cs := [0, 1, 1, 2, 2, 3, 1, 4]) a0 a1
    have m4 : 0 ≤ m ∧ m ≤ 4 := by
      simp at hmm
      omega
    refine ⟨_, rfl, (ix_lst (ds := [.int 0, .int 1, .int 1, .int 2, .int 2, .int 3, .int 1, .int 4])).mpr ⟨_, hm, ?_⟩⟩
    refine ⟨_, rfl, ⟨by omega, by omega⟩, ?_⟩
    have er : rngD 0 m.toNat = (List.range m.toNat).map fun i => PyData.int ((i : Nat) : Int) := by simp [rngD]
    rw [er]
    refine move_loop (ws := ws) (most := most) (many := many) (hid := hid) mm mh (by omega) hw (List.range m.toNat) [] _ _ _ _ (fun p hp => by cases hp) (by simp; omega) (by simp; omega) fun row o8' o9' o10' n' hr hv' hn2 => ?_
    have hr' : row.length = m.toNat := by simpa using hr
    simp only [List.length_range] at hn2
    have small : (sortU row).length ≤ row.length := sortU_len row
    simp
    refine ⟨row, rfl, by omega, ?_⟩
    simp only [frz_own, Option.some.injEq, exists_eq_left', tup_lst, frz_dat]
    refine ⟨by omega, ?_⟩
    have e : found.map (Datum.toD : Tup (Str × Int) → PyData) ++ [.tuple ((sortU row).map Datum.toD)] = (found ++ [Tup.mk (sortU row)]).map Datum.toD := by rw [List.map_append]; rfl
    rw [e]
    refine ih _ _ _ _ _ _ _ (fun r hr => ?_) (by simp; omega) (by omega) fun f' a b c d e2 n2 h1 h2 h3 => fin f' a b c d e2 n2 (by simp at h1 ⊢; omega) h2 (by simp; omega)
    rcases List.mem_append.mp hr with hr | hr
    · exact hv r hr
    · rw [List.mem_singleton.mp hr]
      exact ⟨fun p hp => hv' p (mem_sortU.mp hp), sortU_rising row, by show (sortU row).length ≤ 4; omega⟩
def sp__law_machine_5d3daf : HSp := fun ps n C => ∃ (most : Int) (ws : List Str), ps = [.drw, .dat (.int most), .dat (.list (ws.map .str))] ∧ 1 ≤ most ∧ most ≤ 300 ∧ ws.length ≤ 8 ∧ (∀ w ∈ ws, isWordS w = true) ∧ n < 134217728 ∧ ∀ (M : Mch) (n' : Nat), MOk M → (∀ r ∈ M.items, r.items.length ≤ 4) → (M.items.length : Int) ≤ most → n' ≤ n + 6000 → C (.dat (Datum.toD M)) n'
def h__law_machine_5d3daf : HS :=
    (hSeq (hPar 3 4 (hE (hC addW (hE (hK (.int 1)) (hE (hCall sp__law_draw_a6e186 2 (hL 0 (hL 1 hNil))) hNil))) (hE (hCall sp__law_draw_a6e186 2 (hL 0 (hE (hK (.int 4)) hNil))) hNil)))
    (hSeq (hAsg (hLst hNil) 5)
    (hSeq (hFor (hiR1 (hL 3 hNil)) (gN 6) (hSeq (hAsg (hLst hNil) 7)
    (hSeq (hFor (hiR1 (hE (hC ixW (hE (hLst (hE (hK (.int 0)) (hE (hK (.int 1)) (hE (hK (.int 1)) (hE (hK (.int 2)) (hE (hK (.int 2)) (hE (hK (.int 3)) (hE (hK (.int 1)) (hE (hK (.int 4)) hNil))))))))) (hE (hCall sp__law_draw_a6e186 2 (hL 0 (hE (hK (.int 8)) hNil))) hNil))) hNil)) (gN 8) (hSeq (hAsg (hOrV (hC (eqP false) (hL 2 (hE (hLst hNil) hNil))) (hC ltW (hE (hCall sp__law_draw_a6e186 2 (hL 0 (hE (hK (.int 6)) hNil))) (hL 4 hNil)))) 9)
    (hSeq (hAsg (hIf (hB (hV 9)) (hK (.str "")) (hC ixW (hL 2 (hE (hCall sp__law_draw_a6e186 2 (hL 0 (hE (hC lenW (hL 2 hNil)) hNil))) hNil)))) 10)
    (hDrop (hApp 7 (hTup (hE (hV 10) (hE (hC ixW (hE (hLst (hE (hC modW (hE (hC addW (hL 6 (hE (hK (.int 1)) hNil))) (hL 3 hNil))) (hE (hCall sp__law_draw_a6e186 2 (hL 0 (hL 3 hNil))) hNil))) (hE (hCall sp__law_draw_a6e186 2 (hL 0 (hE (hK (.int 2)) hNil))) hNil))) hNil))))))))
    (hDrop (hApp 5 (hC tupW (hE (hC (sortUA (Str × Int) 64) (hL 7 hNil)) hNil)))))))
    (hRet (hC tupW (hL 5 hNil))))))
theorem rd__law_machine_5d3daf : ∀ pvs n C, pvs.length = 3 → sp__law_machine_5d3daf pvs n C → h__law_machine_5d3daf ⟨fun s => C (.dat .none) s.n, fun p s => C p s.n, fun _ => False, fun _ => False⟩ ⟨pvs.map some ++ List.replicate (11 - pvs.length) none, n⟩ := by
  intro pvs n C _ h
  obtain ⟨most, ws, rfl, b0, b1, hw, hws, hn, q⟩ := h
  unfold h__law_machine_5d3daf
  simp [-hDrop, dats]
  refine drw' most _ _ (by omega) (by omega) (by omega) fun i i0 i1 => ?_
  simp [-hDrop]
  refine drw' 4 _ _ (by decide) (by decide) (by omega) fun hid h0 h1 => ?_
  simp [-hDrop]
  refine ⟨_, _, ⟨rfl, rfl⟩, rfl, rfl, ⟨by omega, by omega⟩, ?_⟩
  have er : rngD 0 (1 + i).toNat = (List.range (1 + i).toNat).map fun i => PyData.int ((i : Nat) : Int) := by simp [rngD]
  rw [er]
  refine node_loop (ws := ws) (most := most) (many := 1 + i) (hid := hid) (by omega) (by omega) (by omega) (List.range (1 + i).toNat) [] _ _ _ _ _ _ (fun r hr => by cases hr) (by simp; omega) (by simp; omega) fun found a b c d e n' hl hv hn2 => ?_
  have hl' : found.length = (1 + i).toNat := by simpa using hl
  simp only [List.length_range] at hn2
  simp
  refine q (Tup.mk found) n' ⟨?_, ?_, fun r hr p hp => ?_, fun r hr => (hv r hr).2.1, ?_, ?_⟩ (fun r hr => (hv r hr).2.2) ?_ (by omega)
  · show 1 ≤ found.length; omega
  · show found.length ≤ 300; omega
  · obtain ⟨x0, x1, x2⟩ := (hv r hr).1 p hp
    refine ⟨x0, by show p.2 < ((found.length : Nat) : Int); omega, x2.imp (fun z => hws _ z) id⟩
  · have sub := rows_flat (M := Tup.mk found) fun r hr => (hv r hr).1
    have := nodup_le _ ws (sortU_rising (Mch.deeds (Tup.mk found))).nodup fun x hx => sub x (mem_sortU.mp hx)
    omega
  · have gen : ∀ fs : List (Tup (Str × Int)), (∀ r ∈ fs, r.items.length ≤ 4) → ((fs.map Tup.items).map List.length).sum ≤ 4 * fs.length := fun fs => by
      induction fs with
      | nil => intro _; simp
      | cons f fs ih =>
        intro h
        have := ih fun r hr => h r (List.mem_cons_of_mem _ hr)
        have := h f List.mem_cons_self
        simp only [List.map_cons, List.sum_cons, List.length_cons]
        omega
    have := gen found fun r hr => (hv r hr).2.2
    show ((found.map Tup.items).map List.length).sum ≤ 40000
    omega
  · show ((found.length : Nat) : Int) ≤ most
    omega
end Sk
set_option Elab.async false
set_option linter.all false
set_option maxRecDepth 100000
set_option maxHeartbeats 4000000
namespace Sk
open PySem PySem.Spec PyProof.Rows L2
open PySem.W (Datum DatumOrd Tup T3 T4)
open Evl (Ex)
def sp__law_deeds_51e22b : HSp := fun ps n C => ∃ M : Mch, ps = [.dat (Datum.toD M)] ∧ M.size ≤ 40000 ∧ C (.dat (.tuple ((sortU M.deeds).map .str))) n
abbrev deedBody : HS := (hIfS (hAnd (hB (hC (eqP true) (hL 3 (hE (hK (.str "")) hNil)))) (hB (hC (inP true) (hL 3 (hL 1 hNil))))) (hDrop (hApp 1 (hV 3))) hNext)
theorem deed_row {D : HD} {o0 o2 : Option PV} {n : Nat} : ∀ (mv : List (Str × Int)) (xs : List Str) (o3 o4 : Option PV), xs.Nodup → xs.length + mv.length ≤ 90000 →
    (∀ (xs' : List Str) (o3' o4' : Option PV), xs'.Nodup → xs'.length ≤ xs.length + mv.length → (∀ x, x ∈ xs' ↔ x ∈ xs ∨ x ∈ rowDeeds mv) → D.nx ⟨[o0, some (.own (xs'.map .str)), o2, o3', o4'], n⟩) →
    each (gP 3 4) deedBody D (mv.map Datum.toD) ⟨[o0, some (.own (xs.map .str)), o2, o3, o4], n⟩ := by
  intro mv
  induction mv with
  | nil => intro xs o3 o4 hn _ fin; exact fin xs o3 o4 hn (by simp) (fun x => by simp [rowDeeds])
  | cons p mv ih =>
    intro xs o3 o4 hn hl fin
    have hl' : xs.length + (mv.length + 1) ≤ 90000 := by simpa using hl
    show gP 3 4 (.tuple [.str p.1, .int p.2]) _ _
    simp
    by_cases he : p.1 = ("" : Str)
    · simp [he]
      refine ih xs _ _ hn (by omega) fun xs' a b h1 h2 h3 => fin xs' a b h1 (by simp; omega) fun x => ?_
      rw [h3 x]
      have e : rowDeeds (p :: mv) = rowDeeds mv := by simp [rowDeeds, List.filter_cons, he]
      rw [e]
    · simp [he]
      refine inP_D p.1 xs rfl rfl (by decide) ?_
      have e : ∀ x, x ∈ rowDeeds (p :: mv) ↔ x = p.1 ∨ x ∈ rowDeeds mv := fun x => by simp [rowDeeds, List.filter_cons, he]
      by_cases hx : p.1 ∈ xs
      · simp [hx]
        refine ih xs _ _ hn (by omega) fun xs' a b h1 h2 h3 => fin xs' a b h1 (by simp; omega) fun x => ?_
        rw [h3 x, e]
        constructor
        · rintro (h | h)
          · exact Or.inl h
          · exact Or.inr (Or.inr h)
        · rintro (h | rfl | h)
          · exact Or.inl h
          · exact Or.inl hx
          · exact Or.inr h
      · simp [hx]
        refine ⟨by omega, ?_⟩
        have ea : xs.map PyData.str ++ [.str p.1] = (xs ++ [p.1]).map .str := by simp
        rw [ea]
        refine ih (xs ++ [p.1]) _ _ ?_ (by simp; omega) fun xs' a b h1 h2 h3 => fin xs' a b h1 (by simp at h2 ⊢; omega) fun x => ?_
        · rw [List.nodup_append]
          exact ⟨hn, by simp, fun a ha b hb e => by rw [List.mem_singleton.mp hb] at e; exact hx (e ▸ ha)⟩
        · rw [h3 x, e]
          simp only [List.mem_append, List.mem_singleton]
          constructor
          · rintro ((h | h) | h)
            · exact Or.inl h
            · exact Or.inr (Or.inl h)
            · exact Or.inr (Or.inr h)
          · rintro (h | h | h)
            · exact Or.inl (Or.inl h)
            · exact Or.inl (Or.inr h)
            · exact Or.inr h
theorem deed_rows {D : HD} {o0 : Option PV} {n : Nat} : ∀ (rs : List (Tup (Str × Int))) (xs : List Str) (o2 o3 o4 : Option PV), xs.Nodup → xs.length + (rs.map fun r => r.items.length).sum ≤ 90000 →
    (∀ (xs' : List Str) (o2' o3' o4' : Option PV), xs'.Nodup → (∀ x, x ∈ xs' ↔ x ∈ xs ∨ ∃ r ∈ rs, x ∈ rowDeeds r.items) → D.nx ⟨[o0, some (.own (xs'.map .str)), o2', o3', o4'], n⟩) →
    each (gN 2) (hFor (hiT (hV 2)) (gP 3 4) deedBody) D (rs.map Datum.toD) ⟨[o0, some (.own (xs.map .str)), o2, o3, o4], n⟩ := by
  intro rs
  induction rs with
  | nil => intro xs o2 o3 o4 hn _ fin; exact fin xs o2 o3 o4 hn (fun x => by simp)
  | cons r rs ih =>
    intro xs o2 o3 o4 hn hl fin
    have hl' : xs.length + (r.items.length + (rs.map fun r => r.items.length).sum) ≤ 90000 := by simpa using hl
    have hrD : (Datum.toD r : PyData) = .tuple (r.items.map Datum.toD) := rfl
    simp only [List.map_cons, each, gN, hFor, hiT, hV, Sg.put, List.set_cons_succ, List.set_cons_zero, List.getElem?_cons_succ, List.getElem?_cons_zero, frz_dat, hrD]
    refine deed_row r.items xs _ _ hn (by omega) fun xs' a b h1 h2 h3 => ?_
    refine ih xs' _ _ _ h1 (by omega) fun xs2 a b c g1 g2 => fin xs2 a b c g1 fun x => ?_
    rw [g2 x, h3 x]
    constructor
    · rintro ((h | h) | ⟨q, hq, h⟩)
      · exact Or.inl h
      · exact Or.inr ⟨r, List.mem_cons_self, h⟩
      · exact Or.inr ⟨q, List.mem_cons_of_mem _ hq, h⟩
    · rintro (h | ⟨q, hq, h⟩)
      · exact Or.inl (Or.inl h)
      · rcases List.mem_cons.mp hq with rfl | hq
        · exact Or.inl (Or.inr h)
        · exact Or.inr ⟨q, hq, h⟩
theorem sortL_sortU {α : Type} [DecidableEq α] [DatumOrd α] [OrdL α] {xs ys : List α} (h : xs.Nodup) (m : ∀ x, x ∈ xs ↔ x ∈ ys) : sortL xs = sortU ys := sortU_eq (sortL_rising h) fun x => mem_sortL.trans (m x)
theorem mem_deeds {M : Mch} {x : Str} : x ∈ M.deeds ↔ ∃ r ∈ M.items, x ∈ rowDeeds r.items := by
  simp only [Mch.deeds, Mch.rows, List.mem_flatten, List.mem_map]
  constructor
  · rintro ⟨_, ⟨_, ⟨r, hr, rfl⟩, rfl⟩, hx⟩
    exact ⟨r, hr, hx⟩
  · rintro ⟨r, hr, hx⟩
    exact ⟨_, ⟨r.items, ⟨r, hr, rfl⟩, rfl⟩, hx⟩
def h__law_deeds_51e22b : HS :=
    (hSeq (hAsg (hLst hNil) 1)
    (hSeq (hFor (hiT (hV 0)) (gN 2) (hFor (hiT (hV 2)) (gP 3 4) (hIfS (hAnd (hB (hC (eqP true) (hL 3 (hE (hK (.str "")) hNil)))) (hB (hC (inP true) (hL 3 (hL 1 hNil))))) (hDrop (hApp 1 (hV 3))) hNext)))
    (hRet (hC tupW (hE (hC (sortA (Str)) (hL 1 hNil)) hNil)))))
theorem rd__law_deeds_51e22b : ∀ pvs n C, pvs.length = 1 → sp__law_deeds_51e22b pvs n C → h__law_deeds_51e22b ⟨fun s => C (.dat .none) s.n, fun p s => C p s.n, fun _ => False, fun _ => False⟩ ⟨pvs.map some ++ List.replicate (5 - pvs.length) none, n⟩ := by
  intro pvs n C _ h
  obtain ⟨M, rfl, hs, q⟩ := h
  unfold h__law_deeds_51e22b
  have hM : (Datum.toD M : PyData) = .tuple (M.items.map Datum.toD) := rfl
  rw [hM]
  simp [-hFor, dats]
  simp only [hFor, hiT, hV, List.getElem?_cons_zero, frz_dat]
  refine deed_rows M.items [] _ _ _ List.nodup_nil (by simpa [Mch.size, Mch.rows, Function.comp_def] using (by omega : M.size ≤ 90000)) fun xs a b c hn hm => ?_
  simp
  refine ⟨xs, rfl, ?_⟩
  have e : sortL xs = sortU M.deeds := sortL_sortU hn fun x => by rw [hm x, mem_deeds]; simp
  rw [e]
  simp
  exact q
end Sk
set_option Elab.async false
set_option linter.all false
set_option maxRecDepth 100000
set_option maxHeartbeats 4000000
namespace Sk
open PySem PySem.Spec PyProof.Rows L2
open PySem.W (Datum DatumOrd Tup T3 T4)
open Evl (Ex)
@[simp] theorem add_ol {ds es : List PyData} {C : PV → Prop} : addW [.own ds, .dat (.list es)] C ↔ ds.length + es.length ≤ 100000 ∧ C (.own (ds ++ es)) := by simp [addW]
def sp__law_met_5f2e98 : HSp := fun ps n C => ∃ M : Mch, ps = [.dat (Datum.toD M)] ∧ MOk M ∧ (∀ r ∈ M.items, r.items.length ≤ 10) ∧ ∀ xs : List Int, Rising xs → (∀ x, x ∈ xs ↔ Reach M x) → C (.own (xs.map .int)) n
def goalsOf (M : Mch) (x : Int) : List Int := match M.items[x.toNat]? with
  | some r => r.items.map (·.2)
  | none => []
abbrev metBody : HS := hAsg (hC addW (hL 3 (hE (hLc (hiT (hC ixW (hL 0 (hL 4 hNil)))) (gP 5 6) hYes (hV 6) [5, 6]) hNil))) 3
theorem met_loop {D : HD} {M : Mch} (h10 : ∀ r ∈ M.items, r.items.length ≤ 10) {o1 o2 : Option PV} {n : Nat} : ∀ (os : List Int) (more : List Int) (o4 : Option PV), (∀ x ∈ os, 0 ≤ x ∧ x < M.items.length) → more.length + 10 * os.length ≤ 90000 →
    (∀ (more' : List Int) (o4' : Option PV), more'.length ≤ more.length + 10 * os.length → (∀ y, y ∈ more' ↔ y ∈ more ∨ ∃ x ∈ os, y ∈ goalsOf M x) → D.nx ⟨[some (.dat (.tuple (M.items.map Datum.toD))), o1, o2, some (.own (more'.map .int)), o4', none, none], n⟩) →
    each (gN 4) metBody D (os.map .int) ⟨[some (.dat (.tuple (M.items.map Datum.toD))), o1, o2, some (.own (more.map .int)), o4, none, none], n⟩ := by
  intro os
  induction os with
  | nil => intro more o4 _ _ fin; exact fin more o4 (by simp) fun y => by simp
  | cons x os ih =>
    intro more o4 hr hl fin
    obtain ⟨x0, x1⟩ := hr x List.mem_cons_self
    have hl' : more.length + 10 * (os.length + 1) ≤ 90000 := by simpa using hl
    have hwl : x.toNat < M.items.length := by omega
    have hrow : M.items[x.toNat]? = some M.items[x.toNat] := List.getElem?_eq_getElem hwl
    have hrm : M.items[x.toNat] ∈ M.items := List.getElem_mem hwl
    have r10 := h10 _ hrm
    have hat : atI (M.items.map (Datum.toD : Tup (Str × Int) → PyData)) x = some (Datum.toD M.items[x.toNat]) := by
      unfold atI ixN
      rw [List.length_map, if_pos x0, if_pos (by omega)]
      show (M.items.map Datum.toD)[x.toNat]? = _
      rw [List.getElem?_map, hrow]; rfl
    have hR : (Datum.toD M.items[x.toNat] : PyData) = .tuple ((M.items[x.toNat]).items.map Datum.toD) := rfl
    simp [hat, hR]
    refine lcs_map (fun p : Str × Int => (Datum.toD p : PyData)) (fun p => .int p.2) (fun p hp K hK => ?_) [] _ (by simp; omega) ?_
    · show gP 5 6 (.tuple [.str p.1, .int p.2]) _ _
      simp
      refine hK _ ?_
      simp
    · simp
      refine ⟨by omega, ?_⟩
      have e : more.map PyData.int ++ (M.items[x.toNat]).items.map (fun p => PyData.int p.2) = (more ++ (M.items[x.toNat]).items.map (·.2)).map .int := by simp
      rw [e]
      have eg : goalsOf M x = (M.items[x.toNat]).items.map (·.2) := by unfold goalsOf; rw [hrow]
      refine ih _ _ (fun y hy => hr y (List.mem_cons_of_mem _ hy)) (by simp; omega) fun more' a h1 h2 => fin more' a (by simp at h1 ⊢; omega) fun y => ?_
      rw [h2 y, ← eg]
      simp only [List.mem_append]
      constructor
      · rintro ((h | h) | ⟨z, hz, h⟩)
        · exact Or.inl h
        · exact Or.inr ⟨x, List.mem_cons_self, h⟩
        · exact Or.inr ⟨z, List.mem_cons_of_mem _ hz, h⟩
      · rintro (h | ⟨z, hz, h⟩)
        · exact Or.inl (Or.inl h)
        · rcases List.mem_cons.mp hz with rfl | hz
          · exact Or.inl (Or.inr h)
          · exact Or.inr ⟨z, hz, h⟩
theorem goals_reach {M : Mch} {x y : Int} (hx : Reach M x) (hy : y ∈ goalsOf M x) : Reach M y := by
  unfold goalsOf at hy
  split at hy
  · rename_i r hr
    obtain ⟨p, hp, rfl⟩ := List.mem_map.mp hy
    exact .step hx (by unfold Mch.rows; rw [List.getElem?_map, hr]; rfl) hp
  · cases hy
theorem reach_goals {M : Mch} {xs : List Int} (h0 : (0 : Int) ∈ xs) (cl : ∀ x ∈ xs, ∀ y ∈ goalsOf M x, y ∈ xs) : ∀ {x : Int}, Reach M x → x ∈ xs := fun {x} h => by
  induction h with
  | start => exact h0
  | @step x r p _ hr hp ih =>
    refine cl _ ih _ ?_
    unfold Mch.rows at hr
    rw [List.getElem?_map] at hr
    obtain ⟨q, hq, rfl⟩ := Option.map_eq_some_iff.mp hr
    unfold goalsOf
    rw [hq]
    exact List.mem_map.mpr ⟨p, hp, rfl⟩
theorem reach_rng {M : Mch} (ok : MOk M) {x : Int} (h : Reach M x) : 0 ≤ x ∧ x < M.items.length := by
  cases h with
  | start => have := ok.lo; omega
  | step _ hr hp =>
    unfold Mch.rows at hr
    rw [List.getElem?_map] at hr
    obtain ⟨q, hq, rfl⟩ := Option.map_eq_some_iff.mp hr
    obtain ⟨a, b, _⟩ := ok.mv q (List.mem_of_getElem? hq) _ hp
    exact ⟨a, b⟩
theorem rng_len {L : Nat} {ks : List Int} (nd : ks.Nodup) (h : ∀ k ∈ ks, 0 ≤ k ∧ k < L) : ks.length ≤ L := by
  have := nodup_le ks ((List.range L).map fun i => ((i : Nat) : Int)) nd fun k hk => by
    obtain ⟨a, b⟩ := h k hk
    exact List.mem_map.mpr ⟨k.toNat, List.mem_range.mpr (by omega), by omega⟩
  simpa using this
def h__law_met_5f2e98 : HS :=
    (hSeq (hAsg (hLst (hE (hK (.int 0)) hNil)) 1)
    (hSeq (hAsg (hK (.bool true)) 2)
    (hSeq (hWhile (hB (hV 2)) (hSeq (hAsg (hC listW (hL 1 hNil)) 3)
    (hSeq (hFor (hiL (hV 1)) (gN 4) (hAsg (hC addW (hL 3 (hE (hLc (hiT (hC ixW (hL 0 (hL 4 hNil)))) (gP 5 6) hYes (hV 6) [5, 6]) hNil))) 3))
    (hSeq (hAsg (hC (eqP true) (hE (hC (sortUA Int 4000) (hL 3 hNil)) (hL 1 hNil))) 2)
    (hAsg (hC (sortUA Int 4000) (hL 3 hNil)) 1)))))
    (hRet (hM 1)))))
theorem rd__law_met_5f2e98 : ∀ pvs n C, pvs.length = 1 → sp__law_met_5f2e98 pvs n C → h__law_met_5f2e98 ⟨fun s => C (.dat .none) s.n, fun p s => C p s.n, fun _ => False, fun _ => False⟩ ⟨pvs.map some ++ List.replicate (7 - pvs.length) none, n⟩ := by
  intro pvs n C _ h
  obtain ⟨M, rfl, ok, h10, q⟩ := h
  unfold h__law_met_5f2e98
  have hM : (Datum.toD M : PyData) = .tuple (M.items.map Datum.toD) := rfl
  rw [hM]
  have lo := ok.lo
  have hi := ok.hi
  simp [dats]
  refine ⟨fun s => ∃ (fs : List Int) (b : Bool) (o3 o4 : Option PV), s = ⟨[some (.dat (.tuple (M.items.map Datum.toD))), some (.own (fs.map .int)), some (.dat (.bool b)), o3, o4, none, none], n⟩ ∧ Rising fs ∧ (∀ x ∈ fs, Reach M x) ∧ (0 : Int) ∈ fs ∧ (b = false → ∀ x ∈ fs, ∀ y ∈ goalsOf M x, y ∈ fs), fun s => match s.sl with
    | [_, some (.own fs), some (.dat (.bool b)), _, _, _, _] => if b = true then 2 * (M.items.length + 1 - fs.length) else 0
    | _ => 0, ⟨[0], true, none, none, rfl, by simp [Rising], fun x hx => by rw [List.mem_singleton.mp hx]; exact .start, List.mem_singleton.mpr rfl, fun h => by cases h⟩, ?_⟩
  rintro _ ⟨fs, b, o3, o4, rfl, up, rc, z, cl⟩
  have fl := rng_len up.nodup fun k hk => reach_rng ok (rc k hk)
  simp
  cases b with
  | false =>
    simp
    exact q fs up fun x => ⟨rc x, reach_goals z (cl rfl)⟩
  | true =>
    simp
    refine met_loop h10 fs fs _ (fun x hx => reach_rng ok (rc x hx)) (by omega) fun more a hl hm => ?_
    have ml : more.length < 4000 := by omega
    have gup := sortU_rising more
    have gmem : ∀ y, y ∈ sortU more ↔ y ∈ fs ∨ ∃ x ∈ fs, y ∈ goalsOf M x := fun y => by rw [mem_sortU, hm]
    have grc : ∀ y ∈ sortU more, Reach M y := fun y hy => by
      rcases (gmem y).mp hy with h | ⟨x, hx, h⟩
      · exact rc y h
      · exact goals_reach (rc x hx) h
    have gz : (0 : Int) ∈ sortU more := (gmem 0).mpr (Or.inl z)
    have gl := rng_len gup.nodup fun k hk => reach_rng ok (grc k hk)
    simp
    refine ⟨more, rfl, ml, ?_⟩
    simp
    refine eqP_D (α := List Int) (sortU more) fs rfl rfl (by decide) ?_
    simp
    refine ⟨more, rfl, ml, ?_⟩
    by_cases hg : sortU more = fs
    · have hg' : decide (sortU more = fs) = true := decide_eq_true hg
      simp only [hg']
      refine ⟨⟨sortU more, Or.inl ⟨⟨rfl, hg⟩, gup, grc, gz, fun x hx y hy => ?_⟩⟩, ?_⟩
      · rw [hg] at hx
        exact (gmem y).mpr (Or.inr ⟨x, hx, hy⟩)
      · simp; omega
    · have hg' : decide (sortU more = fs) = false := decide_eq_false hg
      simp only [hg']
      refine ⟨⟨sortU more, Or.inr ⟨⟨rfl, hg⟩, gup, grc, gz⟩⟩, ?_⟩
      have longer : fs.length < (sortU more).length := by
        rcases Nat.lt_or_ge fs.length (sortU more).length with h | h
        · exact h
        · exfalso
          apply hg
          refine gup.eq up fun x => ⟨fun hx => ?_, fun hx => (gmem x).mpr (Or.inl hx)⟩
          apply Classical.byContradiction
          intro hx2
          have := nodup_le (x :: fs) (sortU more) (List.nodup_cons.mpr ⟨hx2, up.nodup⟩) fun y hy => by
            rcases List.mem_cons.mp hy with rfl | hy
            · exact hx
            · exact (gmem y).mpr (Or.inl hy)
          simp at this
          omega
      simp
      omega
end Sk
set_option Elab.async false
set_option linter.all false
set_option maxRecDepth 100000
set_option maxHeartbeats 2000000
/-! a list that the called def changes in place: its last parameter -/
namespace Sk
open PySem PySem.Spec PyProof.Rows L2
open Evl (Ex)
abbrev HSpR := List PV → List PyData → Nat → (PV → List PyData → Nat → Prop) → Prop
def SpHR (K : PySem.W.Frag) (k : Nat) (sp : HSpR) : Sp := fun vs H Q _ => ∃ f G n ps ds C, f.F = H ∧ (∀ a, f.M a → (f.on = true ∧ (a = f.m ∨ a = f.l)) ∨ a = f.r) ∧ Rel K f G ⟨(ps ++ [.byr ds]).map some, n⟩ (vs.map some) H ∧ (∀ p ∈ ps, p.mut = false) ∧ ps.length = k ∧ sp ps ds n C ∧
  ∀ p es n' G' H' v, C p es n' → Ex G G' → Rel K f G' ⟨[some (.byr es)], n'⟩ [some (.ref f.r)] H' → VRf K f G' H' ⟨[some (.byr es)], n'⟩ [some (.ref f.r)] p v → Q v H'
theorem spHR_call {K : PySem.W.Frag} {f : Fr} {F : Fr} {O : Addr → Prop} {G H : Hp} {s : Sg} {σ : L2.St} {ps : List PV} {vs : List V} {ds : List PyData} {j : Nat} {r0 : V} {k : Nat} {sp : HSpR} {Q : VK} {E : XK} {C : PV → List PyData → Nat → Prop} (R : Rel K (fo f F O) G s σ H) (W : VRs K (fo f F O) G H ps vs) (hk : ps.length = k) (hm : ∀ p ∈ ps, p.mut = false)
    (hj : s.sl[j]? = some (some (.own ds))) (hr0 : σ[j]? = some (some r0)) (h : sp ps ds s.n C)
    (q : ∀ p es n' G' H' v, C p es n' → Ex G G' → Rel K (fo f F O) G' ((⟨s.sl, n'⟩ : Sg).put j (.own es)) σ H' → VRf K (fo f F O) G' H' ((⟨s.sl, n'⟩ : Sg).put j (.own es)) σ p v → Q v H') : SpHR K k sp (vs ++ [r0]) H Q E := by
  classical
  obtain ⟨v0, e0, V0⟩ := R.sl j _ hj
  rw [hr0] at e0
  cases e0
  obtain ⟨r0, ws0, rfl, a1, a2, a3, a4, a5⟩ := V0
  have a3 : ¬ O r0 := a3
  have a4 : F.F r0 = none ∨ F.M r0 := a4
  let S : Addr → Prop := fun a => ∃ (i : Nat) (q : PV), s.sl[i]? = some (some q) ∧ q.mut = true ∧ σ[i]? = some (some (.ref a))
  have hS : ∀ a, S a → H a ≠ none ∧ G a = none ∧ ¬ O a := fun a ⟨i, q, h1, h2, h3⟩ => by
    obtain ⟨v, h4, h5⟩ := R.sl i q h1
    rw [h3] at h4
    cases h4
    cases q with
    | dat d => cases h2
    | drw => cases h2
    | val _ => cases h2
    | own ds => obtain ⟨p, ws, e, k1, k2, k3, _⟩ := h5; cases e; exact ⟨(by rw [k1]; intro z; cases z), k2, k3⟩
    | byr ds => obtain ⟨p, ws, e, k1, k2, k3, _⟩ := h5; cases e; exact ⟨(by rw [k1]; intro z; cases z), k2, k3⟩
    | dct ds => obtain ⟨p, ws, e, k1, k2, k3, _⟩ := h5; cases e; exact ⟨(by rw [k1]; intro z; cases z), k2, k3⟩
  let O' : Addr → Prop := fun a => (O a ∨ S a) ∧ a ≠ r0
  let f' : Fr := ⟨F.on, F.m, F.l, F.c, H, O', fun a => (F.on = true ∧ (a = F.m ∨ a = F.l)) ∨ a = r0, r0⟩
  have oo : ∀ a, O a → O' a := fun a h => ⟨Or.inl h, fun z => a3 (z ▸ h)⟩
  have Mo : ∀ a, (F.on = true ∧ (a = F.m ∨ a = F.l)) → O a := fun a ⟨h1, h2⟩ => by
    obtain ⟨x1, x2, _⟩ := R.mo h1
    rcases h2 with h2 | h2
    · rw [h2]; exact x1
    · rw [h2]; exact x2
  have lenv : vs.length = ps.length := by
    have := Paired.length W
    omega
  have mutf : ∀ (i : Nat) p, ps[i]? = some p → p.mut = false := fun i p h => hm p (List.mem_of_getElem? h)
  have R' : Rel K f' G ⟨(ps ++ [PV.byr ds]).map some, s.n⟩ ((vs ++ [V.ref r0]).map some) H := {
    gh := R.gh
    fh := fun a o _ h => h
    go := fun a h => h.1.elim (fun z => R.go a z) fun z => (hS a z).2.1
    oh := fun a h => h.1.elim (fun z => R.oh a z) fun z => (hS a z).1
    mh := fun a h => h.elim (fun h => R.oh a (Mo a h)) fun h => by rw [h, a1]; intro z; cases z
    mo := fun h => by
      obtain ⟨x1, x2, x3, _⟩ := R.mo h
      exact ⟨oo _ x1, oo _ x2, oo _ x3, Or.inl ⟨h, Or.inl rfl⟩, Or.inl ⟨h, Or.inr rfl⟩⟩
    dr := R.dr
    ln := by simp [lenv]
    sl := fun i p h => by
      rw [List.getElem?_map] at h
      obtain ⟨p0, h1, e⟩ := Option.map_eq_some_iff.mp h
      cases e
      by_cases hi : i < ps.length
      · rw [List.getElem?_append_left hi] at h1
        obtain ⟨v, h3, h4⟩ := pair_at W h1
        refine ⟨v, by rw [List.getElem?_map, List.getElem?_append_left (by omega), h3]; rfl, ?_⟩
        have m := mutf i _ h1
        cases p with
        | dat d => exact h4
        | drw => exact h4
        | val _ => exact h4
        | own _ => cases m
        | dct _ => cases m
        | byr _ => cases m
      · rw [List.getElem?_append_right (by omega)] at h1
        have hi2 : i = ps.length := by
          have := (List.getElem?_eq_some_iff.mp h1).1
          simp at this
          omega
        subst hi2
        simp at h1
        subst h1
        refine ⟨.ref r0, by rw [List.getElem?_map, List.getElem?_append_right (by omega), lenv]; simp, ?_⟩
        exact ⟨r0, ws0, rfl, a1, a2, fun z => z.2 rfl, Or.inr (Or.inr rfl), a5, rfl⟩
    ds := fun i i' p p' v ne hi hi' mp mp' _ => by
      exfalso
      have key : ∀ (i : Nat) p, ((ps ++ [PV.byr ds]).map some)[i]? = some (some p) → p.mut = true → i = ps.length := fun i p h m => by
        rw [List.getElem?_map] at h
        obtain ⟨p0, h1, e⟩ := Option.map_eq_some_iff.mp h
        cases e
        by_cases hi : i < ps.length
        · rw [List.getElem?_append_left hi] at h1
          rw [mutf i _ h1] at m
          cases m
        · have := (List.getElem?_eq_some_iff.mp h1).1
          simp at this
          omega
      exact ne ((key i p hi mp).trans (key i' p' hi' mp').symm) }
  refine ⟨f', G, s.n, ps, ds, C, rfl, fun a h => h, R', hm, hk, h, fun p es n' G' H' v c e R2 V2 => ?_⟩
  have hk2 : ∀ a u, H a = some u → ¬ O a → a ≠ r0 → H' a = some u := fun a u h n n2 => R2.fh a u (fun z => z.elim (fun z => n (Mo a z)) n2) h
  obtain ⟨w1, e1, W1⟩ := R2.sl 0 _ rfl
  simp at e1
  subst e1
  obtain ⟨r1, ws1, er, b1, b2, b3, b4, b5, b6⟩ := W1
  cases er
  have vnew : VR K (fo f F O) G' H' (.own es) (.ref r0) := ⟨r0, ws1, rfl, b1, b2, a3, a4, b5⟩
  have jl : j < s.sl.length := (List.getElem?_eq_some_iff.mp hj).1
  have R3 : Rel K (fo f F O) G' ((⟨s.sl, n'⟩ : Sg).put j (.own es)) σ H' := {
    gh := R2.gh
    fh := fun a o m h => by
      have ne : a ≠ r0 := fun z => by
        subst z
        rcases a4 with a4 | a4
        · rw [show F.F a = some o from h] at a4; cases a4
        · exact m a4
      refine R2.fh a o (fun z => z.elim (fun ⟨h1, h2⟩ => ?_) ne) (R.fh a o m h)
      obtain ⟨_, _, _, x4, x5⟩ := R.mo h1
      rcases h2 with h2 | h2
      · exact m (by rw [h2]; exact x4)
      · exact m (by rw [h2]; exact x5)
    go := fun a h => R2.go a (oo a h)
    oh := fun a h => R2.oh a (oo a h)
    mh := fun a h => by
      by_cases z : f'.M a
      · exact R2.mh a z
      · cases w : H a with
        | none => exact absurd w (R.mh a h)
        | some u => rw [R2.fh a u z w]; intro z; cases z
    mo := R.mo
    dr := R2.dr
    ln := by simp only [Sg.put, List.length_set]; exact R.ln
    sl := fun i p h => by
      rcases set_get h with ⟨ei, e2, hl⟩ | ⟨ei, h2⟩
      · cases e2
        subst ei
        exact ⟨_, hr0, vnew⟩
      · obtain ⟨w, h3, h4⟩ := R.sl i p h2
        refine ⟨w, h3, ?_⟩
        have nr : p.mut = true → w ≠ .ref r0 := fun m z => R.ds j i _ _ _ ei hj h2 rfl m hr0 (by rw [h3, z])
        cases p with
        | dat d => exact Dp.ex e _ h4
        | drw => exact h4
        | val _ => exact h4
        | own ds =>
          obtain ⟨a, ws, rfl, k1, k2, k3, k4, k5⟩ := h4
          have ne : a ≠ r0 := fun z => nr rfl (by rw [z])
          exact ⟨a, ws, rfl, hk2 a _ k1 k3 ne, R2.go a ⟨Or.inr ⟨i, _, h2, rfl, h3⟩, ne⟩, k3, k4, Dp.exAll e _ k5⟩
        | byr ds =>
          obtain ⟨a, ws, rfl, k1, k2, k3, k4, k5, k6⟩ := h4
          have ne : a ≠ r0 := fun z => nr rfl (by rw [z])
          exact ⟨a, ws, rfl, hk2 a _ k1 k3 ne, R2.go a ⟨Or.inr ⟨i, _, h2, rfl, h3⟩, ne⟩, k3, k4, Dp.exAll e _ k5, k6⟩
        | dct ds =>
          obtain ⟨a, ws, rfl, k1, k2, k3, k4, k5, k6⟩ := h4
          have ne : a ≠ r0 := fun z => nr rfl (by rw [z])
          exact ⟨a, ws, rfl, hk2 a _ k1 k3 ne, R2.go a ⟨Or.inr ⟨i, _, h2, rfl, h3⟩, ne⟩, k3, k4, k5, Dp.exAll e _ k6⟩
    ds := fun a b pa pb w ne ha hb ma mb wa wb => by
      rcases set_get ha with ⟨e1, e2, _⟩ | ⟨e1, h2⟩
      · cases e2
        subst e1
        rcases set_get hb with ⟨e3, e4, _⟩ | ⟨e3, h4⟩
        · exact ne e3
        · exact R.ds _ b _ pb w ne hj h4 rfl mb wa wb
      · rcases set_get hb with ⟨e3, e4, _⟩ | ⟨e3, h4⟩
        · cases e4
          subst e3
          exact R.ds a _ pa _ w ne h2 hj ma rfl wa wb
        · exact R.ds a b pa pb w ne h2 h4 ma mb wa wb }
  refine q p es n' G' H' v c e R3 ?_
  have newp : ∀ a, V.ref a = v → p.mut = true → ¬ O' a → (H a = none ∨ f'.M a) → ¬ O a ∧ (F.F a = none ∨ F.M a) ∧ H a = none := fun a ev m h2 h3 => by
    have nr : a ≠ r0 := fun z => V2.2 m 0 _ rfl rfl (by rw [← ev, z]; rfl)
    have ha : H a = none := h3.elim id fun z => z.elim (fun z => absurd (oo a (Mo a z)) h2) fun z => absurd z nr
    exact ⟨fun z => h2 (oo a z), R.fr_none ha, ha⟩
  have fresh : ∀ a, V.ref a = v → H a = none → p.mut = true → ∀ (i : Nat) (q : PV), ((⟨s.sl, n'⟩ : Sg).put j (.own es)).sl[i]? = some (some q) → q.mut = true → σ[i]? ≠ some (some v) := fun a ev ha m i q h1 h2 h3 => by
    rcases set_get h1 with ⟨e1, e2, _⟩ | ⟨e1, h4⟩
    · subst e1
      rw [hr0] at h3
      have z : V.ref r0 = v := Option.some.inj (Option.some.inj h3)
      rw [← ev] at z
      cases z
      rw [a1] at ha; cases ha
    · exact (hS a ⟨i, q, h4, h2, by rw [ev]; exact h3⟩).1 ha
  obtain ⟨V2, Vf⟩ := V2
  cases p with
  | dat d => exact vrf_dat V2
  | drw => exact ⟨V2, fun z => by cases z⟩
  | val _ => exact ⟨V2, fun z => by cases z⟩
  | own ds =>
    obtain ⟨a, ws, rfl, k1, k2, k3, k4, k5⟩ := V2
    obtain ⟨c1, c2, c3⟩ := newp a rfl rfl k3 k4
    exact ⟨⟨a, ws, rfl, k1, k2, c1, c2, k5⟩, fresh a rfl c3⟩
  | byr ds =>
    obtain ⟨a, ws, rfl, k1, k2, k3, k4, k5, k6⟩ := V2
    have k6 : a = r0 := k6
    subst k6
    exact absurd rfl (Vf rfl 0 _ rfl rfl)
  | dct ds =>
    obtain ⟨a, ws, rfl, k1, k2, k3, k4, k5, k6⟩ := V2
    obtain ⟨c1, c2, c3⟩ := newp a rfl rfl k3 k4
    exact ⟨⟨a, ws, rfl, k1, k2, c1, c2, k5, k6⟩, fresh a rfl c3⟩
/-- f(e, x): x is a list of one's own in slot j, which f changes -/
def hCallR (sp : HSpR) (j : Nat) (oa : HA → HA) : HE := fun s C => oa hNil s fun ps s1 => match ps with
  | [p] => p.mut = false ∧ ∃ ds, s1.sl[j]? = some (some (.own ds)) ∧ sp [p] ds s1.n fun q es n' => C q ((⟨s1.sl, n'⟩ : Sg).put j (.own es))
  | _ => False
section
variable {X : Cx} {e x a : Expr} {oa : HA → HA} {sp : HSpR} {E : XK}
theorem hp_callR {j : Nat} (h : ∀ {t : TA}, PA X [e, x] t → PE X a (tCall (SpHR X.K 1 sp) [] E t)) (A : Opd X f0 e oa) (hx : PE X x (tVar j)) (hs : starEach [e, x] X.env = (false, eval e X.env) :: starEach [x] X.env := by rfl) (hs2 : starEach [x] X.env = (false, eval x X.env) :: starEach [] X.env := by rfl) : PE X a (lf X.K f0 (hCallR sp j oa)) := by
  obtain ⟨ta, a1, a2⟩ := A.ex
  refine (h (pa_cons a1 (pa_cons hx pa_nil hs2) hs)).mono fun σ H Q q => ?_
  have z := a2 tNil hNil (fun σ H Q q => by
    obtain ⟨F, O, G, s, C, R, ht, k⟩ := q
    exact k _ _ _ _ _ ht (Ex.refl G) R .nil) σ H (fun vs H1 => ∃ v, σ[j]? = some (some v) ∧ SpHR X.K 1 sp ((vs ++ [v]) ++ []) H1 Q E) ?_
  · exact z
  · obtain ⟨F, O, G, s, C, R, ht, k⟩ := q
    refine ⟨F, O, G, s, _, R, ht, fun ps s1 G1 H1 vs c1 e1 R1 V1 => ?_⟩
    split at c1
    · rename_i p
      obtain ⟨hm, ds, hj, hsp⟩ := c1
      obtain ⟨v, hv, _⟩ := R1.sl j _ hj
      refine ⟨v, hv, ?_⟩
      rw [List.append_nil]
      refine spHR_call R1 V1 rfl (fun p' hp' => by rw [List.mem_singleton.mp hp']; exact hm) hj hv hsp fun q es n' G' H' w c e2 R2 V2 => ?_
      exact k q _ G' H' w c (e1.trans e2) R2 V2
    · exact c1.elim
theorem valsR_len {k : Nat} {K : PySem.W.Frag} : ∀ vs H Q E, SpHR K k sp vs H Q E → vs.length = k + 1 := fun vs H Q E h => by
  obtain ⟨f, G, n, ps, ds, C, _, _, R, _, hk, _⟩ := h
  have := R.ln
  simp at this
  omega
/-- a def by its body, its last parameter changed in place -/
theorem gnHR {P : Program} {w : World} {K : PySem.W.Frag} {mg : Str → Option Value} {base : Heap} {k kk : Nat} {fa : Addr} {fd : FuncData} {x qual : Str} {st : Stmt} {N ps : List Str} {hs : HS} (Fn : Fun K x qual st fa fd) (S : FnScope N ps (defScope st)) (hps : ps.length = kk + 1)
    (body : ∀ (cdv : Value) (A : Around) (outer : List Env) (s : Shared) (H : Hp) (E : XK), (A.deeper (envOfC qual (defScope st) s.heap.objs.size fa cdv)).guards = some [] → Room k (A.deeper (envOfC qual (defScope st) s.heap.objs.size fa cdv)) → PSs (cxOf CX0 P w K mg base N qual (defScope st) fa cdv A outer s H E).nox (defBody st) (lfS K f0 hs))
    (rd : ∀ pvs ds n C, pvs.length = kk → sp pvs ds n C → hs ⟨fun s => ∃ es, s.sl[kk]? = some (some (.byr es)) ∧ C (.dat .none) es s.n, fun p s => ∃ es, s.sl[kk]? = some (some (.byr es)) ∧ C p es s.n, fun _ => False, fun _ => False⟩ ⟨(pvs ++ [PV.byr ds]).map some ++ List.replicate (N.length - (pvs.length + 1)) none, n⟩) :
    GnOk P w K mg base CX0 (k + 1) fa fd ps (SpHR K kk sp) := by
  refine gn_ok Fn S (fun vs H Q E h => by rw [hps]; exact valsR_len vs H Q E h) fun cdv A outer s H vs Q E hgd hr h => ?_
  obtain ⟨f, G, n, pvs, ds, C, hF, hM, R, hm, hk, hsp, fin⟩ := h
  have lnv : vs.length = pvs.length + 1 := by
    have := R.ln
    simpa using this
  have endR : ∀ {G1 H1 : Hp} {s1 : Sg} {σ1 : L2.St} {es : List PyData}, Rel K f G1 s1 σ1 H1 → s1.sl[kk]? = some (some (.byr es)) → Rel K f G1 ⟨[some (.byr es)], s1.n⟩ [some (.ref f.r)] H1 ∧ σ1[kk]? = some (some (.ref f.r)) := fun {G1 H1 s1 σ1 es} R1 h1 => by
    obtain ⟨w1, h2, h3⟩ := R1.sl kk _ h1
    obtain ⟨b, ws, rfl, k1, k2, k3, k4, k5, rfl⟩ := h3
    refine ⟨{ gh := R1.gh, fh := R1.fh, go := R1.go, oh := R1.oh, mh := R1.mh, mo := R1.mo, dr := R1.dr, ln := rfl, sl := fun i p h => ?_, ds := fun i j p q v ne hi hj _ _ _ => ?_ }, h2⟩
    · match i, h with
      | 0, h => simp at h; subst h; exact ⟨_, rfl, _, ws, rfl, k1, k2, k3, k4, k5, rfl⟩
      | i + 1, h => simp at h
    · match i, j, hi, hj, ne with
      | 0, 0, _, _, ne => exact absurd rfl ne
      | 0, j + 1, _, hj, _ => simp at hj
      | i + 1, _, hi, _, _ => simp at hi
  refine ⟨_, body cdv A outer s H E hgd hr, f, f.O, G, _, _, ?_, rd pvs ds n C hk hsp, ⟨fun G1 s1 σ1 H1 e1 R1 c => ?_, fun p G1 s1 σ1 H1 v e1 R1 V1 c => ?_, fun _ _ _ _ _ _ z => z.elim, fun _ _ _ _ _ _ z => z.elim⟩⟩
  · have ap : ∀ {α : Type} (xs : List α) (m i : Nat) (y : α), (xs.map some ++ List.replicate m none)[i]? = some (some y) → (xs.map some)[i]? = some (some y) := fun xs m i y h => by
      by_cases hi : i < xs.length
      · rw [List.getElem?_append_left (by simpa using hi)] at h; exact h
      · rw [List.getElem?_append_right (by simpa using hi)] at h
        rw [List.getElem?_replicate] at h
        split at h <;> cases h
    have ap2 : ∀ {α : Type} (xs : List α) (m i : Nat) (y : α), (xs.map some)[i]? = some (some y) → (xs.map some ++ List.replicate m none)[i]? = some (some y) := fun xs m i y h => by
      have hi : i < (xs.map some).length := (List.getElem?_eq_some_iff.mp h).1
      rw [List.getElem?_append_left hi]; exact h
    show Rel K f G ⟨_, n⟩ (L2.start N vs) H
    exact { R with
      ln := by simp [L2.start, lnv]; omega
      sl := fun i p h => by
        obtain ⟨v, h1, h2⟩ := R.sl i p (ap _ _ _ _ h)
        exact ⟨v, ap2 _ _ _ _ h1, h2⟩
      ds := fun i j p q v ne hi hj mp mq wi wj => by
        obtain ⟨v1, h1, _⟩ := R.sl i p (ap _ _ _ _ hi)
        obtain ⟨v2, h2, _⟩ := R.sl j q (ap _ _ _ _ hj)
        have e1 := ap2 _ (N.length - vs.length) _ _ h1
        have e2 := ap2 _ (N.length - vs.length) _ _ h2
        have f1 : v1 = v := by
          have : (L2.start N vs)[i]? = some (some v1) := e1
          rw [this] at wi
          exact Option.some.inj (Option.some.inj wi)
        have f2 : v2 = v := by
          have : (L2.start N vs)[j]? = some (some v2) := e2
          rw [this] at wj
          exact Option.some.inj (Option.some.inj wj)
        subst f1
        rw [f2] at h2
        exact R.ds i j p q _ ne (ap _ _ _ _ hi) (ap _ _ _ _ hj) mp mq h1 h2 }
  · obtain ⟨es, h1, c⟩ := c
    obtain ⟨R2, _⟩ := endR R1 h1
    exact fin _ _ _ _ _ _ c e1 R2 (vrf_dat .non)
  · obtain ⟨es, h1, c⟩ := c
    obtain ⟨R2, h2⟩ := endR R1 h1
    refine fin _ _ _ _ _ _ c e1 R2 ⟨V1.1, fun m i q hi hq => ?_⟩
    match i, hi with
    | 0, hi => 
      intro z
      exact V1.2 m kk _ h1 rfl (by rw [h2]; exact z)
    | i + 1, hi => simp at hi
end
/-- a def of the law's top that changes its last parameter -/
structure HasR (P : Program) (w : World) (K : PySem.W.Frag) (mg : Str → Option Value) (base : Heap) (k : Nat) (x : Str) (n : Nat) (sp : HSpR) : Prop where
  ex : ∃ fa fd ps, ps.length = n + 1 ∧ GnOk P w K mg base CX0 k fa fd ps (SpHR K n sp) ∧ mg x = some (.ref fa) ∧ PySem.W.keepIn K (.ref fa) = true ∧ Binds K fd ps []
section
variable {X : Cx} {e a o : Expr} {y : Expr} {oa : HA → HA} {sp : HSpR} {x : Str} {p pos : Pos} {k n j : Nat}
theorem hp_callHR (h : HasR X.prog X.w X.K X.mg X.base k x 1 sp) (hgd : X.A.guards = some []) (hr : Room k X.A) (hg : Gl X x) (A : Opd X f0 e oa) (hy : PE X y (tVar j))
    (hdb : (x == ("__debug__" : Str)) = false := by decide) (he : starEach (e :: [y]) X.env = (false, eval e X.env) :: starEach [y] X.env := by rfl) (he2 : starEach [y] X.env = (false, eval y X.env) :: starEach [] X.env := by rfl) (hpl : (backTo pos (starEach [y] X.env)).any (·.1) = false := by rfl) : PE X (.Call (.Name x p) (e :: [y]) [] pos) (lf X.K f0 (hCallR sp j oa)) := by
  obtain ⟨fa, fd, ps, _, G, hm, kp, b⟩ := h.ex
  exact hp_callR (E := E0) (fun z => pe_callG G hgd hr hg hm kp b pass0 z hdb he hpl) A hy he he2
end
theorem HasR.mk' {P : Program} {w : World} {K : PySem.W.Frag} {mg : Str → Option Value} {base : Heap} {k n : Nat} {fa : Addr} {fd : FuncData} {x : Str} {st : Stmt} {N ps : List Str} {hs : HS} {sp : HSpR} (hn : ps.length = n + 1) (Fn : Fun K x x st fa fd) (hm : mg x = some (.ref fa)) (b : Binds K fd ps []) (S : FnScope N ps (defScope st))
    (body : ∀ (cdv : Value) (A : Around) (outer : List Env) (s : Shared) (H : Hp) (E : XK), (A.deeper (envOfC x (defScope st) s.heap.objs.size fa cdv)).guards = some [] → Room k (A.deeper (envOfC x (defScope st) s.heap.objs.size fa cdv)) → PSs (cxOf CX0 P w K mg base N x (defScope st) fa cdv A outer s H E).nox (defBody st) (lfS K f0 hs))
    (rd : ∀ pvs ds n' C, pvs.length = n → sp pvs ds n' C → hs ⟨fun s => ∃ es, s.sl[n]? = some (some (.byr es)) ∧ C (.dat .none) es s.n, fun p s => ∃ es, s.sl[n]? = some (some (.byr es)) ∧ C p es s.n, fun _ => False, fun _ => False⟩ ⟨(pvs ++ [PV.byr ds]).map some ++ List.replicate (N.length - (pvs.length + 1)) none, n'⟩) : HasR P w K mg base (k + 1) x n sp :=
  ⟨fa, fd, ps, hn, gnHR Fn S hn body rd, hm, Fn.kp, b⟩
/-- append to the list that was handed in -/
@[simp] def hAppR (j : Nat) (t : HE) : HE := fun s C => (∃ ds, s.sl[j]? = some (some (.byr ds))) ∧ t s fun p s1 => ∃ x ds, p.frz = some x ∧ s1.sl[j]? = some (some (.byr ds)) ∧ ds.length < 100000 ∧ C (.dat .none) (s1.put j (.byr (ds ++ [x])))
section
variable {X : Cx} {f : Fr} {e a : Expr} {t : HE}
theorem hp_appR {j : Nat} (he : PE X e (lf X.K f t)) (h : ∀ {ta : TA}, PA X [e] ta → PE X a (tBM X.K "list" rAppend (tVar j) ta)) (hs : starEach [e] X.env = (false, eval e X.env) :: starEach [] X.env := by rfl) : PE X a (lf X.K f (hAppR j t)) := (h (pa_cons he pa_nil hs)).mono fun σ H Q q => by
  obtain ⟨F, O, G, s, C, R, ⟨⟨ds0, hj⟩, ht⟩, k⟩ := q
  obtain ⟨v, hv, V⟩ := R.sl j _ hj
  obtain ⟨b, ws, rfl, k1, k2, k3, k4, k5, k6⟩ := V
  refine ⟨_, hv, Or.inl ⟨rfl, ws, Or.inl (Or.inl k1)⟩, F, O, G, s, _, R, ht, fun p s1 G1 H1 y c1 e1 R1 V1 => ?_⟩
  obtain ⟨x, ds, hx, hj1, hl, c2⟩ := c1
  obtain ⟨G2, e2, R2, V2⟩ := R1.frz V1 hx
  obtain ⟨v', hv', V'⟩ := R2.sl j _ hj1
  rw [hv] at hv'
  cases hv'
  obtain ⟨b', ws', eb, m1, m2, m3, m4, m5, m6⟩ := V'
  cases eb
  refine ⟨_, ws', y, rfl, rfl, m1, by rw [m5.len]; exact Evl.sz_lt hl, k _ _ _ _ _ c2 (e1.trans e2) ?_ (vrf_dat .non)⟩
  exact R2.poke hj1 rfl hv m1 m2 m3 m4 ⟨_, _, rfl, upd_same, m2, m3, m4, m5.append (.cons V2 .nil), m6⟩
end
end Sk
set_option Elab.async false
set_option linter.all false
set_option maxRecDepth 100000
set_option maxHeartbeats 4000000
namespace Sk
open PySem PySem.Spec PyProof.Rows L2
open PySem.W (Datum DatumOrd Tup T3 T4)
open Evl (Ex)
/-! what repr takes -/
structure ShowOk (d : PyData) : Prop where
  sh : d.showable = true
  hd : d.hasDict = false
  dp : d.depth ≤ 100
  lf : d.leavesShort 13 = true
  wt : d.weight ≤ 2 ^ 20
theorem repr_ok {d : PyData} {p : PV} {C : PV → Prop} (h : ShowOk d) (e : p.frz = some d) (c : C (.dat (.str d.shown))) : reprW [p] C := ⟨d, e, h.sh, h.hd, h.dp, PyData.shown_fits (by decide) (by decide) h.lf h.wt, c⟩
structure ShowAll (ds : List PyData) (k w : Nat) : Prop where
  sh : PyData.showableAll ds = true
  hd : PyData.hasDictAll ds = false
  dp : PyData.depthAll ds ≤ k
  lf : PyData.leavesShortAll 13 ds = true
  wt : PyData.weightAll ds ≤ w
theorem ShowAll.nil {k w : Nat} : ShowAll [] k w := ⟨rfl, rfl, Nat.zero_le _, rfl, Nat.zero_le _⟩
theorem ShowAll.cons {d : PyData} {ds : List PyData} {k w v : Nat} (h1 : d.showable = true) (h2 : d.hasDict = false) (h3 : d.depth ≤ k) (h4 : d.leavesShort 13 = true) (h5 : d.weight ≤ v) (t : ShowAll ds k w) : ShowAll (d :: ds) k (v + 1 + w) where
  sh := by simp only [PyData.showableAll, h1, t.sh, Bool.and_self]
  hd := by simp only [PyData.hasDictAll, h2, t.hd, Bool.or_self]
  dp := by simp only [PyData.depthAll]; exact Nat.max_le.mpr ⟨h3, t.dp⟩
  lf := by simp only [PyData.leavesShortAll, h4, t.lf, Bool.and_self]
  wt := by
    have := t.wt
    simp only [PyData.weightAll]
    omega
theorem ShowAll.list {ds : List PyData} {k w : Nat} (h : ShowAll ds k w) (hk : k ≤ 99) (hw : w ≤ 2 ^ 20) : ShowOk (.list ds) where
  sh := by simp only [PyData.showable]; exact h.sh
  hd := by simp only [PyData.hasDict]; exact h.hd
  dp := by
    have := h.dp
    simp only [PyData.depth]
    omega
  lf := by simp only [PyData.leavesShort]; exact h.lf
  wt := by
    have := h.wt
    simp only [PyData.weight]
    omega
theorem ShowAll.tup {ds : List PyData} {k w : Nat} (h : ShowAll ds k w) (hk : k ≤ 99) (hw : w ≤ 2 ^ 20) : ShowOk (.tuple ds) where
  sh := by simp only [PyData.showable]; exact h.sh
  hd := by simp only [PyData.hasDict]; exact h.hd
  dp := by
    have := h.dp
    simp only [PyData.depth]
    omega
  lf := by simp only [PyData.leavesShort]; exact h.lf
  wt := by
    have := h.wt
    simp only [PyData.weight]
    omega
theorem int_show {i : Int} (h0 : 0 ≤ i) (h1 : i < 1000000) : PyData.showable (.int i) = true ∧ PyData.leavesShort 13 (.int i) = true ∧ PyData.weight (.int i) ≤ 20 := by
  have a : i.natAbs < 1000000 := by omega
  have l : i.natAbs.log2 < 20 := by
    by_cases z : i.natAbs = 0
    · rw [z]; decide
    · exact (Nat.log2_lt z).mpr (by have : (2 : Nat) ^ 20 = 1048576 := by decide
                                    omega)
  refine ⟨?_, ?_, ?_⟩
  · simp only [PyData.showable, decide_eq_true_eq]; omega
  · simp only [PyData.leavesShort, decide_eq_true_eq]
    exact PyData.shown_int_le (by have : (10 : Nat) ^ 12 = 1000000000000 := by decide
                                  omega)
  · simp only [PyData.weight]
    split
    · omega
    · omega
theorem show_ints : ∀ {xs : List Int}, (∀ x ∈ xs, 0 ≤ x ∧ x < 1000000) → ShowAll (xs.map .int) 0 (21 * xs.length)
  | [], _ => .nil
  | x :: xs, h => by
    obtain ⟨h1, h2⟩ := h x List.mem_cons_self
    obtain ⟨a, b, c⟩ := int_show h1 h2
    have z := ShowAll.cons a (by simp only [PyData.hasDict]) (by simp only [PyData.depth]; omega) b c (show_ints (xs := xs) fun y hy => h y (List.mem_cons_of_mem _ hy))
    rw [show 21 * (x :: xs).length = 20 + 1 + 21 * xs.length by simp only [List.length_cons]; omega]
    exact z
theorem word_small {z : Str} (h : isWordS z = true) : (∀ c ∈ z.cps.toList, c < 16 ^ 8) ∧ z.length ≤ 6 := by
  unfold isWordS at h
  simp only [Bool.and_eq_true, decide_eq_true_eq, List.all_eq_true] at h
  obtain ⟨⟨⟨_, h1⟩, _⟩, h2⟩ := h
  refine ⟨fun c hc => ?_, h1⟩
  have hl : ∀ c ∈ letters.cps, c < 16 ^ 8 := by decide +kernel
  exact hl c (by simpa using h2 c hc)
theorem show_words : ∀ {xs : List Str}, (∀ x ∈ xs, isWordS x = true) → ShowAll (xs.map .str) 0 (7 * xs.length)
  | [], _ => .nil
  | x :: xs, h => by
    obtain ⟨h1, h2⟩ := word_small (h x List.mem_cons_self)
    have z := ShowAll.cons (d := .str x) (v := 6) (by simp only [PyData.showable]) (by simp only [PyData.hasDict]) (by simp only [PyData.depth]; omega) (by simp only [PyData.leavesShort, List.all_eq_true, decide_eq_true_eq]; exact h1) (by simp only [PyData.weight]; exact h2) (show_words (xs := xs) fun y hy => h y (List.mem_cons_of_mem _ hy))
    rw [show 7 * (x :: xs).length = 6 + 1 + 7 * xs.length by simp only [List.length_cons]; omega]
    exact z
theorem MOk.reach {M : Mch} (ok : MOk M) {x : Int} (h : Reach M x) : 0 ≤ x ∧ x < M.items.length := by
  have lo := ok.lo
  induction h with
  | start => exact ⟨Int.le_refl _, by omega⟩
  | step h1 h2 h3 ih =>
    rename_i x r p
    have hm : r ∈ M.rows := List.mem_of_getElem? h2
    obtain ⟨q, hq, rfl⟩ := List.mem_map.mp hm
    obtain ⟨a, b, _⟩ := ok.mv q hq p h3
    exact ⟨a, b⟩
theorem MOk.words {M : Mch} (ok : MOk M) : ∀ w ∈ sortU M.deeds, isWordS w = true := fun w hw => by
  obtain ⟨r, hr, hx⟩ := mem_deeds.mp (mem_sortU.mp hw)
  unfold rowDeeds at hx
  obtain ⟨p, hp, rfl⟩ := List.mem_map.mp hx
  obtain ⟨hp, hne⟩ := List.mem_filter.mp hp
  exact (ok.mv r hr p hp).2.2.resolve_right (by simpa using hne)
theorem MOk.showD {M : Mch} (ok : MOk M) : ShowOk (.tuple ((sortU M.deeds).map .str)) := (show_words ok.words).tup (by decide) (by
  have := ok.ds
  have e : (2 : Nat) ^ 20 = 1048576 := by decide
  omega)
theorem rising_len {xs : List Int} (h : Rising xs) {b : Int} (hb : ∀ x ∈ xs, 0 ≤ x ∧ x < b) : (xs.length : Int) ≤ b.toNat := by
  have := nodup_le xs ((List.range b.toNat).map fun i : Nat => (i : Int)) h.nodup fun x hx => by
    obtain ⟨h1, h2⟩ := hb x hx
    exact List.mem_map.mpr ⟨x.toNat, List.mem_range.mpr (by omega), by omega⟩
  simp at this
  omega
theorem MOk.showR {M : Mch} (ok : MOk M) {xs : List Int} (h : Rising xs) (hr : ∀ x, x ∈ xs ↔ Reach M x) : ShowOk (.list (xs.map .int)) := by
  have hb : ∀ x ∈ xs, 0 ≤ x ∧ x < (M.items.length : Int) := fun x hx => ok.reach ((hr x).mp hx)
  have hl := rising_len h hb
  have hi := ok.hi
  refine (show_ints fun x hx => ?_).list (by decide) ?_
  · obtain ⟨a, b⟩ := hb x hx
    exact ⟨a, by omega⟩
  · have e : (2 : Nat) ^ 20 = 1048576 := by decide
    omega
end Sk
set_option Elab.async false
set_option linter.all false
set_option maxRecDepth 100000
set_option maxHeartbeats 4000000
namespace Sk
open PySem PySem.Spec PyProof.Rows L2
open PySem.W (Datum DatumOrd Tup T3 T4)
open Evl (Ex)
def sp__law_right_45f461 : HSpR := fun ps ds n C => ∃ M : Mch, ps = [.dat (Datum.toD M)] ∧ MOk M ∧ (∀ r ∈ M.items, r.items.length ≤ 10) ∧ ds.length < 100000 ∧ ∀ xs : List Int, C (.dat (.bool true)) (ds ++ [.tuple [.list (xs.map .int), .list (xs.map .int)]]) n
def h__law_right_45f461 : HS :=
    (hSeq (hIfS (hOr (hB (hC (isN true) (hE (hCall sp_need_machine_f4028c 1 (hL 0 hNil)) (hE (hK .none) hNil)))) (hB (hC (eqP true) (hE (hC reprW (hE (hCall sp_deeds_of_32170a 1 (hL 0 hNil)) hNil)) (hE (hC reprW (hE (hCall sp__law_deeds_51e22b 1 (hL 0 hNil)) hNil)) hNil))))) (hRet (hK (.bool false))) hNext)
    (hSeq (hAsg (hCall sp_come_to_38411a 1 (hL 0 hNil)) 2)
    (hSeq (hIfS (hOr (hNot (hB (hC isiW (hL 2 (fun s C => hNil s fun ps s2 => C (.val (.ty "list") :: ps) s2))))) (hB (hC (eqP true) (hE (hC reprW (hL 2 hNil)) (hE (hC reprW (hE (hCall sp__law_met_5f2e98 1 (hL 0 hNil)) hNil)) hNil))))) (hRet (hK (.bool false))) hNext)
    (hSeq (hDrop (hAppR 1 (hTup (hE (hV 2) (hE (hC listW (hL 2 hNil)) hNil)))))
    (hSeq (hAsg (hCall sp_come_to_38411a 1 (hL 0 hNil)) 3)
    (hSeq (hDrop (hApp 3 (hK (.int (-1)))))
    (hRet (hK (.bool true)))))))))
theorem rd__law_right_45f461 : ∀ pvs ds n C, pvs.length = 1 → sp__law_right_45f461 pvs ds n C → h__law_right_45f461 ⟨fun s => ∃ es, s.sl[1]? = some (some (.byr es)) ∧ C (.dat .none) es s.n, fun p s => ∃ es, s.sl[1]? = some (some (.byr es)) ∧ C p es s.n, fun _ => False, fun _ => False⟩ ⟨(pvs ++ [PV.byr ds]).map some ++ List.replicate (4 - (pvs.length + 1)) none, n⟩ := by
  intro pvs ds n C _ h
  obtain ⟨M, rfl, ok, h10, hl, q⟩ := h
  unfold h__law_right_45f461
  simp [-hDrop, sp_need_machine_f4028c, sp_deeds_of_32170a, sp__law_deeds_51e22b]
  refine ⟨M, rfl, ok, Or.inl ⟨rfl, M, rfl, ok, repr_ok ok.showD rfl ⟨_, rfl, M, rfl, ok.sz, repr_ok ok.showD rfl ⟨_, rfl, eq_str.mpr (Or.inl ⟨by simp, ?_⟩)⟩⟩⟩⟩
  refine ⟨M, rfl, ok, fun xs hx hr => isi_own.mpr (Or.inr ⟨rfl, repr_ok (ok.showR hx hr) rfl ⟨_, rfl, M, rfl, ok, h10, fun ys hy hr' => ?_⟩⟩)⟩
  have e : ys = xs := Rising.eq hy hx fun x => (hr' x).trans (hr x).symm
  subst e
  refine ⟨_, rfl, repr_ok (ok.showR hx hr) rfl ⟨_, rfl, eq_str.mpr ?_⟩⟩
  simp [sp_come_to_38411a]
  refine ⟨hl, M, rfl, ok, fun zs hz hrz => ⟨?_, q ys⟩⟩
  have := rising_len hz fun x hx => ok.reach ((hrz x).mp hx)
  have := ok.hi
  omega
end Sk
set_option Elab.async false
set_option linter.all false
set_option maxRecDepth 100000
set_option maxHeartbeats 4000000
namespace Sk
open PySem PySem.Spec PyProof.Rows L2
open PySem.W (Datum DatumOrd Tup T3 T4)
open Evl (Ex)
theorem mok_of {found : List (Tup (Str × Int))} {many : Int} {ws : List Str} (h0 : 1 ≤ found.length) (h1 : found.length ≤ 300) (hm : (found.length : Int) = many) (hw : ws.length ≤ 8) (hws : ∀ w ∈ ws, isWordS w = true) (hv : ∀ r ∈ found, (∀ p ∈ r.items, VM many ws p) ∧ Rising r.items ∧ r.items.length ≤ 4) : MOk (Tup.mk found) := by
  refine ⟨h0, h1, fun r hr p hp => ?_, fun r hr => (hv r hr).2.1, ?_, ?_⟩
  · obtain ⟨x0, x1, x2⟩ := (hv r hr).1 p hp
    refine ⟨x0, by show p.2 < ((found.length : Nat) : Int); omega, x2.imp (fun z => hws _ z) id⟩
  · have sub := rows_flat (M := Tup.mk found) fun r hr => (hv r hr).1
    have := nodup_le _ ws (sortU_rising (Mch.deeds (Tup.mk found))).nodup fun x hx => sub x (mem_sortU.mp hx)
    omega
  · have gen : ∀ fs : List (Tup (Str × Int)), (∀ r ∈ fs, r.items.length ≤ 4) → ((fs.map Tup.items).map List.length).sum ≤ 4 * fs.length := fun fs => by
      induction fs with
      | nil => intro _; simp
      | cons f fs ih =>
        intro h
        have := ih fun r hr => h r (List.mem_cons_of_mem _ hr)
        have := h f List.mem_cons_self
        simp only [List.map_cons, List.sum_cons, List.length_cons]
        omega
    have := gen found fun r hr => (hv r hr).2.2
    show ((found.map Tup.items).map List.length).sum ≤ 40000
    omega
/-- a row of one move, or of none -/
theorem row1 {many : Int} {ws : List Str} {p : Str × Int} (h : VM many ws p) : (∀ q ∈ (Tup.mk [p]).items, VM many ws q) ∧ Rising (Tup.mk [p]).items ∧ (Tup.mk [p]).items.length ≤ 4 := ⟨fun q hq => by rw [List.mem_singleton.mp hq]; exact h, List.pairwise_singleton _ _, by show 1 ≤ 4; decide⟩
theorem row0 {many : Int} {ws : List Str} : (∀ q ∈ (Tup.mk ([] : List (Str × Int))).items, VM many ws q) ∧ Rising (Tup.mk ([] : List (Str × Int))).items ∧ (Tup.mk ([] : List (Str × Int))).items.length ≤ 4 := ⟨fun q hq => (by cases hq), List.Pairwise.nil, Nat.zero_le _⟩
def sp__law_rows_692f94 : HSp := fun ps n C => ∃ (ws : List Str) (many : Int), ps = [.drw, .dat (.list (ws.map .str)), .dat (.int many)] ∧ 1 ≤ many ∧ many ≤ 300 ∧ ws.length ≤ 8 ∧ (∀ w ∈ ws, isWordS w = true) ∧ n < 134217728 ∧ ∀ (Ms : List Mch) (n' : Nat), Ms.length = 4 → (∀ M ∈ Ms, MOk M ∧ ∀ r ∈ M.items, r.items.length ≤ 4) → n' ≤ n + 1 → C (.own (Ms.map Datum.toD)) n'
def h__law_rows_692f94 : HS :=
    (hSeq (hAsg (hIf (hB (hC (eqP true) (hL 1 (hE (hLst hNil) hNil)))) (hC ixW (hL 1 (hE (hCall sp__law_draw_a6e186 2 (hL 0 (hE (hC lenW (hL 1 hNil)) hNil))) hNil))) (hK (.str ""))) 3)
    (hSeq (hAsg (hC tupW (hE (hLc (hiR1 (hL 2 hNil)) (gN 5) hYes (hIf (hB (hC ltW (hE (hC addW (hL 5 (hE (hK (.int 1)) hNil))) (hL 2 hNil)))) (hTup (hE (hTup (hE (hV 3) (hE (hC addW (hL 5 (hE (hK (.int 1)) hNil))) hNil))) hNil)) (hTup hNil)) [5]) hNil)) 4)
    (hSeq (hAsg (hC tupW (hE (hLc (hiR1 (hL 2 hNil)) (gN 5) hYes (hIf (hB (hC gtW (hL 5 (hE (hK (.int 0)) hNil)))) (hTup (hE (hTup (hE (hV 3) (hE (hC subW (hL 5 (hE (hK (.int 1)) hNil))) hNil))) hNil)) (hTup hNil)) [5]) hNil)) 6)
    (hSeq (hAsg (hC tupW (hE (hC addW (hE (hLst (hE (hTup (hE (hTup (hE (hV 3) (hE (hC subW (hL 2 (hE (hK (.int 1)) hNil))) hNil))) hNil)) hNil)) (hE (hC mulW' (hE (hLst (hE (hTup (hE (hTup (hE (hV 3) (hE (hK (.int 0)) hNil))) hNil)) hNil)) (hE (hC subW (hL 2 (hE (hK (.int 1)) hNil))) hNil))) hNil))) hNil)) 7)
    (hRet (hLst (hE (hV 4) (hE (hV 6) (hE (hV 7) (hE (hC tupW (hE (hLc (hiR1 (hL 2 hNil)) (gN 5) hYes (hTup (hE (hTup (hE (hK (.str "")) (hE (hV 5) hNil))) hNil)) [5]) hNil)) hNil))))))))))
theorem rng_lc {s : Sg} {many : Int} {t : HE} {K : PV → Sg → Prop} {v : Nat} (f : Nat → PyData) (h2 : s.sl[2]? = some (some (.dat (.int many)))) (hs : (⟨s.sl.set v none, s.n⟩ : Sg) = s) (b0 : 0 ≤ many) (b1 : many ≤ 1000) (h : ∀ i, i < many.toNat → ∀ K : PV → Sg → Prop, (∀ s3, s3.wipe [v] = s → K (.dat (f i)) s3) → gN v (.int ((i : Nat) : Int)) s fun s1 => t s1 K) (k : K (.own ((List.range many.toNat).map f)) s) : hLc (hiR1 (hL 2 hNil)) (gN v) hYes t [v] s K := by
  have er : rngD 0 many.toNat = (List.range many.toNat).map fun i => PyData.int ((i : Nat) : Int) := by simp [rngD]
  simp [-gN, -hYes, h2, er]
  refine ⟨⟨by omega, by omega⟩, ?_⟩
  rw [hs]
  refine lcs_map (fun i : Nat => PyData.int ((i : Nat) : Int)) f (fun i hi => h i (List.mem_range.mp hi)) [] _ (by simp; omega) ?_
  simpa using k
theorem tup_lc {s : Sg} {many : Int} {t : HE} {K : PV → Sg → Prop} {v : Nat} (f : Nat → PyData) (h2 : s.sl[2]? = some (some (.dat (.int many)))) (hs : (⟨s.sl.set v none, s.n⟩ : Sg) = s) (b0 : 0 ≤ many) (b1 : many ≤ 1000) (h : ∀ i, i < many.toNat → ∀ K : PV → Sg → Prop, (∀ s3, s3.wipe [v] = s → K (.dat (f i)) s3) → gN v (.int ((i : Nat) : Int)) s fun s1 => t s1 K) (k : K (.dat (.tuple ((List.range many.toNat).map f))) s) : hC tupW (hE (hLc (hiR1 (hL 2 hNil)) (gN v) hYes t [v]) hNil) s K := by
  simp [-hLc]
  exact rng_lc f h2 hs b0 b1 h (by simpa using k)
theorem mul_li {ds : List PyData} {k : Int} {C : PV → Prop} : mulW' [.dat (.list ds), .dat (.int k)] C ↔ (k ≤ 100000 ∧ -100000 ≤ k ∧ ds.length * k.toNat ≤ 100000 ∧ C (.own (List.replicate k.toNat ds).flatten)) := by simp [mulW']
theorem add_ll {ds es : List PyData} {C : PV → Prop} : addW [.dat (.list ds), .dat (.list es)] C ↔ (ds.length + es.length ≤ 100000 ∧ C (.own (ds ++ es))) := by simp [addW]
def rowF1 (d : Str) (many : Int) (i : Nat) : Tup (Str × Int) := ⟨if (i : Int) + 1 < many then [(d, (i : Int) + 1)] else []⟩
def rowF2 (d : Str) (i : Nat) : Tup (Str × Int) := ⟨if 0 < (i : Int) then [(d, (i : Int) - 1)] else []⟩
def rowF4 (i : Nat) : Tup (Str × Int) := ⟨[(("" : Str), (i : Int))]⟩
def rowsRest : HS :=
    (hSeq (hAsg (hC tupW (hE (hLc (hiR1 (hL 2 hNil)) (gN 5) hYes (hIf (hB (hC ltW (hE (hC addW (hL 5 (hE (hK (.int 1)) hNil))) (hL 2 hNil)))) (hTup (hE (hTup (hE (hV 3) (hE (hC addW (hL 5 (hE (hK (.int 1)) hNil))) hNil))) hNil)) (hTup hNil)) [5]) hNil)) 4)
    (hSeq (hAsg (hC tupW (hE (hLc (hiR1 (hL 2 hNil)) (gN 5) hYes (hIf (hB (hC gtW (hL 5 (hE (hK (.int 0)) hNil)))) (hTup (hE (hTup (hE (hV 3) (hE (hC subW (hL 5 (hE (hK (.int 1)) hNil))) hNil))) hNil)) (hTup hNil)) [5]) hNil)) 6)
    (hSeq (hAsg (hC tupW (hE (hC addW (hE (hLst (hE (hTup (hE (hTup (hE (hV 3) (hE (hC subW (hL 2 (hE (hK (.int 1)) hNil))) hNil))) hNil)) hNil)) (hE (hC mulW' (hE (hLst (hE (hTup (hE (hTup (hE (hV 3) (hE (hK (.int 0)) hNil))) hNil)) hNil)) (hE (hC subW (hL 2 (hE (hK (.int 1)) hNil))) hNil))) hNil))) hNil)) 7)
    (hRet (hLst (hE (hV 4) (hE (hV 6) (hE (hV 7) (hE (hC tupW (hE (hLc (hiR1 (hL 2 hNil)) (gN 5) hYes (hTup (hE (hTup (hE (hK (.str "")) (hE (hV 5) hNil))) hNil)) [5]) hNil)) hNil)))))))))
theorem rows_rest {D : HD} {ws : List Str} {many : Int} {d : Str} {n : Nat} (b0 : 1 ≤ many) (b1 : many ≤ 300) (hw : ws.length ≤ 8) (hws : ∀ w ∈ ws, isWordS w = true) (hd : d ∈ ws ∨ d = ("" : Str)) (q : ∀ (Ms : List Mch) (s : Sg), Ms.length = 4 → (∀ M ∈ Ms, MOk M ∧ ∀ r ∈ M.items, r.items.length ≤ 4) → s.n = n → D.rt (.own (Ms.map Datum.toD)) s) :
    rowsRest D ⟨[some .drw, some (.dat (.list (ws.map .str))), some (.dat (.int many)), some (.dat (.str d)), none, none, none, none], n⟩ := by
  have er : rngD 0 many.toNat = (List.range many.toNat).map fun i => PyData.int ((i : Nat) : Int) := by simp [rngD]
  unfold rowsRest
  simp only [hSeq, hAsg]
  refine tup_lc (fun i => Datum.toD (rowF1 d many i)) rfl rfl (by omega) (by omega) (fun i hi K k => ?_) ?_
  · simp
    by_cases h : (i : Int) + 1 < many
    · refine Or.inr ⟨h, ?_⟩
      have e : (Datum.toD (rowF1 d many i) : PyData) = .tuple [.tuple [.str d, .int ((i : Int) + 1)]] := by unfold rowF1; rw [if_pos h]; rfl
      rw [← e]
      exact k _ rfl
    · refine Or.inl ⟨by omega, ?_⟩
      have e : (Datum.toD (rowF1 d many i) : PyData) = .tuple [] := by unfold rowF1; rw [if_neg h]; rfl
      rw [← e]
      exact k _ rfl
  simp only [Sg.put, List.set_cons_succ, List.set_cons_zero]
  refine tup_lc (fun i => Datum.toD (rowF2 d i)) rfl rfl (by omega) (by omega) (fun i hi K k => ?_) ?_
  · simp
    by_cases h : 0 < (i : Int)
    · refine Or.inr ⟨by omega, ?_⟩
      have e : (Datum.toD (rowF2 d i) : PyData) = .tuple [.tuple [.str d, .int ((i : Int) - 1)]] := by unfold rowF2; rw [if_pos h]; rfl
      rw [← e]
      exact k _ rfl
    · refine Or.inl ⟨by omega, ?_⟩
      have e : (Datum.toD (rowF2 d i) : PyData) = .tuple [] := by unfold rowF2; rw [if_neg h]; rfl
      rw [← e]
      exact k _ rfl
  simp [-hLc]
  refine mul_li.mpr ⟨by omega, by omega, by simp; omega, _, rfl, add_ll.mpr ⟨by simp; omega, _, rfl, tup_lst.mpr ?_⟩⟩
  simp [-hLc]
  refine rng_lc (fun i => Datum.toD (rowF4 i)) rfl rfl (by omega) (by omega) (fun i hi K k => ?_) ?_
  · simp
    exact k _ rfl
  simp [dats]
  have tD : ∀ xs : List (Tup (Str × Int)), (Datum.toD (Tup.mk xs) : PyData) = .tuple (xs.map Datum.toD) := fun _ => rfl
  have ok : ∀ rs : List (Tup (Str × Int)), (rs.length : Int) = many → (∀ r ∈ rs, (∀ p ∈ r.items, VM many ws p) ∧ Rising r.items ∧ r.items.length ≤ 4) → MOk (Tup.mk rs) ∧ ∀ r ∈ (Tup.mk rs).items, r.items.length ≤ 4 := fun rs hl hv => ⟨mok_of (by omega) (by omega) hl hw hws hv, fun r hr => (hv r hr).2.2⟩
  have fin := fun (h : ∀ M ∈ ([⟨(List.range many.toNat).map (rowF1 d many)⟩, ⟨(List.range many.toNat).map (rowF2 d)⟩, ⟨⟨[(d, many - 1)]⟩ :: List.replicate (many.toNat - 1) ⟨[(d, 0)]⟩⟩, ⟨(List.range many.toNat).map rowF4⟩] : List Mch), MOk M ∧ ∀ r ∈ M.items, r.items.length ≤ 4) (s : Sg) (hs : s.n = n) => q [⟨(List.range many.toNat).map (rowF1 d many)⟩, ⟨(List.range many.toNat).map (rowF2 d)⟩, ⟨⟨[(d, many - 1)]⟩ :: List.replicate (many.toNat - 1) ⟨[(d, 0)]⟩⟩, ⟨(List.range many.toNat).map rowF4⟩] s rfl h hs
  simp only [List.map_cons, List.map_nil, tD, List.map_map, List.map_replicate] at fin
  refine fin (fun M hM => ?_) _ rfl
  simp only [List.mem_cons, List.not_mem_nil, or_false] at hM
  rcases hM with rfl | rfl | rfl | rfl
  · refine ok _ (by simp; omega) fun r hr => ?_
    obtain ⟨i, hi, rfl⟩ := List.mem_map.mp hr
    have := List.mem_range.mp hi
    unfold rowF1
    split
    · exact row1 ⟨by show (0 : Int) ≤ (i : Int) + 1; omega, by show (i : Int) + 1 < many; omega, hd⟩
    · exact row0
  · refine ok _ (by simp; omega) fun r hr => ?_
    obtain ⟨i, hi, rfl⟩ := List.mem_map.mp hr
    have := List.mem_range.mp hi
    unfold rowF2
    split
    · exact row1 ⟨by show (0 : Int) ≤ (i : Int) - 1; omega, by show (i : Int) - 1 < many; omega, hd⟩
    · exact row0
  · refine ok _ (by simp; omega) fun r hr => ?_
    rcases List.mem_cons.mp hr with rfl | hr
    · exact row1 ⟨by show (0 : Int) ≤ many - 1; omega, by show many - 1 < many; omega, hd⟩
    · rw [(List.mem_replicate.mp hr).2]
      exact row1 ⟨by show (0 : Int) ≤ 0; omega, by show (0 : Int) < many; omega, hd⟩
  · refine ok _ (by simp; omega) fun r hr => ?_
    obtain ⟨i, hi, rfl⟩ := List.mem_map.mp hr
    have := List.mem_range.mp hi
    exact row1 ⟨by show (0 : Int) ≤ (i : Int); omega, by show (i : Int) < many; omega, Or.inr rfl⟩
theorem rd__law_rows_692f94 : ∀ pvs n C, pvs.length = 3 → sp__law_rows_692f94 pvs n C → h__law_rows_692f94 ⟨fun s => C (.dat .none) s.n, fun p s => C p s.n, fun _ => False, fun _ => False⟩ ⟨pvs.map some ++ List.replicate (8 - pvs.length) none, n⟩ := by
  intro pvs n C _ h
  obtain ⟨ws, many, rfl, b0, b1, hw, hws, hn, q⟩ := h
  show (hSeq (hAsg (hIf (hB (hC (eqP true) (hL 1 (hE (hLst hNil) hNil)))) (hC ixW (hL 1 (hE (hCall sp__law_draw_a6e186 2 (hL 0 (hE (hC lenW (hL 1 hNil)) hNil))) hNil))) (hK (.str ""))) 3) rowsRest) _ _
  simp [dats]
  refine eqP_D (α := List Str) ws [] rfl rfl (by decide) ?_
  by_cases hn0 : ws = []
  · simp [hn0]
    subst hn0
    exact rows_rest (ws := []) b0 b1 hw hws (Or.inr rfl) fun Ms s hl hM hs => by
      have := q Ms s.n hl hM (by omega)
      exact this
  · have wl : 0 < ws.length := List.length_pos_iff.mpr hn0
    simp [hn0]
    refine drw' ws.length _ _ (by omega) (by omega) (by omega) fun a a0 a1 => ?_
    obtain ⟨x, hx, hxm⟩ := atI_str a0 a1
    simp [hx]
    exact rows_rest b0 b1 hw hws (Or.inl hxm) fun Ms s hl hM hs => by
      have := q Ms s.n hl hM (by omega)
      exact this
end Sk
set_option Elab.async false
set_option linter.all false
set_option maxRecDepth 100000
set_option maxHeartbeats 2000000
/-! machines with their nodes in another order: the plain law -/
namespace Sk
open PySem PySem.Spec PyProof.Rows L2
open PySem.W (Datum DatumOrd Tup T3 T4)
def rowAt (M : Mch) (x : Int) : List (Str × Int) := match M.items[x.toNat]? with
  | some r => r.items
  | none => []
def idxI (o : List Int) (x : Int) : Int := ((o.idxOf x : Nat) : Int)
def atO (o : List Int) (i : Int) : Int := (o[i.toNat]?).getD 0
def renRow (o : List Int) (r : List (Str × Int)) : List (Str × Int) := sortL (r.map fun p => (p.1, idxI o p.2))
def renumM (M : Mch) (o : List Int) : Mch := ⟨o.map fun old => ⟨renRow o (rowAt M old)⟩⟩
structure OrdOk (n : Nat) (o : List Int) : Prop where
  len : o.length = n
  nd : o.Nodup
  rng : ∀ x ∈ o, 0 ≤ x ∧ x < n
  hd : o.head? = some 0
theorem nodup_all {n : Nat} {o : List Int} (len : o.length = n) (nd : o.Nodup) (rng : ∀ x ∈ o, 0 ≤ x ∧ x < n) {x : Int} (h0 : 0 ≤ x) (h1 : x < n) : x ∈ o := by
  apply Classical.byContradiction
  intro hx
  have := rng_len (L := n) (ks := x :: o) (List.nodup_cons.mpr ⟨hx, nd⟩) fun k hk => by
    rcases List.mem_cons.mp hk with rfl | hk
    · exact ⟨h0, h1⟩
    · exact rng k hk
  simp at this
  omega
section
variable {n : Nat} {o o2 : List Int} {M : Mch} {x y : Int}
theorem OrdOk.mem (h : OrdOk n o) (h0 : 0 ≤ x) (h1 : x < n) : x ∈ o := nodup_all h.len h.nd h.rng h0 h1
theorem idx_lt (h : x ∈ o) : 0 ≤ idxI o x ∧ idxI o x < o.length := by
  have := List.idxOf_lt_length_iff.mpr h
  unfold idxI
  omega
theorem at_idx (h : x ∈ o) : atO o (idxI o x) = x := by
  unfold atO idxI
  have h2 := List.idxOf_lt_length_iff.mpr h
  rw [Int.toNat_natCast, List.getElem?_eq_getElem h2, List.getElem_idxOf h2]; rfl
theorem at_mem (h0 : 0 ≤ x) (h1 : x < o.length) : atO o x ∈ o := by
  unfold atO
  have : x.toNat < o.length := by omega
  rw [List.getElem?_eq_getElem this]
  exact List.getElem_mem this
theorem idx_at (nd : o.Nodup) (h0 : 0 ≤ x) (h1 : x < o.length) : idxI o (atO o x) = x := by
  have hl : x.toNat < o.length := by omega
  have e : atO o x = o[x.toNat] := by unfold atO; rw [List.getElem?_eq_getElem hl]; rfl
  rw [e]
  unfold idxI
  rw [nd.idxOf_getElem x.toNat hl]
  omega
theorem idx_inj (hx : x ∈ o) (hy : y ∈ o) (e : idxI o x = idxI o y) : x = y := by rw [← at_idx hx, ← at_idx hy, e]
theorem rowAt_mem {p : Str × Int} (h : p ∈ rowAt M x) : ∃ r ∈ M.items, p ∈ r.items := by
  unfold rowAt at h
  split at h
  · rename_i r hr
    exact ⟨r, List.mem_of_getElem? hr, h⟩
  · cases h
theorem rowAt_of {r : Tup (Str × Int)} (h : M.items[x.toNat]? = some r) : rowAt M x = r.items := by unfold rowAt; rw [h]
theorem rowAt_up (ok : MOk M) : Rising (rowAt M x) := by
  unfold rowAt
  split
  · rename_i r hr
    exact ok.up r (List.mem_of_getElem? hr)
  · exact List.Pairwise.nil
theorem rowAt_mv (ok : MOk M) {p : Str × Int} (h : p ∈ rowAt M x) : 0 ≤ p.2 ∧ p.2 < M.items.length ∧ (isWordS p.1 = true ∨ p.1 = ("" : Str)) := by
  obtain ⟨r, hr, hp⟩ := rowAt_mem h
  exact ok.mv r hr p hp
theorem nodup_mapOn {α β : Type} {f : α → β} : ∀ {xs : List α}, xs.Nodup → (∀ a ∈ xs, ∀ b ∈ xs, f a = f b → a = b) → (xs.map f).Nodup
  | [], _, _ => List.nodup_nil
  | a :: xs, h, inj => by
    obtain ⟨h1, h2⟩ := List.nodup_cons.mp h
    rw [List.map_cons]
    refine List.nodup_cons.mpr ⟨fun hm => ?_, nodup_mapOn h2 fun b hb c hc => inj b (List.mem_cons_of_mem _ hb) c (List.mem_cons_of_mem _ hc)⟩
    obtain ⟨b, hb, e⟩ := List.mem_map.mp hm
    exact h1 (inj b (List.mem_cons_of_mem _ hb) a List.mem_cons_self e ▸ hb)
theorem renRow_nd (ok : MOk M) (ho : OrdOk M.items.length o) : ((rowAt M x).map fun p => (p.1, idxI o p.2)).Nodup := by
  refine nodup_mapOn (rowAt_up ok).nodup fun a ha b hb e => ?_
  obtain ⟨a0, a1, _⟩ := rowAt_mv ok ha
  obtain ⟨b0, b1, _⟩ := rowAt_mv ok hb
  obtain ⟨e1, e2⟩ := Prod.mk.inj e
  exact Prod.ext e1 (idx_inj (ho.mem a0 a1) (ho.mem b0 b1) e2)
theorem mem_renRow {r : List (Str × Int)} {p : Str × Int} : p ∈ renRow o r ↔ ∃ q ∈ r, p = (q.1, idxI o q.2) := by
  unfold renRow
  rw [mem_sortL, List.mem_map]
  exact ⟨fun ⟨q, hq, e⟩ => ⟨q, hq, e.symm⟩, fun ⟨q, hq, e⟩ => ⟨q, hq, e.symm⟩⟩
theorem renRow_up (ok : MOk M) (ho : OrdOk M.items.length o) : Rising (renRow o (rowAt M x)) := sortL_rising (renRow_nd ok ho)
theorem renum_len (ho : OrdOk M.items.length o) : (renumM M o).items.length = M.items.length := by
  show (o.map _).length = _
  rw [List.length_map, ho.len]
theorem renum_row (h0 : 0 ≤ x) (h1 : x < o.length) : rowAt (renumM M o) x = renRow o (rowAt M (atO o x)) := by
  have hl : x.toNat < o.length := by omega
  have e : atO o x = o[x.toNat] := by unfold atO; rw [List.getElem?_eq_getElem hl]; rfl
  have : (renumM M o).items[x.toNat]? = some ⟨renRow o (rowAt M (atO o x))⟩ := by
    show (o.map _)[x.toNat]? = _
    rw [List.getElem?_map, List.getElem?_eq_getElem hl, e]; rfl
  rw [rowAt_of this]
def RowsLe (k : Nat) (M : Mch) : Prop := ∀ r ∈ M.items, r.items.length ≤ k
theorem rowsLe_size {k : Nat} (h : RowsLe k M) : M.size ≤ k * M.items.length := by
  have gen : ∀ fs : List (Tup (Str × Int)), (∀ r ∈ fs, r.items.length ≤ k) → ((fs.map Tup.items).map List.length).sum ≤ k * fs.length := fun fs => by
    induction fs with
    | nil => intro _; simp
    | cons f fs ih =>
      intro h
      have h1 := ih fun r hr => h r (List.mem_cons_of_mem _ hr)
      have h2 := h f List.mem_cons_self
      simp only [List.map_cons, List.sum_cons, List.length_cons, Nat.mul_succ]
      omega
  exact gen M.items h
theorem rowAt_le {k : Nat} (h : RowsLe k M) : (rowAt M x).length ≤ k := by
  unfold rowAt
  split
  · rename_i r hr
    exact h r (List.mem_of_getElem? hr)
  · exact Nat.zero_le _
theorem renum_le {k : Nat} (h : RowsLe k M) : RowsLe k (renumM M o) := fun r hr => by
  obtain ⟨old, _, rfl⟩ := List.mem_map.mp (show r ∈ o.map _ from hr)
  show (renRow o _).length ≤ k
  unfold renRow
  rw [sortL_len, List.length_map]
  exact rowAt_le h
theorem mem_rowDeeds {r : List (Str × Int)} {w : Str} : w ∈ rowDeeds r ↔ w ≠ "" ∧ ∃ p ∈ r, p.1 = w := by
  unfold rowDeeds
  rw [List.mem_map]
  constructor
  · rintro ⟨p, hp, rfl⟩
    obtain ⟨h1, h2⟩ := List.mem_filter.mp hp
    exact ⟨of_decide_eq_true h2, p, h1, rfl⟩
  · rintro ⟨h, p, hp, rfl⟩
    exact ⟨p, List.mem_filter.mpr ⟨hp, decide_eq_true h⟩, rfl⟩
theorem mem_deeds' {w : Str} : w ∈ M.deeds ↔ w ≠ "" ∧ ∃ r ∈ M.items, ∃ p ∈ r.items, p.1 = w := by
  rw [mem_deeds]
  constructor
  · rintro ⟨r, hr, h⟩
    obtain ⟨h1, p, hp, e⟩ := mem_rowDeeds.mp h
    exact ⟨h1, r, hr, p, hp, e⟩
  · rintro ⟨h1, r, hr, p, hp, e⟩
    exact ⟨r, hr, mem_rowDeeds.mpr ⟨h1, p, hp, e⟩⟩
theorem renum_deeds (ho : OrdOk M.items.length o) {w : Str} : w ∈ (renumM M o).deeds ↔ w ∈ M.deeds := by
  rw [mem_deeds', mem_deeds']
  constructor
  · rintro ⟨h, r, hr, p, hp, e⟩
    obtain ⟨old, _, rfl⟩ := List.mem_map.mp (show r ∈ o.map _ from hr)
    obtain ⟨q, hq, rfl⟩ := mem_renRow.mp (show p ∈ renRow o _ from hp)
    obtain ⟨r, hr, hq⟩ := rowAt_mem hq
    exact ⟨h, r, hr, q, hq, e⟩
  · rintro ⟨h, r, hr, p, hp, e⟩
    obtain ⟨i, hi, e2⟩ := List.mem_iff_getElem.mp hr
    have hx : ((i : Nat) : Int) ∈ o := ho.mem (by omega) (by omega)
    refine ⟨h, ⟨renRow o (rowAt M i)⟩, List.mem_map.mpr ⟨_, hx, rfl⟩, (p.1, idxI o p.2), mem_renRow.mpr ⟨p, ?_, rfl⟩, e⟩
    rw [rowAt_of (r := r) (by rw [Int.toNat_natCast, List.getElem?_eq_getElem hi, e2])]
    exact hp
theorem renum_sortU (ho : OrdOk M.items.length o) : sortU (renumM M o).deeds = sortU M.deeds := sortU_eq (sortU_rising _) fun w => by rw [mem_sortU, renum_deeds ho]
theorem renum_ok (ok : MOk M) (ho : OrdOk M.items.length o) (le : RowsLe 60 M) : MOk (renumM M o) where
  lo := by rw [renum_len ho]; exact ok.lo
  hi := by rw [renum_len ho]; exact ok.hi
  mv := fun r hr p hp => by
    obtain ⟨old, _, rfl⟩ := List.mem_map.mp (show r ∈ o.map _ from hr)
    obtain ⟨q, hq, rfl⟩ := mem_renRow.mp (show p ∈ renRow o _ from hp)
    obtain ⟨a, b, c⟩ := rowAt_mv ok hq
    have := idx_lt (ho.mem a b)
    rw [renum_len ho, ← ho.len]
    exact ⟨this.1, this.2, c⟩
  up := fun r hr => by
    obtain ⟨old, _, rfl⟩ := List.mem_map.mp (show r ∈ o.map _ from hr)
    exact renRow_up ok ho
  ds := by rw [renum_sortU ho]; exact ok.ds
  sz := by
    have := rowsLe_size (renum_le (o := o) le)
    rw [renum_len ho] at this
    have := ok.hi
    omega
theorem comp_ok (h : OrdOk n o) (h2 : OrdOk n o2) : OrdOk n (o2.map (atO o)) where
  len := by rw [List.length_map, h2.len]
  nd := nodup_mapOn h2.nd fun a ha b hb e => by
    have ra := h2.rng a ha
    have rb := h2.rng b hb
    rw [← idx_at h.nd ra.1 (by rw [h.len]; exact ra.2), e, idx_at h.nd rb.1 (by rw [h.len]; exact rb.2)]
  rng := fun x hx => by
    obtain ⟨a, ha, rfl⟩ := List.mem_map.mp hx
    have ra := h2.rng a ha
    exact h.rng _ (at_mem ra.1 (by rw [h.len]; exact ra.2))
  hd := by
    cases e : o2 with
    | nil => have := h2.hd; rw [e] at this; cases this
    | cons a r =>
      have := h2.hd
      rw [e] at this
      cases this
      have h3 := h.hd
      cases e4 : o with
      | nil => rw [e4] at h3; cases h3
      | cons b s => rw [e4] at h3; cases h3; rfl
theorem comp_idx (h : OrdOk n o) (h2 : OrdOk n o2) (hy : y ∈ o) : idxI (o2.map (atO o)) y = idxI o2 (idxI o y) := by
  have hc := comp_ok h h2
  have iy := idx_lt hy
  have my : idxI o y ∈ o2 := h2.mem iy.1 (by rw [← h.len]; exact iy.2)
  have ry := h.rng y hy
  have m2 : y ∈ o2.map (atO o) := hc.mem ry.1 ry.2
  have i2 := idx_lt my
  have i3 := idx_lt m2
  -- both places hold y
  have e : atO (o2.map (atO o)) (idxI o2 (idxI o y)) = y := by
    have hl : (idxI o2 (idxI o y)).toNat < o2.length := by omega
    unfold atO
    rw [List.getElem?_map, List.getElem?_eq_getElem hl]
    have := at_idx my
    unfold atO at this
    rw [List.getElem?_eq_getElem hl] at this
    show atO o o2[(idxI o2 (idxI o y)).toNat] = y
    rw [show o2[(idxI o2 (idxI o y)).toNat] = idxI o y from this]
    exact at_idx hy
  rw [← e]
  exact idx_at hc.nd i2.1 (by rw [List.length_map]; exact i2.2) |>.trans (by rw [e])
theorem renum_comp (ok : MOk M) (h : OrdOk M.items.length o) (h2 : OrdOk M.items.length o2) : renumM (renumM M o) o2 = renumM M (o2.map (atO o)) := by
  have hc := comp_ok h h2
  unfold renumM
  rw [List.map_map]
  congr 1
  apply List.map_congr_left
  intro x hx
  have rx := h2.rng x hx
  show Tup.mk (renRow o2 (rowAt (renumM M o) x)) = Tup.mk (renRow _ (rowAt M (atO o x)))
  rw [renum_row rx.1 (by rw [h.len]; exact rx.2)]
  congr 1
  have ox := at_mem (o := o) rx.1 (by rw [h.len]; exact rx.2)
  have inj2 : ∀ a ∈ renRow o (rowAt M (atO o x)), ∀ b ∈ renRow o (rowAt M (atO o x)), (a.1, idxI o2 a.2) = (b.1, idxI o2 b.2) → a = b := fun a ha b hb e => by
    obtain ⟨p, hp, rfl⟩ := mem_renRow.mp ha
    obtain ⟨q, hq, rfl⟩ := mem_renRow.mp hb
    obtain ⟨a0, a1, _⟩ := rowAt_mv ok hp
    obtain ⟨b0, b1, _⟩ := rowAt_mv ok hq
    have ia := idx_lt (h.mem a0 a1)
    have ib := idx_lt (h.mem b0 b1)
    rw [h.len] at ia ib
    obtain ⟨e1, e2⟩ := Prod.mk.inj e
    exact Prod.ext e1 (idx_inj (h2.mem ia.1 ia.2) (h2.mem ib.1 ib.2) e2)
  refine (sortL_rising (nodup_mapOn (renRow_up ok h).nodup inj2)).eq (renRow_up ok hc) fun p => ?_
  rw [mem_sortL, List.mem_map, mem_renRow]
  constructor
  · rintro ⟨a, ha, rfl⟩
    obtain ⟨q, hq, rfl⟩ := mem_renRow.mp ha
    obtain ⟨a0, a1, _⟩ := rowAt_mv ok hq
    exact ⟨q, hq, by rw [comp_idx h h2 (h.mem a0 a1)]⟩
  · rintro ⟨q, hq, rfl⟩
    obtain ⟨a0, a1, _⟩ := rowAt_mv ok hq
    exact ⟨(q.1, idxI o q.2), mem_renRow.mpr ⟨q, hq, rfl⟩, by rw [comp_idx h h2 (h.mem a0 a1)]⟩
def rngI (n : Nat) : List Int := (List.range n).map fun i => ((i : Nat) : Int)
theorem mem_rngI : x ∈ rngI n ↔ 0 ≤ x ∧ x < n := by
  unfold rngI
  rw [List.mem_map]
  constructor
  · rintro ⟨i, hi, rfl⟩
    have := List.mem_range.mp hi
    omega
  · rintro ⟨h0, h1⟩
    exact ⟨x.toNat, List.mem_range.mpr (by omega), by omega⟩
theorem rngI_rising : Rising (rngI n) := by
  unfold rngI Rising
  rw [List.pairwise_map]
  refine List.Pairwise.imp (fun {a b} h => ?_) List.pairwise_lt_range
  show decide ((a : Int) < b) = true
  exact decide_eq_true (by omega)
theorem rngI_at {i : Nat} (h : i < n) : (rngI n)[i]? = some (i : Int) := by unfold rngI; rw [List.getElem?_map, List.getElem?_range h]; rfl
theorem rngI_len : (rngI n).length = n := by unfold rngI; rw [List.length_map, List.length_range]
theorem rngI_idx (h0 : 0 ≤ x) (h1 : x < n) : idxI (rngI n) x = x := by
  have e : atO (rngI n) x = x := by
    unfold atO
    rw [rngI_at (by omega)]
    show ((x.toNat : Nat) : Int) = x
    omega
  have := idx_at (o := rngI n) (rngI_rising.nodup) h0 (by rw [rngI_len]; exact h1)
  rw [e] at this
  exact this
theorem renum_id (ok : MOk M) : renumM M (rngI M.items.length) = M := by
  have e : (renumM M (rngI M.items.length)).items = M.items := by
    apply List.ext_getElem?
    intro i
    show ((rngI M.items.length).map _)[i]? = _
    rw [List.getElem?_map]
    by_cases hi : i < M.items.length
    · rw [rngI_at hi, List.getElem?_eq_getElem hi]
      show some (Tup.mk (renRow _ (rowAt M (i : Int)))) = _
      have er : rowAt M (i : Int) = M.items[i].items := rowAt_of (by rw [Int.toNat_natCast, List.getElem?_eq_getElem hi])
      rw [er]
      have hm : M.items[i] ∈ M.items := List.getElem_mem hi
      have em : (M.items[i].items.map fun p => (p.1, idxI (rngI M.items.length) p.2)) = M.items[i].items := by
        conv => rhs; rw [← List.map_id M.items[i].items]
        apply List.map_congr_left
        intro p hp
        obtain ⟨a, b, _⟩ := ok.mv _ hm p hp
        rw [rngI_idx a b]; rfl
      have up := ok.up _ hm
      unfold renRow
      rw [em]
      have : sortL M.items[i].items = M.items[i].items := (sortL_rising up.nodup).eq up fun a => mem_sortL
      rw [this]
    · have h1 : (rngI M.items.length)[i]? = none := by rw [List.getElem?_eq_none]; rw [rngI_len]; omega
      rw [h1, List.getElem?_eq_none (by omega)]; rfl
  cases hM : renumM M (rngI M.items.length) with
  | mk xs => rw [hM] at e; cases M; exact congrArg Tup.mk e
theorem at_zero (h : OrdOk n o) : atO o 0 = 0 := by
  cases e : o with
  | nil => rw [e] at h; have := h.hd; cases this
  | cons a r => rw [e] at h; have := h.hd; cases this; rfl
theorem reach_row : Reach M x → ∀ p ∈ rowAt M x, Reach M p.2 := fun h p hp => by
  unfold rowAt at hp
  split at hp
  · rename_i r hr
    exact .step h (by unfold Mch.rows; rw [List.getElem?_map, hr]; rfl) hp
  · cases hp
theorem reach_ind {M : Mch} {P : Int → Prop} (h0 : P 0) (hs : ∀ x, Reach M x → P x → ∀ p ∈ rowAt M x, P p.2) : ∀ x, Reach M x → P x := fun x h => by
  induction h with
  | start => exact h0
  | step h1 h2 h3 ih =>
    refine hs _ h1 ih _ ?_
    unfold Mch.rows at h2
    rw [List.getElem?_map] at h2
    obtain ⟨q, hq, rfl⟩ := Option.map_eq_some_iff.mp h2
    rw [rowAt_of hq]
    exact h3
theorem reach_renum (ok : MOk M) (ho : OrdOk M.items.length o) : ∀ x, Reach (renumM M o) x → Reach M (atO o x) ∧ 0 ≤ x ∧ x < M.items.length := by
  have lo := ok.lo
  refine reach_ind ⟨by rw [at_zero ho]; exact .start, Int.le_refl _, by omega⟩ fun x h ih p hp => ?_
  obtain ⟨i1, i2, i3⟩ := ih
  rw [renum_row i2 (by rw [ho.len]; exact i3)] at hp
  obtain ⟨q, hq, rfl⟩ := mem_renRow.mp hp
  obtain ⟨a, b, _⟩ := rowAt_mv ok hq
  have hm := ho.mem a b
  have := idx_lt hm
  rw [ho.len] at this
  refine ⟨?_, this⟩
  rw [at_idx hm]
  exact reach_row i1 q hq
theorem reach_renum' (ok : MOk M) (ho : OrdOk M.items.length o) : ∀ y, Reach M y → Reach (renumM M o) (idxI o y) := by
  refine reach_ind ?_ fun y h ih p hp => ?_
  · have lo := ok.lo
    have e := idx_at (x := 0) ho.nd (Int.le_refl _) (by rw [ho.len]; omega)
    rw [at_zero ho] at e
    rw [e]; exact .start
  · have ry := ok.reach h
    have hm := ho.mem ry.1 ry.2
    have hi := idx_lt hm
    refine reach_row ih (p.1, idxI o p.2) ?_
    rw [renum_row hi.1 hi.2, at_idx hm]
    exact mem_renRow.mpr ⟨p, hp, rfl⟩
theorem come_renum (ok : MOk M) (ho : OrdOk M.items.length o) {xs zs : List Int} (hx : Rising xs) (hxr : ∀ x, x ∈ xs ↔ Reach (renumM M o) x) (hz : Rising zs) (hzr : ∀ x, x ∈ zs ↔ Reach M x) : sortL (xs.map (atO o)) = zs := by
  have inj : ∀ a ∈ xs, ∀ b ∈ xs, atO o a = atO o b → a = b := fun a ha b hb e => by
    obtain ⟨_, a0, a1⟩ := reach_renum ok ho a ((hxr a).mp ha)
    obtain ⟨_, b0, b1⟩ := reach_renum ok ho b ((hxr b).mp hb)
    rw [← idx_at ho.nd a0 (by rw [ho.len]; exact a1), e, idx_at ho.nd b0 (by rw [ho.len]; exact b1)]
  refine (sortL_rising (nodup_mapOn hx.nodup inj)).eq hz fun y => ?_
  rw [mem_sortL, List.mem_map, hzr]
  constructor
  · rintro ⟨x, h, rfl⟩
    exact (reach_renum ok ho x ((hxr x).mp h)).1
  · intro h
    have ry := ok.reach h
    exact ⟨idxI o y, (hxr _).mpr (reach_renum' ok ho y h), at_idx (ho.mem ry.1 ry.2)⟩
end
end Sk
set_option Elab.async false
set_option linter.all false
set_option maxRecDepth 100000
set_option maxHeartbeats 2000000
/-! more rules: pop(i), reverse, extend, index, op=, list(range), min, max, isinstance of several, parts of values -/
namespace Sk
open PySem PySem.Spec PyProof.Rows L2
open Evl (Ex)
theorem _root_.L2.DpAll.erase {K : PySem.W.Frag} {H : Hp} {vs : List V} {ds : List PyData} (a : DpAll K H vs ds) (n : Nat) : DpAll K H (vs.eraseIdx n) (ds.eraseIdx n) := by
  rw [List.eraseIdx_eq_take_drop_succ, List.eraseIdx_eq_take_drop_succ]
  exact (a.take n).append (a.drop (n + 1))
theorem _root_.L2.DpAll.rev {K : PySem.W.Frag} {H : Hp} : ∀ {vs : List V} {ds : List PyData}, DpAll K H vs ds → DpAll K H vs.reverse ds.reverse
  | _, _, .nil => .nil
  | _, _, .cons h t => by
    rw [List.reverse_cons, List.reverse_cons]
    exact t.rev.append (.cons h .nil)
@[simp] def hPopAt (j : Nat) (t : HE) : HE := fun s C => (∃ ds, s.sl[j]? = some (some (.own ds))) ∧ t s fun p s1 => ∃ ds i k d, p = .dat (.int i) ∧ s1.sl[j]? = some (some (.own ds)) ∧ ixN ds.length i = some k ∧ i.natAbs ≤ 1000000 ∧ ds[k]? = some d ∧ C (.dat d) (s1.put j (.own (ds.eraseIdx k)))
@[simp] def hRev (j : Nat) : HE := fun s C => ∃ ds, s.sl[j]? = some (some (.own ds)) ∧ C (.dat .none) (s.put j (.own ds.reverse))
@[simp] def hExt (j : Nat) (t : HE) : HE := fun s C => (∃ ds, s.sl[j]? = some (some (.own ds))) ∧ t s fun p s1 => ∃ ds es, p = .own es ∧ s1.sl[j]? = some (some (.own ds)) ∧ ds.length + es.length ≤ 100000 ∧ C (.dat .none) (s1.put j (.own (ds ++ es)))
@[simp] def hIdx (j : Nat) (t : HE) : HE := fun s C => (∃ p ns, s.sl[j]? = some (some p) ∧ p.lst = some ((ns : List Int).map .int)) ∧ t s fun q s1 => ∃ p ns, ∃ a : Int, ∃ k, s1.sl[j]? = some (some p) ∧ p.lst = some ((ns : List Int).map .int) ∧ q = .dat (.int a) ∧ ns[k]? = some a ∧ (∀ m, m < k → ns[m]? ≠ some a) ∧ C (.dat (.int (k : Nat))) s1
@[simp] def hAug (op : Int → Int → Int) (i : Nat) (t : HE) : HS := fun D s => ∃ a, s.sl[i]? = some (some (.dat (.int a))) ∧ t s fun p s1 => ∃ b, p = .dat (.int b) ∧ D.nx (s1.put i (.dat (.int (op a b))))
@[simp] def hAugL (op : Int → Int → Int) (j : Nat) (ti t : HE) : HS := fun D s => (∃ ds, s.sl[j]? = some (some (.own ds))) ∧ ti s fun q s1 => ∃ k n ds a, q = .dat (.int k) ∧ s1.sl[j]? = some (some (.own ds)) ∧ ixN ds.length k = some n ∧ ds[n]? = some (.int a) ∧ t s1 fun p s2 => ∃ b es m, p = .dat (.int b) ∧ s2.sl[j]? = some (some (.own es)) ∧ ixN es.length k = some m ∧ D.nx (s2.put j (.own (es.set m (.int (op a b)))))
/-- the ints a .. b - 1 -/
def rgD (a b : Int) : List PyData := (List.range (b - a).toNat).map fun i => PyData.int (a + (i : Nat))
@[simp] def hLR1 (ta : HA) : HE := hC (fun ps C => match ps with
  | [.dat (.int n)] => (-1000000 ≤ n ∧ n ≤ 1000000) ∧ C (.own (rgD 0 n))
  | _ => False) ta
@[simp] def hTR1 (ta : HA) : HE := hC (fun ps C => match ps with
  | [.dat (.int n)] => (-1000000 ≤ n ∧ n ≤ 1000000) ∧ C (.dat (.tuple (rgD 0 n)))
  | _ => False) ta
@[simp] def hLR2 (ta : HA) : HE := hC (fun ps C => match ps with
  | [.dat (.int a), .dat (.int b)] => (-1000000 ≤ a ∧ a ≤ 1000000 ∧ -1000000 ≤ b ∧ b ≤ 1000000) ∧ C (.own (rgD a b))
  | _ => False) ta
@[simp] def max2W : List PV → (PV → Prop) → Prop := i2' fun i j => .int (if j > i then j else i)
@[simp] def min2W : List PV → (PV → Prop) → Prop := i2' fun i j => .int (if j < i then j else i)
def maxW : List PV → (PV → Prop) → Prop := fun ps C => match ps with
  | [p] => ∃ ns : List Int, p.lst = some (ns.map .int) ∧ 0 < ns.length ∧ ∀ m, m ∈ ns → (∀ y, y ∈ ns → y ≤ m) → C (.dat (.int m))
  | _ => False
def minW : List PV → (PV → Prop) → Prop := fun ps C => match ps with
  | [p] => ∃ ns : List Int, p.lst = some (ns.map .int) ∧ 0 < ns.length ∧ ∀ m, m ∈ ns → (∀ y, y ∈ ns → m ≤ y) → C (.dat (.int m))
  | _ => False
@[simp] def hSlE (t : HE) (tl th : HOp) : HE := fun s C => t s fun p s1 => ∃ d, p.frz = some d ∧ tl s1 fun lo s2 => th s2 fun hi s3 => slW (.dat d) lo hi fun q => C q s3
section
variable {X : Cx} {f : Fr} {e o a b : Expr} {es : List Expr} {t ti tt : HE} {r : HA} {x : Str} {apos cpos pos p : Pos} {oa ob : HA → HA}
theorem hp_popAt {j : Nat} (he : PE X e (lf X.K f t)) (h : ∀ {ta : TA}, PA X [e] ta → PE X a (tBM X.K "list" rPopAt (tVar j) ta)) (hs : starEach [e] X.env = (false, eval e X.env) :: starEach [] X.env := by rfl) : PE X a (lf X.K f (hPopAt j t)) := (h (pa_cons he pa_nil hs)).mono fun σ H Q q => by
  obtain ⟨F, O, G, s, C, R, ⟨⟨ds0, hj⟩, ht⟩, k⟩ := q
  obtain ⟨v, hv, V⟩ := R.sl j _ hj
  obtain ⟨b, ws, rfl, k1, k2, k3, k4, k5⟩ := V
  refine ⟨_, hv, Or.inl ⟨rfl, ws, Or.inl (Or.inl k1)⟩, F, O, G, s, _, R, ht, fun p s1 G1 H1 y c1 e1 R1 V1 => ?_⟩
  obtain ⟨ds, i, n, d, rfl, hj1, hn, hi, hd, c2⟩ := c1
  cases vr_int V1.1
  obtain ⟨v', hv', V'⟩ := R1.sl j _ hj1
  rw [hv] at hv'
  cases hv'
  obtain ⟨b', ws', eb, m1, m2, m3, m4, m5⟩ := V'
  cases eb
  obtain ⟨y, hy, dy⟩ := m5.at hd
  obtain ⟨q1, _, _, _⟩ := ixN_seq hn
  refine ⟨_, ws', i, n, y, rfl, rfl, m1, by omega, by omega, by rw [m5.len]; exact q1, hy, k _ _ _ _ _ c2 e1 ?_ (vrf_dat dy)⟩
  exact R1.poke hj1 rfl hv m1 m2 m3 m4 ⟨_, _, rfl, upd_same, m2, m3, m4, m5.erase n⟩
theorem hp_rev {j : Nat} (h : PE X a (tBM0 X.K "list" rReverse (tVar j))) : PE X a (lf X.K f (hRev j)) := h.mono fun σ H Q q => by
  obtain ⟨F, O, G, s, C, R, ⟨ds, hj, c⟩, k⟩ := q
  obtain ⟨v, hv, V⟩ := R.sl j _ hj
  obtain ⟨b, ws, rfl, k1, k2, k3, k4, k5⟩ := V
  refine ⟨_, hv, Or.inl ⟨rfl, ws, Or.inl (Or.inl k1)⟩, b, ws, rfl, rfl, k1, k _ _ _ _ _ c (Ex.refl G) ?_ (vrf_dat .non)⟩
  exact R.poke hj rfl hv k1 k2 k3 k4 ⟨_, _, rfl, upd_same, k2, k3, k4, k5.rev⟩
theorem hp_ext {j : Nat} (he : PE X e (lf X.K f t)) (h : ∀ {ta : TA}, PA X [e] ta → PE X a (tBM X.K "list" rExtend (tVar j) ta)) (hs : starEach [e] X.env = (false, eval e X.env) :: starEach [] X.env := by rfl) : PE X a (lf X.K f (hExt j t)) := (h (pa_cons he pa_nil hs)).mono fun σ H Q q => by
  obtain ⟨F, O, G, s, C, R, ⟨⟨ds0, hj⟩, ht⟩, k⟩ := q
  obtain ⟨v, hv, V⟩ := R.sl j _ hj
  obtain ⟨b, ws, rfl, k1, k2, k3, k4, k5⟩ := V
  refine ⟨_, hv, Or.inl ⟨rfl, ws, Or.inl (Or.inl k1)⟩, F, O, G, s, _, R, ht, fun p s1 G1 H1 y c1 e1 R1 V1 => ?_⟩
  obtain ⟨ds, es, rfl, hj1, hl, c2⟩ := c1
  obtain ⟨v', hv', V'⟩ := R1.sl j _ hj1
  rw [hv] at hv'
  cases hv'
  obtain ⟨b', ws', eb, m1, m2, m3, m4, m5⟩ := V'
  cases eb
  obtain ⟨⟨c, us, rfl, n1, n2, n3, n4, n5⟩, nf⟩ := V1
  refine ⟨b, c, ws', us, rfl, rfl, m1, n1, by rw [m5.len, n5.len]; exact Evl.sz_of hl, k _ _ _ _ _ c2 e1 ?_ (vrf_dat .non)⟩
  exact R1.poke hj1 rfl hv m1 m2 m3 m4 ⟨_, _, rfl, upd_same, m2, m3, m4, m5.append n5⟩
theorem lst_sq {K : PySem.W.Frag} {G H : Hp} {p : PV} {v : V} {ds : List PyData} (V : VR K f G H p v) (e : p.lst = some ds) (g : Ex G H) : ∃ a vs, v = .ref a ∧ SqL K H a vs ∧ DpAll K G vs ds := by
  cases p with
  | dat d =>
    cases d <;> try (cases e)
    have V : Dp K G v (.list ds) := V
    cases V with
    | lst hs ha => exact ⟨_, _, rfl, Evl.ex_l g hs, ha⟩
  | own ds' =>
    cases e
    obtain ⟨a, vs, rfl, h1, h2, h3, h4, h5⟩ := V
    exact ⟨_, _, rfl, Or.inl (Or.inl h1), h5⟩
  | _ => cases e
theorem hp_idx {j : Nat} (he : PE X e (lf X.K f t)) (h : ∀ {ta : TA}, PA X [e] ta → PE X a (tBM X.K "list" (rIndex X.K) (tVar j) ta)) (hs : starEach [e] X.env = (false, eval e X.env) :: starEach [] X.env := by rfl) : PE X a (lf X.K f (hIdx j t)) := (h (pa_cons he pa_nil hs)).mono fun σ H Q q => by
  obtain ⟨F, O, G, s, C, R, ⟨⟨p0, ns0, hj, hl0⟩, ht⟩, k⟩ := q
  obtain ⟨v, hv, VV⟩ := R.sl j _ hj
  obtain ⟨b, ws, rfl, k1, _⟩ := lst_sq VV hl0 R.gh
  refine ⟨_, hv, Or.inl ⟨rfl, ws, k1⟩, F, O, G, s, _, R, ht, fun q s1 G1 H1 y c1 e1 R1 V1 => ?_⟩
  obtain ⟨p, ns, i, n, hj1, hl, rfl, hn, hno, c2⟩ := c1
  cases vr_int V1.1
  obtain ⟨v', hv', V'⟩ := R1.sl j _ hj1
  rw [hv] at hv'
  cases hv'
  obtain ⟨b', us, eb, m1, m2⟩ := lst_sq V' hl R1.gh
  cases eb
  have eu := ints_dpAll m2
  subst eu
  refine ⟨b, ns.map V.int, .int i, n, .int i, rfl, rfl, m1, rfl, ?_, by rw [List.getElem?_map, hn]; rfl, ?_, fun m z hm hz => ?_, k _ _ _ _ _ c2 e1 R1 (vrf_dat (.int _))⟩
  · rw [List.all_eq_true]
    intro z hz
    obtain ⟨i, _, rfl⟩ := List.mem_map.mp hz
    rfl
  · show decide (i = i) = true
    exact decide_eq_true rfl
  · rw [List.getElem?_map] at hz
    cases hq : ns[m]? with
    | none => rw [hq] at hz; cases hz
    | some w =>
      rw [hq] at hz
      cases hz
      have ne := hno m hm
      rw [hq] at ne
      show decide (w = i) = false
      exact decide_eq_false fun e => ne (by rw [e])
theorem hs_aug {i : Nat} {st : Stmt} {op : Int → Int → Int} (h : PS X st (tAug i (lf X.K f t) (ipI op))) : PS X st (lfS X.K f (hAug op i t)) := h.mono fun D σ H q => by
  obtain ⟨F, O, G, s, D', R, ⟨a, hi, ht⟩, k⟩ := q
  obtain ⟨v, hv, V⟩ := R.sl i _ hi
  cases vr_int (i := a) V
  refine ⟨_, hv, F, O, G, s, _, R, ht, fun p s1 G1 H1 y c1 e1 R1 V1 => ?_⟩
  obtain ⟨b, rfl, c2⟩ := c1
  cases vr_int V1.1
  exact ⟨a, b, rfl, rfl, k.nx _ _ _ _ e1 (R1.put (vrf_dat (.int _))) c2⟩
theorem hs_augL {j : Nat} {st : Stmt} {op : Int → Int → Int} (h : PS X st (tAugS (tVar j) (lf X.K f ti) (lf X.K f t) (rIxL X.K) (ipI op) rSetL)) : PS X st (lfS X.K f (hAugL op j ti t)) := h.mono fun D σ H q => by
  obtain ⟨F, O, G, s, D', R, ⟨⟨ds0, hj0⟩, ht⟩, k⟩ := q
  obtain ⟨v, hv, V0⟩ := R.sl j _ hj0
  refine ⟨v, hv, F, O, G, s, _, R, ht, fun q s1 G1 H1 z c1 e1 R1 V1 => ?_⟩
  obtain ⟨kk, n, ds, a, rfl, hj1, hn, ha, c2⟩ := c1
  cases vr_int V1.1
  obtain ⟨v', hv', V'⟩ := R1.sl j _ hj1
  rw [hv] at hv'
  cases hv'
  obtain ⟨b, ws, eb, m1, m2, m3, m4, m5⟩ := V'
  subst eb
  obtain ⟨y, hy, dy⟩ := m5.at ha
  have ey : y = .int a := by cases dy; rfl
  subst ey
  refine ⟨b, ws, kk, _, rfl, rfl, Or.inl (Or.inl m1), by unfold atI; rw [m5.len, hn]; exact hy, F, O, G1, s1, _, R1, c2, fun p s2 G2 H2 y2 c3 e2 R2 V2 => ?_⟩
  obtain ⟨bb, es, m, rfl, hj2, hm, c4⟩ := c3
  cases vr_int V2.1
  obtain ⟨v', hv', V'⟩ := R2.sl j _ hj2
  rw [hv] at hv'
  cases hv'
  obtain ⟨b', us, eb, l1, l2, l3, l4, l5⟩ := V'
  cases eb
  refine ⟨a, bb, rfl, rfl, b, us, kk, m, rfl, rfl, l1, by rw [l5.len]; exact hm, k.nx _ _ _ _ (e1.trans e2) ?_ c4⟩
  exact R2.poke hj2 rfl hv l1 l2 l3 l4 ⟨_, _, rfl, upd_same, l2, l3, l4, l5.set (.int _)⟩
theorem rg_dp {K : PySem.W.Frag} {H : Hp} (a b : Int) : DpAll K H (rgV a b) (rgD a b) := by
  unfold rgV rgD
  generalize List.range (b - a).toNat = xs
  induction xs with
  | nil => exact .nil
  | cons x xs ih => exact .cons (.int _) ih
theorem hp_lr1 {g : Expr} (h : ∀ {ta : TE}, PE X a ta → PE X g (tLstRg (tRg1 ta))) (A : Opd X f a oa) : PE X g (lf X.K f (hLR1 (oa hNil))) := by
  obtain ⟨ta, a1, a2⟩ := A.ex
  refine (h a1).mono fun σ H Q q => ?_
  exact a2 tNil hNil (fun σ H Q q => by
    obtain ⟨F, O, G, s, C, R, ht, k⟩ := q
    exact k _ _ _ _ _ ht (Ex.refl G) R .nil) σ H (fun vs H1 => ∃ n, vs.headD V.non = V.int n ∧ (RgOk 0 n ∧ ∀ q, H1 q = none → Q (.ref q) (upd H1 q (.lst (rgV 0 n))))) (by
    obtain ⟨F, O, G, s, C, R, ht, k⟩ := q
    refine ⟨F, O, G, s, _, R, ht, fun ps s1 G1 H1 vs c1 e1 R1 V1 => ?_⟩
    dsimp only at c1
    split at c1
    · rename_i n
      obtain ⟨⟨b1, b2⟩, c2⟩ := c1
      cases V1 with
      | cons v1 V1 =>
        cases V1
        cases vr_int v1
        exact ⟨n, rfl, ⟨by omega, by omega, by omega, by omega, by omega⟩, fun q hq => k _ _ _ _ _ c2 e1 (R1.new hq) (R1.own hq (rg_dp 0 n))⟩
    · exact c1.elim)
theorem hp_tr1 {g : Expr} (h : ∀ {ta : TE}, PE X a ta → PE X g (tTupRg (tRg1 ta))) (A : Opd X f a oa) : PE X g (lf X.K f (hTR1 (oa hNil))) := by
  obtain ⟨ta, a1, a2⟩ := A.ex
  refine (h a1).mono fun σ H Q q => ?_
  exact a2 tNil hNil (fun σ H Q q => by
    obtain ⟨F, O, G, s, C, R, ht, k⟩ := q
    exact k _ _ _ _ _ ht (Ex.refl G) R .nil) σ H (fun vs H1 => ∃ n, vs.headD V.non = V.int n ∧ (RgOk 0 n ∧ ∀ q, H1 q = none → Q (.ref q) (upd H1 q (.tup (rgV 0 n))))) (by
    obtain ⟨F, O, G, s, C, R, ht, k⟩ := q
    refine ⟨F, O, G, s, _, R, ht, fun ps s1 G1 H1 vs c1 e1 R1 V1 => ?_⟩
    dsimp only at c1
    split at c1
    · rename_i n
      obtain ⟨⟨b1, b2⟩, c2⟩ := c1
      cases V1 with
      | cons v1 V1 =>
        cases V1
        cases vr_int v1
        exact ⟨n, rfl, ⟨by omega, by omega, by omega, by omega, by omega⟩, fun q hq => k _ _ _ _ _ c2 (e1.trans (Evl.Ex.new (R1.gn hq))) (R1.newG hq) (vrf_dat (.tup (Or.inl (Or.inl upd_same)) (rg_dp 0 n)))⟩
    · exact c1.elim)
theorem hp_lr2 {g : Expr} (h : ∀ {ta tb : TE}, PE X a ta → PE X b tb → PE X g (tLstRg (tRg2 ta tb))) (A : Opd X f a oa) (B : Opd X f b ob) : PE X g (lf X.K f (hLR2 (oa (ob hNil)))) := by
  obtain ⟨ta, a1, a2⟩ := A.ex
  obtain ⟨tb, b1, b2⟩ := B.ex
  refine (h a1 b1).mono fun σ H Q q => ?_
  exact a2 (tCons tb tNil) (ob hNil) (fun σ H Q => b2 tNil hNil (fun σ H Q q => by
    obtain ⟨F, O, G, s, C, R, ht, k⟩ := q
    exact k _ _ _ _ _ ht (Ex.refl G) R .nil) σ H Q) σ H (fun vs H1 => ∃ i j, vs.headD V.non = V.int i ∧ (vs.drop 1).headD V.non = V.int j ∧ (RgOk i j ∧ ∀ q, H1 q = none → Q (.ref q) (upd H1 q (.lst (rgV i j))))) (by
    obtain ⟨F, O, G, s, C, R, ht, k⟩ := q
    refine ⟨F, O, G, s, _, R, ht, fun ps s1 G1 H1 vs c1 e1 R1 V1 => ?_⟩
    dsimp only at c1
    split at c1
    · rename_i n m
      obtain ⟨⟨b1, b2, b3, b4⟩, c2⟩ := c1
      cases V1 with
      | cons v1 V1 =>
        cases V1 with
        | cons v2 V1 =>
          cases V1
          cases vr_int v1
          cases vr_int v2
          exact ⟨n, m, rfl, rfl, ⟨by omega, by omega, by omega, by omega, by omega⟩, fun q hq => k _ _ _ _ _ c2 e1 (R1.new hq) (R1.own hq (rg_dp n m))⟩
    · exact c1.elim)
theorem op_max2 : Op X.K f (fun xs H Q => ∃ i j, xs = [.int i, .int j] ∧ Q (.int (if j > i then j else i)) H) max2W := fun F O G s σ H ps vs C Q R V w k => by
  unfold max2W i2' at w
  split at w
  · rename_i i j
    cases V with
    | cons v1 V =>
      cases V with
      | cons v2 V =>
        cases V
        cases vr_int v1
        cases vr_int v2
        exact ⟨i, j, rfl, k _ _ _ _ w (Ex.refl G) R (vrf_dat (.int _))⟩
  · exact w.elim
theorem op_min2 : Op X.K f (fun xs H Q => ∃ i j, xs = [.int i, .int j] ∧ Q (.int (if j < i then j else i)) H) min2W := fun F O G s σ H ps vs C Q R V w k => by
  unfold min2W i2' at w
  split at w
  · rename_i i j
    cases V with
    | cons v1 V =>
      cases V with
      | cons v2 V =>
        cases V
        cases vr_int v1
        cases vr_int v2
        exact ⟨i, j, rfl, k _ _ _ _ w (Ex.refl G) R (vrf_dat (.int _))⟩
  · exact w.elim
theorem op_maxW : Op X.K f (rMax X.K) maxW := fun F O G s σ H ps vs C Q R VV w k => by
  unfold maxW at w
  split at w
  · obtain ⟨ns, h1, h2, h3⟩ := w
    cases VV with
    | cons v1 VV =>
      cases VV
      obtain ⟨b, us, rfl, m1, m2⟩ := lst_sq v1 h1 R.gh
      have eu := ints_dpAll m2
      subst eu
      exact ⟨b, ns, rfl, m1, h2, fun m hm hb => k _ _ _ _ (h3 m hm hb) (Ex.refl G) R (vrf_dat (.int _))⟩
  · exact w.elim
theorem op_minW : Op X.K f (rMin X.K) minW := fun F O G s σ H ps vs C Q R VV w k => by
  unfold minW at w
  split at w
  · obtain ⟨ns, h1, h2, h3⟩ := w
    cases VV with
    | cons v1 VV =>
      cases VV
      obtain ⟨b, us, rfl, m1, m2⟩ := lst_sq v1 h1 R.gh
      have eu := ints_dpAll m2
      subst eu
      exact ⟨b, ns, rfl, m1, h2, fun m hm hb => k _ _ _ _ (h3 m hm hb) (Ex.refl G) R (vrf_dat (.int _))⟩
  · exact w.elim
theorem hp_slE {lo hi : Option Expr} {t : HE} {tl th : HOp} {p2 pos : Pos} (h : PE X e (lf X.K f t)) (hl : PO X lo (lfO X.K f tl)) (hh : PO X hi (lfO X.K f th)) : PE X (.Subscript e (.Slice lo hi none p2) pos) (lf X.K f (hSlE t tl th)) := (pe_slice sl_all h hl hh).mono fun σ H Q q => by
  obtain ⟨F, O, G, s, C, R, ht, k⟩ := q
  refine ⟨F, O, G, s, _, R, ht, fun p s0 G0 H0 v c0 e0 R0 V0 => ?_⟩
  obtain ⟨d, hd, c1⟩ := c0
  obtain ⟨G00, e00, R00, V00⟩ := R0.frz V0 hd
  refine ⟨F, O, G00, s0, _, R00, c1, fun lo s1 G1 H1 c1 e1 R1 => ⟨F, O, G1, s1, _, R1, c1, fun hi s2 G2 H2 c2 e2 R2 => ?_⟩⟩
  exact op_slW R2 (show VR X.K (fo f F O) G2 H2 (.dat d) v from Dp.ex (e1.trans e2) _ V00) c2 fun p G3 H3 v c e3 R3 V3 => k _ _ _ _ _ c ((((e0.trans e00).trans e1).trans e2).trans e3) R3 V3
/-- d[y] -/
def dgetW : List PV → (PV → Prop) → Prop := fun ps C => match ps with
  | [.dct kvs, .dat d] => ∃ k v, keyD d = some k ∧ getD' kvs k = some v ∧ C (.dat v)
  | _ => False
theorem op_dget : Op X.K f (fun vs H Q => match vs with | [x, y] => ∃ a v, x = V.ref a ∧ DGet H a y (some v) ∧ Q v H | _ => False) dgetW := fun F O G s σ H ps vs C Q R VV w k => by
  unfold dgetW at w
  split at w
  · obtain ⟨kk, d, hk, hg, c⟩ := w
    cases VV with
    | cons v1 VV =>
      cases VV with
      | cons v2 VV =>
        cases VV
        obtain ⟨b, ws, rfl, m1, m2, m3, m4, m5, m6⟩ := v1
        have ez := key_dp (show Dp X.K G _ _ from v2) hk
        subst ez
        obtain ⟨v, hv, dv⟩ := (KVD.get (k := kk) ⟨m5, m6⟩).2 d hg
        refine ⟨b, v, rfl, ?_, k _ _ _ _ c (Ex.refl G) R (vrf_dat dv)⟩
        rw [← hv]
        exact DGet.k m1
  · exact w.elim
theorem hp_dget (hu : X.A.units + 1 < cLine) (A : Opd X f o oa) (B : Opd X f e ob) (hs : NoSl e) : PE X (.Subscript o e pos) (lf X.K f (hC dgetW (oa (ob hNil)))) := by
  obtain ⟨ta, a1, a2⟩ := A.ex
  obtain ⟨tb, b1, b2⟩ := B.ex
  refine (pe_dget hu a1 b1 hs).mono fun σ H Q q => ?_
  have z := a2 (tCons tb tNil) (ob hNil) (fun σ H Q => b2 tNil hNil (fun σ H Q q => by
    obtain ⟨F, O, G, s, C, R, ht, k⟩ := q
    exact k _ _ _ _ _ ht (Ex.refl G) R .nil) σ H Q) σ H _ ((op_dget (X := X) (f := f)).lift _ σ H Q q)
  exact z
theorem get_list : PGet X (rIxL X.K) := by
  intro pins s σ H x y v u Q I rx ry h
  obtain ⟨p, xs, i, z, rfl, rfl, hq, he, q⟩ := h
  cases rx
  obtain ⟨t, rfl⟩ := ry
  obtain ⟨its, r, pl, hz⟩ := I.list hq
  obtain ⟨j, h1, h2, h3, h4, h5⟩ := atI_get he
  obtain ⟨w, ew, rw'⟩ := r.get h2
  have hl := r.length
  have hn := line63
  have fin : EP X pins σ Q w s := ⟨z, H, I, rw', q⟩
  by_cases h0 : 0 ≤ i
  · have hj : i.toNat = j := by
      rw [seqIndex_of h0 h5] at h1
      exact Option.some.inj h1
    exact wpAny_getItem_list pl.isList h0 (by omega) (by rw [hj]; simpa using ew) fin
  · have hj : (i + (its.toArray.size : Int)).toNat = j := by
      rw [seqIndex_neg (by omega) h4] at h1
      rw [List.size_toArray, ← hl]
      exact Option.some.inj h1
    exact wpAny_getItem_list_neg pl.isList (by omega) (by rw [List.size_toArray] <;> omega) (by omega) (by rw [hj]; simpa using ew) fin
end
theorem for_nat {g : HG} {t : HS} {D : HD} {s : Sg} (n : Nat) (hn : n ≤ 100000) (h : each g t D ((List.range n).map fun i => PyData.int ((i : Nat) : Int)) s) : hFor (hiR1 (hE (hK (.int (n : Int))) hNil)) g t D s := by
  have er : rngD 0 n = (List.range n).map fun i => PyData.int ((i : Nat) : Int) := by simp [rngD]
  simp only [hFor, hiR1, hE, hK, hNil, frz_dat]
  refine ⟨_, rfl, ⟨by omega, by omega⟩, ?_⟩
  rw [show (n : Int).toNat = n by omega, er]
  exact h
/-- a while loop by an index that falls -/
theorem hWhile_by {c : HT} {t : HS} {D : HD} {s : Sg} (J : Nat → Sg → Prop) (m : Nat) (h : J m s) (step : ∀ m s, J m s → c s fun b s1 => if b = true then t { D with nx := fun s' => ∃ m', m' < m ∧ J m' s', ct := fun s' => ∃ m', m' < m ∧ J m' s', bk := D.nx } s1 else D.nx s1) : hWhile c t D s := by
  classical
  have least : ∀ (n : Nat) (s : Sg), J n s → ∃ k, J k s ∧ ∀ j, J j s → k ≤ j := fun n => by
    induction n using Nat.strongRecOn with
    | ind n ih =>
      intro s hn
      by_cases q : ∃ j, j < n ∧ J j s
      · obtain ⟨j, hj, hJ⟩ := q
        exact ih j hj s hJ
      · refine ⟨n, hn, fun j hj => ?_⟩
        rcases Nat.lt_or_ge j n with z | z
        · exact absurd ⟨j, z, hj⟩ q
        · exact z
  let μ : Sg → Nat := fun s => if h : ∃ m, J m s then Classical.choose (least _ s h.choose_spec) else 0
  have hμ : ∀ s, (∃ m, J m s) → J (μ s) s ∧ ∀ j, J j s → μ s ≤ j := fun s hs => by
    have : μ s = Classical.choose (least _ s hs.choose_spec) := dif_pos hs
    rw [this]
    exact Classical.choose_spec (least _ s hs.choose_spec)
  refine ⟨fun s => ∃ m, J m s, μ, ⟨m, h⟩, fun s hs => ?_⟩
  obtain ⟨h1, h2⟩ := hμ s hs
  have := step (μ s) s h1
  have e : (fun s' => ∃ m', m' < μ s ∧ J m' s') = fun s' => (∃ m, J m s') ∧ μ s' < μ s := by
    funext s'
    apply propext
    constructor
    · rintro ⟨m', a, b⟩
      exact ⟨⟨m', b⟩, Nat.lt_of_le_of_lt ((hμ s' ⟨m', b⟩).2 m' b) a⟩
    · rintro ⟨a, b⟩
      exact ⟨μ s', b, (hμ s' a).1⟩
  rw [e] at this
  exact this
end Sk
set_option Elab.async false
set_option linter.all false
set_option maxRecDepth 100000
set_option maxHeartbeats 4000000
namespace Sk
open PySem PySem.Spec PyProof.Rows L2
open PySem.W (Datum DatumOrd Tup T3 T4)
open Evl (Ex)
/-! renumbered -/
theorem hLc_eq {it : HI} {g : HG} {tt : HT} {t : HE} {vs : List Nat} {s : Sg} {C : PV → Sg → Prop} : hLc it g tt t vs s C ↔ (it s fun ds s1 => lcs vs g tt t ds [] (s1.wipe vs) C) := Iff.rfl
theorem dat_list_int {o : List Int} : (Datum.toD o : PyData) = .list (o.map .int) := rfl
theorem rgD_rngI (n : Nat) : rgD 0 (n : Int) = (rngI n).map PyData.int := by
  unfold rgD rngI
  rw [List.map_map, show ((n : Int) - 0).toNat = n by omega]
  apply List.map_congr_left
  intro i _
  show PyData.int (0 + (i : Nat)) = .int (i : Nat)
  rw [Int.zero_add]
theorem ord_sort {n : Nat} {o : List Int} (ho : OrdOk n o) : sortL o = rngI n := (sortL_rising ho.nd).eq rngI_rising fun x => by
  rw [mem_sortL, mem_rngI]
  exact ⟨ho.rng x, fun h => ho.mem h.1 h.2⟩
theorem ord_at0 {n : Nat} {o : List Int} (ho : OrdOk n o) : atI (o.map PyData.int) 0 = some (.int 0) := by
  cases e : o with
  | nil => rw [e] at ho; have := ho.hd; cases this
  | cons a r =>
    rw [e] at ho
    have := ho.hd
    cases this
    unfold atI ixN
    simp
theorem enumD_zip : ∀ (i : Nat) (o : List Int), enumD i (o.map PyData.int) = (o.zipIdx i).map fun p => .tuple [.int (p.2 : Nat), .int p.1]
  | _, [] => rfl
  | i, x :: o => by
    rw [List.map_cons, List.zipIdx_cons, List.map_cons, ← enumD_zip (i + 1) o]
    rfl
theorem pairs_int {α : Type} (k : α → Int) (g : α → PyData) : ∀ xs : List α, pairsD (xs.map fun p => .tuple [.int (k p), g p]) = some (xs.map fun p => ((.inl (k p) : Key), g p))
  | [] => rfl
  | x :: xs => by simp [pairsD, pairs_int k g xs]
theorem putD_new {kvs : List (Key × PyData)} {k : Key} {d : PyData} (h : k ∉ kvs.map (·.1)) : putD kvs k d = kvs ++ [(k, d)] := by
  unfold putD
  rw [if_neg]
  intro z
  obtain ⟨p, hp, e⟩ := List.any_eq_true.mp z
  exact h (List.mem_map.mpr ⟨p, hp, of_decide_eq_true e⟩)
theorem mergeD_app : ∀ (kvs acc : List (Key × PyData)), (acc.map (·.1) ++ kvs.map (·.1)).Nodup → mergeD acc kvs = acc ++ kvs
  | [], acc, _ => by simp [mergeD]
  | p :: kvs, acc, h => by
    show mergeD (putD acc p.1 p.2) kvs = _
    have hp : p.1 ∉ acc.map (·.1) := fun hm => by
      rw [List.nodup_append] at h
      exact h.2.2 _ hm _ (by simp) rfl
    rw [putD_new hp, mergeD_app kvs _ (by simpa using h)]
    simp
theorem mergeD_nodup {kvs : List (Key × PyData)} (h : (kvs.map (·.1)).Nodup) : mergeD [] kvs = kvs := by
  have := mergeD_app kvs [] (by simpa using h)
  simpa using this
theorem zip_keys {o : List Int} (nd : o.Nodup) : (o.zipIdx.map ((fun kv : Key × PyData => kv.1) ∘ fun p : Int × Nat => ((.inl p.1 : Key), PyData.int (p.2 : Nat)))).Nodup := by
  have e : o.zipIdx.map ((fun kv : Key × PyData => kv.1) ∘ fun p : Int × Nat => ((.inl p.1 : Key), PyData.int (p.2 : Nat))) = o.map fun x => (.inl x : Key) := by
    have z : (o.zipIdx.map Prod.fst) = o := by simp
    conv => rhs; rw [← z]
    rw [List.map_map]; rfl
  rw [e]
  exact nodup_mapOn nd fun a _ b _ h => Sum.inl.inj h
theorem atI_row {M : Mch} {x : Int} (h0 : 0 ≤ x) (h1 : x < M.items.length) : atI (M.items.map (Datum.toD : Tup (Str × Int) → PyData)) x = some (.tuple ((rowAt M x).map Datum.toD)) := by
  have hl : x.toNat < M.items.length := by omega
  unfold atI ixN
  rw [List.length_map, if_pos h0, if_pos h1]
  show (M.items.map Datum.toD)[x.toNat]? = _
  rw [List.getElem?_map, List.getElem?_eq_getElem hl, rowAt_of (List.getElem?_eq_getElem hl)]; rfl
theorem renum_toD {M : Mch} {o : List Int} : (Datum.toD (renumM M o) : PyData) = .tuple (o.map fun x => Datum.toD (Tup.mk (renRow o (rowAt M x)))) := by
  show PyData.tuple ((o.map _).map Datum.toD) = _
  rw [List.map_map]; rfl
theorem idx_get {o : List Int} {x : Int} (h : x ∈ o) : o[o.idxOf x]? = some x := by
  have := List.idxOf_lt_length_iff.mpr h
  rw [List.getElem?_eq_getElem this, List.getElem_idxOf this]
theorem idx_cons {y x : Int} {o : List Int} (h : y ≠ x) : (y :: o).idxOf x = o.idxOf x + 1 := by
  have e : (y == x) = false := by simp [h]
  rw [List.idxOf_cons, e]; rfl
theorem idx_first : ∀ {o : List Int} {x : Int} (m : Nat), m < o.idxOf x → o[m]? ≠ some x
  | [], _, _, _ => by simp
  | y :: o, x, m, hm => by
    by_cases e : y = x
    · subst e; simp at hm
    · rw [idx_cons e] at hm
      cases m with
      | zero => simp [e]
      | succ m => rw [List.getElem?_cons_succ]; exact idx_first m (by omega)
theorem find_idx : ∀ (o : List Int) (i : Nat) (x : Int), x ∈ o → (o.zipIdx i).find? (fun p => decide (p.1 = x)) = some (x, i + o.idxOf x)
  | [], _, _, h => by cases h
  | y :: o, i, x, h => by
    rw [List.zipIdx_cons, List.find?_cons]
    by_cases e : y = x
    · subst e; simp
    · have h' : x ∈ o := (List.mem_cons.mp h).resolve_left fun z => e z.symm
      simp only [decide_eq_false e]
      rw [find_idx o (i + 1) x h', idx_cons e]
      simp; omega
theorem get_idx {o : List Int} {x : Int} (h : x ∈ o) : getD' (o.zipIdx.map fun p => ((.inl p.1 : Key), PyData.int (p.2 : Nat))) (.inl x) = some (.int (idxI o x)) := by
  unfold getD'
  rw [List.find?_map]
  have e : ((fun kv : Key × PyData => decide (kv.1 = Sum.inl x)) ∘ fun p : Int × Nat => ((.inl p.1 : Key), PyData.int (p.2 : Nat))) = fun p => decide (p.1 = x) := by
    funext p
    simp
  rw [e, find_idx o 0 x h]
  simp [idxI]
def sp_renumbered_41b3ff : HSp := fun ps n C => ∃ (M : Mch) (o : List Int), ps = [.dat (Datum.toD M), .dat (.list (o.map .int))] ∧ MOk M ∧ OrdOk M.items.length o ∧ RowsLe 60 M ∧ C (.dat (Datum.toD (renumM M o))) n
def h_renumbered_41b3ff : HS :=
    (hSeq (hDrop (hCall sp_need_machine_f4028c 1 (hL 0 hNil)))
    (hSeq (hAsg (hC lenW (hL 0 hNil)) 2)
    (hSeq (hIfS (hOr (hNot (hB (hC isiW (hL 1 (fun s C => hNil s fun ps s2 => C (.val (.ty "list") :: ps) s2))))) (hNot (hB (hC (allW fun bs => bs.all id) (hE (hLc (hiL (hV 1)) (gN 3) hYes (hCall sp_is_number_562222 2 (hL 3 (hL 2 hNil))) [3]) hNil))))) hNever hNext)
    (hSeq (hIfS (hOr (hB (hC (eqP true) (hE (hC (sortA (Int)) (hL 1 hNil)) (hE (hLR1 (hL 2 hNil)) hNil)))) (hB (hC (eqP true) (hE (hC ixW (hL 1 (hE (hK (.int 0)) hNil))) (hE (hK (.int 0)) hNil))))) hNever hNext)
    (hSeq (hAsg (hC dictW (hE (hLc (hiE (hE (hV 1) hNil)) (gP 5 3) hYes (hTup (hE (hV 3) (hE (hV 5) hNil))) [5, 3]) hNil)) 4)
    (hRet (hC tupW (hE (hLc (hiL (hV 1)) (gN 7) hYes (hC tupW (hE (hC (sortA (Str × Int)) (hE (hLc (hiT (hC ixW (hL 0 (hL 7 hNil)))) (gP 6 3) hYes (hTup (hE (hV 6) (hE (hC dgetW (hL 4 (hL 3 hNil))) hNil))) [6, 3]) hNil)) hNil)) [7]) hNil))))))))
theorem rd_renumbered_41b3ff : ∀ pvs n C, pvs.length = 2 → sp_renumbered_41b3ff pvs n C → h_renumbered_41b3ff ⟨fun s => C (.dat .none) s.n, fun p s => C p s.n, fun _ => False, fun _ => False⟩ ⟨pvs.map some ++ List.replicate (8 - pvs.length) none, n⟩ := by
  intro pvs n C _ h
  obtain ⟨M, o, rfl, ok, ho, le, c⟩ := h
  unfold h_renumbered_41b3ff
  have lo := ok.lo
  have hi := ok.hi
  have ol := ho.len
  have hM : (Datum.toD M : PyData) = .tuple (M.items.map Datum.toD) := rfl
  simp [-hLc, sp_need_machine_f4028c]
  refine ⟨M, rfl, ok, ?_⟩
  rw [hM]
  simp [-hLc]
  have e1 : o.map PyData.int = o.map (fun x => PyData.int x) := rfl
  refine hLc_eq.mpr ?_
  simp [-hLc]
  refine lcs_map (fun x : Int => PyData.int x) (fun x => .bool true) (fun a ha K hK => ?_) [] _ (by simp; omega) ?_
  · have ra := ho.rng a ha
    simp [sp_is_number_562222]
    refine ⟨.int a, M.items.length, ⟨rfl, rfl⟩, ?_⟩
    have e : isNumD (.int a) M.items.length = true := by simp [isNumD, ra.1, ra.2]
    rw [e]
    exact hK _ (by simp)
  simp [-hLc]
  refine allW_b (bs := o.map fun _ => true) (by simp [Function.comp]) ?_
  refine ⟨by simp, ?_⟩
  refine ⟨o, rfl, _, rfl, by omega, ?_⟩
  rw [rgD_rngI]
  refine eqP_D (α := List Int) (sortL o) (rngI M.items.length) rfl rfl (by decide) ?_
  rw [ord_sort ho]
  refine ⟨by simp, .int 0, ord_at0 ho, eq_int.mpr ⟨by simp, ?_⟩⟩
  refine hLc_eq.mpr ?_
  simp [-hLc]
  have en : enumD 0 (o.map PyData.int) = (o.zipIdx).map fun p => .tuple [.int (p.2 : Nat), .int p.1] := enumD_zip 0 o
  rw [en]
  refine lcs_map (fun p : Int × Nat => PyData.tuple [.int (p.2 : Nat), .int p.1]) (fun p => .tuple [.int p.1, .int (p.2 : Nat)]) (fun a ha K hK => ?_) [] _ (by simp; omega) ?_
  · simp [dats]
    exact hK _ (by simp)
  simp [-hLc]
  refine ⟨_, _, rfl, pairs_int _ _ _, ?_⟩
  rw [mergeD_nodup (by rw [List.map_map]; exact zip_keys ho.nd)]
  refine hLc_eq.mpr ?_
  simp [-hLc]
  refine lcs_map (fun x : Int => PyData.int x) (fun x => Datum.toD (Tup.mk (renRow o (rowAt M x)))) (fun x hx K hK => ?_) [] _ (by simp; omega) ?_
  · have rx := ho.rng x hx
    simp [-hLc]
    refine hLc_eq.mpr ?_
    simp [atI_row rx.1 rx.2]
    have rl := rowAt_le (M := M) (x := x) le
    refine lcs_map (fun p : Str × Int => (Datum.toD p : PyData)) (fun p => Datum.toD (p.1, idxI o p.2)) (fun p hp K2 hK2 => ?_) [] _ (by simp; omega) ?_
    · obtain ⟨a0, a1, _⟩ := rowAt_mv ok hp
      show gP 6 3 (.tuple [.str p.1, .int p.2]) _ _
      simp
      refine ⟨.inl p.2, _, rfl, get_idx (ho.mem a0 a1), ?_⟩
      simp [dats]
      exact hK2 _ (by simp)
    · simp
      refine ⟨(rowAt M x).map fun p => (p.1, idxI o p.2), by simp, ?_⟩
      simp
      exact hK _ (by simp)
  · simp [-hLc]
    rw [renum_toD] at c
    exact c
def sp__law_due_6dc811 : HSp := fun ps n C => ∃ (M : Mch) (o : List Int), ps = [.dat (Datum.toD M), .dat (.list (o.map .int))] ∧ MOk M ∧ OrdOk M.items.length o ∧ RowsLe 60 M ∧ C (.dat (Datum.toD (renumM M o))) n
abbrev dueBody : HS := (hSeq (hAsg (hLc (hiT (hC ixW (hL 0 (hL 3 hNil)))) (gP 5 6) hYes (hTup (hE (hV 5) (hE (hIdx 1 (hV 6)) hNil))) [5, 6]) 4)
    (hDrop (hApp 2 (hC tupW (hE (hC (sortA (Str × Int)) (hL 4 hNil)) hNil)))))
theorem due_loop {D : HD} {M : Mch} {o : List Int} {n : Nat} (ok : MOk M) (ho : OrdOk M.items.length o) (le : RowsLe 60 M) : ∀ (xs : List Int) (found : List (Tup (Str × Int))) (o3 o4 : Option PV), (∀ x ∈ xs, x ∈ o) → found.length + xs.length ≤ 1000 →
    (∀ o3' o4', D.nx ⟨[some (.dat (.tuple (M.items.map Datum.toD))), some (.dat (.list (o.map .int))), some (.own ((found ++ xs.map fun x => Tup.mk (renRow o (rowAt M x))).map Datum.toD)), o3', o4', none, none], n⟩) →
    each (gN 3) dueBody D (xs.map .int) ⟨[some (.dat (.tuple (M.items.map Datum.toD))), some (.dat (.list (o.map .int))), some (.own (found.map Datum.toD)), o3, o4, none, none], n⟩ := by
  intro xs
  induction xs with
  | nil => intro found o3 o4 _ _ fin; simpa using fin o3 o4
  | cons x xs ih =>
    intro found o3 o4 hx hl fin
    have hl' : found.length + (xs.length + 1) ≤ 1000 := by simpa using hl
    have mx := hx x List.mem_cons_self
    have rx := ho.rng x mx
    simp [atI_row rx.1 rx.2]
    have rl := rowAt_le (M := M) (x := x) le
    refine lcs_map (fun p : Str × Int => (Datum.toD p : PyData)) (fun p => Datum.toD (p.1, idxI o p.2)) (fun p hp K2 hK2 => ?_) [] _ (by simp; omega) ?_
    · obtain ⟨a0, a1, _⟩ := rowAt_mv ok hp
      show gP 5 6 (.tuple [.str p.1, .int p.2]) _ _
      simp
      have mo := ho.mem a0 a1
      refine ⟨⟨o, rfl⟩, o, rfl, o.idxOf p.2, idx_get mo, idx_first, ?_⟩
      exact hK2 _ (by simp)
    · simp
      refine ⟨(rowAt M x).map fun p => (p.1, idxI o p.2), by simp, ?_⟩
      simp only [frz_own, Option.some.injEq, exists_eq_left', tup_lst, frz_dat]
      refine ⟨by omega, ?_⟩
      have e : found.map (Datum.toD : Tup (Str × Int) → PyData) ++ [.tuple ((sortL ((rowAt M x).map fun p => (p.1, idxI o p.2))).map Datum.toD)] = (found ++ [Tup.mk (renRow o (rowAt M x))]).map Datum.toD := by rw [List.map_append]; rfl
      rw [e]
      refine ih _ _ _ (fun y hy => hx y (List.mem_cons_of_mem _ hy)) (by simp; omega) fun a b => ?_
      have := fin a b
      simpa using this
def h__law_due_6dc811 : HS :=
    (hSeq (hAsg (hLst hNil) 2)
    (hSeq (hFor (hiL (hV 1)) (gN 3) (hSeq (hAsg (hLc (hiT (hC ixW (hL 0 (hL 3 hNil)))) (gP 5 6) hYes (hTup (hE (hV 5) (hE (hIdx 1 (hV 6)) hNil))) [5, 6]) 4)
    (hDrop (hApp 2 (hC tupW (hE (hC (sortA (Str × Int)) (hL 4 hNil)) hNil))))))
    (hRet (hC tupW (hL 2 hNil)))))
theorem rd__law_due_6dc811 : ∀ pvs n C, pvs.length = 2 → sp__law_due_6dc811 pvs n C → h__law_due_6dc811 ⟨fun s => C (.dat .none) s.n, fun p s => C p s.n, fun _ => False, fun _ => False⟩ ⟨pvs.map some ++ List.replicate (7 - pvs.length) none, n⟩ := by
  intro pvs n C _ h
  obtain ⟨M, o, rfl, ok, ho, le, c⟩ := h
  unfold h__law_due_6dc811
  have hi := ok.hi
  have ol := ho.len
  have hM : (Datum.toD M : PyData) = .tuple (M.items.map Datum.toD) := rfl
  rw [hM]
  simp [-hFor, dats]
  simp only [hFor, hiL, hV, List.getElem?_cons_succ, List.getElem?_cons_zero, frz_dat]
  refine due_loop ok ho le o [] _ _ (fun _ h => h) (by simp; omega) fun a b => ?_
  simp
  rw [renum_toD] at c
  exact c
end Sk
set_option Elab.async false
set_option linter.all false
set_option maxRecDepth 100000
set_option maxHeartbeats 4000000
namespace Sk
open PySem PySem.Spec PyProof.Rows L2
open PySem.W (Datum DatumOrd Tup T3 T4)
open Evl (Ex)
/-! nodes from which hidden moves go on for ever: the plain law -/
def hid (M : Mch) (x : Int) : List Int := ((rowAt M x).filter fun p => decide (p.1 = ("" : Str))).map (·.2)
theorem mem_hid {M : Mch} {x g : Int} : g ∈ hid M x ↔ (("" : Str), g) ∈ rowAt M x := by
  unfold hid
  rw [List.mem_map]
  constructor
  · rintro ⟨p, hp, rfl⟩
    obtain ⟨h1, h2⟩ := List.mem_filter.mp hp
    have h2 : p.1 = ("" : Str) := of_decide_eq_true h2
    rw [← h2]; exact h1
  · intro h
    exact ⟨_, List.mem_filter.mpr ⟨h, by simp⟩, rfl⟩
theorem hid_rng {M : Mch} (ok : MOk M) {x g : Int} (h : g ∈ hid M x) : 0 ≤ g ∧ g < M.items.length := by
  obtain ⟨a, b, _⟩ := rowAt_mv ok (mem_hid.mp h)
  exact ⟨a, b⟩
theorem hid_nd {M : Mch} (ok : MOk M) {x : Int} : (hid M x).Nodup := by
  refine nodup_mapOn ((rowAt_up ok).nodup.filter _) fun a ha b hb e => ?_
  have h1 := of_decide_eq_true (List.mem_filter.mp ha).2
  have h2 := of_decide_eq_true (List.mem_filter.mp hb).2
  exact Prod.ext (h1.trans h2.symm) e
theorem hid_le {M : Mch} {k : Nat} (le : RowsLe k M) {x : Int} : (hid M x).length ≤ k := by
  unfold hid
  rw [List.length_map]
  exact Nat.le_trans (List.length_filter_le _ _) (rowAt_le le)
/-- a set of nodes each of which has a hidden move into it -/
def Post (M : Mch) (S : List Int) : Prop := ∀ y ∈ S, 0 ≤ y ∧ y < M.items.length ∧ ∃ g ∈ hid M y, g ∈ S
def Endl (M : Mch) (x : Int) : Prop := ∃ S, Post M S ∧ x ∈ S
/-! the law's rounds -/
def rnd (M : Mch) (xs : List Int) : List Int := xs.filter fun x => (hid M x).any fun g => decide (g ∈ xs)
theorem rnd_mem {M : Mch} {xs : List Int} {x : Int} : x ∈ rnd M xs ↔ x ∈ xs ∧ ∃ g ∈ hid M x, g ∈ xs := by
  unfold rnd
  rw [List.mem_filter, List.any_eq_true]
  constructor
  · rintro ⟨h, g, hg, e⟩
    exact ⟨h, g, hg, of_decide_eq_true e⟩
  · rintro ⟨h, g, hg, e⟩
    exact ⟨h, g, hg, decide_eq_true e⟩
def rnds (M : Mch) : Nat → List Int → List Int
  | 0, xs => xs
  | k + 1, xs => rnds M k (rnd M xs)
theorem rnds_fix {M : Mch} : ∀ (k : Nat) (xs : List Int), xs.length ≤ k → rnd M (rnds M k xs) = rnds M k xs
  | 0, xs, h => by
    have : xs = [] := List.length_eq_zero_iff.mp (by omega)
    subst this; rfl
  | k + 1, xs, h => by
    show rnd M (rnds M k (rnd M xs)) = rnds M k (rnd M xs)
    by_cases e : rnd M xs = xs
    · rw [e]
      have st : ∀ k, rnds M k xs = xs := fun k => by
        induction k with
        | zero => rfl
        | succ k ih => show rnds M k (rnd M xs) = xs; rw [e]; exact ih
      rw [st, e]
    · refine rnds_fix k _ ?_
      have l1 : (rnd M xs).length ≤ xs.length := List.length_filter_le _ _
      have l2 : (rnd M xs).length ≠ xs.length := fun z => e (by
        unfold rnd at z ⊢
        exact List.filter_eq_self.mpr (List.length_filter_eq_length_iff.mp z))
      omega
theorem rnds_sub {M : Mch} : ∀ (k : Nat) (xs : List Int), (rnds M k xs).Sublist xs
  | 0, xs => List.Sublist.refl _
  | k + 1, xs => (rnds_sub k (rnd M xs)).trans List.filter_sublist
theorem post_rnds {M : Mch} {S : List Int} (hS : Post M S) : ∀ (k : Nat) (xs : List Int), (∀ x ∈ S, x ∈ xs) → ∀ x ∈ S, x ∈ rnds M k xs
  | 0, xs, h => h
  | k + 1, xs, h => post_rnds hS k (rnd M xs) fun x hx => by
    obtain ⟨_, _, g, hg, h2⟩ := hS x hx
    exact rnd_mem.mpr ⟨h x hx, g, hg, h g h2⟩
theorem rnds_endl {M : Mch} {x : Int} : x ∈ rnds M M.items.length (rngI M.items.length) ↔ Endl M x := by
  have fx := rnds_fix (M := M) M.items.length (rngI M.items.length) (by rw [rngI_len]; exact Nat.le_refl _)
  constructor
  · intro h
    refine ⟨_, fun y hy => ?_, h⟩
    have h1 := mem_rngI.mp ((rnds_sub _ _).subset hy)
    rw [← fx] at hy
    obtain ⟨_, g, hg, h2⟩ := rnd_mem.mp hy
    exact ⟨h1.1, h1.2, g, hg, h2⟩
  · rintro ⟨S, hS, hx⟩
    refine post_rnds hS _ _ (fun y hy => ?_) x hx
    obtain ⟨a, b, _⟩ := hS y hy
    exact mem_rngI.mpr ⟨a, b⟩
theorem rnds_rising {M : Mch} {k n : Nat} : Rising (rnds M k (rngI n)) := List.Pairwise.sublist (rnds_sub k _) rngI_rising
/-! the program's counting -/
def cnt (M : Mch) (P : List Int) (x : Int) : Nat := ((hid M x).filter fun g => decide (g ∉ P)).length
theorem cnt_zero {M : Mch} {P : List Int} {x : Int} : cnt M P x = 0 ↔ ∀ g ∈ hid M x, g ∈ P := by
  unfold cnt
  rw [List.length_eq_zero_iff, List.filter_eq_nil_iff]
  constructor
  · intro h g hg
    have := h g hg
    simpa using this
  · intro h g hg
    have := h g hg
    simpa using this
theorem cnt_cons {M : Mch} (ok : MOk M) {P : List Int} {x e : Int} (he : e ∉ P) : cnt M P x = cnt M (e :: P) x + (if e ∈ hid M x then 1 else 0) := by
  have gen : ∀ (xs : List Int), xs.Nodup → (xs.filter fun g => decide (g ∉ P)).length = (xs.filter fun g => decide (g ∉ e :: P)).length + (if e ∈ xs then 1 else 0) := fun xs => by
    induction xs with
    | nil => intro _; simp
    | cons a xs ih =>
      intro nd
      obtain ⟨n1, n2⟩ := List.nodup_cons.mp nd
      have := ih n2
      by_cases h1 : a = e
      · subst h1
        have e1 : decide (a ∉ P) = true := by simp [he]
        have e2 : decide (a ∉ a :: P) = false := by simp
        rw [List.filter_cons, List.filter_cons, e1, e2, if_pos rfl, if_neg Bool.false_ne_true, if_pos List.mem_cons_self, List.length_cons, this, if_neg n1]
      · have e3 : (e ∈ a :: xs) ↔ e ∈ xs := by
          rw [List.mem_cons]
          exact ⟨fun h => h.resolve_left fun z => h1 z.symm, Or.inr⟩
        have e4 : decide (a ∉ e :: P) = decide (a ∉ P) := by
          simp [h1]
        rw [List.filter_cons, List.filter_cons, e4]
        have e5 : (if e ∈ a :: xs then 1 else 0) = (if e ∈ xs then 1 else 0) := by
          by_cases h : e ∈ xs
          · rw [if_pos h, if_pos (e3.mpr h)]
          · rw [if_neg h, if_neg fun z => h (e3.mp z)]
        rw [e5]
        by_cases h2 : decide (a ∉ P) = true
        · rw [if_pos h2, if_pos h2, List.length_cons, List.length_cons, this]; omega
        · rw [if_neg h2, if_neg h2, this]
  exact gen _ (hid_nd ok)
/-- between two nodes of the worklist -/
structure EInv (M : Mch) (lefts ended P : List Int) : Prop where
  len : lefts.length = M.items.length
  nd : (ended ++ P).Nodup
  rng : ∀ x ∈ ended ++ P, 0 ≤ x ∧ x < M.items.length
  cn : ∀ x : Int, 0 ≤ x → x < M.items.length → lefts[x.toNat]? = some ((cnt M P x : Nat) : Int)
  ze : ∀ x : Int, 0 ≤ x → x < M.items.length → (cnt M P x = 0 ↔ x ∈ ended ++ P)
  ds : ∀ S, Post M S → ∀ x ∈ ended ++ P, x ∉ S
/-- while those are gone through from which a hidden move leads to e -/
structure FInv (M : Mch) (rest lefts ended P : List Int) : Prop where
  len : lefts.length = M.items.length
  nd : (ended ++ P).Nodup
  rng : ∀ x ∈ ended ++ P, 0 ≤ x ∧ x < M.items.length
  rs : rest.Nodup ∧ ∀ x ∈ rest, 0 ≤ x ∧ x < M.items.length
  cn : ∀ x : Int, 0 ≤ x → x < M.items.length → lefts[x.toNat]? = some ((cnt M P x + (if x ∈ rest then 1 else 0) : Nat) : Int)
  ze : ∀ x : Int, 0 ≤ x → x < M.items.length → (cnt M P x + (if x ∈ rest then 1 else 0) = 0 ↔ x ∈ ended ++ P)
  ds : ∀ S, Post M S → ∀ x ∈ ended ++ P, x ∉ S
def aheadOf (M : Mch) (e : Int) : List Int := (rngI M.items.length).filter fun x => decide (e ∈ hid M x)
theorem mem_ahead {M : Mch} {e x : Int} : x ∈ aheadOf M e ↔ (0 ≤ x ∧ x < M.items.length) ∧ e ∈ hid M x := by
  unfold aheadOf
  rw [List.mem_filter, mem_rngI, decide_eq_true_eq]
theorem EInv.pop {M : Mch} (ok : MOk M) {lefts ended P : List Int} {e : Int} (h : EInv M lefts (ended ++ [e]) P) : FInv M (aheadOf M e) lefts ended (e :: P) := by
  have pm : (ended ++ [e] ++ P).Perm (ended ++ e :: P) := by rw [List.append_assoc]; exact List.Perm.refl _
  have mm : ∀ x, x ∈ ended ++ [e] ++ P ↔ x ∈ ended ++ e :: P := fun x => pm.mem_iff
  have he : e ∉ P := by
    have := pm.nodup_iff.mp h.nd
    rw [List.nodup_append] at this
    exact (List.nodup_cons.mp this.2.1).1
  have key : ∀ x : Int, 0 ≤ x → x < M.items.length → cnt M (e :: P) x + (if x ∈ aheadOf M e then 1 else 0) = cnt M P x := fun x h0 h1 => by
    rw [cnt_cons ok he]
    congr 1
    by_cases hx : e ∈ hid M x
    · rw [if_pos hx, if_pos (mem_ahead.mpr ⟨⟨h0, h1⟩, hx⟩)]
    · rw [if_neg hx, if_neg fun z => hx (mem_ahead.mp z).2]
  exact {
    len := h.len
    nd := pm.nodup_iff.mp h.nd
    rng := fun x hx => h.rng x ((mm x).mpr hx)
    rs := ⟨rngI_rising.nodup.filter _, fun x hx => (mem_ahead.mp hx).1⟩
    cn := fun x h0 h1 => by rw [key x h0 h1]; exact h.cn x h0 h1
    ze := fun x h0 h1 => by rw [key x h0 h1, ← mm x]; exact h.ze x h0 h1
    ds := fun S hS x hx => h.ds S hS x ((mm x).mpr hx) }
theorem FInv.done {M : Mch} {lefts ended P : List Int} (h : FInv M [] lefts ended P) : EInv M lefts ended P where
  len := h.len
  nd := h.nd
  rng := h.rng
  cn := fun x h0 h1 => by have := h.cn x h0 h1; simpa using this
  ze := fun x h0 h1 => by have := h.ze x h0 h1; simpa using this
  ds := h.ds
theorem FInv.step {M : Mch} {rest lefts ended P : List Int} {x : Int} (h : FInv M (x :: rest) lefts ended P) : lefts[x.toNat]? = some ((cnt M P x + 1 : Nat) : Int) ∧ x.toNat < lefts.length ∧
    (if cnt M P x = 0 then FInv M rest (lefts.set x.toNat ((cnt M P x : Nat) : Int)) (ended ++ [x]) P else FInv M rest (lefts.set x.toNat ((cnt M P x : Nat) : Int)) ended P) := by
  obtain ⟨n1, n2⟩ := List.nodup_cons.mp h.rs.1
  have rx := h.rs.2 x List.mem_cons_self
  have lx : x.toNat < lefts.length := by rw [h.len]; omega
  have c0 := h.cn x rx.1 rx.2
  rw [if_pos List.mem_cons_self] at c0
  have z0 := h.ze x rx.1 rx.2
  rw [if_pos List.mem_cons_self] at z0
  have nx : x ∉ ended ++ P := fun z => by have := z0.mpr z; omega
  have ifx : ∀ y : Int, y ≠ x → (if y ∈ x :: rest then 1 else 0) = (if y ∈ rest then 1 else 0) := fun y hy => by
    have e3 : (y ∈ x :: rest) ↔ y ∈ rest := by
      rw [List.mem_cons]
      exact ⟨fun h => h.resolve_left hy, Or.inr⟩
    by_cases q : y ∈ rest
    · rw [if_pos q, if_pos (e3.mpr q)]
    · rw [if_neg q, if_neg fun z => q (e3.mp z)]
  have cn' : ∀ y : Int, 0 ≤ y → y < M.items.length → (lefts.set x.toNat ((cnt M P x : Nat) : Int))[y.toNat]? = some ((cnt M P y + (if y ∈ rest then 1 else 0) : Nat) : Int) := fun y h0 h1 => by
    by_cases e : y = x
    · subst e
      rw [List.getElem?_set_self lx, if_neg n1]; rfl
    · rw [List.getElem?_set_ne (by omega), ← ifx y e]
      exact h.cn y h0 h1
  refine ⟨c0, lx, ?_⟩
  by_cases hz : cnt M P x = 0
  · rw [if_pos hz]
    have mm : ∀ y, y ∈ ended ++ [x] ++ P ↔ y = x ∨ y ∈ ended ++ P := fun y => by
      simp only [List.mem_append, List.mem_singleton]
      constructor
      · rintro ((h | h) | h)
        · exact Or.inr (Or.inl h)
        · exact Or.inl h
        · exact Or.inr (Or.inr h)
      · rintro (h | h | h)
        · exact Or.inl (Or.inr h)
        · exact Or.inl (Or.inl h)
        · exact Or.inr h
    have pm : (ended ++ [x] ++ P).Perm (x :: (ended ++ P)) := by
      rw [List.append_assoc]
      exact List.perm_middle
    exact {
      len := by rw [List.length_set]; exact h.len
      nd := pm.nodup_iff.mpr (List.nodup_cons.mpr ⟨nx, h.nd⟩)
      rng := fun y hy => by
        rcases (mm y).mp hy with rfl | hy
        · exact rx
        · exact h.rng y hy
      rs := ⟨n2, fun y hy => h.rs.2 y (List.mem_cons_of_mem _ hy)⟩
      cn := cn'
      ze := fun y h0 h1 => by
        rw [mm y]
        by_cases e : y = x
        · subst e
          rw [if_neg n1, hz]
          exact ⟨fun _ => Or.inl rfl, fun _ => rfl⟩
        · rw [← ifx y e, h.ze y h0 h1]
          exact ⟨Or.inr, fun z => z.resolve_left e⟩
      ds := fun S hS y hy => by
        rcases (mm y).mp hy with rfl | hy
        · intro hs
          obtain ⟨_, _, g, hg, h2⟩ := hS y hs
          exact h.ds S hS g (List.mem_append.mpr (Or.inr (cnt_zero.mp hz g hg))) h2
        · exact h.ds S hS y hy }
  · rw [if_neg hz]
    exact {
      len := by rw [List.length_set]; exact h.len
      nd := h.nd
      rng := h.rng
      rs := ⟨n2, fun y hy => h.rs.2 y (List.mem_cons_of_mem _ hy)⟩
      cn := cn'
      ze := fun y h0 h1 => by
        by_cases e : y = x
        · subst e
          rw [if_neg n1]
          exact ⟨fun z => absurd (by omega) hz, fun z => absurd z nx⟩
        · rw [← ifx y e, h.ze y h0 h1]
      ds := h.ds }
theorem EInv.start {M : Mch} {lefts ended : List Int} (len : lefts.length = M.items.length) (cn : ∀ x : Int, 0 ≤ x → x < M.items.length → lefts[x.toNat]? = some ((hid M x).length : Int)) (he : ended = (rngI M.items.length).filter fun x => decide ((hid M x).length = 0)) : EInv M lefts ended [] := by
  have c0 : ∀ x, cnt M [] x = (hid M x).length := fun x => by
    unfold cnt
    congr 1
    exact List.filter_eq_self.mpr fun a _ => by simp
  have mem : ∀ x : Int, x ∈ ended ++ [] ↔ (0 ≤ x ∧ x < M.items.length) ∧ (hid M x).length = 0 := fun x => by
    rw [List.append_nil, he, List.mem_filter, mem_rngI, decide_eq_true_eq]
  exact {
    len := len
    nd := by rw [List.append_nil, he]; exact rngI_rising.nodup.filter _
    rng := fun x hx => ((mem x).mp hx).1
    cn := fun x h0 h1 => by rw [c0]; exact cn x h0 h1
    ze := fun x h0 h1 => by rw [c0, mem]; exact ⟨fun z => ⟨⟨h0, h1⟩, z⟩, fun z => z.2⟩
    ds := fun S hS x hx hs => by
      obtain ⟨_, _, g, hg, _⟩ := hS x hs
      have := ((mem x).mp hx).2
      rw [List.length_eq_zero_iff] at this
      rw [this] at hg; cases hg }
theorem EInv.end {M : Mch} (ok : MOk M) {lefts P : List Int} (h : EInv M lefts [] P) {x : Int} (h0 : 0 ≤ x) (h1 : x < M.items.length) : 0 < cnt M P x ↔ Endl M x := by
  constructor
  · intro hx
    refine ⟨(rngI M.items.length).filter fun y => decide (0 < cnt M P y), fun y hy => ?_, List.mem_filter.mpr ⟨mem_rngI.mpr ⟨h0, h1⟩, decide_eq_true hx⟩⟩
    obtain ⟨a, b⟩ := List.mem_filter.mp hy
    have b : 0 < cnt M P y := of_decide_eq_true b
    have ry := mem_rngI.mp a
    have : ∃ g ∈ hid M y, g ∉ P := by
      apply Classical.byContradiction
      intro z
      have : cnt M P y = 0 := cnt_zero.mpr fun g hg => by
        apply Classical.byContradiction
        intro q
        exact z ⟨g, hg, q⟩
      omega
    obtain ⟨g, hg, gp⟩ := this
    have rg := hid_rng ok hg
    refine ⟨ry.1, ry.2, g, hg, List.mem_filter.mpr ⟨mem_rngI.mpr rg, decide_eq_true ?_⟩⟩
    have := (h.ze g rg.1 rg.2)
    rcases Nat.eq_zero_or_pos (cnt M P g) with z | z
    · exact absurd (by simpa using this.mp z) gp
    · exact z
  · rintro ⟨S, hS, hx⟩
    rcases Nat.eq_zero_or_pos (cnt M P x) with z | z
    · exact absurd hx (h.ds S hS x ((h.ze x h0 h1).mp z))
    · exact z
end Sk
set_option Elab.async false
set_option linter.all false
set_option maxRecDepth 100000
set_option maxHeartbeats 2000000
/-! lists of lists that are gathered: X = [[] for ..]; for ..: X[k].append(v) -/
namespace Sk
open PySem PySem.Spec PyProof.Rows L2
open Evl (Ex)
/-- what stands beside, one's own -/
def Fr.ups (F : Fr) (B : Hp) : Fr := ⟨F.on, F.m, F.l, F.c, fun a => (B a).or (F.F a), F.O, F.M, F.r⟩
structure RelB (K : PySem.W.Frag) (f F : Fr) (O : Addr → Prop) (B G : Hp) (s : Sg) (σ : L2.St) (H : Hp) : Prop where
  r : Rel K (fo f (F.ups B) fun a => O a ∨ B a ≠ none) G s σ H
  b : ∀ a, B a ≠ none → ¬ F.M a ∧ ¬ O a ∧ F.F a = none ∧ (F.on = true → a ≠ F.m ∧ a ≠ F.l ∧ a ≠ F.c)
section
variable {K : PySem.W.Frag} {f F : Fr} {O : Addr → Prop} {B G G' H H' : Hp} {s : Sg} {σ : L2.St} {a p : Addr} {o o' : HO}
theorem RelB.start (R : Rel K (fo f F O) G s σ H) : RelB K f F O (fun _ => none) G s σ H := by
  refine ⟨?_, fun a h => absurd rfl h⟩
  have e : (fo f (F.ups fun _ => none) fun a => O a ∨ (none : Option HO) ≠ none) = fo f F O := by
    have e1 : (fun a => O a ∨ (none : Option HO) ≠ none) = O := by
      funext a
      exact propext ⟨fun h => h.elim id fun z => absurd rfl z, Or.inl⟩
    rw [e1]; rfl
  rw [e]; exact R
theorem RelB.at (R : RelB K f F O B G s σ H) (h : B a = some o) : H a = some o := by
  have hb := R.b a (by rw [h]; intro z; cases z)
  exact R.r.fh a o hb.1 (show (B a).or (F.F a) = some o by rw [h]; rfl)
theorem RelB.gn (R : RelB K f F O B G s σ H) (h : B a = some o) : G a = none := R.r.go a (Or.inr (by rw [h]; intro z; cases z))
theorem VR.upB {f1 f2 : Fr} {q : PV} {v : V} (h : VR K f1 G H q v) (on : f2.on = f1.on) (hm : f2.m = f1.m) (hr : f2.r = f1.r) (e : ∀ b u, H b = some u → ¬ f1.O b → H' b = some u ∧ ¬ f2.O b ∧ ((f1.F b = none ∨ f1.M b) → (f2.F b = none ∨ f2.M b))) : VR K f2 G H' q v := by
  cases q with
  | dat d => exact h
  | drw => exact ⟨on ▸ h.1, by rw [hm]; exact h.2⟩
  | val _ => exact h
  | own ds =>
    obtain ⟨b, vs, rfl, k1, k2, k3, k4, k5⟩ := h
    obtain ⟨z1, z2, z3⟩ := e b _ k1 k3
    exact ⟨b, vs, rfl, z1, k2, z2, z3 k4, k5⟩
  | byr ds =>
    obtain ⟨b, vs, rfl, k1, k2, k3, k4, k5, k6⟩ := h
    obtain ⟨z1, z2, z3⟩ := e b _ k1 k3
    exact ⟨b, vs, rfl, z1, k2, z2, z3 k4, k5, by rw [hr]; exact k6⟩
  | dct ds =>
    obtain ⟨b, vs, rfl, k1, k2, k3, k4, k5⟩ := h
    obtain ⟨z1, z2, z3⟩ := e b _ k1 k3
    exact ⟨b, vs, rfl, z1, k2, z2, z3 k4, k5⟩
/-- a new thing beside -/
theorem RelB.new (R : RelB K f F O B G s σ H) (h : H a = none) : RelB K f F O (upd B a o) G s σ (upd H a o) := by
  have ne : ∀ {b : Addr} {u : HO}, H b = some u → b ≠ a := fun h1 z => by rw [z, h] at h1; cases h1
  have no : ∀ {b : Addr}, H b ≠ none → b ≠ a := fun h1 z => h1 (by rw [z]; exact h)
  have hM : ¬ F.M a := fun z => R.r.mh a z h
  have hB : B a = none := by
    cases q : B a with
    | none => rfl
    | some u => have := R.at q; rw [h] at this; cases this
  have hO : ¬ O a := fun z => R.r.oh a (Or.inl z) h
  have hF : F.F a = none := by
    cases q : F.F a with
    | none => rfl
    | some u =>
      have := R.r.fh a u hM (show (B a).or (F.F a) = some u by rw [hB, q]; rfl)
      rw [h] at this; cases this
  refine ⟨?_, fun b hb => ?_⟩
  · exact {
      gh := R.r.gh.trans (Evl.Ex.new h)
      fh := fun b u m hb => by
        have hb : ((upd B a o) b).or (F.F b) = some u := hb
        by_cases q : b = a
        · subst q; rw [upd_same] at hb ⊢; exact hb
        · rw [upd_ne q] at hb ⊢; exact R.r.fh b u m hb
      go := fun b hb => by
        by_cases q : b = a
        · subst q; exact R.r.gn h
        · refine R.r.go b (hb.imp id fun z => ?_)
          rw [upd_ne q] at z; exact z
      oh := fun b hb => by
        by_cases q : b = a
        · subst q; rw [upd_same]; intro z; cases z
        · rw [upd_ne q]
          refine R.r.oh b (hb.imp id fun z => ?_)
          rw [upd_ne q] at z; exact z
      mh := fun b hb => by rw [upd_ne (no (R.r.mh b hb))]; exact R.r.mh b hb
      mo := fun hb => by
        obtain ⟨x, y, z, d, e⟩ := R.r.mo hb
        have up : ∀ {b : Addr}, (O b ∨ B b ≠ none) → (O b ∨ upd B a o b ≠ none) := fun {b} w => w.imp id fun z => by
          by_cases q : b = a
          · subst q; rw [upd_same]; intro z; cases z
          · rw [upd_ne q]; exact z
        exact ⟨up x, up y, up z, d, e⟩
      dr := fun hb => by
        obtain ⟨x, y, z, d, e⟩ := R.r.mo hb
        exact (R.r.dr hb).keep (upd_ne (no (R.r.oh _ x))) (upd_ne (no (R.r.oh _ y))) (upd_ne (no (R.r.oh _ z)))
      ln := R.r.ln
      sl := fun i q hq => by
        obtain ⟨v, h1, h2⟩ := R.r.sl i q hq
        refine ⟨v, h1, h2.upB rfl rfl rfl fun b u hb hn => ?_⟩
        have z := ne hb
        refine ⟨by rw [upd_ne z]; exact hb, fun w => hn (w.imp id fun y => by rw [upd_ne z] at y; exact y), fun w => w.imp (fun y => ?_) id⟩
        show ((upd B a o) b).or (F.F b) = none
        rw [upd_ne z]; exact y
      ds := R.r.ds }
  · by_cases q : b = a
    · subst q
      refine ⟨hM, hO, hF, fun on => ?_⟩
      obtain ⟨x, y, z, _⟩ := R.r.mo on
      exact ⟨fun e => R.r.oh _ x (e ▸ h), fun e => R.r.oh _ y (e ▸ h), fun e => R.r.oh _ z (e ▸ h)⟩
    · rw [upd_ne q] at hb; exact R.b b hb
/-- a thing beside changes -/
theorem RelB.set (R : RelB K f F O B G s σ H) (h : B a = some o) : RelB K f F O (upd B a o') G s σ (upd H a o') := by
  have hb0 : B a ≠ none := by rw [h]; intro z; cases z
  have gD := R.gn h
  have up : ∀ {b : Addr}, (O b ∨ upd B a o' b ≠ none) → (O b ∨ B b ≠ none) := fun {b} w => w.imp id fun z => by
    by_cases q : b = a
    · subst q; exact hb0
    · rw [upd_ne q] at z; exact z
  have dn : ∀ {b : Addr}, (O b ∨ B b ≠ none) → (O b ∨ upd B a o' b ≠ none) := fun {b} w => w.imp id fun z => by
    by_cases q : b = a
    · subst q; rw [upd_same]; intro z; cases z
    · rw [upd_ne q]; exact z
  refine ⟨?_, fun b hb => ?_⟩
  · exact {
      gh := fun b u hb => by rw [upd_ne (fun z => by rw [z, gD] at hb; cases hb)]; exact R.r.gh b u hb
      fh := fun b u m hb => by
        have hb : ((upd B a o') b).or (F.F b) = some u := hb
        by_cases q : b = a
        · subst q; rw [upd_same] at hb ⊢; exact hb
        · rw [upd_ne q] at hb ⊢; exact R.r.fh b u m hb
      go := fun b hb => R.r.go b (up hb)
      oh := fun b hb => by
        by_cases q : b = a
        · subst q; rw [upd_same]; intro z; cases z
        · rw [upd_ne q]; exact R.r.oh b (up hb)
      mh := fun b hb => by
        by_cases q : b = a
        · subst q; rw [upd_same]; intro z; cases z
        · rw [upd_ne q]; exact R.r.mh b hb
      mo := fun hb => by
        obtain ⟨x, y, z, d, e⟩ := R.r.mo hb
        exact ⟨dn x, dn y, dn z, d, e⟩
      dr := fun hb => by
        obtain ⟨x, y, z⟩ := (R.b a hb0).2.2.2 hb
        exact (R.r.dr hb).keep (upd_ne x.symm) (upd_ne y.symm) (upd_ne z.symm)
      ln := R.r.ln
      sl := fun i q hq => by
        obtain ⟨v, h1, h2⟩ := R.r.sl i q hq
        refine ⟨v, h1, h2.upB rfl rfl rfl fun b u hb hn => ?_⟩
        have z : b ≠ a := fun e => hn (Or.inr (e ▸ hb0))
        refine ⟨by rw [upd_ne z]; exact hb, fun w => hn (up w), fun w => w.imp (fun y => ?_) id⟩
        show ((upd B a o') b).or (F.F b) = none
        rw [upd_ne z]; exact y
      ds := R.r.ds }
  · by_cases q : b = a
    · subst q; exact R.b b hb0
    · rw [upd_ne q] at hb; exact R.b b hb
/-- all of it is known from now on, but for the outer list, which is one's own -/
theorem RelB.done {vs : List V} {ds : List PyData} (R : RelB K f F O B G s σ H) (hp : B p = some (.lst vs)) (hds : ∀ G', Ex G G' → (∀ a o, a ≠ p → B a = some o → G' a = some o) → DpAll K G' vs ds) : ∃ G', Ex G G' ∧ Rel K (fo f F O) G' s σ H ∧ VRf K (fo f F O) G' H s σ (.own ds) (.ref p) := by
  have hpn : B p ≠ none := by rw [hp]; intro z; cases z
  let G1 : Hp := fun a => if a = p then G a else (B a).or (G a)
  have e1 : Ex G G1 := fun a o h => by
    show (if a = p then G a else (B a).or (G a)) = some o
    by_cases q : a = p
    · rw [if_pos q]; exact h
    · rw [if_neg q]
      cases w : B a with
      | none => exact h
      | some u => rw [R.gn w] at h; cases h
  have g1 : ∀ a o, a ≠ p → B a = some o → G1 a = some o := fun a o ne h => by
    show (if a = p then G a else (B a).or (G a)) = some o
    rw [if_neg ne, h]; rfl
  have nB : ∀ {a : Addr}, B a = none → G1 a = G a := fun {a} h => by
    show (if a = p then G a else (B a).or (G a)) = G a
    rw [h]; split <;> rfl
  have gp : G1 p = none := by
    show (if p = p then G p else (B p).or (G p)) = none
    rw [if_pos rfl]; exact R.gn hp
  have bO : ∀ {a : Addr}, ¬ (O a ∨ B a ≠ none) → B a = none := fun {a} h => by
    cases q : B a with
    | none => rfl
    | some u => exact absurd (Or.inr (by rw [q]; intro z; cases z)) h
  have R1 : Rel K (fo f F O) G1 s σ H := {
    gh := fun a o h => by
      have h : (if a = p then G a else (B a).or (G a)) = some o := h
      by_cases q : a = p
      · rw [if_pos q] at h; exact R.r.gh a o h
      · rw [if_neg q] at h
        cases w : B a with
        | none => rw [w] at h; exact R.r.gh a o h
        | some u => rw [w] at h; cases h; exact R.at w
    fh := fun a o m h => R.r.fh a o m (by
      show (B a).or (F.F a) = some o
      cases w : B a with
      | none => exact h
      | some u => have := (R.b a (by rw [w]; intro z; cases z)).2.2.1; rw [show F.F a = some o from h] at this; cases this)
    go := fun a h => by
      have : B a = none := by
        cases w : B a with
        | none => rfl
        | some u => exact absurd h (R.b a (by rw [w]; intro z; cases z)).2.1
      rw [nB this]; exact R.r.go a (Or.inl h)
    oh := fun a h => R.r.oh a (Or.inl h)
    mh := R.r.mh
    mo := fun h => by
      obtain ⟨x, y, z, d, e⟩ := R.r.mo h
      have c : ∀ {a : Addr}, (a = F.m ∨ a = F.l ∨ a = F.c) → (O a ∨ B a ≠ none) → O a := fun {a} w h2 => h2.elim id fun n => by
        obtain ⟨n1, n2, n3⟩ := (R.b a n).2.2.2 h
        rcases w with w | w | w
        · exact absurd w n1
        · exact absurd w n2
        · exact absurd w n3
      exact ⟨c (Or.inl rfl) x, c (Or.inr (Or.inl rfl)) y, c (Or.inr (Or.inr rfl)) z, d, e⟩
    dr := R.r.dr
    ln := R.r.ln
    sl := fun i q hq => by
      obtain ⟨v, h1, h2⟩ := R.r.sl i q hq
      refine ⟨v, h1, ?_⟩
      have h3 : VR K (fo f (F.ups B) fun a => O a ∨ B a ≠ none) G1 H q v := by
        cases q with
        | dat d => exact Dp.ex e1 _ h2
        | drw => exact h2
        | val _ => exact h2
        | own ds =>
          obtain ⟨b, vs, rfl, k1, k2, k3, k4, k5⟩ := h2
          exact ⟨b, vs, rfl, k1, by rw [nB (bO k3)]; exact k2, k3, k4, Dp.exAll e1 _ k5⟩
        | byr ds =>
          obtain ⟨b, vs, rfl, k1, k2, k3, k4, k5, k6⟩ := h2
          exact ⟨b, vs, rfl, k1, by rw [nB (bO k3)]; exact k2, k3, k4, Dp.exAll e1 _ k5, k6⟩
        | dct ds =>
          obtain ⟨b, vs, rfl, k1, k2, k3, k4, k5, k6⟩ := h2
          exact ⟨b, vs, rfl, k1, by rw [nB (bO k3)]; exact k2, k3, k4, k5, Dp.exAll e1 _ k6⟩
      refine h3.upB rfl rfl rfl fun b u hb hn => ⟨hb, fun z => hn (Or.inl z), fun w => w.imp (fun y => ?_) id⟩
      have y : (B b).or (F.F b) = none := y
      rw [bO hn] at y; exact y
    ds := R.r.ds }
  obtain ⟨n1, n2, n3, n4⟩ := R.b p hpn
  refine ⟨G1, e1, R1, ⟨p, vs, rfl, R.at hp, gp, n2, Or.inl n3, hds G1 e1 g1⟩, fun _ i q h1 h2 h3 => ?_⟩
  obtain ⟨v, h4, h5⟩ := R.r.sl i q h1
  rw [h3] at h4
  cases h4
  cases q with
  | dat d => cases h2
  | drw => cases h2
  | val _ => cases h2
  | own ds => obtain ⟨p, _, e, _, _, h6, _⟩ := h5; cases e; exact h6 (Or.inr hpn)
  | byr ds => obtain ⟨p, _, e, _, _, h6, _⟩ := h5; cases e; exact h6 (Or.inr hpn)
  | dct ds => obtain ⟨p, _, e, _, _, h6, _⟩ := h5; cases e; exact h6 (Or.inr hpn)
end
end Sk
set_option Elab.async false
set_option linter.all false
set_option maxRecDepth 100000
set_option maxHeartbeats 2000000
namespace Sk
open PySem PySem.Spec PyProof.Rows L2
open Evl (Ex)
abbrev HN := (Sg → List (List PyData) → Prop) → Sg → List (List PyData) → Prop
def NstOk (K : PySem.W.Frag) (G B : Hp) (p : Addr) (L : List (List PyData)) : Prop := ∃ ps : List Addr, B p = some (.lst (ps.map V.ref)) ∧ (p :: ps).Nodup ∧ Paired (fun a ds => ∃ vs, B a = some (.lst vs) ∧ DpAll K G vs ds) ps L
theorem paired_get {α β : Type} {R : α → β → Prop} : ∀ {xs : List α} {ys : List β} {i : Nat} {y : β}, Paired R xs ys → ys[i]? = some y → ∃ x, xs[i]? = some x ∧ R x y
  | _, _, _, _, .nil, h => by simp at h
  | _, _, 0, _, .cons r _, h => by simp at h; subst h; exact ⟨_, rfl, r⟩
  | _, _, i + 1, _, .cons _ t, h => by
    obtain ⟨x, a, b⟩ := paired_get (i := i) t (by simpa using h)
    exact ⟨x, by simpa using a, b⟩
theorem paired_set {α β : Type} {R R' : α → β → Prop} : ∀ {xs : List α} {ys : List β} {i : Nat} {x : α} {y : β}, xs.Nodup → Paired R xs ys → xs[i]? = some x → R' x y → (∀ a b, a ≠ x → R a b → R' a b) → Paired R' xs (ys.set i y)
  | _, _, _, _, _, _, .nil, h, _, _ => by simp at h
  | a :: xs, b :: ys, 0, x, y, nd, .cons r t, h, h2, h3 => by
    simp at h; subst h
    obtain ⟨n1, n2⟩ := List.nodup_cons.mp nd
    refine .cons h2 ?_
    have go : ∀ {us : List α} {ws : List β}, a ∉ us → Paired R us ws → Paired R' us ws := fun {us ws} n t => by
      induction t with
      | nil => exact .nil
      | cons r _ ih => exact .cons (h3 _ _ (fun e => n (by rw [e]; exact List.mem_cons_self)) r) (ih fun e => n (List.mem_cons_of_mem _ e))
    exact go n1 t
  | a :: xs, b :: ys, i + 1, x, y, nd, .cons r t, h, h2, h3 => by
    obtain ⟨n1, n2⟩ := List.nodup_cons.mp nd
    have h' : xs[i]? = some x := by simpa using h
    exact .cons (h3 _ _ (fun e => n1 (by rw [e]; exact List.mem_of_getElem? h')) r) (paired_set n2 t h' h2 h3)
theorem paired_mono {α β : Type} {R R' : α → β → Prop} {xs : List α} {ys : List β} (h : Paired R xs ys) (m : ∀ a b, R a b → R' a b) : Paired R' xs ys := by
  induction h with
  | nil => exact .nil
  | cons r _ ih => exact .cons (m _ _ r) ih
section
variable {K : PySem.W.Frag} {f F : Fr} {O : Addr → Prop} {B G G' H H' : Hp} {s : Sg} {σ : L2.St} {a p : Addr} {o o' : HO} {L : List (List PyData)}
theorem NstOk.ex (h : NstOk K G B p L) (e : Ex G G') : NstOk K G' B p L := by
  obtain ⟨ps, h1, h2, h3⟩ := h
  exact ⟨ps, h1, h2, paired_mono h3 fun a ds ⟨vs, b1, b2⟩ => ⟨vs, b1, Dp.exAll e _ b2⟩⟩
theorem NstOk.app {n : Nat} {l : List PyData} {v : V} {x : PyData} (h : NstOk K G B p L) (hl : L[n]? = some l) (hv : Dp K G v x) : ∃ (ps : List Addr) (b : Addr) (vs : List V), B p = some (.lst (ps.map V.ref)) ∧ ps.length = L.length ∧ ps[n]? = some b ∧ B b = some (.lst vs) ∧ vs.length = l.length ∧ NstOk K G (upd B b (.lst (vs ++ [v]))) p (L.set n (l ++ [x])) := by
  obtain ⟨ps, h1, h2, h3⟩ := h
  obtain ⟨b, hb, vs, b1, b2⟩ := paired_get h3 hl
  obtain ⟨n1, n2⟩ := List.nodup_cons.mp h2
  have bp : p ≠ b := fun e => n1 (by rw [e]; exact List.mem_of_getElem? hb)
  refine ⟨ps, b, vs, h1, Paired.length h3, hb, b1, b2.len, ps, by rw [upd_ne bp]; exact h1, h2, paired_set n2 h3 hb ⟨vs ++ [v], upd_same, b2.append (.cons hv .nil)⟩ fun a ds ne ⟨ws, c1, c2⟩ => ⟨ws, by rw [upd_ne ne]; exact c1, c2⟩⟩
theorem NstOk.done (R : RelB K f F O B G s σ H) (h : NstOk K G B p L) : ∃ G', Ex G G' ∧ Rel K (fo f F O) G' s σ H ∧ VRf K (fo f F O) G' H s σ (.own (L.map PyData.list)) (.ref p) := by
  obtain ⟨ps, h1, h2, h3⟩ := h
  obtain ⟨n1, n2⟩ := List.nodup_cons.mp h2
  refine R.done h1 fun G' e g => ?_
  have go : ∀ {us : List Addr} {ws : List (List PyData)}, (∀ u ∈ us, u ≠ p) → Paired (fun a ds => ∃ vs, B a = some (.lst vs) ∧ DpAll K G vs ds) us ws → DpAll K G' (us.map V.ref) (ws.map PyData.list) := fun {us ws} n t => by
    induction t with
    | nil => exact .nil
    | cons r _ ih =>
      obtain ⟨vs, b1, b2⟩ := r
      exact .cons (.lst (Or.inl (Or.inl (g _ _ (n _ List.mem_cons_self) b1))) (Dp.exAll e _ b2)) (ih fun u hu => n u (List.mem_cons_of_mem _ hu))
  exact go (fun u hu e => n1 (e ▸ hu)) h3
end
def lfN (K : PySem.W.Frag) (f : Fr) (j : Nat) (t : HN) : TS := fun D σ H => ∃ F O B p G s L Q, RelB K f F O B G s σ H ∧ σ[j]? = some (some (.ref p)) ∧ NstOk K G B p L ∧ t Q s L ∧
  ∀ B' G' s' L' σ' H', Ex G G' → RelB K f F O B' G' s' σ' H' → σ'[j]? = some (some (.ref p)) → NstOk K G' B' p L' → Q s' L' → D.nx σ' H'
@[simp] def neach (g : HG) (t : HN) (Q : Sg → List (List PyData) → Prop) : List PyData → Sg → List (List PyData) → Prop
  | [], s, L => Q s L
  | d :: ds, s, L => g d s fun s1 => t (neach g t Q ds) s1 L
@[simp] def nFor (it : HI) (g : HG) (t : HN) : HN := fun Q s L => it s fun ds s1 => neach g t Q ds s1 L
@[simp] def nIf (c : HT) (t : HN) : HN := fun Q s L => c s fun b s1 => if b = true then t Q s1 L else Q s1 L
@[simp] def nApp (tk tv : HE) : HN := fun Q s L => tk s fun q s1 => ∃ k n l, q = .dat (.int k) ∧ ixN L.length k = some n ∧ L[n]? = some l ∧ l.length < 100000 ∧ tv s1 fun p s2 => ∃ x, p.frz = some x ∧ Q s2 (L.set n (l ++ [x]))
section
variable {X : Cx} {f : Fr} {e a b c : Expr} {es : List Expr} {st : Stmt} {sts rest : List Stmt} {tk tv : HE} {tt : HT} {tn : HN} {g : HG} {ws : List Nat} {it : HI} {j : Nat} {pos : Pos}
theorem hn_app (hk : PE X b (lf X.K f tk)) (hv : PE X c (lf X.K f tv)) (h : ∀ {ta : TE} {tb : TA}, PE X b ta → PA X [c] tb → PE X e (tBM X.K "list" rAppend (tOp (rIxL X.K) (tVar j) ta) tb))
    (hs : starEach [c] X.env = (false, eval c X.env) :: starEach [] X.env := by rfl) (hs2 : swapsWith e none pos.line X.env = pure false := by rfl) : PS X (.Expr e pos) (lfN X.K f j (nApp tk tv)) := (ps_expr (h hk (pa_cons hv pa_nil hs)) hs2).mono fun D σ H q => by
  obtain ⟨F, O, B, p, G, s, L, Q, R, hj, N, ht, kk⟩ := q
  refine ⟨.ref p, hj, _, _, G, s, _, R.r, ht, fun q s1 G1 H1 y c1 e1 R1 V1 => ?_⟩
  obtain ⟨k, n, l, rfl, hn, hl, hll, c2⟩ := c1
  cases vr_int V1.1
  have RB1 : RelB X.K f F O B G1 s1 σ H1 := ⟨R1, R.b⟩
  obtain ⟨ps, b, vs, b1, b2, b3, b4, b5, _⟩ := (N.ex e1).app hl (.non)
  refine ⟨p, ps.map V.ref, k, .ref b, rfl, rfl, Or.inl (Or.inl (RB1.at b1)), ?_, Or.inl ⟨rfl, vs, Or.inl (Or.inl (RB1.at b4))⟩, ?_⟩
  · unfold atI
    rw [List.length_map, b2, hn]
    show (ps.map V.ref)[n]? = _
    rw [List.getElem?_map, b3]; rfl
  refine ⟨_, _, G1, s1, _, R1, c2, fun q2 s2 G2 H2 y2 c3 e2 R2 V2 => ?_⟩
  obtain ⟨x, hx, c4⟩ := c3
  obtain ⟨G3, e3, R3, V3⟩ := R2.frz V2 hx
  have RB3 : RelB X.K f F O B G3 s2 σ H2 := ⟨R3, R.b⟩
  obtain ⟨ps', b', vs', d1, d2, d3, d4, d5, N4⟩ := (N.ex ((e1.trans e2).trans e3)).app hl V3
  have eps : ps' = ps := by
    rw [b1] at d1
    have := Option.some.inj d1
    injection this with this
    exact ((List.map_inj_right fun a b h => by injection h).mp this).symm
  subst eps
  rw [b3] at d3
  cases d3
  rw [b4] at d4
  cases d4
  refine ⟨b, vs, y2, rfl, rfl, RB3.at b4, by rw [b5]; exact Evl.sz_lt hll, ?_⟩
  exact kk _ _ _ _ _ _ ((e1.trans e2).trans e3) (RB3.set b4) hj N4 c4
theorem hn_for (hp : PassesOwn (model X.prog X.w) X.A X.env X.xe) (hc : X.calm = true) (hi : PI X a e (lfI X.K f it)) (hg : PG X a (lfG X.K f g ws)) (hj : j ∉ ws) (hb : PSs X sts (lfN X.K f j tn)) (hs : ∀ x, foldedSetIterable e X.env x = pure x := by intro _; rfl) :
    PS X (.For a e sts [] pos) (lfN X.K f j (nFor it g tn)) := (ps_for hp hc hi hg hb hs).mono fun D σ H q => by
  obtain ⟨F, O, B, p, G, s, L, Q, R, hσ, N, ht, k⟩ := q
  refine ⟨_, _, G, s, _, R.r, ht, fun ds s1 G1 H1 J c1 e1 R1 ok => ?_⟩
  refine ⟨fun i m σ2 H2 => ∃ B2 G2 s2 L2, Ex G1 G2 ∧ RelB X.K f F O B2 G2 s2 σ2 H2 ∧ σ2[j]? = some (some (.ref p)) ∧ NstOk X.K G2 B2 p L2 ∧ m = ds.length - i ∧ neach g tn Q (ds.drop i) s2 L2, ⟨_, B, G1, s1, L, Ex.refl G1, ⟨R1, R.b⟩, hσ, N.ex e1, rfl, c1⟩, ?_⟩
  rintro i m σ2 H2 ⟨B2, G2, s2, L2, e2, R2, hσ2, N2, rfl, w⟩
  obtain ⟨k1, k2⟩ := ok i _ _ G2 s2 σ2 H2 e2 R2.r
  by_cases hi : i < ds.length
  · have hd : ds[i]? = some ds[i] := List.getElem?_eq_getElem hi
    obtain ⟨go, yl⟩ := k2 _ hd
    rw [List.drop_eq_getElem_cons hi] at w
    refine Or.inr ⟨go, fun σ' H' => ∃ B3 G3 s3 L3, Ex G1 G3 ∧ RelB X.K f F O B3 G3 s3 σ' H' ∧ σ'[j]? = some (some (.ref p)) ∧ NstOk X.K G3 B3 p L3 ∧ neach g tn Q (ds.drop (i + 1)) s3 L3, fun σ' H' h => ?_, fun x H' y => ?_⟩
    · obtain ⟨B3, G3, s3, L3, b1, b2, b3, b4, b5⟩ := h
      exact ⟨_, by omega, B3, G3, s3, L3, b1, b2, b3, b4, rfl, b5⟩
    · obtain ⟨G3, e3, _, R3, V3⟩ := yl x H' y
      refine ⟨_, _, G3, s2, _, _, R3, V3, w, fun s4 σ4 c4 hs4 R4 => ?_⟩
      have h4 : σ4[j]? = some (some (.ref p)) := by rw [hs4 j hj]; exact hσ2
      exact ⟨F, O, B2, p, G3, s4, L2, _, ⟨R4, R2.b⟩, h4, N2.ex e3, c4, fun B5 G5 s5 L5 σ5 H5 e5 R5 z5 N5 d5 => ⟨B5, G5, s5, L5, (e2.trans e3).trans e5, R5, z5, N5, d5⟩⟩
  · rw [List.drop_eq_nil_of_le (by omega)] at w
    exact Or.inl ⟨k1 (by omega), k _ _ _ _ _ _ (e1.trans e2) R2 hσ2 N2 w⟩
theorem hn_if (hc : PT X c (lfT X.K f tt)) (ha : PSs X sts (lfN X.K f j tn)) : PS X (.If c sts [] pos) (lfN X.K f j (nIf tt tn)) := (ps_if hc ha pss_nil).mono fun D σ H q => by
  obtain ⟨F, O, B, p, G, s, L, Q, R, hσ, N, ht, k⟩ := q
  refine ⟨_, _, G, s, _, R.r, ht, fun b s1 G1 H1 c1 e1 R1 => ?_⟩
  cases b with
  | true => exact ⟨F, O, B, p, G1, s1, L, _, ⟨R1, R.b⟩, hσ, N.ex e1, c1, fun B5 G5 s5 L5 σ5 H5 e5 R5 z5 N5 d5 => k _ _ _ _ _ _ (e1.trans e5) R5 z5 N5 d5⟩
  | false => exact k _ _ _ _ _ _ e1 ⟨R1, R.b⟩ hσ (N.ex e1) c1
end
end Sk
set_option Elab.async false
set_option linter.all false
set_option maxRecDepth 100000
set_option maxHeartbeats 2000000
namespace Sk
open PySem PySem.Spec PyProof.Rows L2
open Evl (Ex)
theorem foldr_set_out {i : Nat} {x : Option PV} : ∀ {vs : List Nat} {l : List (Option PV)}, i ∉ vs → vs.foldr (fun i l => l.set i none) (l.set i x) = (vs.foldr (fun i l => l.set i none) l).set i x
  | [], _, _ => rfl
  | w :: ws, l, h => by
    have h1 : i ≠ w := fun e => h (by rw [e]; exact List.mem_cons_self)
    have h2 : i ∉ ws := fun e => h (List.mem_cons_of_mem _ e)
    show (ws.foldr _ (l.set i x)).set w none = ((ws.foldr _ l).set w none).set i x
    rw [foldr_set_out h2, List.set_comm _ _ h1]
theorem foldr_set_in {i : Nat} {x : Option PV} : ∀ {vs : List Nat} {l : List (Option PV)}, i ∈ vs → vs.foldr (fun i l => l.set i none) (l.set i x) = vs.foldr (fun i l => l.set i none) l
  | w :: ws, l, h => by
    show (ws.foldr _ (l.set i x)).set w none = (ws.foldr _ l).set w none
    by_cases hw : i ∈ ws
    · rw [foldr_set_in hw]
    · have e : i = w := (List.mem_cons.mp h).resolve_right hw
      subst e
      rw [foldr_set_out hw, List.set_set]
theorem foldr_set_self : ∀ {vs us : List Nat} {l : List (Option PV)}, (∀ v ∈ us, v ∈ vs) → vs.foldr (fun i l => l.set i none) (us.foldr (fun i l => l.set i none) l) = vs.foldr (fun i l => l.set i none) l
  | _, [], _, _ => rfl
  | vs, u :: us, l, h => by
    show vs.foldr _ ((us.foldr _ l).set u none) = _
    rw [foldr_set_in (h u List.mem_cons_self)]
    exact foldr_set_self fun v hv => h v (List.mem_cons_of_mem _ hv)
theorem Sg.wipe_put {s : Sg} {i : Nat} {p : PV} {vs : List Nat} (h : i ∈ vs) : (s.put i p).wipe vs = s.wipe vs := by
  show Sg.mk _ _ = Sg.mk _ _
  congr 1
  exact foldr_set_in h
theorem Sg.wipe_wipe {s : Sg} {vs : List Nat} : (s.wipe vs).wipe vs = s.wipe vs := by
  show Sg.mk _ _ = Sg.mk _ _
  congr 1
  exact foldr_set_self fun _ h => h
theorem Rel.free {K : PySem.W.Frag} {f : Fr} {G H : Hp} {s : Sg} {σ : L2.St} {j : Nat} {x : Option V} (R : Rel K f G s σ H) : Rel K f G (s.off j) (σ.set j x) H where
  gh := R.gh
  fh := R.fh
  go := R.go
  oh := R.oh
  mh := R.mh
  mo := R.mo
  dr := R.dr
  ln := by simp only [Sg.off, List.length_set]; exact R.ln
  sl := fun i q hq => by
    rcases set_get hq with ⟨_, e2, _⟩ | ⟨e, h2⟩
    · cases e2
    · obtain ⟨v, h3, h4⟩ := R.sl i q h2
      exact ⟨v, by rw [List.getElem?_set_ne e]; exact h3, h4⟩
  ds := fun a b pa pb w ne ha hb ma mb wa wb => by
    rcases set_get ha with ⟨_, e2, _⟩ | ⟨e, h2⟩
    · cases e2
    rcases set_get hb with ⟨_, e2', _⟩ | ⟨e', h2'⟩
    · cases e2'
    rw [List.getElem?_set_ne e] at wa
    rw [List.getElem?_set_ne e'] at wb
    exact R.ds a b pa pb w ne h2 h2' ma mb wa wb
theorem paired_rep {K : PySem.W.Frag} {G B : Hp} : ∀ {ps : List Addr}, (∀ a ∈ ps, B a = some (.lst [])) → Paired (fun a ds => ∃ vs, B a = some (.lst vs) ∧ DpAll K G vs ds) ps (List.replicate ps.length [])
  | [], _ => .nil
  | p :: ps, h => .cons ⟨[], h p List.mem_cons_self, .nil⟩ (paired_rep fun a ha => h a (List.mem_cons_of_mem _ ha))
/-- X = [[] for i in it]; the gathering -/
def hGath (it : HI) (vs : List Nat) (j : Nat) (t : HN) : HS := fun D s => it s fun ds s1 => j < s1.sl.length ∧ ds.length ≤ 100000 ∧ t (fun s2 L => D.nx (s2.put j (.own (L.map PyData.list)))) ((s1.wipe vs).off j) (List.replicate ds.length [])
section
variable {X : Cx} {f : Fr} {st1 st2 : Stmt} {rest : List Stmt} {tn : HN} {tu : HS} {it : HI} {vs : List Nat} {i j : Nat}
theorem hs_gath (h1 : PS X st1 (tAsg (tLc (lfI X.K f it) (lfG X.K f (gN i) [i]) (lfT X.K f hYes) (tLst tNil) vs) (gName j))) (hiv : i ∈ vs) (hjv : j ∉ vs) (h2 : PS X st2 (lfN X.K f j tn)) (h3 : PSs X rest (lfS X.K f tu)) : PSs X (st1 :: st2 :: rest) (lfS X.K f (hSeq (hGath it vs j tn) tu)) := (pss_cons h1 (pss_cons h2 h3)).mono fun D σ H q => by
  obtain ⟨F, O, G, s, D', R, ht, k⟩ := q
  refine ⟨F, O, G, s, _, R, ht, fun ds s1 G1 H1 J c1 e1 R1 ok D0 hD => ?_⟩
  obtain ⟨hjs, hlen, c2⟩ := c1
  refine ⟨fun i m H2 => ∃ (B G2 : Hp) (ps : List Addr), Ex G1 G2 ∧ RelB X.K f F O B G2 (s1.wipe vs) σ H2 ∧ B D0 = some (.lst (ps.map V.ref)) ∧ (D0 :: ps).Nodup ∧ (∀ a ∈ ps, B a = some (.lst [])) ∧ ps.length = i ∧ i ≤ ds.length ∧ m = ds.length - i, ⟨_, _, G1, [], Ex.refl G1, (RelB.start (R1.outw rfl)).new hD, upd_same, List.nodup_cons.mpr ⟨List.not_mem_nil, .nil⟩, fun a h => absurd h List.not_mem_nil, rfl, Nat.zero_le _, rfl⟩, ?_⟩
  rintro n m H2 ⟨B, G2, ps, e2, R2, hB, nd, emp, rfl, hle, rfl⟩
  obtain ⟨k1, k2⟩ := ok ps.length _ _ G2 _ σ H2 e2 R2.r
  by_cases hi : ps.length < ds.length
  · have hdi : ds[ps.length]? = some ds[ps.length] := List.getElem?_eq_getElem hi
    obtain ⟨go, yl⟩ := k2 _ hdi
    refine Or.inr ⟨go, fun H' => ∃ (B G2 : Hp) (qs : List Addr), Ex G1 G2 ∧ RelB X.K f F O B G2 (s1.wipe vs) σ H' ∧ B D0 = some (.lst (qs.map V.ref)) ∧ (D0 :: qs).Nodup ∧ (∀ a ∈ qs, B a = some (.lst [])) ∧ qs.length = ps.length + 1, fun H' h => ?_, fun x H' y => ?_⟩
    · obtain ⟨B3, G3, qs, b1, b2, b3, b4, b5, b6⟩ := h
      exact ⟨_, by omega, B3, G3, qs, b1, b2, b3, b4, b5, b6, by omega, rfl⟩
    · obtain ⟨G3, e3, _, R3, V3⟩ := yl x H' y
      refine ⟨_, _, G3, s1.wipe vs, ds[ps.length], fun s' => s' = (s1.wipe vs).put i (.dat ds[ps.length]), R3.inw, V3, rfl, fun s4 σ4 c4 hs R4 => ?_⟩
      have we : L2.wipe σ4 vs = L2.wipe σ vs := by
        rw [← wipe_idem (σ := σ)]
        refine wipe_cong ?_ fun a ha => hs a fun z => ha (by rw [List.mem_singleton.mp z]; exact hiv)
        rw [R4.ln, c4]
        simp only [Sg.put, List.length_set]
        rw [wipe_length, ← R3.ln]
      refine ⟨we, _, _, G3, s4, fun b s' => b = true ∧ s' = s4, R4, ⟨rfl, rfl⟩, fun b s5 G5 H5 c5 e5 R5 => ?_⟩
      obtain ⟨rfl, rfl⟩ := c5
      show (0 ≤ sizeLine ∧ ∀ p, H5 p = none → _)
      refine ⟨Nat.zero_le _, fun p hp => ?_⟩
      have es : s5.wipe vs = s1.wipe vs := by rw [c4, Sg.wipe_put hiv, Sg.wipe_wipe]
      have R6 := R5.outw we
      rw [es] at R6
      have RB : RelB X.K f F O B G5 (s1.wipe vs) σ H5 := ⟨R6, R2.b⟩
      have RN := RB.new (o := .lst []) hp
      have hBp : B p = none := by
        cases q : B p with
        | none => rfl
        | some u => have := RB.at q; rw [hp] at this; cases this
      have ne : D0 ≠ p := fun z => by rw [z, hBp] at hB; cases hB
      have hB1 : upd B p (.lst []) D0 = some (.lst (ps.map V.ref)) := by rw [upd_ne ne]; exact hB
      refine ⟨ps.map V.ref, RN.at hB1, by rw [List.length_map]; exact Evl.sz_lt (by omega), _, G5, ps ++ [p], (e2.trans e3).trans e5, RN.set (o' := .lst (ps.map V.ref ++ [V.ref p])) hB1, ?_, ?_, ?_, by simp⟩
      · rw [upd_same, List.map_append]; rfl
      · obtain ⟨n1, n2⟩ := List.nodup_cons.mp nd
        have np : p ∉ ps := fun h => by rw [emp p h] at hBp; cases hBp
        refine List.nodup_cons.mpr ⟨fun h => ?_, ?_⟩
        · rcases List.mem_append.mp h with h | h
          · exact n1 h
          · exact ne (List.mem_singleton.mp h)
        · rw [List.nodup_append]
          exact ⟨n2, by simp, fun a ha b hb e => np (by rw [← List.mem_singleton.mp hb, ← e]; exact ha)⟩
      · intro a ha
        have na : a ≠ D0 := fun z => by
          obtain ⟨n1, _⟩ := List.nodup_cons.mp nd
          rcases List.mem_append.mp ha with ha | ha
          · exact n1 (z ▸ ha)
          · exact ne (by rw [← z]; exact List.mem_singleton.mp ha)
        rw [upd_ne na]
        rcases List.mem_append.mp ha with ha | ha
        · have : a ≠ p := fun z => by have := emp a ha; rw [z, hBp] at this; cases this
          rw [upd_ne this]; exact emp a ha
        · rw [List.mem_singleton.mp ha, upd_same]
  · refine Or.inl ⟨k1 (by omega), ?_⟩
    have hjl : ∀ {x : V}, j < σ.length → (σ.set j (some x))[j]? = some (some x) := fun h => by rw [List.getElem?_set_self h]
    have fin : ∀ (p : Addr) (B' G' : Hp) (s' : Sg) (L' : List (List PyData)) (σ' : L2.St) (H' : Hp), Ex G2 G' → RelB X.K f F O B' G' s' σ' H' → σ'[j]? = some (some (.ref p)) → NstOk X.K G' B' p L' → tu D' (s'.put j (.own (L'.map PyData.list))) → lfS X.K f tu D σ' H' := fun p B' G' s' L' σ' H' e R' hj N' hq => by
      obtain ⟨G4, e4, R4, V4⟩ := N'.done R'
      have := R4.put (i := j) V4
      have e2' : σ'.set j (some (.ref p)) = σ' := by
        apply List.ext_getElem?
        intro a
        by_cases z : j = a
        · subst z
          rw [List.getElem?_set_self (by exact (List.getElem?_eq_some_iff.mp hj).1), hj]
        · rw [List.getElem?_set_ne z]
      rw [e2'] at this
      exact ⟨F, O, G4, _, D', this, hq, k.ex (((e1.trans e2).trans e).trans e4)⟩
    have hl : j < σ.length := by rw [R1.ln]; exact hjs
    have hlp : ps.length = ds.length := by omega
    exact ⟨F, O, B, D0, G2, (s1.wipe vs).off j, List.replicate ds.length [], _, ⟨R2.r.free, R2.b⟩, hjl hl, ⟨ps, hB, nd, by rw [← hlp]; exact paired_rep emp⟩, c2, fun B' G' s' L' σ' H' e R' hj N' hq => fin D0 B' G' s' L' σ' H' e R' hj N' hq⟩
end
end Sk
set_option Elab.async false
set_option linter.all false
set_option maxRecDepth 100000
set_option maxHeartbeats 4000000
namespace Sk
open PySem PySem.Spec PyProof.Rows L2
open PySem.W (Datum DatumOrd Tup T3 T4)
open Evl (Ex)
/-! what repr takes: machines -/
structure ShowK (d : PyData) (k w : Nat) : Prop where
  sh : d.showable = true
  hd : d.hasDict = false
  dp : d.depth ≤ k
  lf : d.leavesShort 13 = true
  wt : d.weight ≤ w
theorem ShowAll.consK {d : PyData} {ds : List PyData} {k w v : Nat} (h : ShowK d k v) (t : ShowAll ds k w) : ShowAll (d :: ds) k (v + 1 + w) := .cons h.sh h.hd h.dp h.lf h.wt t
theorem ShowAll.tupK {ds : List PyData} {k w : Nat} (h : ShowAll ds k w) : ShowK (.tuple ds) (k + 1) w where
  sh := by simp only [PyData.showable]; exact h.sh
  hd := by simp only [PyData.hasDict]; exact h.hd
  dp := by have := h.dp; simp only [PyData.depth]; omega
  lf := by simp only [PyData.leavesShort]; exact h.lf
  wt := by have := h.wt; simp only [PyData.weight]; omega
theorem ShowAll.lstK {ds : List PyData} {k w : Nat} (h : ShowAll ds k w) : ShowK (.list ds) (k + 1) w where
  sh := by simp only [PyData.showable]; exact h.sh
  hd := by simp only [PyData.hasDict]; exact h.hd
  dp := by have := h.dp; simp only [PyData.depth]; omega
  lf := by simp only [PyData.leavesShort]; exact h.lf
  wt := by have := h.wt; simp only [PyData.weight]; omega
theorem ShowK.ok {d : PyData} {k w : Nat} (h : ShowK d k w) (hk : k ≤ 100) (hw : w ≤ 1048576) : ShowOk d := ⟨h.sh, h.hd, Nat.le_trans h.dp hk, h.lf, Nat.le_trans h.wt (Nat.le_trans hw (by decide))⟩
theorem ShowK.mono {d : PyData} {k w k' w' : Nat} (h : ShowK d k w) (hk : k ≤ k') (hw : w ≤ w') : ShowK d k' w' := ⟨h.sh, h.hd, Nat.le_trans h.dp hk, h.lf, Nat.le_trans h.wt hw⟩
theorem int_showK {i : Int} (h0 : 0 ≤ i) (h1 : i < 1000000) : ShowK (.int i) 0 20 := by
  obtain ⟨a, b, c⟩ := int_show h0 h1
  exact ⟨a, by simp only [PyData.hasDict], by simp only [PyData.depth]; omega, b, c⟩
theorem none_showK : ShowK .none 0 0 := ⟨rfl, rfl, Nat.le_refl _, rfl, Nat.le_refl _⟩
theorem word_showK {z : Str} (h : isWordS z = true ∨ z = "") : ShowK (.str z) 0 6 := by
  have h2 : (∀ c ∈ z.cps.toList, c < 16 ^ 8) ∧ z.length ≤ 6 := by
    rcases h with h | rfl
    · exact word_small h
    · have e : ("" : Str).cps.toList = [] := rfl
      rw [e]
      exact ⟨fun c hc => absurd hc List.not_mem_nil, by decide⟩
  exact ⟨by simp only [PyData.showable], by simp only [PyData.hasDict], by simp only [PyData.depth]; omega, by simp only [PyData.leavesShort, List.all_eq_true, decide_eq_true_eq]; exact h2.1, by simp only [PyData.weight]; exact h2.2⟩
theorem show_all {α : Type} {f : α → PyData} {k w : Nat} : ∀ {xs : List α}, (∀ x ∈ xs, ShowK (f x) k w) → ShowAll (xs.map f) k ((w + 1) * xs.length)
  | [], _ => .nil
  | x :: xs, h => by
    have z := ShowAll.consK (h x List.mem_cons_self) (show_all (xs := xs) fun y hy => h y (List.mem_cons_of_mem _ hy))
    rw [show (w + 1) * (x :: xs).length = w + 1 + (w + 1) * xs.length by rw [List.length_cons, Nat.mul_succ]; omega]
    exact z
theorem move_showK {p : Str × Int} {L : Nat} (hL : L ≤ 1000000) (h : 0 ≤ p.2 ∧ p.2 < L ∧ (isWordS p.1 = true ∨ p.1 = ("" : Str))) : ShowK (Datum.toD p) 1 28 :=
  (ShowAll.consK (word_showK h.2.2) (ShowAll.consK (int_showK h.1 (by omega)) (ShowAll.nil (w := 0)))).tupK.mono (Nat.le_refl _) (by decide)
theorem mch_showK {M : Mch} {k L : Nat} (ok : MOk M) (le : RowsLe k M) (hL : M.items.length ≤ L) : ShowK (Datum.toD M) 3 ((29 * k + 1) * L) := by
  have hi := ok.hi
  have row : ∀ r ∈ M.items, ShowK (Datum.toD r) 2 (29 * k) := fun r hr =>
    (show_all (f := Datum.toD) (xs := r.items) (k := 1) (w := 28) fun p hp => move_showK (by omega) (ok.mv r hr p hp)).tupK.mono (Nat.le_refl _) (Nat.mul_le_mul_left _ (le r hr))
  exact (show_all (f := Datum.toD) (xs := M.items) row).tupK.mono (Nat.le_refl _) (Nat.mul_le_mul_left _ hL)
end Sk
set_option Elab.async false
set_option linter.all false
set_option maxRecDepth 100000
set_option maxHeartbeats 4000000
namespace Sk
open PySem PySem.Spec PyProof.Rows L2
open PySem.W (Datum DatumOrd Tup T3 T4)
open Evl (Ex)
/-! readings: hidden moves, offers, endless nodes -/
theorem lcs_filter2 {α : Type} {vs : List Nat} {g : HG} {tt : HT} {t : HE} {s : Sg} {xs : List α} (e f : α → PyData) (p : α → Bool)
    (h : ∀ a ∈ xs, ∀ K : Bool → Sg → Prop, (p a = false → ∀ s2, s2.wipe vs = s → K false s2) → (p a = true → ∀ s2, (∀ K2 : PV → Sg → Prop, (∀ s3, s3.wipe vs = s → K2 (.dat (f a)) s3) → t s2 K2) → K true s2) → g (e a) s fun s1 => tt s1 K)
    (acc : List PyData) (C : PV → Sg → Prop) (hl : acc.length + xs.length ≤ 100000) (c : C (.own (acc ++ (xs.filter p).map f)) s) : lcs vs g tt t (xs.map e) acc s C :=
  lcs_filter e f p (fun a ha K hK => h a ha K (fun hp s2 hs => by rw [← hp]; exact hK s2 (fun _ => hs) fun h => absurd h (by rw [hp]; decide)) fun hp s2 ht => by rw [← hp]; exact hK s2 (fun h => absurd h (by rw [hp]; decide)) fun _ => ht) acc C hl c
def isCnt (d : PyData) (m : Int) : Bool := match d with
  | .int i => decide (0 ≤ i) && decide (i ≤ m)
  | _ => false
def sp_is_count_0b1f0e : HSp := fun ps n C => ∃ d m, ps = [.dat d, .dat (.int m)] ∧ C (.dat (.bool (isCnt d m))) n
def h_is_count_0b1f0e : HS :=
    (hRet (hAndV (hC isiW (hL 0 (fun s C => hNil s fun ps s2 => C (.val (.ty "int") :: ps) s2))) (hAndV (hNotV (hC isiW (hL 0 (fun s C => hNil s fun ps s2 => C (.val (.ty "bool") :: ps) s2)))) (hChain leW leW (hE (hK (.int 0))) (hL 0) (hL 1)))))
theorem rd_is_count_0b1f0e : ∀ pvs n C, pvs.length = 2 → sp_is_count_0b1f0e pvs n C → h_is_count_0b1f0e ⟨fun s => C (.dat .none) s.n, fun p s => C p s.n, fun _ => False, fun _ => False⟩ ⟨pvs.map some ++ List.replicate (2 - pvs.length) none, n⟩ := by
  intro pvs n C _ h
  obtain ⟨d, m, rfl, c⟩ := h
  unfold h_is_count_0b1f0e
  cases d with
  | int i =>
    simp
    by_cases h1 : 0 ≤ i
    · exact Or.inr ⟨h1, by simpa [isCnt, h1] using c⟩
    · exact Or.inl ⟨by omega, by simpa [isCnt, h1] using c⟩
  | _ => simpa [isCnt] using c
def sp_need_node_37f819 : HSp := fun ps n C => ∃ (M : Mch) (x : Int), ps = [.dat (Datum.toD M), .dat (.int x)] ∧ 0 ≤ x ∧ x < M.items.length ∧ C (.dat .none) n
def h_need_node_37f819 : HS :=
    (hIfS (hNot (hB (hCall sp_is_count_0b1f0e 2 (hL 1 (hE (hC subW (hE (hC lenW (hL 0 hNil)) (hE (hK (.int 1)) hNil))) hNil))))) hNever hNext)
theorem rd_need_node_37f819 : ∀ pvs n C, pvs.length = 2 → sp_need_node_37f819 pvs n C → h_need_node_37f819 ⟨fun s => C (.dat .none) s.n, fun p s => C p s.n, fun _ => False, fun _ => False⟩ ⟨pvs.map some ++ List.replicate (2 - pvs.length) none, n⟩ := by
  intro pvs n C _ h
  obtain ⟨M, x, rfl, h0, h1, c⟩ := h
  unfold h_need_node_37f819
  have hM : (Datum.toD M : PyData) = .tuple (M.items.map Datum.toD) := rfl
  have e : isCnt (.int x) ((M.items.length : Int) - 1) = true := by
    have : x ≤ (M.items.length : Int) - 1 := by omega
    simp [isCnt, h0, this]
  simp [hM, sp_is_count_0b1f0e]
  exact ⟨_, _, ⟨rfl, rfl⟩, e, c⟩
def sp_hidden_from_cea0e2 : HSp := fun ps n C => ∃ (M : Mch) (x : Int), ps = [.dat (Datum.toD M), .dat (.int x)] ∧ MOk M ∧ 0 ≤ x ∧ x < M.items.length ∧ RowsLe 60 M ∧ C (.own ((hid M x).map .int)) n
def h_hidden_from_cea0e2 : HS :=
    (hRet (hLc (hiT (hC ixW (hL 0 (hL 1 hNil)))) (gP 2 3) (hB (hC (eqP false) (hL 2 (hE (hK c_HIDDEN) hNil)))) (hV 3) [2, 3]))
theorem rd_hidden_from_cea0e2 : ∀ pvs n C, pvs.length = 2 → sp_hidden_from_cea0e2 pvs n C → h_hidden_from_cea0e2 ⟨fun s => C (.dat .none) s.n, fun p s => C p s.n, fun _ => False, fun _ => False⟩ ⟨pvs.map some ++ List.replicate (4 - pvs.length) none, n⟩ := by
  intro pvs n C _ h
  obtain ⟨M, x, rfl, ok, h0, h1, le, c⟩ := h
  unfold h_hidden_from_cea0e2
  have hM : (Datum.toD M : PyData) = .tuple (M.items.map Datum.toD) := rfl
  have rl := rowAt_le (M := M) (x := x) le
  rw [hM]
  simp [atI_row h0 h1]
  refine lcs_filter2 (fun p : Str × Int => (Datum.toD p : PyData)) (fun p => .int p.2) (fun p => decide (p.1 = ("" : Str))) (fun p hp K hF hT => ?_) [] _ (by simp; omega) ?_
  · show gP 2 3 (.tuple [.str p.1, .int p.2]) _ _
    simp
    by_cases he : p.1 = ("" : Str)
    · exact Or.inr ⟨he, hT (by simp [he]) _ fun K2 hK2 => by simp; exact hK2 _ (by simp)⟩
    · exact Or.inl ⟨he, hF (by simp [he]) _ (by simp)⟩
  · simp
    have e : (((rowAt M x).filter fun p => decide (p.1 = ("" : Str))).map fun p => PyData.int p.2) = (hid M x).map .int := by unfold hid; rw [List.map_map]; rfl
    rw [e]
    exact c
/-- the deeds of a still node -/
def offerOf (M : Mch) (x : Int) : Option (List Str) := if (rowAt M x).any (fun p => decide (p.1 = ("" : Str))) then none else some (sortU ((rowAt M x).map (·.1)))
def offerD (M : Mch) (x : Int) : PyData := match offerOf M x with
  | none => .none
  | some ws => .tuple (ws.map .str)
def sp_offer_at_23cff8 : HSp := fun ps n C => ∃ (M : Mch) (x : Int), ps = [.dat (Datum.toD M), .dat (.int x)] ∧ MOk M ∧ 0 ≤ x ∧ x < M.items.length ∧ RowsLe 60 M ∧ C (.dat (offerD M x)) n
def h_offer_at_23cff8 : HS :=
    (hSeq (hAsg (hLc (hiT (hC ixW (hL 0 (hL 1 hNil)))) (gP 3 4) hYes (hV 3) [3, 4]) 2)
    (hRet (hIf (hB (hC (inP false) (hE (hK c_HIDDEN) (hL 2 hNil)))) (hK .none) (hC tupW (hE (hC (sortUA Str 4000) (hL 2 hNil)) hNil)))))
theorem rd_offer_at_23cff8 : ∀ pvs n C, pvs.length = 2 → sp_offer_at_23cff8 pvs n C → h_offer_at_23cff8 ⟨fun s => C (.dat .none) s.n, fun p s => C p s.n, fun _ => False, fun _ => False⟩ ⟨pvs.map some ++ List.replicate (5 - pvs.length) none, n⟩ := by
  intro pvs n C _ h
  obtain ⟨M, x, rfl, ok, h0, h1, le, c⟩ := h
  unfold h_offer_at_23cff8
  have hM : (Datum.toD M : PyData) = .tuple (M.items.map Datum.toD) := rfl
  have rl := rowAt_le (M := M) (x := x) le
  rw [hM]
  simp [atI_row h0 h1]
  refine lcs_map (fun p : Str × Int => (Datum.toD p : PyData)) (fun p => .str p.1) (fun p hp K hK => ?_) [] _ (by simp; omega) ?_
  · show gP 3 4 (.tuple [.str p.1, .int p.2]) _ _
    simp
    exact hK _ (by simp)
  · simp
    have e : ((rowAt M x).map fun p => PyData.str p.1) = ((rowAt M x).map (·.1)).map .str := by rw [List.map_map]; rfl
    rw [e]
    refine inP_D (α := Str) "" ((rowAt M x).map (·.1)) rfl rfl (by decide) ?_
    have em : (("" : Str) ∈ (rowAt M x).map (·.1)) ↔ (rowAt M x).any (fun p => decide (p.1 = ("" : Str))) = true := by
      rw [List.mem_map, List.any_eq_true]
      exact ⟨fun ⟨p, h1, h2⟩ => ⟨p, h1, decide_eq_true h2⟩, fun ⟨p, h1, h2⟩ => ⟨p, h1, of_decide_eq_true h2⟩⟩
    by_cases he : ("" : Str) ∈ (rowAt M x).map (·.1)
    · have eo : offerD M x = .none := by unfold offerD offerOf; rw [if_pos (em.mp he)]
      rw [eo] at c
      simp only [decide_eq_true he]
      exact Or.inr ⟨rfl, c⟩
    · have eo : offerD M x = .tuple ((sortU ((rowAt M x).map (·.1))).map .str) := by unfold offerD offerOf; rw [if_neg fun z => he (em.mpr z)]
      rw [eo] at c
      simp only [decide_eq_false he]
      refine Or.inl ⟨rfl, (rowAt M x).map (·.1), rfl, by simp; omega, ?_⟩
      simp
      exact c
theorem atI_ints {xs : List Int} {i : Int} {a : Int} (h0 : 0 ≤ i) (h : xs[i.toNat]? = some a) : atI (xs.map PyData.int) i = some (.int a) := by
  have hl : i.toNat < xs.length := by
    rcases Nat.lt_or_ge i.toNat xs.length with z | z
    · exact z
    · rw [List.getElem?_eq_none z] at h; cases h
  unfold atI ixN
  rw [List.length_map, if_pos h0, if_pos (by omega)]
  show (xs.map PyData.int)[i.toNat]? = _
  rw [List.getElem?_map, h]; rfl
theorem ixN_nat2 {n : Nat} {i : Int} (h0 : 0 ≤ i) (h1 : i < n) : ixN n i = some i.toNat := by unfold ixN; rw [if_pos h0, if_pos h1]
/-! what is gathered: ahead[g]: those from which a hidden move leads to g -/
def aheadR (M : Mch) (xs : List Int) : List (List PyData) := (rngI M.items.length).map fun g => (xs.filter fun x => decide (g ∈ hid M x)).map .int
def aheadRI (M : Mch) (xs : List Int) (x : Int) (gs : List Int) : List (List PyData) := (rngI M.items.length).map fun g => ((xs.filter fun x => decide (g ∈ hid M x)) ++ (if g ∈ gs then [x] else [])).map .int
theorem aheadR_at {M : Mch} {xs gs : List Int} {x g : Int} (h0 : 0 ≤ g) (h1 : g < M.items.length) : (aheadRI M xs x gs)[g.toNat]? = some (((xs.filter fun x => decide (g ∈ hid M x)) ++ (if g ∈ gs then [x] else [])).map .int) := by
  unfold aheadRI
  rw [List.getElem?_map, rngI_at (by omega)]
  show some _ = some _
  rw [show ((g.toNat : Nat) : Int) = g by omega]
theorem aheadRI_len {M : Mch} {xs gs : List Int} {x : Int} : (aheadRI M xs x gs).length = M.items.length := by unfold aheadRI; rw [List.length_map, rngI_len]
theorem aheadRI_nil {M : Mch} {xs : List Int} {x : Int} : aheadRI M xs x [] = aheadR M xs := by
  unfold aheadRI aheadR
  apply List.map_congr_left
  intro g _
  simp
theorem aheadRI_set {M : Mch} {xs gs : List Int} {x g : Int} (h0 : 0 ≤ g) (h1 : g < M.items.length) (hg : g ∉ gs) : (aheadRI M xs x gs).set g.toNat (((xs.filter fun x => decide (g ∈ hid M x)) ++ (if g ∈ gs then [x] else [])).map .int ++ [.int x]) = aheadRI M xs x (gs ++ [g]) := by
  apply List.ext_getElem?
  intro i
  by_cases e : g.toNat = i
  · subst e
    rw [List.getElem?_set_self (by rw [aheadRI_len]; omega), aheadR_at h0 h1]
    simp [hg]
  · rw [List.getElem?_set_ne e]
    unfold aheadRI
    rw [List.getElem?_map, List.getElem?_map]
    by_cases hi : i < M.items.length
    · have : (((i : Nat) : Int) ∈ gs ++ [g]) ↔ (((i : Nat) : Int) ∈ gs) := by
        rw [List.mem_append, List.mem_singleton]
        exact ⟨fun h => h.resolve_right (by omega), Or.inl⟩
      rw [rngI_at hi]
      simp only [Option.map_some, this]
    · have : (rngI M.items.length)[i]? = none := List.getElem?_eq_none (by rw [rngI_len]; omega)
      rw [this]; rfl
theorem aheadRI_all {M : Mch} {xs : List Int} {x : Int} : aheadRI M xs x (hid M x) = aheadR M (xs ++ [x]) := by
  unfold aheadRI aheadR
  apply List.map_congr_left
  intro g _
  rw [List.filter_append]
  congr 2
  by_cases q : g ∈ hid M x
  · simp [q]
  · simp [q]
theorem gat_in {M : Mch} (ok : MOk M) {x : Int} {xs : List Int} {o1 : Option PV} {n : Nat} {Q : Sg → List (List PyData) → Prop} (hxs : xs.length ≤ 300) : ∀ (gs done : List Int) (o5 : Option PV), (done ++ gs).Nodup → (∀ g ∈ gs, 0 ≤ g ∧ g < M.items.length) →
    (∀ o5', Q ⟨[some (.dat (.tuple (M.items.map Datum.toD))), o1, some (.dat (.int x)), none, none, o5', none, none], n⟩ (aheadRI M xs x (done ++ gs))) →
    neach (gN 5) (nApp (hV 5) (hV 2)) Q (gs.map .int) ⟨[some (.dat (.tuple (M.items.map Datum.toD))), o1, some (.dat (.int x)), none, none, o5, none, none], n⟩ (aheadRI M xs x done) := by
  intro gs
  induction gs with
  | nil => intro done o5 _ _ fin; simpa using fin o5
  | cons g gs ih =>
    intro done o5 nd hr fin
    have rg := hr g List.mem_cons_self
    have hg : g ∉ done := fun h => by
      rw [List.nodup_append] at nd
      exact nd.2.2 g h g List.mem_cons_self rfl
    simp
    have hi := ok.hi
    refine ⟨g.toNat, ?_, _, aheadR_at rg.1 rg.2, ?_, ?_⟩
    · rw [aheadRI_len]; exact ixN_nat2 rg.1 rg.2
    · rw [List.length_map, List.length_append]
      have := List.length_filter_le (fun x => decide (g ∈ hid M x)) xs
      split <;> simp <;> omega
    · rw [aheadRI_set rg.1 rg.2 hg]
      refine ih (done ++ [g]) _ (by simpa using nd) (fun y hy => hr y (List.mem_cons_of_mem _ hy)) fun o5' => ?_
      have := fin o5'
      simpa using this
theorem gat_out {M : Mch} (ok : MOk M) (le : RowsLe 60 M) {o1 : Option PV} {n : Nat} {Q : Sg → List (List PyData) → Prop} : ∀ (ys xs : List Int) (o2 o5 : Option PV), (∀ y ∈ ys, 0 ≤ y ∧ y < M.items.length) → xs.length + ys.length ≤ 300 →
    (∀ o2' o5', Q ⟨[some (.dat (.tuple (M.items.map Datum.toD))), o1, o2', none, none, o5', none, none], n⟩ (aheadR M (xs ++ ys))) →
    neach (gN 2) (nFor (hiL (hCall sp_hidden_from_cea0e2 2 (hL 0 (hL 2 hNil)))) (gN 5) (nApp (hV 5) (hV 2))) Q (ys.map .int) ⟨[some (.dat (.tuple (M.items.map Datum.toD))), o1, o2, none, none, o5, none, none], n⟩ (aheadR M xs) := by
  intro ys
  induction ys with
  | nil => intro xs o2 o5 _ _ fin; simpa using fin o2 o5
  | cons y ys ih =>
    intro xs o2 o5 hr hl fin
    have ry := hr y List.mem_cons_self
    have hl' : xs.length + (ys.length + 1) ≤ 300 := by simpa using hl
    simp only [List.map_cons, neach, gN, nFor, hiL, hCall, hL, hNil, Sg.put, List.set_cons_succ, List.set_cons_zero, List.getElem?_cons_succ, List.getElem?_cons_zero]
    refine ⟨⟨_, rfl⟩, ⟨_, rfl⟩, _, rfl, _, rfl, rfl, fun p hp => ?_, M, y, rfl, ok, ry.1, ry.2, le, ?_, ?_⟩
    · simp at hp; rcases hp with rfl | rfl <;> rfl
    · simp
    · rw [← aheadRI_nil (x := y)]
      refine gat_in ok (by omega) (hid M y) [] _ (by simpa using hid_nd ok) (fun g hg => hid_rng ok hg) fun o5' => ?_
      rw [List.nil_append, aheadRI_all]
      refine ih (xs ++ [y]) _ _ (fun z hz => hr z (List.mem_cons_of_mem _ hz)) (by simp; omega) fun a b => ?_
      have := fin a b
      simpa using this
@[simp] def noneO : Option PV := none
def sp_endless_marks_77b142 : HSp := fun ps n C => ∃ M : Mch, ps = [.dat (Datum.toD M)] ∧ MOk M ∧ RowsLe 60 M ∧ ∀ bs : List Bool, bs.length = M.items.length → (∀ x : Int, 0 ≤ x → x < M.items.length → (bs[x.toNat]? = some true ↔ Endl M x)) → C (.own (bs.map .bool)) n
abbrev endBody : HS := (hSeq (hAugL (fun i j => i - j) 1 (hV 2) (hK (.int 1)))
    (hIfS (hB (hC (eqP false) (hE (hC ixW (hL 1 (hL 2 hNil))) (hE (hK (.int 0)) hNil)))) (hDrop (hApp 6 (hV 2))) hNext))
theorem end_loop {D : HD} {M : Mch} {o0 o3 o4 o5 o7 : Option PV} {n : Nat} {P : List Int} (hi : M.items.length ≤ 300) : ∀ (rest lefts ended : List Int) (o2 : Option PV), FInv M rest lefts ended P →
    (∀ (lefts' ended' : List Int) (o2' : Option PV), FInv M [] lefts' ended' P → D.nx ⟨[o0, some (.own (lefts'.map .int)), o2', o3, o4, o5, some (.own (ended'.map .int)), o7], n⟩) →
    each (gN 2) endBody D (rest.map .int) ⟨[o0, some (.own (lefts.map .int)), o2, o3, o4, o5, some (.own (ended.map .int)), o7], n⟩ := by
  intro rest
  induction rest with
  | nil => intro lefts ended o2 F fin; exact fin lefts ended o2 F
  | cons x rest ih =>
    intro lefts ended o2 F fin
    obtain ⟨c0, lx, st⟩ := F.step
    have rx := F.rs.2 x List.mem_cons_self
    have el : ended.length ≤ M.items.length := by
      have := rng_len F.nd F.rng
      rw [List.length_append] at this
      omega
    have ix : ixN lefts.length x = some x.toNat := ixN_nat2 rx.1 (by omega)
    have at1 : atI ((lefts.set x.toNat ((cnt M P x : Nat) : Int)).map PyData.int) x = some (.int ((cnt M P x : Nat) : Int)) := atI_ints rx.1 (by rw [List.getElem?_set_self lx])
    have es : (lefts.map PyData.int).set x.toNat (.int (((cnt M P x + 1 : Nat) : Int) - 1)) = (lefts.set x.toNat ((cnt M P x : Nat) : Int)).map .int := by
      rw [← List.map_set, show (((cnt M P x + 1 : Nat) : Int) - 1) = ((cnt M P x : Nat) : Int) by omega]
    have gx : (lefts.map PyData.int)[x.toNat]? = some (.int ((cnt M P x + 1 : Nat) : Int)) := by rw [List.getElem?_map, c0]; rfl
    have ixl : ixN (lefts.map PyData.int).length x = some x.toNat := by rw [List.length_map]; exact ix
    simp [-hAugL]
    refine ⟨⟨_, rfl⟩, x, x.toNat, lefts.map .int, ((cnt M P x + 1 : Nat) : Int), rfl, rfl, ixl, gx, 1, lefts.map .int, x.toNat, rfl, rfl, ixl, ?_⟩
    simp only [Sg.put, List.set_cons_succ, List.set_cons_zero]
    rw [es]
    simp
    rw [← List.map_set]
    refine ⟨_, at1, eq_int.mpr ?_⟩
    by_cases hz : cnt M P x = 0
    · rw [if_pos hz] at st
      refine Or.inr ⟨by simp [hz], by omega, ?_⟩
      have e2 : ended.map PyData.int ++ [.int x] = (ended ++ [x]).map .int := by simp
      rw [e2]
      have := ih _ _ (some (.dat (.int x))) st fin
      rw [hz] at this
      rw [hz]
      exact this
    · rw [if_neg hz] at st
      refine Or.inl ⟨by simp; omega, ?_⟩
      exact ih _ _ _ st fin
def h_endless_marks_77b142 : HS :=
    (hSeq (hAsg (hLc (hiR1 (hE (hC lenW (hL 0 hNil)) hNil)) (gN 2) hYes (hC lenW (hE (hCall sp_hidden_from_cea0e2 2 (hL 0 (hL 2 hNil))) hNil)) [2]) 1)
    (hSeq (hGath (hiT (hV 0)) [4] 3 (nFor (hiR1 (hE (hC lenW (hL 0 hNil)) hNil)) (gN 2) (nFor (hiL (hCall sp_hidden_from_cea0e2 2 (hL 0 (hL 2 hNil)))) (gN 5) (nApp (hV 5) (hV 2)))))
    (hSeq (hAsg (hLc (hiR1 (hE (hC lenW (hL 0 hNil)) hNil)) (gN 2) (hB (hC (eqP false) (hE (hC ixW (hL 1 (hL 2 hNil))) (hE (hK (.int 0)) hNil)))) (hV 2) [2]) 6)
    (hSeq (hWhile (hB (hC (eqP true) (hL 6 (hE (hLst hNil) hNil)))) (hFor (hiL (hC ixW (hL 3 (hE (hPop 6) hNil)))) (gN 2) (hSeq (hAugL (fun i j => i - j) 1 (hV 2) (hK (.int 1)))
    (hIfS (hB (hC (eqP false) (hE (hC ixW (hL 1 (hL 2 hNil))) (hE (hK (.int 0)) hNil)))) (hDrop (hApp 6 (hV 2))) hNext))))
    (hRet (hLc (hiL (hV 1)) (gN 7) hYes (hC gtW (hL 7 (hE (hK (.int 0)) hNil))) [7]))))))
theorem rd_endless_marks_77b142 : ∀ pvs n C, pvs.length = 1 → sp_endless_marks_77b142 pvs n C → h_endless_marks_77b142 ⟨fun s => C (.dat .none) s.n, fun p s => C p s.n, fun _ => False, fun _ => False⟩ ⟨pvs.map some ++ List.replicate (8 - pvs.length) none, n⟩ := by
  intro pvs n C _ h
  obtain ⟨M, rfl, ok, le, q⟩ := h
  unfold h_endless_marks_77b142
  have hM : (Datum.toD M : PyData) = .tuple (M.items.map Datum.toD) := rfl
  have hi := ok.hi
  rw [hM]
  simp [-hLc, -hFor, -hAugL, -hNext]
  refine hLc_eq.mpr ?_
  simp [-hLc, -hFor, -hAugL, -hNext]
  refine ⟨by omega, ?_⟩
  have er : rngD 0 M.items.length = (rngI M.items.length).map fun x => PyData.int x := by simp [rngD, rngI]
  rw [er]
  refine lcs_map (fun x : Int => PyData.int x) (fun x => .int ((hid M x).length : Nat)) (fun x hx K hK => ?_) [] _ (by simp [rngI_len]; omega) ?_
  · have rx := mem_rngI.mp hx
    simp
    refine ⟨M, x, rfl, ok, rx.1, rx.2, le, ?_⟩
    simp
    exact hK _ (by simp)
  simp [-hLc, -hFor, -hAugL, -hNext]
  unfold hGath
  simp [-hLc, -hFor, -hAugL, -hNext, -nApp, -nFor]
  refine ⟨by omega, ?_⟩
  simp only [nFor, hiR1]
  simp [-hLc, -hFor, -hAugL, -hNext, -nApp, -nFor]
  refine ⟨by omega, ?_⟩
  rw [er]
  have eL : List.replicate M.items.length ([] : List PyData) = aheadR M [] := by
    refine (List.eq_replicate_iff.mpr ⟨by unfold aheadR; rw [List.length_map, rngI_len], fun b hb => ?_⟩).symm
    obtain ⟨g, _, rfl⟩ := List.mem_map.mp hb
    rfl
  rw [eL]
  refine gat_out ok le (rngI M.items.length) [] _ _ (fun y hy => mem_rngI.mp hy) (by simp [rngI_len]; omega) fun o2 o5 => ?_
  rw [List.nil_append]
  simp [-hLc, -hFor, -hAugL, -hNext]
  refine hLc_eq.mpr ?_
  simp [-hLc, -hFor, -hAugL, -hNext]
  refine ⟨by omega, ?_⟩
  rw [er]
  have e0 : (rngI M.items.length).map (fun x => PyData.int ((hid M x).length : Nat)) = ((rngI M.items.length).map fun x => (((hid M x).length : Nat) : Int)).map .int := by rw [List.map_map]; rfl
  rw [e0]
  have l0 : ∀ x : Int, 0 ≤ x → x < M.items.length → ((rngI M.items.length).map fun x => (((hid M x).length : Nat) : Int))[x.toNat]? = some (((hid M x).length : Nat) : Int) := fun x h0 h1 => by
    rw [List.getElem?_map, rngI_at (by omega)]
    show some _ = some _
    rw [show ((x.toNat : Nat) : Int) = x by omega]
  refine lcs_filter2 (fun x : Int => PyData.int x) (fun x => .int x) (fun x => decide ((hid M x).length = 0)) (fun x hx K hF hT => ?_) [] _ (by simp [rngI_len]; omega) ?_
  · have rx := mem_rngI.mp hx
    simp
    refine ⟨_, by have := atI_ints rx.1 (l0 x rx.1 rx.2); rw [List.map_map] at this; exact this, eq_int.mpr ?_⟩
    by_cases hz : hid M x = []
    · rw [hz]
      refine Or.inr ⟨by simp, ?_⟩
      exact hT (by simp [hz]) _ fun K2 hK2 => by simp; exact hK2 _ (by simp)
    · have hz' : ¬ (((hid M x).length : Nat) : Int) = 0 := fun z => hz (List.length_eq_zero_iff.mp (by omega))
      rw [show decide ((((hid M x).length : Nat) : Int) = 0) = false from decide_eq_false hz']
      refine Or.inl ⟨by simp, ?_⟩
      exact hF (by simp [hz]) _ (by simp)
  simp [-hFor, -hLc, -hAugL, -hNext]
  have hstart := EInv.start (M := M) (lefts := (rngI M.items.length).map fun x => (((hid M x).length : Nat) : Int)) (by rw [List.length_map, rngI_len]) l0 rfl
  have e1 : List.map (fun x => PyData.int x) (List.filter (fun x => decide (hid M x = [])) (rngI M.items.length)) = ((rngI M.items.length).filter fun x => decide ((hid M x).length = 0)).map .int := by simp
  rw [e1]
  have e2 : List.map (PyData.int ∘ fun x => (((hid M x).length : Nat) : Int)) (rngI M.items.length) = ((rngI M.items.length).map fun x => (((hid M x).length : Nat) : Int)).map .int := by rw [List.map_map]
  rw [e2]
  refine hWhile_by (fun m s => ∃ (lefts ended P : List Int) (o2 : Option PV), s = ⟨[some (.dat (.tuple (M.items.map Datum.toD))), some (.own (lefts.map .int)), o2, some (.own ((aheadR M (rngI M.items.length)).map PyData.list)), none, o5, some (.own (ended.map .int)), none], n⟩ ∧ EInv M lefts ended P ∧ m = M.items.length - P.length) _ ⟨_, _, [], none, rfl, hstart, rfl⟩ ?_
  rintro m _ ⟨lefts, ended, P, o2', rfl, E, rfl⟩
  simp [-hFor, -hLc, -hAugL, -hNext]
  refine eqP_D (α := List Int) ended [] rfl rfl (by decide) ?_
  have Pl := rng_len (L := M.items.length) ((List.nodup_append.mp E.nd).2.1) fun k hk => E.rng k (List.mem_append.mpr (Or.inr hk))
  by_cases he : ended = []
  · subst he
    refine Or.inl ⟨by simp, ?_⟩
    refine hLc_eq.mpr ?_
    simp [-hFor, -hLc, -hAugL, -hNext]
    have Ll := E.len
    refine lcs_map (fun x : Int => PyData.int x) (fun x => .bool (decide (0 < x))) (fun x hx K hK => ?_) [] _ (by simp; omega) ?_
    · simp
      refine hK _ (by simp)
    · simp
      have eb : lefts.map (fun x => PyData.bool (decide (0 < x))) = (lefts.map fun x => decide (0 < x)).map .bool := by rw [List.map_map]; rfl
      rw [eb]
      refine q _ (by rw [List.length_map]; exact Ll) fun x h0 h1 => ?_
      rw [List.getElem?_map, E.cn x h0 h1, ← E.end ok h0 h1]
      simp
  · obtain ⟨es, e, rfl⟩ : ∃ es e, ended = es ++ [e] := ⟨ended.dropLast, ended.getLast he, (List.dropLast_concat_getLast he).symm⟩
    have re := E.rng e (by simp)
    refine Or.inr ⟨by simp, ?_⟩
    have ea : (aheadR M (rngI M.items.length))[e.toNat]? = some ((aheadOf M e).map .int) := by
      unfold aheadR aheadOf
      rw [List.getElem?_map, rngI_at (by omega)]
      show some _ = some _
      rw [show ((e.toNat : Nat) : Int) = e by omega]
    have al : (aheadR M (rngI M.items.length)).length = M.items.length := by unfold aheadR; rw [List.length_map, rngI_len]
    have at2 : atI ((aheadR M (rngI M.items.length)).map PyData.list) e = some (.list ((aheadOf M e).map .int)) := by
      unfold atI ixN
      rw [List.length_map, al, if_pos re.1, if_pos re.2]
      show ((aheadR M (rngI M.items.length)).map PyData.list)[e.toNat]? = _
      rw [List.getElem?_map, ea]; rfl
    simp only [hFor, hiL]
    simp [-hFor, -hLc, -hAugL, -hNext]
    simp [-hFor, -hLc, -hAugL, -hNext, at2]
    refine end_loop (M := M) (P := e :: P) hi (aheadOf M e) lefts es _ (E.pop ok) fun lefts' ended' o2'' F => ?_
    have E' := F.done
    have Pl2 := rng_len (L := M.items.length) ((List.nodup_append.mp E'.nd).2.1) fun k hk => E'.rng k (List.mem_append.mpr (Or.inr hk))
    exact ⟨M.items.length - (e :: P).length, by simp at Pl2 ⊢; omega, lefts', ended', ⟨o2'', rfl⟩, e :: P, E', rfl⟩
def sp_offer_9ca1d5 : HSp := fun ps n C => ∃ (M : Mch) (x : Int), ps = [.dat (Datum.toD M), .dat (.int x)] ∧ MOk M ∧ 0 ≤ x ∧ x < M.items.length ∧ RowsLe 60 M ∧ C (.dat (offerD M x)) n
def h_offer_9ca1d5 : HS :=
    (hSeq (hDrop (hCall sp_need_machine_f4028c 1 (hL 0 hNil)))
    (hSeq (hDrop (hCall sp_need_node_37f819 2 (hL 0 (hL 1 hNil))))
    (hRet (hCall sp_offer_at_23cff8 2 (hL 0 (hL 1 hNil))))))
theorem rd_offer_9ca1d5 : ∀ pvs n C, pvs.length = 2 → sp_offer_9ca1d5 pvs n C → h_offer_9ca1d5 ⟨fun s => C (.dat .none) s.n, fun p s => C p s.n, fun _ => False, fun _ => False⟩ ⟨pvs.map some ++ List.replicate (2 - pvs.length) none, n⟩ := by
  intro pvs n C _ h
  obtain ⟨M, x, rfl, ok, h0, h1, le, c⟩ := h
  unfold h_offer_9ca1d5
  simp
  exact ⟨M, rfl, ok, M, x, rfl, h0, h1, M, x, rfl, ok, h0, h1, le, c⟩
def sp_endless_4cf184 : HSp := fun ps n C => ∃ M : Mch, ps = [.dat (Datum.toD M)] ∧ MOk M ∧ RowsLe 60 M ∧ ∀ xs : List Int, Rising xs → (∀ x, x ∈ xs ↔ Endl M x) → C (.dat (.tuple (xs.map .int))) n
def h_endless_4cf184 : HS :=
    (hSeq (hDrop (hCall sp_need_machine_f4028c 1 (hL 0 hNil)))
    (hSeq (hAsg (hCall sp_endless_marks_77b142 1 (hL 0 hNil)) 1)
    (hRet (hC tupW (hE (hLc (hiR1 (hE (hC lenW (hL 0 hNil)) hNil)) (gN 2) (hB (hC ixW (hL 1 (hL 2 hNil)))) (hV 2) [2]) hNil)))))
theorem rd_endless_4cf184 : ∀ pvs n C, pvs.length = 1 → sp_endless_4cf184 pvs n C → h_endless_4cf184 ⟨fun s => C (.dat .none) s.n, fun p s => C p s.n, fun _ => False, fun _ => False⟩ ⟨pvs.map some ++ List.replicate (3 - pvs.length) none, n⟩ := by
  intro pvs n C _ h
  obtain ⟨M, rfl, ok, le, q⟩ := h
  unfold h_endless_4cf184
  have hM : (Datum.toD M : PyData) = .tuple (M.items.map Datum.toD) := rfl
  have hi := ok.hi
  simp [-hLc]
  refine ⟨M, rfl, ok, M, rfl, ok, le, fun bs hl hb => ?_⟩
  refine hLc_eq.mpr ?_
  simp [-hLc, hM]
  refine ⟨by omega, ?_⟩
  have er : rngD 0 M.items.length = (rngI M.items.length).map fun x => PyData.int x := by simp [rngD, rngI]
  rw [er]
  refine lcs_filter2 (fun x : Int => PyData.int x) (fun x => .int x) (fun x => bs[x.toNat]? == some true) (fun x hx K hF hT => ?_) [] _ (by simp [rngI_len]; omega) ?_
  · have rx := mem_rngI.mp hx
    have lb : x.toNat < bs.length := by omega
    have at1 : atI (bs.map PyData.bool) x = some (.bool bs[x.toNat]) := by
      unfold atI ixN
      rw [List.length_map, if_pos rx.1, if_pos (by omega)]
      show (bs.map PyData.bool)[x.toNat]? = _
      rw [List.getElem?_map, List.getElem?_eq_getElem lb]; rfl
    simp
    refine ⟨_, at1, ?_⟩
    cases hb2 : bs[x.toNat] with
    | true =>
      refine Or.inr ⟨rfl, hT (by rw [List.getElem?_eq_getElem lb, hb2]; rfl) _ fun K2 hK2 => ?_⟩
      simp; exact hK2 _ (by simp)
    | false => exact Or.inl ⟨rfl, hF (by rw [List.getElem?_eq_getElem lb, hb2]; rfl) _ (by simp)⟩
  · simp
    refine q ((rngI M.items.length).filter fun x => bs[x.toNat]? == some true) (List.Pairwise.filter _ rngI_rising) fun x => ?_
    rw [List.mem_filter, mem_rngI]
    constructor
    · rintro ⟨⟨h0, h1⟩, h2⟩
      exact (hb x h0 h1).mp (by simpa using h2)
    · intro h
      obtain ⟨S, hS, hx⟩ := id h
      obtain ⟨h0, h1, _⟩ := hS x hx
      exact ⟨⟨h0, h1⟩, by simpa using (hb x h0 h1).mpr h⟩
def sp__law_offer_c30774 : HSp := fun ps n C => ∃ (M : Mch) (x : Int), ps = [.dat (Datum.toD M), .dat (.int x)] ∧ MOk M ∧ 0 ≤ x ∧ x < M.items.length ∧ RowsLe 60 M ∧ C (.dat (offerD M x)) n
abbrev offBody : HS := (hSeq (hIfS (hB (hC (eqP false) (hL 3 (hE (hK (.str "")) hNil)))) (hRet (hK .none)) hNext)
    (hIfS (hB (hC (inP true) (hL 3 (hL 2 hNil)))) (hDrop (hApp 2 (hV 3))) hNext))
theorem off_loop {D : HD} {o0 o1 : Option PV} {n : Nat} : ∀ (mv : List (Str × Int)) (xs : List Str) (o3 o4 : Option PV), xs.Nodup → xs.length + mv.length ≤ 90000 →
    ((∃ p ∈ mv, p.1 = ("" : Str)) → ∀ s : Sg, s.n = n → D.rt (.dat .none) s) →
    ((¬ ∃ p ∈ mv, p.1 = ("" : Str)) → ∀ (xs' : List Str) (o3' o4' : Option PV), xs'.Nodup → (∀ x, x ∈ xs' ↔ x ∈ xs ∨ x ∈ mv.map (·.1)) → D.nx ⟨[o0, o1, some (.own (xs'.map .str)), o3', o4'], n⟩) →
    each (gP 3 4) offBody D (mv.map Datum.toD) ⟨[o0, o1, some (.own (xs.map .str)), o3, o4], n⟩ := by
  intro mv
  induction mv with
  | nil => intro xs o3 o4 nd _ _ fin; exact fin (fun ⟨p, h, _⟩ => by cases h) xs o3 o4 nd fun x => by simp
  | cons p mv ih =>
    intro xs o3 o4 nd hl no fin
    have hl' : xs.length + (mv.length + 1) ≤ 90000 := by simpa using hl
    show gP 3 4 (.tuple [.str p.1, .int p.2]) _ _
    simp
    by_cases he : p.1 = ("" : Str)
    · refine Or.inr ⟨he, ?_⟩
      exact no ⟨p, List.mem_cons_self, he⟩ _ rfl
    · refine Or.inl ⟨he, ?_⟩
      have no' : (∃ q ∈ mv, q.1 = ("" : Str)) → ∀ s : Sg, s.n = n → D.rt (.dat .none) s := fun ⟨q, hq, e⟩ => no ⟨q, List.mem_cons_of_mem _ hq, e⟩
      have nx : (¬ ∃ q ∈ mv, q.1 = ("" : Str)) → ¬ ∃ q ∈ p :: mv, q.1 = ("" : Str) := fun h ⟨q, hq, e⟩ => by
        rcases List.mem_cons.mp hq with rfl | hq
        · exact he e
        · exact h ⟨q, hq, e⟩
      refine inP_D p.1 xs rfl rfl (by decide) ?_
      by_cases hx : p.1 ∈ xs
      · refine Or.inl ⟨by simp [hx], ?_⟩
        refine ih xs _ _ nd (by omega) no' fun h xs' a b g1 g2 => fin (nx h) xs' a b g1 fun x => ?_
        rw [g2 x]
        simp only [List.map_cons, List.mem_cons]
        constructor
        · rintro (h | h)
          · exact Or.inl h
          · exact Or.inr (Or.inr h)
        · rintro (h | rfl | h)
          · exact Or.inl h
          · exact Or.inl hx
          · exact Or.inr h
      · refine Or.inr ⟨by simp [hx], by omega, ?_⟩
        have ea : xs.map PyData.str ++ [.str p.1] = (xs ++ [p.1]).map .str := by simp
        rw [ea]
        refine ih (xs ++ [p.1]) _ _ ?_ (by simp; omega) no' fun h xs' a b g1 g2 => fin (nx h) xs' a b g1 fun x => ?_
        · rw [List.nodup_append]
          exact ⟨nd, by simp, fun a ha b hb e => by rw [List.mem_singleton.mp hb] at e; exact hx (e ▸ ha)⟩
        · rw [g2 x]
          simp only [List.map_cons, List.mem_cons, List.mem_append, List.mem_singleton, List.not_mem_nil, or_false]
          constructor
          · rintro ((h | h) | h)
            · exact Or.inl h
            · exact Or.inr (Or.inl h)
            · exact Or.inr (Or.inr h)
          · rintro (h | h | h)
            · exact Or.inl (Or.inl h)
            · exact Or.inl (Or.inr h)
            · exact Or.inr h
def h__law_offer_c30774 : HS :=
    (hSeq (hAsg (hLst hNil) 2)
    (hSeq (hFor (hiT (hC ixW (hL 0 (hL 1 hNil)))) (gP 3 4) (hSeq (hIfS (hB (hC (eqP false) (hL 3 (hE (hK (.str "")) hNil)))) (hRet (hK .none)) hNext)
    (hIfS (hB (hC (inP true) (hL 3 (hL 2 hNil)))) (hDrop (hApp 2 (hV 3))) hNext)))
    (hRet (hC tupW (hE (hC (sortA (Str)) (hL 2 hNil)) hNil)))))
theorem rd__law_offer_c30774 : ∀ pvs n C, pvs.length = 2 → sp__law_offer_c30774 pvs n C → h__law_offer_c30774 ⟨fun s => C (.dat .none) s.n, fun p s => C p s.n, fun _ => False, fun _ => False⟩ ⟨pvs.map some ++ List.replicate (5 - pvs.length) none, n⟩ := by
  intro pvs n C _ h
  obtain ⟨M, x, rfl, ok, h0, h1, le, c⟩ := h
  unfold h__law_offer_c30774
  have hM : (Datum.toD M : PyData) = .tuple (M.items.map Datum.toD) := rfl
  have rl := rowAt_le (M := M) (x := x) le
  rw [hM]
  simp [-hFor, dats]
  simp only [hFor, hiT]
  simp [-hFor, atI_row h0 h1]
  have em : (∃ p ∈ rowAt M x, p.1 = ("" : Str)) ↔ (rowAt M x).any (fun p => decide (p.1 = ("" : Str))) = true := by
    rw [List.any_eq_true]
    exact ⟨fun ⟨p, h1, h2⟩ => ⟨p, h1, decide_eq_true h2⟩, fun ⟨p, h1, h2⟩ => ⟨p, h1, of_decide_eq_true h2⟩⟩
  refine off_loop (n := n) (rowAt M x) [] _ _ .nil (by simp; omega) (fun h s hs => ?_) fun h xs a b nd hm => ?_
  · have eo : offerD M x = .none := by unfold offerD offerOf; rw [if_pos (em.mp h)]
    rw [eo] at c
    show C _ s.n
    rw [hs]; exact c
  · have eo : offerD M x = .tuple ((sortU ((rowAt M x).map (·.1))).map .str) := by unfold offerD offerOf; rw [if_neg fun z => h (em.mpr z)]
    rw [eo] at c
    simp
    refine ⟨xs, rfl, ?_⟩
    simp
    rw [sortL_sortU nd (ys := (rowAt M x).map (·.1)) fun y => by rw [hm y]; simp]
    exact c
def sp__law_endless_97b8f5 : HSp := fun ps n C => ∃ M : Mch, ps = [.dat (Datum.toD M)] ∧ MOk M ∧ RowsLe 60 M ∧ ∀ xs : List Int, Rising xs → (∀ x, x ∈ xs ↔ Endl M x) → C (.own (xs.map .int)) n
abbrev rndBody : HS := (hAsg (hLc (hiL (hV 1)) (gN 3) (hB (hC (eqP true) (hE (hLc (hiT (hC ixW (hL 0 (hL 3 hNil)))) (gP 4 5) (hAnd (hB (hC (eqP false) (hL 4 (hE (hK (.str "")) hNil)))) (hB (hC (inP false) (hL 5 (hL 1 hNil))))) (hV 5) [4, 5]) (hE (hLst hNil) hNil)))) (hV 3) [3]) 1)
theorem rnd_loop {D : HD} {M : Mch} (ok : MOk M) (le : RowsLe 60 M) {n : Nat} : ∀ (ks : List Nat) (xs : List Int) (p1 : PV) (o2 : Option PV), (p1 = .own (xs.map .int) ∨ p1 = .dat (.list (xs.map .int))) → (∀ x ∈ xs, 0 ≤ x ∧ x < M.items.length) → xs.length ≤ 300 →
    (∀ (p1' : PV) (o2' : Option PV), (p1' = .own ((rnds M ks.length xs).map .int) ∨ (ks = [] ∧ p1' = p1)) → D.nx ⟨[some (.dat (.tuple (M.items.map Datum.toD))), some p1', o2', none, none, none], n⟩) →
    each (gN 2) rndBody D (ks.map fun i => PyData.int ((i : Nat) : Int)) ⟨[some (.dat (.tuple (M.items.map Datum.toD))), some p1, o2, none, none, none], n⟩ := by
  intro ks
  induction ks with
  | nil => intro xs p1 o2 _ _ _ fin; exact fin p1 o2 (Or.inr ⟨rfl, rfl⟩)
  | cons k ks ih =>
    intro xs p1 o2 hp hr hl fin
    have key : lcs [3] (gN 3) (hB (hC (eqP true) (hE (hLc (hiT (hC ixW (hL 0 (hL 3 hNil)))) (gP 4 5) (hAnd (hB (hC (eqP false) (hL 4 (hE (hK (.str "")) hNil)))) (hB (hC (inP false) (hL 5 (hL 1 hNil))))) (hV 5) [4, 5]) (hE (hLst hNil) hNil)))) (hV 3) (xs.map .int) [] ⟨[some (.dat (.tuple (M.items.map Datum.toD))), some (.dat (.list (xs.map .int))), some (.dat (.int ((k : Nat) : Int))), none, none, none], n⟩
        fun p s' => each (gN 2) rndBody D (ks.map fun i => PyData.int ((i : Nat) : Int)) (s'.put 1 p) := by
      refine lcs_filter2 (fun x : Int => PyData.int x) (fun x => .int x) (fun x => (hid M x).any fun g => decide (g ∈ xs)) (fun x hx K hF hT => ?_) [] _ (by simp; omega) ?_
      · have rx := hr x hx
        have rl := rowAt_le (M := M) (x := x) le
        simp [-hLc]
        refine hLc_eq.mpr ?_
        simp [atI_row rx.1 rx.2, dats]
        refine lcs_filter2 (fun p : Str × Int => (Datum.toD p : PyData)) (fun p => .int p.2) (fun p => decide (p.1 = ("" : Str)) && decide (p.2 ∈ xs)) (fun p hp K2 hF2 hT2 => ?_) [] _ (by simp; omega) ?_
        · show gP 4 5 (.tuple [.str p.1, .int p.2]) _ _
          simp
          by_cases he : p.1 = ("" : Str)
          · refine Or.inr ⟨he, inP_D p.2 xs rfl rfl (by decide) ?_⟩
            by_cases h2 : p.2 ∈ xs
            · simp [h2]
              exact hT2 (by simp [he, h2]) _ fun K3 hK3 => by simp; exact hK3 _ (by simp)
            · simp [h2]
              exact hF2 (by simp [he, h2]) _ (by simp)
          · refine Or.inl ⟨he, hF2 (by simp [he]) _ (by simp)⟩
        · simp
          have el : (((rowAt M x).filter fun p => decide (p.1 = ("" : Str)) && decide (p.2 ∈ xs)).map fun p => PyData.int p.2) = ((hid M x).filter fun g => decide (g ∈ xs)).map .int := by
            unfold hid
            rw [List.filter_map, List.map_map, List.filter_filter]
            have : (fun p : Str × Int => decide (p.1 = ("" : Str)) && decide (p.2 ∈ xs)) = fun p => ((fun g => decide (g ∈ xs)) ∘ fun p : Str × Int => p.2) p && decide (p.1 = ("" : Str)) := by
              funext p; simp [Bool.and_comm]
            rw [this]; rfl
          rw [el]
          refine eqP_D (α := List Int) ((hid M x).filter fun g => decide (g ∈ xs)) [] rfl rfl (by decide) ?_
          have ee : ((hid M x).filter fun g => decide (g ∈ xs)) = [] ↔ ((hid M x).any fun g => decide (g ∈ xs)) = false := by
            rw [List.filter_eq_nil_iff, List.any_eq_false]
          by_cases hz : ((hid M x).filter fun g => decide (g ∈ xs)) = []
          · refine Or.inl ⟨by simp [hz], hF (ee.mp hz) _ (by simp)⟩
          · refine Or.inr ⟨by simp [hz], hT (by simpa using fun z => hz (ee.mpr z)) _ fun K2 hK2 => ?_⟩
            simp; exact hK2 _ (by simp)
      · simp only [List.nil_append]
        refine ih (rnd M xs) _ _ (Or.inl rfl) (fun x hx => hr x (rnd_mem.mp hx).1) (Nat.le_trans (List.length_filter_le _ _) hl) fun p1' o2' h => ?_
        refine fin p1' o2' (Or.inl ?_)
        rcases h with h | ⟨h1, h2⟩
        · exact h
        · subst h1; exact h2
    rcases hp with rfl | rfl
    · simp [-lcs, -rndBody]
      simpa using key
    · simp [-lcs, -rndBody]
      simpa using key
def h__law_endless_97b8f5 : HS :=
    (hSeq (hAsg (hLR1 (hE (hC lenW (hL 0 hNil)) hNil)) 1)
    (hSeq (hFor (hiR1 (hE (hC lenW (hL 0 hNil)) hNil)) (gN 2) (hAsg (hLc (hiL (hV 1)) (gN 3) (hB (hC (eqP true) (hE (hLc (hiT (hC ixW (hL 0 (hL 3 hNil)))) (gP 4 5) (hAnd (hB (hC (eqP false) (hL 4 (hE (hK (.str "")) hNil)))) (hB (hC (inP false) (hL 5 (hL 1 hNil))))) (hV 5) [4, 5]) (hE (hLst hNil) hNil)))) (hV 3) [3]) 1))
    (hRet (hM 1))))
theorem rd__law_endless_97b8f5 : ∀ pvs n C, pvs.length = 1 → sp__law_endless_97b8f5 pvs n C → h__law_endless_97b8f5 ⟨fun s => C (.dat .none) s.n, fun p s => C p s.n, fun _ => False, fun _ => False⟩ ⟨pvs.map some ++ List.replicate (6 - pvs.length) none, n⟩ := by
  intro pvs n C _ h
  obtain ⟨M, rfl, ok, le, q⟩ := h
  unfold h__law_endless_97b8f5
  have hM : (Datum.toD M : PyData) = .tuple (M.items.map Datum.toD) := rfl
  have hi := ok.hi
  have lo := ok.lo
  rw [hM]
  simp [-hFor, -hLc]
  refine ⟨by omega, ?_⟩
  simp only [hFor, hiR1]
  simp [-hFor, -hLc]
  refine ⟨by omega, ?_⟩
  rw [rgD_rngI]
  have er : rngD 0 M.items.length = (List.range M.items.length).map fun i => PyData.int ((i : Nat) : Int) := by simp [rngD]
  rw [er]
  refine rnd_loop ok le (List.range M.items.length) (rngI M.items.length) _ _ (Or.inl rfl) (fun x hx => mem_rngI.mp hx) (by rw [rngI_len]; exact hi) fun p1 o2 h => ?_
  rcases h with rfl | ⟨h1, _⟩
  · simp
    exact q _ rnds_rising fun x => rnds_endl
  · have := congrArg List.length h1
    rw [List.length_range] at this
    change M.items.length = 0 at this
    omega
end Sk
set_option Elab.async false
set_option linter.all false
set_option maxRecDepth 100000
set_option maxHeartbeats 2000000
namespace Sk
open PySem PySem.Spec PyProof.Rows L2
open Evl (Ex)
/-- a, b = a list -/
@[simp] def gPL (i j : Nat) : HG := fun d s C => match d with
  | .list [a, b] => C ((s.put i (.dat a)).put j (.dat b))
  | _ => False
@[simp] def gTL (i j k : Nat) : HG := fun d s C => match d with
  | .list [a, b, c] => C (((s.put i (.dat a)).put j (.dat b)).put k (.dat c))
  | _ => False
section
variable {X : Cx} {f : Fr} {a : Expr} {i j l : Nat}
theorem hg_pairL (h : PG X a (gUnl X.K 2 (gCons (gName i) (gCons (gName j) gNil)))) : PG X a (lfG X.K f (gPL i j) [i, j]) := h.mono fun v σ H Q q => by
  obtain ⟨F, O, G, s, d, C, R, V, hg, k⟩ := q
  unfold gPL at hg
  split at hg
  · rename_i x y
    cases V with
    | lst hs ha =>
      cases ha with
      | cons h1 h2 =>
        cases h2 with
        | cons h2 h3 =>
          cases h3
          exact ⟨_, _, rfl, Evl.ex_l R.gh hs, rfl, _, _, rfl, _, _, rfl, rfl, k _ _ hg (fun z hz => by rw [List.getElem?_set_ne (fun e => hz (by simp [e])), List.getElem?_set_ne (fun e => hz (by simp [e]))]) ((R.put (vrf_dat h1)).put (vrf_dat h2))⟩
  · exact hg.elim
theorem hg_triL (h : PG X a (gUnl X.K 3 (gCons (gName i) (gCons (gName j) (gCons (gName l) gNil))))) : PG X a (lfG X.K f (gTL i j l) [i, j, l]) := h.mono fun v σ H Q q => by
  obtain ⟨F, O, G, s, d, C, R, V, hg, k⟩ := q
  unfold gTL at hg
  split at hg
  · rename_i x y z
    cases V with
    | lst hs ha =>
      cases ha with
      | cons h1 h2 =>
        cases h2 with
        | cons h2 h3 =>
          cases h3 with
          | cons h3 h4 =>
            cases h4
            exact ⟨_, _, rfl, Evl.ex_l R.gh hs, rfl, _, _, rfl, _, _, rfl, _, _, rfl, rfl, k _ _ hg (fun z hz => by rw [List.getElem?_set_ne (fun e => hz (by simp [e])), List.getElem?_set_ne (fun e => hz (by simp [e])), List.getElem?_set_ne (fun e => hz (by simp [e]))]) (((R.put (vrf_dat h1)).put (vrf_dat h2)).put (vrf_dat h3))⟩
  · exact hg.elim
end
theorem eqP_same {neg : Bool} {p q : PV} {d : PyData} {C : PV → Prop} (hp : p.frz = some d) (hq : q.frz = some d) (h1 : d.plain = true) (h2 : d.depth ≤ 60) (c : C (.dat (.bool (!neg)))) : eqP neg [p, q] C := by
  refine ⟨d, d, hp, hq, h1, h1, by omega, ?_⟩
  rw [SeqAt.eqv_refl_plain d h1]
  cases neg <;> exact c
/-- [f(a) for a in xs], where each item may draw -/
theorem lcs_n {α β : Type} {vs : List Nat} {g : HG} {t : HE} {sl : List (Option PV)} {P : β → Prop} {toD : β → PyData} {c N : Nat} (e : α → PyData) : ∀ (xs : List α) (acc : List PyData) (n : Nat) (C : PV → Sg → Prop),
    (∀ a ∈ xs, ∀ n, n ≤ N → ∀ K : PV → Sg → Prop, (∀ (b : β) (n' : Nat) (s3 : Sg), P b → n' ≤ n + c → s3.wipe vs = ⟨sl, n'⟩ → K (.dat (toD b)) s3) → g (e a) ⟨sl, n⟩ fun s1 => t s1 K) → n + c * xs.length ≤ N → acc.length + xs.length ≤ 100000 →
    (∀ (bs : List β) (n' : Nat), bs.length = xs.length → (∀ b ∈ bs, P b) → n' ≤ n + c * xs.length → C (.own (acc ++ bs.map toD)) ⟨sl, n'⟩) → lcs vs g hYes t (xs.map e) acc ⟨sl, n⟩ C := by
  intro xs
  induction xs with
  | nil => intro acc n C _ _ _ fin; simpa using fin [] n rfl (fun b h => by cases h) (by simp)
  | cons a xs ih =>
    intro acc n C h hN hl fin
    have hl' : acc.length + (xs.length + 1) ≤ 100000 := by simpa using hl
    have hN' : n + c * (xs.length + 1) ≤ N := by simpa using hN
    rw [Nat.mul_succ] at hN'
    show g (e a) ⟨sl, n⟩ fun s1 => hYes s1 fun b s2 => if b = true then t s2 fun p s3 => ∃ x, p.frz = some x ∧ acc.length < 100000 ∧ lcs vs g hYes t (xs.map e) (acc ++ [x]) (s3.wipe vs) C else lcs vs g hYes t (xs.map e) acc (s2.wipe vs) C
    refine h a List.mem_cons_self n (by omega) _ fun b n' s3 hb hn' hs => ⟨_, rfl, by omega, ?_⟩
    rw [hs]
    refine ih _ n' C (fun a' ha' => h a' (List.mem_cons_of_mem _ ha')) (by omega) (by simp; omega) fun bs n2 h1 h2 h3 => ?_
    have := fin (b :: bs) n2 (by simp [h1]) (fun x hx => by
      rcases List.mem_cons.mp hx with rfl | hx
      · exact hb
      · exact h2 x hx) (by simp only [List.length_cons, Nat.mul_succ]; omega)
    simpa using this
end Sk
set_option Elab.async false
set_option linter.all false
set_option maxRecDepth 100000
set_option maxHeartbeats 4000000
/-! a law's own call, and what its top has written -/
namespace Sk
open PySem PySem.Spec PyProof.Rows L2
open Evl (Ex)
/-- law(script): True, whatever the script -/
def spLaw (K : PySem.W.Frag) : Sp := fun vs H Q _ => ∃ (a : Addr) (ns : List Int), vs = [.ref a] ∧ SqL K H a (ns.map V.int) ∧ ns.length ≤ 63 ∧ ∀ H', Q (.bl true) H'
abbrev lawD : HD := ⟨fun _ => False, fun p _ => p = .dat (.bool true), fun _ => False, fun _ => False⟩
theorem law_begin {K : PySem.W.Frag} {N : List Str} {n : Nat} {t : HS} {a : Addr} {ns : List Int} {H : Hp} {Q : VK} (hN : N.length = n + 2) (hS : SqL K H a (ns.map V.int)) (hl : ns.length ≤ 63) (q : ∀ H', Q (.bl true) H')
    (rd : t lawD ⟨some (.dat (.list (ns.map .int))) :: some .drw :: List.replicate n none, 0⟩) :
    (tSeq (tAsg (tCall (spBegun K) [] E0 (tCons (tVar 0) tNil)) (gName 1)) (lfS K f0 t)) ⟨fun _ H' => Q .non H', Q, fun _ _ => False, fun _ _ => False⟩ (L2.start N [.ref a]) H := by
  have e : L2.start N [.ref a] = some (.ref a) :: none :: List.replicate n none := by
    unfold L2.start
    rw [hN]
    rfl
  rw [e]
  refine ⟨.ref a, rfl, a, ns, rfl, hS, hl, fun m l c H' ex hm hlx hc dr => ?_⟩
  obtain ⟨k, cs, ls, rest, h1, h2, h3, h4, h5, h6, h7, h8⟩ := id dr
  show lfS K f0 t _ (some (.ref a) :: some (.ref m) :: List.replicate n none) H'
  refine ⟨⟨true, m, l, c, H', fun b => b = m ∨ b = l ∨ b = c, fun b => b = m ∨ b = l, 0⟩, fun b => b = m ∨ b = l ∨ b = c, H, ⟨some (.dat (.list (ns.map .int))) :: some .drw :: List.replicate n none, 0⟩, lawD, ?_, rd, ?_⟩
  · exact {
      gh := ex
      fh := fun _ _ _ h => h
      go := fun b hb => by
        rcases hb with rfl | rfl | rfl
        · exact hm
        · exact hlx
        · exact hc
      oh := fun b hb => by
        rcases hb with rfl | rfl | rfl
        · rw [h1]; intro z; cases z
        · rw [h7]; intro z; cases z
        · rw [h4]; intro z; cases z
      mh := fun b hb => by
        rcases hb with rfl | rfl
        · rw [h1]; intro z; cases z
        · rw [h7]; intro z; cases z
      mo := fun _ => ⟨Or.inl rfl, Or.inr (Or.inl rfl), Or.inr (Or.inr rfl), Or.inl rfl, Or.inr rfl⟩
      dr := fun _ => dr
      ln := by simp
      sl := fun i p h => by
        match i, h with
        | 0, h =>
          simp at h; subst h
          exact ⟨.ref a, rfl, .lst hS (dpAll_ints ns)⟩
        | 1, h =>
          simp at h; subst h
          exact ⟨.ref m, rfl, rfl, rfl⟩
        | i + 2, h =>
          simp only [List.getElem?_cons_succ] at h
          rw [List.getElem?_replicate] at h
          split at h <;> cases h
      ds := fun i j p q v _ h _ mp => by
        match i, h with
        | 0, h => simp at h; subst h; cases mp
        | 1, h => simp at h; subst h; cases mp
        | i + 2, h =>
          simp only [List.getElem?_cons_succ] at h
          rw [List.getElem?_replicate] at h
          split at h <;> cases h }
  · exact {
      nx := fun _ _ _ _ _ _ z => z.elim
      rt := fun p G s σ H2 v _ R V z => by
        have z : p = .dat (.bool true) := z
        subst z
        have e := vr_bool V
        subst e
        exact q H2
      bk := fun _ _ _ _ _ _ z => z.elim
      ct := fun _ _ _ _ _ _ z => z.elim }
section
variable {P : Program} {w : World} {K : PySem.W.Frag} {mg : Str → Option Value} {base h : Heap} {fa : Addr} {fd : FuncData}
theorem ok_law {k n : Nat} {st : Stmt} {N : List Str} {hs : HS} (Fn : Fun K "law" "law" st fa fd) (S : FnScope N ["_law_script"] (defScope st)) (hN : N.length = n + 2)
    (body : ∀ (cdv : Value) (A : Around) (outer : List Env) (s : Shared) (H : Hp) (E : XK), (A.deeper (envOfC "law" (defScope st) s.heap.objs.size fa cdv)).guards = some [] → Room k (A.deeper (envOfC "law" (defScope st) s.heap.objs.size fa cdv)) →
      PSs (cxOf CX0 P w K mg base N "law" (defScope st) fa cdv A outer s H E).nox (defBody st) (tSeq (tAsg (tCall (spBegun K) [] E0 (tCons (tVar 0) tNil)) (gName 1)) (lfS K f0 hs)))
    (rd : ∀ ns : List Int, ns.length ≤ 63 → hs lawD ⟨some (.dat (.list (ns.map .int))) :: some .drw :: List.replicate n none, 0⟩) : GnOk P w K mg base CX0 (k + 1) fa fd ["_law_script"] (spLaw K) := by
  refine gn_ok Fn S (fun vs H Q E h => by obtain ⟨a, ns, rfl, _⟩ := h; rfl) fun cdv A outer s H vs Q E hgd hr h => ?_
  obtain ⟨a, ns, rfl, hS, hl, q⟩ := h
  exact ⟨_, body cdv A outer s H E hgd hr, law_begin hN hS hl q (rd ns hl)⟩
/-- the drawing's two defs -/
theorem has_draw {x : Str} {st : Stmt} {k : Nat} (hk : 1 ≤ k) (Fn : Fun K x x st fa fd) (hm : mg x = some (.ref fa)) {ps : List Str} (hp : ps.length = 2) (b : Binds K fd ps []) {t : TS} {N : List Str} (S : FnScope N ps (defScope st))
    (body : ∀ (cdv : Value) (A : Around) (outer : List Env) (s : Shared) (H : Hp) (E : XK), (A.deeper (envOfC x (defScope st) s.heap.objs.size fa cdv)).guards = some [] → Room 1 (A.deeper (envOfC x (defScope st) s.heap.objs.size fa cdv)) →
      PSs (cxOf CX0 P w K mg base N x (defScope st) fa cdv A outer s H E).nox (defBody st) t)
    (rd : ∀ vs H Q (E : XK), SpH K 2 spDraw vs H Q E → t ⟨fun _ H' => Q .non H', Q, fun _ _ => False, fun _ _ => False⟩ (L2.start N vs) H) : Has P w K mg base 2 x 2 spDraw :=
  ⟨fa, fd, ps, hp, gn_ok Fn S (fun vs H Q E h => by rw [hp]; exact vals_len vs H Q E h) fun cdv A outer s H vs Q E hgd hr h => ⟨t, body cdv A outer s H E hgd hr, rd vs H Q E h⟩, hm, Fn.kp, b⟩
theorem begun_ok {st : Stmt} {N : List Str} {t : TS} (Fn : Fun K "_law_begun" "_law_begun" st fa fd) (S : FnScope N ["_law_script"] (defScope st))
    (body : ∀ (cdv : Value) (A : Around) (outer : List Env) (s : Shared) (H : Hp) (E : XK), (A.deeper (envOfC "_law_begun" (defScope st) s.heap.objs.size fa cdv)).guards = some [] → Room 1 (A.deeper (envOfC "_law_begun" (defScope st) s.heap.objs.size fa cdv)) →
      PSs (cxOf CX0 P w K mg base N "_law_begun" (defScope st) fa cdv A outer s H E).nox (defBody st) t)
    (rd : ∀ vs H Q (E : XK), spBegun K vs H Q E → t ⟨fun _ H' => Q .non H', Q, fun _ _ => False, fun _ _ => False⟩ (L2.start N vs) H) : GnOk P w K mg base CX0 2 fa fd ["_law_script"] (spBegun K) :=
  gn_ok Fn S (fun vs H Q E h => by obtain ⟨a, ns, rfl, _⟩ := h; rfl) fun cdv A outer s H vs Q E hgd hr h => ⟨t, body cdv A outer s H E hgd hr, rd vs H Q E h⟩
/-- constants of the top -/
theorem cst_v {x : Str} {v : V} {u : Value} {d : PyData} (X : K.In h) (G : h.Ns mainGlobals mg) (a : PySem.W.nsIn K mainGlobals x = some (some u)) (r : RelV v u) (hd : ∀ G, Dp K G v d) : Cst K mg x d := ⟨v, u, PySem.W.mg_of X G a, r, hd⟩
def TupK (o : Obj) (vs : List V) : Prop := ∃ (its : Array Value) (n : Nat), o.cls = .type "tuple" ∧ o.data = .seq its n ∧ its.size ≤ sizeLine ∧ Vals vs its.toList
theorem cst_t {x : Str} {b : Addr} {o : Obj} {vs : List V} {ds : List PyData} (X : K.In h) (G : h.Ns mainGlobals mg) (a : PySem.W.nsIn K mainGlobals x = some (some (.ref b))) (l : K.lookup b = some o) (t : TupK o vs) (hd : ∀ G, DpAll K G vs ds) : Cst K mg x (.tuple ds) := by
  obtain ⟨its, n, h1, h2, h3, h4⟩ := t
  exact ⟨.ref b, _, PySem.W.mg_of X G a, rfl, fun G => .tup (Or.inr ⟨o, its, n, l, h1, h2, h3, h4⟩) (hd G)⟩
end
end Sk
set_option Elab.async false
set_option linter.all false
set_option maxRecDepth 100000
set_option maxHeartbeats 4000000
namespace Sk
open PySem PySem.Spec PyProof.Rows L2
open PySem.W (Datum DatumOrd Tup T3 T4)
open Evl (Ex)
/-! k22 -/
def hidR (r : List (Str × Int)) : List Int := (r.filter fun p => decide (p.1 = ("" : Str))).map (·.2)
def rndH (H : List (List Int)) (xs : List Int) : List Int := xs.filter fun x => ((H[x.toNat]?).getD []).any fun g => decide (g ∈ xs)
def rndsH (H : List (List Int)) : Nat → List Int → List Int
  | 0, xs => xs
  | k + 1, xs => rndsH H k (rndH H xs)
theorem hid_run {M : Mch} {H : List (List Int)} (e : (M.items.map fun r => hidR r.items) = H) (x : Int) : hid M x = (H[x.toNat]?).getD [] := by
  rw [← e, List.getElem?_map]
  unfold hid rowAt
  cases h : M.items[x.toNat]? <;> rfl
theorem rnds_run {M : Mch} {H : List (List Int)} (e : (M.items.map fun r => hidR r.items) = H) : ∀ (k : Nat) (xs : List Int), rnds M k xs = rndsH H k xs
  | 0, _ => rfl
  | k + 1, xs => by
    show rnds M k (rnd M xs) = rndsH H k (rndH H xs)
    have : rnd M xs = rndH H xs := by
      unfold rnd rndH
      congr 1
      funext x
      rw [hid_run e x]
    rw [this, rnds_run e k]
theorem endl_run {M : Mch} {H : List (List Int)} {ys : List Int} (e : (M.items.map fun r => hidR r.items) = H) (h : rndsH H H.length (rngI H.length) = ys) (x : Int) : x ∈ ys ↔ Endl M x := by
  have hl : H.length = M.items.length := by rw [← e, List.length_map]
  rw [← rnds_endl, ← hl, rnds_run e, h]
theorem endl_is {M : Mch} {H : List (List Int)} {xs ys : List Int} (e : (M.items.map fun r => hidR r.items) = H) (h : rndsH H H.length (rngI H.length) = ys) (hy : Rising ys) (hx : Rising xs) (hm : ∀ x, x ∈ xs ↔ Endl M x) : xs = ys := hx.eq hy fun x => (hm x).trans (endl_run e h x).symm
theorem str_pos {a : Str} (h : a ≠ "") : DatumOrd.lt ("" : Str) a = true := by
  refine decide_eq_true ?_
  have e : ("" : Str).cps.toList = [] := rfl
  rw [e]
  cases q : a.cps.toList with
  | nil =>
    exfalso
    apply h
    cases a with
    | mk cps =>
      have : cps = #[] := Array.toList_inj.mp q
      rw [this]; rfl
  | cons x xs => exact List.nil_lt_cons x xs
theorem word_ne {a : Str} (h : isWordS a = true) : a ≠ "" := fun e => by
  subst e
  exact absurd h (by decide +kernel)
theorem lt_p1 {a b : Str} {i j : Int} (h : DatumOrd.lt a b = true) : DatumOrd.lt (a, i) (b, j) = true := by
  show (if a = b then _ else DatumOrd.lt a b) = true
  rw [if_neg fun e => by rw [e, lt_irr] at h; cases h]; exact h
theorem lt_p2 {a : Str} {i j : Int} (h : i < j) : DatumOrd.lt (a, i) (a, j) = true := by
  show (if a = a then decide (i < j) else _) = true
  rw [if_pos rfl]; exact decide_eq_true h
def sp__law_right_127031 : HSp := fun ps n C => ∃ M : Mch, ps = [.dat (Datum.toD M)] ∧ MOk M ∧ RowsLe 60 M ∧ C (.dat (.bool true)) n
theorem offer_show {M : Mch} (ok : MOk M) (le : RowsLe 60 M) {x : Int} : ShowOk (offerD M x) := by
  unfold offerD offerOf
  by_cases h : (rowAt M x).any (fun p => decide (p.1 = ("" : Str))) = true
  · rw [if_pos h]; exact none_showK.ok (by decide) (by decide)
  · rw [if_neg h]
    have rl := rowAt_le (M := M) (x := x) le
    have sl := sortU_len ((rowAt M x).map (·.1))
    rw [List.length_map] at sl
    refine (show_words fun w hw => ?_).tup (by decide) (by have e : (2 : Nat) ^ 20 = 1048576 := by decide
                                                           omega)
    obtain ⟨p, hp, rfl⟩ := List.mem_map.mp (mem_sortU.mp hw)
    refine (rowAt_mv ok hp).2.2.resolve_right fun e => h (List.any_eq_true.mpr ⟨p, hp, decide_eq_true e⟩)
theorem ints_show {xs : List Int} {n : Nat} (hx : Rising xs) (hr : ∀ x ∈ xs, 0 ≤ x ∧ x < (n : Int)) (hn : n ≤ 10000) : ShowOk (.tuple (xs.map .int)) := by
  have hl := rng_len hx.nodup hr
  refine (show_ints fun x hx => ?_).tup (by decide) (by have e : (2 : Nat) ^ 20 = 1048576 := by decide
                                                        omega)
  have := hr x hx
  exact ⟨this.1, by omega⟩
theorem endl_rng {M : Mch} {x : Int} (h : Endl M x) : 0 ≤ x ∧ x < M.items.length := by
  obtain ⟨S, hS, hx⟩ := h
  obtain ⟨a, b, _⟩ := hS x hx
  exact ⟨a, b⟩
abbrev r22Body : HS := (hIfS (hB (hC (eqP true) (hE (hC reprW (hE (hCall sp_offer_9ca1d5 2 (hL 0 (hL 1 hNil))) hNil)) (hE (hC reprW (hE (hCall sp__law_offer_c30774 2 (hL 0 (hL 1 hNil))) hNil)) hNil)))) (hRet (hK (.bool false))) hNext)
theorem r22_loop {D : HD} {M : Mch} (ok : MOk M) (le : RowsLe 60 M) {o2 : Option PV} {n : Nat} : ∀ (ks : List Nat) (o1 : Option PV), (∀ k ∈ ks, k < M.items.length) → (∀ o1', D.nx ⟨[some (.dat (Datum.toD M)), o1', o2], n⟩) →
    each (gN 1) r22Body D (ks.map fun i => PyData.int ((i : Nat) : Int)) ⟨[some (.dat (Datum.toD M)), o1, o2], n⟩ := by
  intro ks
  induction ks with
  | nil => intro o1 _ fin; exact fin o1
  | cons k ks ih =>
    intro o1 hk fin
    have k0 := hk k List.mem_cons_self
    have sh := offer_show ok le (x := (k : Int))
    simp
    refine ⟨M, k, rfl, ok, by omega, by omega, le, _, rfl, repr_ok sh rfl ⟨_, rfl, M, k, rfl, ok, by omega, by omega, le, _, rfl, repr_ok sh rfl ⟨_, rfl, eq_str.mpr (Or.inl ⟨by simp, ?_⟩)⟩⟩⟩
    exact ih _ (fun j hj => hk j (List.mem_cons_of_mem _ hj)) fin
def h__law_right_127031 : HS :=
    (hSeq (hFor (hiR1 (hE (hC lenW (hL 0 hNil)) hNil)) (gN 1) (hIfS (hB (hC (eqP true) (hE (hC reprW (hE (hCall sp_offer_9ca1d5 2 (hL 0 (hL 1 hNil))) hNil)) (hE (hC reprW (hE (hCall sp__law_offer_c30774 2 (hL 0 (hL 1 hNil))) hNil)) hNil)))) (hRet (hK (.bool false))) hNext))
    (hSeq (hAsg (hCall sp_endless_4cf184 1 (hL 0 hNil)) 2)
    (hRet (hAndV (hC isiW (hL 2 (fun s C => hNil s fun ps s2 => C (.val (.ty "tuple") :: ps) s2))) (hC (eqP false) (hE (hC reprW (hL 2 hNil)) (hE (hC reprW (hE (hC tupW (hE (hCall sp__law_endless_97b8f5 1 (hL 0 hNil)) hNil)) hNil)) hNil)))))))
theorem rd__law_right_127031 : ∀ pvs n C, pvs.length = 1 → sp__law_right_127031 pvs n C → h__law_right_127031 ⟨fun s => C (.dat .none) s.n, fun p s => C p s.n, fun _ => False, fun _ => False⟩ ⟨pvs.map some ++ List.replicate (3 - pvs.length) none, n⟩ := by
  intro pvs n C _ h
  obtain ⟨M, rfl, ok, le, q⟩ := h
  unfold h__law_right_127031
  have hi := ok.hi
  have hM : (Datum.toD M : PyData) = .tuple (M.items.map Datum.toD) := rfl
  simp [-hFor]
  simp only [hFor, hiR1]
  simp [-hFor]
  rw [hM]
  simp [-hFor]
  refine ⟨by omega, ?_⟩
  have er : rngD 0 M.items.length = (List.range M.items.length).map fun i => PyData.int ((i : Nat) : Int) := by simp [rngD]
  rw [er]
  refine r22_loop ok le (List.range M.items.length) _ (fun k hk => List.mem_range.mp hk) fun o1 => ?_
  simp
  refine ⟨M, rfl, ok, le, fun xs hx hm => ?_⟩
  have sh : ShowOk (.tuple (xs.map .int)) := ints_show (n := M.items.length) hx (fun x h => endl_rng ((hm x).mp h)) (by omega)
  simp
  refine repr_ok sh rfl ⟨_, rfl, M, rfl, ok, le, fun ys hy hmy => ?_⟩
  have e : ys = xs := hy.eq hx fun x => (hmy x).trans (hm x).symm
  subst e
  simp
  refine repr_ok sh rfl ⟨_, rfl, eq_str.mpr ?_⟩
  simpa using q
/-! the machines that are told by hand -/
def ring22 (a b : Str) : Mch := ⟨[⟨[(("" : Str), 1)]⟩, ⟨[(("" : Str), 2), (a, 4)]⟩, ⟨[(("" : Str), 1)]⟩, ⟨[(("" : Str), 0), (b, 3)]⟩, ⟨[(a, 4), (b, 4), (b, 5)]⟩, ⟨[]⟩]⟩
def chain22 (a : Str) : Mch := ⟨[⟨[(("" : Str), 1)]⟩, ⟨[(("" : Str), 2)]⟩, ⟨[(("" : Str), 3)]⟩, ⟨[(a, 0)]⟩]⟩
def self22 (a b : Str) : Mch := ⟨[⟨[(a, 1)]⟩, ⟨[(("" : Str), 1), (b, 0)]⟩]⟩
section
variable {a b : Str} (ha : isWordS a = true) (hb : isWordS b = true) (hab : DatumOrd.lt a b = true)
include ha hb hab
theorem row_mk {many : Int} {r : List (Str × Int)} (h : ∀ q ∈ r, VM many [a, b] q) (up : Rising r) (l : r.length ≤ 4) : (∀ q ∈ (Tup.mk r).items, VM many [a, b] q) ∧ Rising (Tup.mk r).items ∧ (Tup.mk r).items.length ≤ 4 := ⟨h, up, l⟩
theorem ring22_ok : MOk (ring22 a b) := by
  have ea := str_pos (word_ne ha)
  have eb := str_pos (word_ne hb)
  refine mok_of (many := 6) (ws := [a, b]) (by simp) (by simp) rfl (by show (2 : Nat) ≤ 8; decide) (fun w hw => ?_) fun r hr => ?_
  · simp at hw; rcases hw with rfl | rfl <;> assumption
  · simp at hr
    rcases hr with rfl | rfl | rfl | rfl | rfl | rfl
    · exact row_mk ha hb hab (fun q hq => by simp at hq; subst hq; exact ⟨by simp, by simp, by simp⟩) (by simp [Rising]) (by show (1 : Nat) ≤ 4; decide)
    · refine row_mk ha hb hab (fun q hq => ?_) (by simp [Rising]; exact lt_p1 ea) (by show (2 : Nat) ≤ 4; decide)
      simp at hq; rcases hq with rfl | rfl <;> exact ⟨by simp, by simp, by simp⟩
    · exact row_mk ha hb hab (fun q hq => by simp at hq; subst hq; exact ⟨by simp, by simp, by simp⟩) (by simp [Rising]) (by show (1 : Nat) ≤ 4; decide)
    · refine row_mk ha hb hab (fun q hq => ?_) (by simp [Rising]; exact lt_p1 eb) (by show (2 : Nat) ≤ 4; decide)
      simp at hq; rcases hq with rfl | rfl <;> exact ⟨by simp, by simp, by simp⟩
    · refine row_mk ha hb hab (fun q hq => ?_) (by simp [Rising]; exact ⟨⟨lt_p1 hab, lt_p1 hab⟩, lt_p2 (by decide)⟩) (by show (3 : Nat) ≤ 4; decide)
      simp at hq; rcases hq with rfl | rfl | rfl <;> exact ⟨by simp, by simp, by simp⟩
    · exact row_mk ha hb hab (fun q hq => by cases hq) List.Pairwise.nil (by decide)
theorem chain22_ok : MOk (chain22 a) := by
  refine mok_of (many := 4) (ws := [a, b]) (by simp) (by simp) rfl (by show (2 : Nat) ≤ 8; decide) (fun w hw => ?_) fun r hr => ?_
  · simp at hw; rcases hw with rfl | rfl <;> assumption
  · simp at hr
    rcases hr with rfl | rfl | rfl | rfl <;> exact row_mk ha hb hab (fun q hq => by simp at hq; subst hq; exact ⟨by simp, by simp, by simp⟩) (by simp [Rising]) (by show (1 : Nat) ≤ 4; decide)
theorem self22_ok : MOk (self22 a b) := by
  have eb := str_pos (word_ne hb)
  refine mok_of (many := 2) (ws := [a, b]) (by simp) (by simp) rfl (by show (2 : Nat) ≤ 8; decide) (fun w hw => ?_) fun r hr => ?_
  · simp at hw; rcases hw with rfl | rfl <;> assumption
  · simp at hr
    rcases hr with rfl | rfl
    · exact row_mk ha hb hab (fun q hq => by simp at hq; subst hq; exact ⟨by simp, by simp, by simp⟩) (by simp [Rising]) (by show (1 : Nat) ≤ 4; decide)
    · refine row_mk ha hb hab (fun q hq => ?_) (by simp [Rising]; exact lt_p1 eb) (by show (2 : Nat) ≤ 4; decide)
      simp at hq; rcases hq with rfl | rfl <;> exact ⟨by simp, by simp, by simp⟩
theorem ring_endl {xs : List Int} (hx : Rising xs) (hm : ∀ x, x ∈ xs ↔ Endl (ring22 a b) x) : xs = [0, 1, 2, 3] := by
  have na := word_ne ha
  have nb := word_ne hb
  refine endl_is (H := [[1], [2], [1], [0], [], []]) ?_ (by decide +kernel) (by unfold Rising; decide +kernel) hx hm
  simp [ring22, hidR, na, nb]
theorem chain_endl {xs : List Int} (hx : Rising xs) (hm : ∀ x, x ∈ xs ↔ Endl (chain22 a) x) : xs = [] := by
  have na := word_ne ha
  refine endl_is (H := [[1], [2], [3], []]) ?_ (by decide +kernel) (by unfold Rising; decide +kernel) hx hm
  simp [chain22, hidR, na]
theorem self_endl {xs : List Int} (hx : Rising xs) (hm : ∀ x, x ∈ xs ↔ Endl (self22 a b) x) : xs = [1] := by
  have na := word_ne ha
  have nb := word_ne hb
  refine endl_is (H := [[], [1]]) ?_ (by decide +kernel) (by unfold Rising; decide +kernel) hx hm
  simp [self22, hidR, na, nb]
theorem ring_offers : offerD (ring22 a b) 4 = .tuple [.str a, .str b] ∧ offerD (ring22 a b) 5 = .tuple [] ∧ offerD (ring22 a b) 1 = .none ∧ offerD (ring22 a b) 3 = .none := by
  have na := word_ne ha
  have nb := word_ne hb
  refine ⟨?_, ?_, ?_, ?_⟩
  · have e : sortU ((rowAt (ring22 a b) 4).map (·.1)) = [a, b] := (sortU_eq (by simp [Rising]; exact hab) fun x => by simp [ring22, rowAt]).symm
    unfold offerD offerOf
    rw [if_neg (by simp [ring22, rowAt, na, nb]), e]; rfl
  · have e : sortU ((rowAt (ring22 a b) 5).map (·.1)) = [] := (sortU_eq List.Pairwise.nil fun x => by simp [ring22, rowAt]).symm
    unfold offerD offerOf
    rw [if_neg (by simp [ring22, rowAt]), e]; rfl
  · unfold offerD offerOf
    rw [if_pos (by simp [ring22, rowAt])]
  · unfold offerD offerOf
    rw [if_pos (by simp [ring22, rowAt])]
theorem chain_offer : offerD (chain22 a) 3 = .tuple [.str a] := by
  have na := word_ne ha
  have e : sortU ((rowAt (chain22 a) 3).map (·.1)) = [a] := (sortU_eq (by simp [Rising]) fun x => by simp [chain22, rowAt]).symm
  unfold offerD offerOf
  rw [if_neg (by simp [chain22, rowAt, na]), e]; rfl
end
theorem m0_endl {xs : List Int} (hx : Rising xs) (hm : ∀ x, x ∈ xs ↔ Endl ⟨[⟨[]⟩]⟩ x) : xs = [] := endl_is (M := ⟨[⟨[]⟩]⟩) (H := [[]]) (by rfl) (by decide +kernel) (by unfold Rising; decide +kernel) hx hm
theorem m0_ok : MOk ⟨[⟨[]⟩]⟩ := mok_of (many := 1) (ws := []) (by decide) (by decide) rfl (by decide) (fun w h => by cases h) fun r hr => by
  rw [List.mem_singleton.mp hr]; exact row0
theorem two_words {ws : List Str} (hl : ws.length = 2) (hw : ∀ w ∈ ws, isWordS w = true) (nd : ws.Nodup) : ∃ a b, sortL ws = [a, b] ∧ isWordS a = true ∧ isWordS b = true ∧ DatumOrd.lt a b = true := by
  have l2 : (sortL ws).length = 2 := by rw [sortL_len, hl]
  have up := sortL_rising nd
  match h : sortL ws, l2 with
  | [a, b], _ =>
    rw [h] at up
    exact ⟨a, b, rfl, hw a (mem_sortL.mp (by rw [h]; simp)), hw b (mem_sortL.mp (by rw [h]; simp)), by simpa [Rising] using up⟩
theorem le_of4 {M : Mch} (h : RowsLe 4 M) : RowsLe 60 M := fun r hr => Nat.le_trans (h r hr) (by decide)
def sp__law_hand_right_aaa9ed : HSp := fun ps n C => ps = [.drw] ∧ n < 100000000 ∧ C (.dat (.bool true)) (n + 5)
def h__law_hand_right_aaa9ed : HS :=
    (hSeq (fun D s => (hC (sortA (Str)) (hE (hCall sp__law_words_aaf2f6 2 (hL 0 (hE (hK (.int 2)) hNil))) hNil)) s fun p s1 => ∃ d, p.frz = some d ∧ (gPL 1 2) d s1 D.nx)
    (hSeq (hAsg (hTup (hE (hTup (hE (hTup (hE (hK (.str "")) (hE (hK (.int 1)) hNil))) hNil)) (hE (hTup (hE (hTup (hE (hK (.str "")) (hE (hK (.int 2)) hNil))) (hE (hTup (hE (hV 1) (hE (hK (.int 4)) hNil))) hNil))) (hE (hTup (hE (hTup (hE (hK (.str "")) (hE (hK (.int 1)) hNil))) hNil)) (hE (hTup (hE (hTup (hE (hK (.str "")) (hE (hK (.int 0)) hNil))) (hE (hTup (hE (hV 2) (hE (hK (.int 3)) hNil))) hNil))) (hE (hTup (hE (hTup (hE (hV 1) (hE (hK (.int 4)) hNil))) (hE (hTup (hE (hV 2) (hE (hK (.int 4)) hNil))) (hE (hTup (hE (hV 2) (hE (hK (.int 5)) hNil))) hNil)))) (hE (hTup hNil) hNil))))))) 3)
    (hSeq (hAsg (hLst (hE (hCall sp_endless_4cf184 1 (hL 3 hNil)) (hE (hCall sp_offer_9ca1d5 2 (hL 3 (hE (hK (.int 4)) hNil))) (hE (hCall sp_offer_9ca1d5 2 (hL 3 (hE (hK (.int 5)) hNil))) (hE (hCall sp_offer_9ca1d5 2 (hL 3 (hE (hK (.int 1)) hNil))) (hE (hCall sp_offer_9ca1d5 2 (hL 3 (hE (hK (.int 3)) hNil))) hNil)))))) 4)
    (hSeq (hIfS (hB (hC (eqP true) (hL 4 (hE (hLst (hE (hTup (hE (hK (.int 0)) (hE (hK (.int 1)) (hE (hK (.int 2)) (hE (hK (.int 3)) hNil))))) (hE (hTup (hE (hV 1) (hE (hV 2) hNil))) (hE (hTup hNil) (hE (hK .none) (hE (hK .none) hNil)))))) hNil)))) (hRet (hK (.bool false))) hNext)
    (hSeq (hAsg (hTup (hE (hTup (hE (hTup (hE (hK (.str "")) (hE (hK (.int 1)) hNil))) hNil)) (hE (hTup (hE (hTup (hE (hK (.str "")) (hE (hK (.int 2)) hNil))) hNil)) (hE (hTup (hE (hTup (hE (hK (.str "")) (hE (hK (.int 3)) hNil))) hNil)) (hE (hTup (hE (hTup (hE (hV 1) (hE (hK (.int 0)) hNil))) hNil)) hNil))))) 5)
    (hSeq (hAsg (hTup (hE (hTup (hE (hTup (hE (hV 1) (hE (hK (.int 1)) hNil))) hNil)) (hE (hTup (hE (hTup (hE (hK (.str "")) (hE (hK (.int 1)) hNil))) (hE (hTup (hE (hV 2) (hE (hK (.int 0)) hNil))) hNil))) hNil))) 6)
    (hSeq (hAsg (hLst (hE (hCall sp_endless_4cf184 1 (hL 5 hNil)) (hE (hCall sp_endless_4cf184 1 (hL 6 hNil)) (hE (hCall sp_endless_4cf184 1 (hE (hTup (hE (hTup hNil) hNil)) hNil)) (hE (hCall sp_offer_9ca1d5 2 (hL 5 (hE (hK (.int 3)) hNil))) (hE (hCall sp_offer_9ca1d5 2 (hE (hTup (hE (hTup hNil) hNil)) (hE (hK (.int 0)) hNil))) hNil)))))) 4)
    (hRet (hC (eqP false) (hL 4 (hE (hLst (hE (hTup hNil) (hE (hTup (hE (hK (.int 1)) hNil)) (hE (hTup hNil) (hE (hTup (hE (hV 1) hNil)) (hE (hTup hNil) hNil)))))) hNil)))))))))))
theorem rd__law_hand_right_aaa9ed : ∀ pvs n C, pvs.length = 1 → sp__law_hand_right_aaa9ed pvs n C → h__law_hand_right_aaa9ed ⟨fun s => C (.dat .none) s.n, fun p s => C p s.n, fun _ => False, fun _ => False⟩ ⟨pvs.map some ++ List.replicate (7 - pvs.length) none, n⟩ := by
  intro pvs n C _ h
  obtain ⟨rfl, hn, q⟩ := h
  unfold h__law_hand_right_aaa9ed
  simp [dats]
  refine ⟨2, rfl, by decide, by decide, by omega, fun ws hl hws hnd => ?_⟩
  obtain ⟨a, b, es, ha, hb, hab⟩ := two_words (by omega) hws hnd
  refine ⟨_, rfl, ws, rfl, ?_⟩
  rw [es]
  simp [dats]
  have ro := ring22_ok ha hb hab
  have rle : RowsLe 60 (ring22 a b) := fun r hr => by simp [ring22] at hr; rcases hr with rfl | rfl | rfl | rfl | rfl | rfl <;> simp
  obtain ⟨o4, o5, o1, o3⟩ := ring_offers ha hb hab
  refine ⟨ring22 a b, rfl, ro, rle, fun xs hx hm => ?_⟩
  rw [ring_endl ha hb hab hx hm]
  have off : ∀ {M : Mch} {x : Int} {d : PyData} {n : Nat} {C : PV → Nat → Prop}, MOk M → RowsLe 60 M → 0 ≤ x → x < M.items.length → offerD M x = d → C (.dat d) n → sp_offer_9ca1d5 [.dat (Datum.toD M), .dat (.int x)] n C := fun {M x d n C} ok le h0 h1 e c => ⟨M, x, rfl, ok, h0, h1, le, by rw [e]; exact c⟩
  have rl : (ring22 a b).items.length = 6 := rfl
  refine ⟨_, rfl, off ro rle (by decide) (by rw [rl]; decide) o4 ⟨_, rfl, off ro rle (by decide) (by rw [rl]; decide) o5 ⟨_, rfl, off ro rle (by decide) (by rw [rl]; decide) o1 ⟨_, rfl, off ro rle (by decide) (by rw [rl]; decide) o3 ⟨_, rfl, ?_⟩⟩⟩⟩⟩
  simp [dats]
  refine eqP_same rfl rfl (by simp [PyData.plain, PyData.plainAll]) (by simp [PyData.depth, PyData.depthAll]) (Or.inl ⟨rfl, ?_⟩)
  have co := chain22_ok ha hb hab
  have cle : RowsLe 60 (chain22 a) := fun r hr => by simp [chain22] at hr; rcases hr with rfl | rfl | rfl | rfl <;> simp
  have so := self22_ok ha hb hab
  have sle : RowsLe 60 (self22 a b) := fun r hr => by simp [self22] at hr; rcases hr with rfl | rfl <;> simp
  have mle : RowsLe 60 (⟨[⟨[]⟩]⟩ : Mch) := fun r hr => by rw [List.mem_singleton.mp hr]; simp
  have cf := chain_offer ha hb hab
  have mf : offerD (⟨[⟨[]⟩]⟩ : Mch) 0 = .tuple [] := by
    have e : sortU ((rowAt (⟨[⟨[]⟩]⟩ : Mch) 0).map (·.1)) = [] := (sortU_eq List.Pairwise.nil fun x => by simp [rowAt]).symm
    unfold offerD offerOf
    rw [if_neg (by simp [rowAt]), e]; rfl
  have cl : (chain22 a).items.length = 4 := rfl
  refine ⟨chain22 a, rfl, co, cle, fun xs hx hm => ?_⟩
  rw [chain_endl ha hb hab hx hm]
  refine ⟨_, rfl, self22 a b, rfl, so, sle, fun ys hy hmy => ?_⟩
  rw [self_endl ha hb hab hy hmy]
  refine ⟨_, rfl, ⟨[⟨[]⟩]⟩, rfl, m0_ok, mle, fun zs hz hmz => ?_⟩
  rw [m0_endl hz hmz]
  refine ⟨_, rfl, off co cle (by decide) (by rw [cl]; decide) cf ⟨_, rfl, off m0_ok mle (by decide) (by decide) mf ⟨_, rfl, ?_⟩⟩⟩
  simp [dats]
  exact eqP_same rfl rfl (by simp [PyData.plain, PyData.plainAll]) (by simp [PyData.depth, PyData.depthAll]) q
def GM (M : Mch) : Prop := MOk M ∧ RowsLe 4 M
abbrev f22Body : HS := (hIfS (hNot (hB (hCall sp__law_right_127031 1 (hL 6 hNil)))) (hRet (hK (.bool false))) hNext)
theorem f22_loop {D : HD} {o0 o1 o2 o3 o4 o5 : Option PV} {n : Nat} : ∀ (Ms : List Mch) (o6 : Option PV), (∀ M ∈ Ms, GM M) → (∀ o6', D.nx ⟨[o0, o1, o2, o3, o4, o5, o6'], n⟩) →
    each (gN 6) f22Body D (Ms.map Datum.toD) ⟨[o0, o1, o2, o3, o4, o5, o6], n⟩ := by
  intro Ms
  induction Ms with
  | nil => intro o6 _ fin; exact fin o6
  | cons M Ms ih =>
    intro o6 hM fin
    obtain ⟨ok, h4⟩ := hM M List.mem_cons_self
    simp
    refine ⟨M, rfl, ok, le_of4 h4, Or.inr ⟨rfl, ?_⟩⟩
    exact ih _ (fun M' h => hM M' (List.mem_cons_of_mem _ h)) fin
theorem cut1 {α : Type} (xs : List α) (f : α → PyData) : cutD (xs.map f) none (some 1) = (xs.take 1).map f := by
  unfold cutD
  rw [HT.sIx_none, show HT.sIx (xs.map f).length (xs.map f).length (some 1) = min 1 (xs.map f).length from HT.sIx_nat _ _ 1]
  cases xs with
  | nil => rfl
  | cons x r => simp
abbrev t22Body : HS := (hSeq (hAsg (hCall sp__law_words_aaf2f6 2 (hL 1 (hE (hC ixW (hE (hLst (hE (hK (.int 0)) (hE (hK (.int 1)) (hE (hK (.int 1)) (hE (hK (.int 2)) (hE (hK (.int 3)) (hE (hK (.int 3)) (hE (hK (.int 5)) (hE (hK (.int 8)) hNil))))))))) (hE (hCall sp__law_draw_a6e186 2 (hL 1 (hE (hK (.int 8)) hNil))) hNil))) hNil))) 3)
    (hSeq (hAsg (hLc (hiR1 (hE (hK (.int 2)) hNil)) (gN 5) hYes (hCall sp__law_machine_5d3daf 3 (hL 1 (hE (hK (.int 11)) (hL 3 hNil)))) [5]) 4)
    (hFor (hiL (hC addW (hL 4 (hE (hSl 4 hNo (hPt (hK (.int 1)))) hNil)))) (gN 6) (hIfS (hNot (hB (hCall sp__law_right_127031 1 (hL 6 hNil)))) (hRet (hK (.bool false))) hNext))))
theorem t22_loop {D : HD} {o0 : Option PV} : ∀ (ks : List Nat) (o2 o3 o4 o6 : Option PV) (n : Nat), n + 20000 * ks.length < 90000000 →
    (∀ (o2' o3' o4' o6' : Option PV) (n' : Nat), n' ≤ n + 20000 * ks.length → D.nx ⟨[o0, some .drw, o2', o3', o4', none, o6'], n'⟩) →
    each (gN 2) t22Body D (ks.map fun i => PyData.int ((i : Nat) : Int)) ⟨[o0, some .drw, o2, o3, o4, none, o6], n⟩ := by
  intro ks
  induction ks with
  | nil => intro o2 o3 o4 o6 n _ fin; exact fin o2 o3 o4 o6 n (by simp)
  | cons k ks ih =>
    intro o2 o3 o4 o6 n hn fin
    have hn' : n + 20000 * (ks.length + 1) < 90000000 := by simpa using hn
    simp [-hFor, -hLc, dats]
    refine drw' 8 _ _ (by decide) (by decide) (by omega) fun a a0 a1 => ?_
    obtain ⟨m, hm, hmm, _⟩ := atI_int (cs := [0, 1, 1, 2, 3, 3, 5, 8]) a0 a1
    have m4 : 0 ≤ m ∧ m ≤ 8 := by
      simp at hmm
      omega
    refine ⟨_, rfl, (ix_lst (ds := [.int 0, .int 1, .int 1, .int 2, .int 3, .int 3, .int 5, .int 8])).mpr ⟨_, hm, ?_⟩⟩
    refine ⟨_, rfl, m, rfl, m4.1, by omega, by omega, fun ws hl hws hnd => ?_⟩
    simp [-hFor, -hLc, dats]
    refine hLc_eq.mpr ?_
    simp [-hFor, -hLc, dats]
    have er : rngD 0 2 = (List.range 2).map fun i => PyData.int ((i : Nat) : Int) := by simp [rngD]
    rw [er]
    refine lcs_n (P := GM) (toD := Datum.toD) (c := 6000) (N := 90000000) (fun i : Nat => PyData.int ((i : Nat) : Int)) (List.range 2) [] _ _ (fun i _ n hN K hK => ?_) (by simp; omega) (by simp) fun Ms n2 h1 h2 h3 => ?_
    · simp
      refine ⟨11, ws, rfl, by decide, by decide, by omega, hws, by omega, fun M n3 ok h4 _ l3 => ⟨Im.im M, ?_⟩⟩
      exact hK M n3 _ ⟨ok, h4⟩ (by omega) (by simp)
    simp [-hFor, -hLc]
    simp only [hFor, hiL]
    simp [-hFor, -hLc]
    rw [cut1]
    have h1' : Ms.length = 2 := by simpa using h1
    refine ⟨by simp; omega, ?_⟩
    rw [← List.map_append]
    refine f22_loop (Ms ++ Ms.take 1) _ (fun M hM => ?_) fun o6' => ?_
    · rcases List.mem_append.mp hM with hM | hM
      · exact h2 M hM
      · exact h2 M (List.mem_of_mem_take hM)
    · exact ih _ _ _ _ _ (by simp at h3; omega) fun a b c d n' h => fin a b c d n' (by simp at h3 ⊢; omega)
def h_law_816ee9 : HS :=
    (hSeq (hFor (hiR1 (hE (hC addW (hE (hK (.int 3)) (hE (hC min2W (hE (hK (.int 4)) (hE (hC fdivW (hE (hC lenW (hL 0 hNil)) (hE (hK (.int 4)) hNil))) hNil))) hNil))) hNil)) (gN 2) (hSeq (hAsg (hCall sp__law_words_aaf2f6 2 (hL 1 (hE (hC ixW (hE (hLst (hE (hK (.int 0)) (hE (hK (.int 1)) (hE (hK (.int 1)) (hE (hK (.int 2)) (hE (hK (.int 3)) (hE (hK (.int 3)) (hE (hK (.int 5)) (hE (hK (.int 8)) hNil))))))))) (hE (hCall sp__law_draw_a6e186 2 (hL 1 (hE (hK (.int 8)) hNil))) hNil))) hNil))) 3)
    (hSeq (hAsg (hLc (hiR1 (hE (hK (.int 2)) hNil)) (gN 5) hYes (hCall sp__law_machine_5d3daf 3 (hL 1 (hE (hK (.int 11)) (hL 3 hNil)))) [5]) 4)
    (hFor (hiL (hC addW (hL 4 (hE (hSl 4 hNo (hPt (hK (.int 1)))) hNil)))) (gN 6) (hIfS (hNot (hB (hCall sp__law_right_127031 1 (hL 6 hNil)))) (hRet (hK (.bool false))) hNext)))))
    (hRet (hCall sp__law_hand_right_aaa9ed 1 (hL 1 hNil))))
theorem rd_law_816ee9 : ∀ ns : List Int, ns.length ≤ 63 → h_law_816ee9 lawD ⟨some (.dat (.list (ns.map .int))) :: some .drw :: List.replicate 5 none, 0⟩ := by
  intro ns hns
  unfold h_law_816ee9
  simp [-hFor]
  simp only [hFor, hiR1]
  simp [-hFor, -hLc]
  have hd : (0 : Int) ≤ (ns.length : Int) / 4 ∧ (ns.length : Int) / 4 ≤ 15 := by omega
  refine ⟨wide_div (b := 10) (by decide) (by decide) (by decide) (by decide), ⟨by split <;> omega, by split <;> omega⟩, ?_⟩
  generalize hz : (3 + if (ns.length : Int) / 4 < 4 then (ns.length : Int) / 4 else 4).toNat = z
  have z7 : z ≤ 7 := by rw [← hz]; split <;> omega
  have er : rngD 0 z = (List.range z).map fun i => PyData.int ((i : Nat) : Int) := by simp [rngD]
  rw [er]
  refine t22_loop (List.range z) _ _ _ _ _ (by simp; omega) fun a b c d n' hn' => ?_
  simp [sp__law_hand_right_aaa9ed]
  simp at hn'
  omega
end Sk
set_option Elab.async false
set_option linter.all false
set_option maxRecDepth 100000
set_option maxHeartbeats 2000000
/-! x in range(n), x not in range(n); len(set(xs)) -/
namespace Sk
open PySem PySem.Spec PyProof.Rows L2
open Evl (Ex)
theorem cr_range1 {X : Cx} : CallR X (.type "range") (fun vs H Q => ∃ j, vs = [V.int j] ∧ ∀ p, H p = none → Q (.ref p) (upd H p (.rng 0 j))) := by
  intro pins s σ H vs us Q I r h
  obtain ⟨j, rfl, q⟩ := h
  obtain ⟨u1, rfl, rj⟩ := vals1 r
  obtain ⟨t, rfl⟩ := rj
  refine call_range_1 ⟨.ref s.heap.objs.size, upd H s.heap.objs.size (.rng 0 j), I.laid (t' := s.toks + 1 + 1) (fun b o e => Heap.get?_push_of_some _ e) (Nat.le_refl _) ?_, rfl, q _ (I.hok.fresh (Nat.le_refl _))⟩
  exact ⟨s.toks, t, s.toks + 1, Heap.get?_push_size _ rfl⟩
theorem op_nin_rng {X : Cx} : OpR X (compareOp .NotIn) (fun x y H Q => ∃ i a lo hi, x = V.int i ∧ y = V.ref a ∧ H a = some (.rng lo hi) ∧ Q (.bl (!decide (lo ≤ i ∧ i < hi))) H) := by
  intro pins s σ H x y v u Q I rx ry h
  obtain ⟨i, a, lo, hi, rfl, rfl, ha, q⟩ := h
  obtain ⟨k, rfl⟩ := rx
  obtain rfl : u = Value.ref a := ry
  obtain ⟨t1, t2, t3, ho⟩ := I.hok a _ ha
  show wpAny _ _ (do return Value.bool (!(← contains (Value.ref a) (Value.int i k)))) _ _ s
  refine wpAny_bind (wpAny_contains_slot (T := "range") ⟨_, ho, rfl⟩ PySem.F.slot_range_contains (call_meets PySem.F.slot_range_contains ⟨_, ho, rfl⟩ PySem.F.entry_range_contains (PySem.F.args_range_contains_2 _ _) (q_contains a lo hi i t1 t2 t3 k)
    ⟨ho, wpAny_truthy_bool (wpAny_pure ⟨.bl _, H, I, rfl, ?_⟩)⟩))
  rw [place1]
  exact q
@[simp] def inRW (neg : Bool) : List PV → (PV → Prop) → Prop := i2' fun i n => .bool (if neg then !decide (0 ≤ i ∧ i < n) else decide (0 ≤ i ∧ i < n))
section
variable {X : Cx} {f : Fr} {a b : Expr} {oa ob : HA → HA} {p q pos : Pos}
theorem inR_conv {neg : Bool} {ta tb : TE} (a2 : ∀ (tr : TA) (r : HA), (∀ σ H Q, lfA X.K f r σ H Q → tr σ H Q) → ∀ σ H Q, lfA X.K f (oa r) σ H Q → tCons ta tr σ H Q) (b2 : ∀ (tr : TA) (r : HA), (∀ σ H Q, lfA X.K f r σ H Q → tr σ H Q) → ∀ σ H Q, lfA X.K f (ob r) σ H Q → tCons tb tr σ H Q) :
    ∀ σ H Q, lf X.K f (hC (inRW neg) (oa (ob hNil))) σ H Q → ta σ H fun x H1 => tb σ H1 fun y H2 => ∃ j, [y] = [V.int j] ∧ ∀ p, H2 p = none → ∃ i a lo hi, x = V.int i ∧ V.ref p = V.ref a ∧ (upd H2 p (.rng 0 j)) a = some (.rng lo hi) ∧ Q (.bl (if neg then !decide (lo ≤ i ∧ i < hi) else decide (lo ≤ i ∧ i < hi))) (upd H2 p (.rng 0 j)) := fun σ H Q q => by
  have op : Op X.K f (fun vs H Q => match vs with | [x, y] => ∃ j, [y] = [V.int j] ∧ ∀ p, H p = none → ∃ i a lo hi, x = V.int i ∧ V.ref p = V.ref a ∧ (upd H p (.rng 0 j)) a = some (.rng lo hi) ∧ Q (.bl (if neg then !decide (lo ≤ i ∧ i < hi) else decide (lo ≤ i ∧ i < hi))) (upd H p (.rng 0 j)) | _ => False) (inRW neg) := fun F O G s σ H ps vs C Q R VV w k => by
    unfold inRW i2' at w
    split at w
    · rename_i i j
      cases VV with
      | cons v1 VV =>
        cases VV with
        | cons v2 VV =>
          cases VV
          cases vr_int v1
          cases vr_int v2
          exact ⟨j, rfl, fun p hp => ⟨i, p, 0, j, rfl, rfl, upd_same, k _ _ _ _ w (Ex.refl G) (R.new hp) (vrf_dat (.bl _))⟩⟩
    · exact w.elim
  exact a2 (tCons tb tNil) (ob hNil) (fun σ H Q => b2 tNil hNil (fun σ H Q q => by
    obtain ⟨F, O, G, s, C, R, ht, k⟩ := q
    exact k _ _ _ _ _ ht (Ex.refl G) R .nil) σ H Q) σ H _ (op.lift _ σ H Q q)
theorem hp_nin_rng (hg : Gl X "range") (hm : X.mg "range" = none) (A : Opd X f a oa) (B : Opd X f b ob) (hs : starEach [b] X.env = (false, eval b X.env) :: starEach [] X.env := by rfl) (h1 : behindInMarks .NotIn (.Call (.Name "range" p) [b] [] q) = false := by rfl) : PE X (.Compare a [.NotIn] [.Call (.Name "range" p) [b] [] q] pos) (lf X.K f (hC (inRW true) (oa (ob hNil)))) := by
  obtain ⟨ta, a1, a2⟩ := A.ex
  obtain ⟨tb, b1, b2⟩ := B.ex
  exact (pe_cmpR op_nin_rng a1 (pe_callTy cr_range1 hg hm (by rfl) (pa_cons b1 pa_nil hs) (by decide +kernel) (by rfl) hs) h1).mono (inR_conv (neg := true) a2 b2)
theorem ht_nin_rng (hg : Gl X "range") (hm : X.mg "range" = none) (A : Opd X f a oa) (B : Opd X f b ob) (hs : starEach [b] X.env = (false, eval b X.env) :: starEach [] X.env := by rfl) (h1 : behindInMarks .NotIn (.Call (.Name "range" p) [b] [] q) = false := by rfl) : PT X (.Compare a [.NotIn] [.Call (.Name "range" p) [b] [] q] pos) (lfT X.K f (hB (hC (inRW true) (oa (ob hNil))))) := by
  obtain ⟨ta, a1, a2⟩ := A.ex
  obtain ⟨tb, b1, b2⟩ := B.ex
  exact (pt_cmpR op_nin_rng a1 (pe_callTy cr_range1 hg hm (by rfl) (pa_cons b1 pa_nil hs) (by decide +kernel) (by rfl) hs) h1).mono fun σ H Q q => inR_conv (neg := true) a2 b2 _ _ _ (lfT_B _ _ _ q)
theorem hp_in_rng (hg : Gl X "range") (hm : X.mg "range" = none) (A : Opd X f a oa) (B : Opd X f b ob) (hs : starEach [b] X.env = (false, eval b X.env) :: starEach [] X.env := by rfl) (h1 : behindInMarks .In (.Call (.Name "range" p) [b] [] q) = false := by rfl) : PE X (.Compare a [.In] [.Call (.Name "range" p) [b] [] q] pos) (lf X.K f (hC (inRW false) (oa (ob hNil)))) := by
  obtain ⟨ta, a1, a2⟩ := A.ex
  obtain ⟨tb, b1, b2⟩ := B.ex
  exact (pe_cmpR op_in_rng a1 (pe_callTy cr_range1 hg hm (by rfl) (pa_cons b1 pa_nil hs) (by decide +kernel) (by rfl) hs) h1).mono (inR_conv (neg := false) a2 b2)
theorem ht_in_rng (hg : Gl X "range") (hm : X.mg "range" = none) (A : Opd X f a oa) (B : Opd X f b ob) (hs : starEach [b] X.env = (false, eval b X.env) :: starEach [] X.env := by rfl) (h1 : behindInMarks .In (.Call (.Name "range" p) [b] [] q) = false := by rfl) : PT X (.Compare a [.In] [.Call (.Name "range" p) [b] [] q] pos) (lfT X.K f (hB (hC (inRW false) (oa (ob hNil))))) := by
  obtain ⟨ta, a1, a2⟩ := A.ex
  obtain ⟨tb, b1, b2⟩ := B.ex
  exact (pt_cmpR op_in_rng a1 (pe_callTy cr_range1 hg hm (by rfl) (pa_cons b1 pa_nil hs) (by decide +kernel) (by rfl) hs) h1).mono fun σ H Q q => inR_conv (neg := false) a2 b2 _ _ _ (lfT_B _ _ _ q)
/-- len(set(xs)) of whole numbers -/
def lenSetW : List PV → (PV → Prop) → Prop := fun ps C => match ps with
  | [p] => ∃ ns : List Int, p.seq = some (ns.map .int) ∧ ns.length ≤ 4000 ∧ C (.dat (.int ((once ns).length : Nat)))
  | _ => False
def rLenSet (K : PySem.W.Frag) : List V → Hp → VK → Prop := fun vs H Q => ∃ (a : Addr) (ns : List Int), vs = [.ref a] ∧ Sq K H a (ns.map V.int) ∧ ns.length ≤ 4000 ∧ Q (.int ((once ns).length : Nat)) H
theorem pe_lenSetF {ta : TE} {p2 : Pos} (hc : X.calm = true) (hu : X.A.units + 64 < cLine) (hg : Gl X "len") (hm : X.mg "len" = none) (hg2 : Gl X "set") (hm2 : X.mg "set" = none) (ha : PE X a ta)
    (na : starEach [a] X.env = (false, eval a X.env) :: starEach [] X.env := by rfl) : PE X (.Call (.Name "len" p) [.Call (.Name "set" p2) [a] [] q] [] pos) (fun σ H Q => ta σ H fun x H1 => rLenSet X.K [x] H1 Q) := by
  refine ⟨fun pins s σ H Q I h => ?_⟩
  refine Call_ (ld_blt I hg hm PySem.boot_len ?_)
  refine PyProof.Rows.callWith_builtin1 (PyProof.Rows.args_cons ?_ rfl) rfl rfl
  refine Call_ (ld_blt I hg2 hm2 PyProof.Rows.boot_set ?_)
  refine PyProof.Rows.callWith_type1 (PyProof.Rows.args_cons (thn (ha.run pins s σ H _ I h) fun v s1 ⟨x, H1, I1, r1, q1⟩ => PyProof.Rows.args_nil ?_) na) na rfl
  obtain ⟨l, ns, e, hq, hl, q1⟩ := q1
  cases e
  cases r1
  have ek : (ns.map fun n => (Sum.inl n : Key)).map kV = ns.map V.int := by rw [List.map_map]; rfl
  refine run_setF (ks := ns.map fun n => (Sum.inl n : Key)) hc hu I1 (by rw [ek]; exact hq) (by rw [List.length_map]; unfold scanBound; omega) fun p s' L I2 E => ?_
  refine PyProof.Rows.args_nil ?_
  obtain ⟨⟨o, es, ep, t, ho, hex, hd, hf, hb, _, _, pr⟩, nd, mem⟩ := E
  have hLe : L.length = es.size := by
    have := paired_len pr
    rw [List.length_map] at this
    rw [this]; simp
  have hLo : L.length = (once ns).length := by
    have p1 : (L.map fun k => k).Perm ((once ns).map fun n => (Sum.inl n : Key)) := by
      rw [List.map_id']
      refine (List.perm_ext_iff_of_nodup nd ?_).mpr fun k => ?_
      · exact List.Pairwise.map _ (fun a b h e => h (Sum.inl.inj e)) (once_nodup ns)
      · rw [mem, List.mem_map, List.mem_map]
        exact ⟨fun ⟨n, h, e⟩ => ⟨n, mem_once.mpr h, e⟩, fun ⟨n, h, e⟩ => ⟨n, mem_once.mp h, e⟩⟩
    have := p1.length_eq
    simpa using this
  have hbb : es.size < 2 ^ 63 := by
    have : scanBound ≤ 2 ^ 63 := by unfold scanBound; decide
    omega
  refine call_len_set ho hex hd hf (by omega) ⟨.int ((once ns).length : Nat), H1, I2.tok _, ⟨_, by rw [← hLo, hLe]⟩, q1⟩
theorem op_lenSet : Op X.K f (rLenSet X.K) lenSetW := fun F O G s σ H ps vs C Q R VV w k => by
  unfold lenSetW at w
  split at w
  · obtain ⟨ns, h1, h2, h3⟩ := w
    cases VV with
    | cons v1 VV =>
      cases VV
      obtain ⟨a, ws, rfl, hs, ha⟩ := v1.sq R.gh h1
      have e := ints_dpAll ha
      subst e
      exact ⟨a, ns, rfl, hs, h2, k _ _ _ _ h3 (Ex.refl G) R (vrf_dat (.int _))⟩
  · exact w.elim
theorem hp_lenSet {p2 : Pos} (hc : X.calm = true) (hu : X.A.units + 64 < cLine) (hg : Gl X "len") (hm : X.mg "len" = none) (hg2 : Gl X "set") (hm2 : X.mg "set" = none) (A : Opd X f a oa)
    (na : starEach [a] X.env = (false, eval a X.env) :: starEach [] X.env := by rfl) : PE X (.Call (.Name "len" p) [.Call (.Name "set" p2) [a] [] q] [] pos) (lf X.K f (hC lenSetW (oa hNil))) := by
  obtain ⟨t, h1, h2⟩ := A.ex
  refine (pe_lenSetF hc hu hg hm hg2 hm2 h1 na).mono fun σ H Q w => ?_
  have z := h2 tNil hNil (fun σ H Q q => by
    obtain ⟨F, O, G, s, C, R, ht, k⟩ := q
    exact k _ _ _ _ _ ht (Ex.refl G) R .nil) σ H _ (op_lenSet.lift _ σ H Q w)
  exact z
/-- t + u of tuples -/
def addTW : List PV → (PV → Prop) → Prop := fun ps C => match ps with
  | [.dat (.tuple ds), .dat (.tuple es)] => ds.length + es.length ≤ 100000 ∧ C (.dat (.tuple (ds ++ es)))
  | _ => False
theorem op_addTW : Op X.K f (op2 (rCatA X.K)) addTW := fun F O G s σ H ps vs C Q R VV w k => by
  unfold addTW at w
  split at w
  · rename_i ds es
    cases VV with
    | cons v1 VV =>
      cases VV with
      | cons v2 VV =>
        cases VV
        have v1 : Dp X.K G _ (.tuple ds) := v1
        have v2 : Dp X.K G _ (.tuple es) := v2
        cases v1 with
        | tup h1 a1 =>
          cases v2 with
          | tup h2 a2 =>
            refine ⟨_, _, _, _, rfl, rfl, Evl.ex_t R.gh h1, Evl.ex_t R.gh h2, by rw [a1.len, a2.len]; exact Evl.sz_of w.1, fun e => ?_, fun _ e => ?_, fun _ _ p hp => k _ _ _ _ w.2 (Evl.Ex.new (R.gn hp)) (R.newG hp) (vrf_dat (.tup (Or.inl (Or.inl upd_same)) (Dp.exAll (Evl.Ex.new (R.gn hp)) _ (a1.append a2))))⟩
            · have : ds = [] := List.length_eq_zero_iff.mp (by rw [← a1.len, e]; rfl)
              subst this
              exact k _ _ _ _ w.2 (Ex.refl G) R (vrf_dat (.tup h2 a2))
            · have : es = [] := List.length_eq_zero_iff.mp (by rw [← a2.len, e]; rfl)
              subst this
              have w2 := w.2
              rw [List.append_nil] at w2
              exact k _ _ _ _ w2 (Ex.refl G) R (vrf_dat (.tup h1 a1))
  · exact w.elim
end
end Sk
set_option Elab.async false
set_option linter.all false
set_option maxRecDepth 100000
set_option maxHeartbeats 2000000
/-! for pair in zip(t, u) of tuples, the target a name: the zip keeps the pair that it gave out -/
namespace Sk
open PySem PySem.Spec PyProof.Rows L2
section
variable {prog : Program} {w : World} {A : Around} {E : Value → Shared → Prop} {s : Shared}
abbrev IsZipF (h : Heap) (z TI TO : Addr) (f0 : Value) (f1 : Bool) : Prop :=
  h.get? z = some { cls := .type "zip", dict := none, data := .fields #[f0, .bool f1, .bool false, .ref TI, .ref TO], slots := #[] }
def F0 (v : Value) : Prop := v = .none ∨ ∃ T : Addr, v = rawInt T
theorem free_any {z TI TO : Addr} {f0 : Value} {f1 : Bool} {Q : Bool → Shared → Prop} (hz : IsZipF s.heap z TI TO f0 f1) (hf : F0 f0)
    (h : ∀ b f1' h', IsZipF h' z TI TO f0 f1' → Heap.SameBut z s.heap h' → Q b { s with heap := h' }) : wpAny (model prog w) A (Builtin.SmallTypes.ownedTupleIsFree (.ref z)) Q E s := by
  unfold Builtin.SmallTypes.ownedTupleIsFree
  refine wpAny_bind (wpAny_field hz rfl (x := f0) rfl ?_)
  rcases hf with rfl | ⟨T, rfl⟩
  · exact wpAny_pure (h true f1 s.heap hz (Heap.SameBut.refl _ _))
  · show wpAny _ _ (loadIfAlive ((T : Int).toNat) >>= _) _ _ _
    rw [Int.toNat_natCast]
    have al : ∀ {Q : Option Obj → Shared → Prop}, Q (s.heap.get? T) s → wpAny (model prog w) A (loadIfAlive T) Q E s := fun {Q} h => fun _ _ _ => h
    refine wpAny_bind (al ?_)
    cases s.heap.get? T with
    | none =>
      simp only [Option.isNone_none, if_true]
      exact wpAny_pure (h true f1 s.heap hz (Heap.SameBut.refl _ _))
    | some o =>
      simp only [Option.isNone_some, Bool.false_eq_true, if_false]
      refine wpAny_bind (wpAny_field hz rfl (x := .bool f1) rfl ?_)
      cases f1 with
      | true =>
        rw [if_neg (show ¬ ((Value.bool true != Value.bool true) = true) from Bool.false_ne_true)]
        exact wpAny_pure (h false true s.heap hz (Heap.SameBut.refl _ _))
      | false =>
        rw [if_pos (show (Value.bool false != Value.bool true) = true from rfl)]
        exact wpAny_bind (wpAny_setField_rec hz (by simp) fun h₁ hz₁ hs₁ => wpAny_pure (h false true h₁ hz₁ hs₁))
theorem zn_item {z TI TO i1 i2 l1 l2 : Addr} {f0 : Value} {f1 : Bool} {k1 k2 : Nat} {xs ys : Array Value} {x y a b : Value} {Q : Value → Shared → Prop} (D : ZipApart z TI TO i1 i2 l1 l2)
    (hz : IsZipF s.heap z TI TO f0 f1) (hf : F0 f0) (hTI : IsPair s.heap TI (.ref i1) (.ref i2)) (hTO : IsPair s.heap TO a b)
    (h1 : s.heap.IsTupleIter i1 l1 k1) (h2 : s.heap.IsTupleIter i2 l2 k2) (hl1 : s.heap.IsTuple l1 xs) (hl2 : s.heap.IsTuple l2 ys) (hx : xs[k1]? = some x) (hy : ys[k2]? = some y)
    (hQ : ∀ h' f0' f1', IsZipF h' z TI TO f0' f1' → F0 f0' → (∃ a b, IsPair h' TO a b) → h'.IsTupleIter i1 l1 (k1 + 1) → h'.IsTupleIter i2 l2 (k2 + 1) → IsPair h' s.heap.objs.size x y → h'.objs.size = s.heap.objs.size + 1 →
      (∀ c o, c ≠ z → c ≠ TO → c ≠ i1 → c ≠ i2 → s.heap.get? c = some o → h'.get? c = some o) → Q (.ref s.heap.objs.size) { s with heap := h' }) :
    wpAny (model prog w) A (Builtin.«zip.__next__» ⟨[.ref z], []⟩) (fun fin s' => ∃ v, fin = .done (.ret v) ∧ Q v s') E s := by
  show wpAny _ _ (field (.ref z) 2 >>= _) _ _ _
  refine wpAny_bind (wpAny_field hz rfl (x := .bool false) rfl ?_)
  show wpAny _ _ (field (.ref z) 3 >>= _) _ _ _
  refine wpAny_bind (wpAny_field hz rfl (x := .ref TI) rfl ?_)
  refine wpAny_bind (wpAny_seqItems hTI rfl ?_)
  show wpAny _ _ (Builtin.SmallTypes.ownedTupleIsFree (.ref z) >>= _) _ _ _
  refine wpAny_bind (free_any hz hf fun bb f1' h₀ hz₀ hs₀ => ?_)
  have g1 := h1.extBut hs₀.extBut D.i1z
  have g2 := h2.extBut hs₀.extBut D.i2z
  have gl1 := hl1.extBut hs₀.extBut D.l1z
  have gl2 := hl2.extBut hs₀.extBut D.l2z
  have gTO : IsPair h₀ TO a b := hs₀.extBut _ _ D.TOz hTO
  cases bb with
  | false =>
    simp only [Bool.false_eq_true, if_false]
    refine wpAny_bind ?_
    rw [← Array.forIn_toList]
    simp only [List.forIn_cons, List.forIn_nil]
    refine wpAny_bind (wpAny_bind (wpAny_holding ?_))
    show wpAny _ _ (Builtin.SmallTypes.nextOf (.ref i1) >>= _) _ _ _
    refine wpAny_bind (RZ.nextOf_tuple_item (s := { s with heap := h₀ }) g1 gl1 hx fun h₂ h1₂ hs₂ => wpAny_pure ?_)
    refine wpAny_pure ?_
    refine wpAny_bind (wpAny_bind (wpAny_holding ?_))
    show wpAny _ _ (Builtin.SmallTypes.nextOf (.ref i2) >>= _) _ _ _
    refine wpAny_bind (RZ.nextOf_tuple_item (s := { s with heap := h₂ }) (g2.extBut hs₂.extBut D.i12.symm) (gl2.extBut hs₂.extBut D.l2i1) hy fun h₃ h2₃ hs₃ => wpAny_pure ?_)
    refine wpAny_pure (wpAny_pure ?_)
    show wpAny _ _ (newTuple [x, y] >>= _) _ _ _
    refine wpAny_bind (wpAny_newTuple ?_)
    have hsz : h₃.objs.size = s.heap.objs.size := by rw [hs₃.1, hs₂.1, hs₀.1]
    have hz₃ : IsZipF h₃ z TI TO f0 f1' := hs₃.extBut _ _ D.i2z.symm (hs₂.extBut _ _ D.i1z.symm hz₀)
    have hk : ∀ c o, c ≠ z → c ≠ i1 → c ≠ i2 → s.heap.get? c = some o → h₃.get? c = some o := fun c o c1 c2 c3 e => hs₃.extBut _ _ c3 (hs₂.extBut _ _ c2 (hs₀.extBut _ _ c1 e))
    have h1₃ : h₃.IsTupleIter i1 l1 (k1 + 1) := h1₂.extBut hs₃.extBut D.i12
    refine wpAny_pure ⟨_, rfl, ?_⟩
    show Q (.ref h₃.objs.size) _
    have hp : IsPair (h₃.push { cls := .type "tuple", data := .seq #[x, y] }) h₃.objs.size x y := Heap.get?_push_size _ rfl
    have hz4 : (h₃.push { cls := .type "tuple", data := .seq #[x, y] }).objs.size = h₃.objs.size + 1 := Heap.size_push ..
    rw [hsz] at hp hz4 ⊢
    exact hQ _ _ _ (Heap.get?_push_of_some _ hz₃) hf ⟨a, b, Heap.get?_push_of_some _ (hk _ _ D.TOz D.TOi1 D.TOi2 hTO)⟩ (h1₃.at fun o e => Heap.get?_push_of_some _ e) (h2₃.at fun o e => Heap.get?_push_of_some _ e) hp hz4 fun c o c1 _ c2 c3 e => Heap.get?_push_of_some _ (hk c o c1 c2 c3 e)
  | true =>
    simp only [if_true]
    refine wpAny_bind (wpAny_rule ?_)
    refine wpAny_bind (wpAny_field hz₀ rfl (x := .ref TO) rfl ?_)
    refine wpAny_bind (wpAny_setField_rec hz₀ (by simp) fun h₁ hz₁ hs₁ => ?_)
    replace hz₁ : IsZipF h₁ z TI TO .ellipsis f1' := hz₁
    refine wpAny_bind ?_
    simp only [List.zipIdx_cons, List.zipIdx_nil, List.forIn_cons, List.forIn_nil]
    refine wpAny_bind (wpAny_bind (wpAny_onRaise ?_))
    show wpAny _ _ (Builtin.SmallTypes.nextOf (.ref i1) >>= _) _ _ _
    refine wpAny_bind (RZ.nextOf_tuple_item (g1.extBut hs₁.extBut D.i1z) (gl1.extBut hs₁.extBut D.l1z) hx fun h₂ h1₂ hs₂ => wpAny_pure ?_)
    have hTO₂ : IsPair h₂ TO a b := hs₂.extBut _ _ D.TOi1 (hs₁.extBut _ _ D.TOz gTO)
    refine wpAny_bind (wpAny_seqItems hTO₂ rfl ?_)
    refine wpAny_bind (wpAny_updateSeq_pair hTO₂ fun h₃ hTO₃ hs₃ => ?_)
    replace hTO₃ : IsPair h₃ TO x b := hTO₃
    refine wpAny_bind (wpAny_letGo (wpAny_pure ?_))
    refine wpAny_bind (wpAny_bind (wpAny_onRaise ?_))
    show wpAny _ _ (Builtin.SmallTypes.nextOf (.ref i2) >>= _) _ _ _
    refine wpAny_bind (RZ.nextOf_tuple_item (((g2.extBut hs₁.extBut D.i2z).extBut hs₂.extBut D.i12.symm).extBut hs₃.extBut D.TOi2.symm)
      (((gl2.extBut hs₁.extBut D.l2z).extBut hs₂.extBut D.l2i1).extBut hs₃.extBut D.l2TO) hy fun h₄ h2₄ hs₄ => wpAny_pure ?_)
    have hTO₄ : IsPair h₄ TO x b := hs₄.extBut _ _ D.TOi2 hTO₃
    refine wpAny_bind (wpAny_seqItems hTO₄ rfl ?_)
    refine wpAny_bind (wpAny_updateSeq_pair hTO₄ fun h₅ hTO₅ hs₅ => ?_)
    replace hTO₅ : IsPair h₅ TO x y := hTO₅
    refine wpAny_bind (wpAny_letGo (wpAny_pure (wpAny_pure ?_)))
    refine wpAny_bind (wpAny_seqItems hTO₅ rfl ?_)
    refine wpAny_bind (wpAny_newTuple ?_)
    have hsz : h₅.objs.size = s.heap.objs.size := by rw [hs₅.1, hs₄.1, hs₃.1, hs₂.1, hs₁.1, hs₀.1]
    have hz₅ : IsZipF h₅ z TI TO .ellipsis f1' := hs₅.extBut _ _ D.TOz.symm (hs₄.extBut _ _ D.i2z.symm (hs₃.extBut _ _ D.TOz.symm (hs₂.extBut _ _ D.i1z.symm hz₁)))
    have hk₅ : ∀ c o, c ≠ z → c ≠ TO → c ≠ i1 → c ≠ i2 → s.heap.get? c = some o → h₅.get? c = some o := fun c o c1 c2 c3 c4 e =>
      hs₅.extBut _ _ c2 (hs₄.extBut _ _ c4 (hs₃.extBut _ _ c2 (hs₂.extBut _ _ c3 (hs₁.extBut _ _ c1 (hs₀.extBut _ _ c1 e)))))
    have h1₅ : h₅.IsTupleIter i1 l1 (k1 + 1) := ((h1₂.extBut hs₃.extBut D.TOi1.symm).extBut hs₄.extBut D.i12).extBut hs₅.extBut D.TOi1.symm
    have h2₅ : h₅.IsTupleIter i2 l2 (k2 + 1) := h2₄.extBut hs₅.extBut D.TOi2.symm
    have hzlt : z < h₅.objs.size := Heap.lt_size hz₅
    show wpAny _ _ (Builtin.SmallTypes.ownedTupleHandOut (.ref z) (.ref h₅.objs.size) >>= _) _ _ _
    refine wpAny_bind ?_
    unfold Builtin.SmallTypes.ownedTupleHandOut
    have hz₆ : IsZipF (h₅.push { cls := .type "tuple", data := .seq #[x, y] }) z TI TO .ellipsis f1' := Heap.get?_push_of_some _ hz₅
    refine wpAny_bind (wpAny_setField_rec hz₆ (by simp) fun h₇ hz₇ hs₇ => ?_)
    replace hz₇ : IsZipF h₇ z TI TO (rawInt h₅.objs.size) f1' := hz₇
    refine wpAny_setField_rec hz₇ (by simp) fun h₈ hz₈ hs₈ => ?_
    replace hz₈ : IsZipF h₈ z TI TO (rawInt h₅.objs.size) false := hz₈
    have up : ∀ c o, c ≠ z → h₅.get? c = some o → h₈.get? c = some o := fun c o c1 e => hs₈.extBut _ _ c1 (hs₇.extBut _ _ c1 (Heap.get?_push_of_some _ e))
    have hT₈ : IsPair h₈ h₅.objs.size x y := hs₈.extBut _ _ (Nat.ne_of_gt hzlt) (hs₇.extBut _ _ (Nat.ne_of_gt hzlt) (Heap.get?_push_size _ rfl))
    have hz8 : h₈.objs.size = h₅.objs.size + 1 := by rw [hs₈.1, hs₇.1, Heap.size_push]
    rw [hsz] at hz₈ hT₈ hz8
    refine wpAny_pure ⟨_, rfl, ?_⟩
    show Q (.ref h₅.objs.size) _
    rw [hsz]
    exact hQ h₈ _ _ hz₈ (Or.inr ⟨_, rfl⟩) ⟨x, y, up _ _ D.TOz hTO₅⟩ (h1₅.at fun o e => up _ o D.i1z e) (h2₅.at fun o e => up _ o D.i2z e) hT₈ hz8 fun c o c1 c2 c3 c4 e => up c o c1 (hk₅ c o c1 c2 c3 c4 e)
theorem zn_end {z TI TO i1 i2 l1 l2 : Addr} {f0 : Value} {f1 : Bool} {k1 k2 : Nat} {xs ys : Array Value} {a b : Value} {Q : Fin → Shared → Prop} (hh : A.handled = none) (D : ZipApart z TI TO i1 i2 l1 l2)
    (hz : IsZipF s.heap z TI TO f0 f1) (hf : F0 f0) (hTI : IsPair s.heap TI (.ref i1) (.ref i2)) (hTO : IsPair s.heap TO a b)
    (h1 : s.heap.IsTupleIter i1 l1 k1) (h2 : s.heap.IsTupleIter i2 l2 k2) (hl1 : s.heap.IsTuple l1 xs) (hl2 : s.heap.IsTuple l2 ys) (hend : xs[k1]? = none ∨ ys[k2]? = none)
    (hE : ∀ h' e, (∀ c o, c ≠ z → c ≠ TO → c ≠ i1 → c ≠ i2 → s.heap.get? c = some o → h'.get? c = some o) → (∃ o, h'.get? e = some o ∧ o.cls = .type "StopIteration") → E (.ref e) { s with heap := h' }) :
    wpAny (model prog w) A (Builtin.«zip.__next__» ⟨[.ref z], []⟩) Q E s := by
  show wpAny _ _ (field (.ref z) 2 >>= _) _ _ _
  refine wpAny_bind (wpAny_field hz rfl (x := .bool false) rfl ?_)
  show wpAny _ _ (field (.ref z) 3 >>= _) _ _ _
  refine wpAny_bind (wpAny_field hz rfl (x := .ref TI) rfl ?_)
  refine wpAny_bind (wpAny_seqItems hTI rfl ?_)
  show wpAny _ _ (Builtin.SmallTypes.ownedTupleIsFree (.ref z) >>= _) _ _ _
  refine wpAny_bind (free_any hz hf fun bb f1' h₀ hz₀ hs₀ => ?_)
  have g1 := h1.extBut hs₀.extBut D.i1z
  have g2 := h2.extBut hs₀.extBut D.i2z
  have gl1 := hl1.extBut hs₀.extBut D.l1z
  have gl2 := hl2.extBut hs₀.extBut D.l2z
  have gTO : IsPair h₀ TO a b := hs₀.extBut _ _ D.TOz hTO
  cases bb with
  | false =>
    simp only [Bool.false_eq_true, if_false]
    refine wpAny_bind ?_
    rw [← Array.forIn_toList]
    simp only [List.forIn_cons, List.forIn_nil]
    refine wpAny_bind (wpAny_bind (wpAny_holding ?_))
    show wpAny _ _ (Builtin.SmallTypes.nextOf (.ref i1) >>= _) _ _ _
    cases hx : xs[k1]? with
    | none =>
      refine wpAny_bind (RZ.nextOf_tuple_end (s := { s with heap := h₀ }) hh g1 gl1 hx fun h₂ e hs₂ he => ?_)
      exact hE h₂ e (fun c o c1 _ c2 _ x => hs₂ _ _ c2 (hs₀.extBut _ _ c1 x)) he
    | some x =>
      have hy : ys[k2]? = none := by rcases hend with h | h; rw [hx] at h; cases h; exact h
      refine wpAny_bind (RZ.nextOf_tuple_item (s := { s with heap := h₀ }) g1 gl1 hx fun h₂ h1₂ hs₂ => wpAny_pure ?_)
      refine wpAny_pure ?_
      refine wpAny_bind (wpAny_bind (wpAny_holding ?_))
      show wpAny _ _ (Builtin.SmallTypes.nextOf (.ref i2) >>= _) _ _ _
      refine wpAny_bind (RZ.nextOf_tuple_end (s := { s with heap := h₂ }) hh (g2.extBut hs₂.extBut D.i12.symm) (gl2.extBut hs₂.extBut D.l2i1) hy fun h₃ e hs₃ he => ?_)
      exact hE h₃ e (fun c o c1 _ c2 c3 x => hs₃ _ _ c3 (hs₂.extBut _ _ c2 (hs₀.extBut _ _ c1 x))) he
  | true =>
    simp only [if_true]
    refine wpAny_bind (wpAny_rule ?_)
    refine wpAny_bind (wpAny_field hz₀ rfl (x := .ref TO) rfl ?_)
    refine wpAny_bind (wpAny_setField_rec hz₀ (by simp) fun h₁ hz₁ hs₁ => ?_)
    replace hz₁ : IsZipF h₁ z TI TO .ellipsis f1' := hz₁
    refine wpAny_bind ?_
    simp only [List.zipIdx_cons, List.zipIdx_nil, List.forIn_cons, List.forIn_nil]
    refine wpAny_bind (wpAny_bind (wpAny_onRaise ?_))
    show wpAny _ _ (Builtin.SmallTypes.nextOf (.ref i1) >>= _) _ _ _
    cases hx : xs[k1]? with
    | none =>
      refine wpAny_bind (RZ.nextOf_tuple_end hh (g1.extBut hs₁.extBut D.i1z) (gl1.extBut hs₁.extBut D.l1z) hx fun h₂ e hs₂ he => ?_)
      obtain ⟨oe, hoe, hce⟩ := he
      have hz₂ : IsZipF h₂ z TI TO .ellipsis f1' := hs₂ _ _ D.i1z.symm hz₁
      have hez : e ≠ z := fun x => by subst x; rw [hz₂] at hoe; cases hoe; simp at hce
      refine wpAny_setField_rec hz₂ (by simp) fun h₃ _ hs₃ => hE h₃ e (fun c o c1 _ c3 _ x => hs₃.extBut _ _ c1 (hs₂ _ _ c3 (hs₁.extBut _ _ c1 (hs₀.extBut _ _ c1 x)))) ⟨oe, hs₃.extBut _ _ hez hoe, hce⟩
    | some x =>
      have hy : ys[k2]? = none := by rcases hend with h | h; rw [hx] at h; cases h; exact h
      refine wpAny_bind (RZ.nextOf_tuple_item (g1.extBut hs₁.extBut D.i1z) (gl1.extBut hs₁.extBut D.l1z) hx fun h₂ h1₂ hs₂ => wpAny_pure ?_)
      have hTO₂ : IsPair h₂ TO a b := hs₂.extBut _ _ D.TOi1 (hs₁.extBut _ _ D.TOz gTO)
      refine wpAny_bind (wpAny_seqItems hTO₂ rfl ?_)
      refine wpAny_bind (wpAny_updateSeq_pair hTO₂ fun h₃ hTO₃ hs₃ => ?_)
      refine wpAny_bind (wpAny_letGo (wpAny_pure ?_))
      refine wpAny_bind (wpAny_bind (wpAny_onRaise ?_))
      show wpAny _ _ (Builtin.SmallTypes.nextOf (.ref i2) >>= _) _ _ _
      refine wpAny_bind (RZ.nextOf_tuple_end hh (((g2.extBut hs₁.extBut D.i2z).extBut hs₂.extBut D.i12.symm).extBut hs₃.extBut D.TOi2.symm)
        (((gl2.extBut hs₁.extBut D.l2z).extBut hs₂.extBut D.l2i1).extBut hs₃.extBut D.l2TO) hy fun h₄ e hs₄ he => ?_)
      obtain ⟨oe, hoe, hce⟩ := he
      have hz₄ : IsZipF h₄ z TI TO .ellipsis f1' := hs₄ _ _ D.i2z.symm (hs₃.extBut _ _ D.TOz.symm (hs₂.extBut _ _ D.i1z.symm hz₁))
      have hez : e ≠ z := fun x => by subst x; rw [hz₄] at hoe; cases hoe; simp at hce
      refine wpAny_setField_rec hz₄ (by simp) fun h₅ _ hs₅ => hE h₅ e (fun c o c1 c2 c3 c4 x => hs₅.extBut _ _ c1 (hs₄ _ _ c4 (hs₃.extBut _ _ c2 (hs₂.extBut _ _ c3 (hs₁.extBut _ _ c1 (hs₀.extBut _ _ c1 x)))))) ⟨oe, hs₅.extBut _ _ hez hoe, hce⟩
theorem pn_item {z TI TO i1 i2 l1 l2 : Addr} {f0 : Value} {f1 : Bool} {k1 k2 : Nat} {xs ys : Array Value} {x y a b : Value} {Q : Option Value → Shared → Prop} (D : ZipApart z TI TO i1 i2 l1 l2)
    (hz : IsZipF s.heap z TI TO f0 f1) (hf : F0 f0) (hTI : IsPair s.heap TI (.ref i1) (.ref i2)) (hTO : IsPair s.heap TO a b)
    (h1 : s.heap.IsTupleIter i1 l1 k1) (h2 : s.heap.IsTupleIter i2 l2 k2) (hl1 : s.heap.IsTuple l1 xs) (hl2 : s.heap.IsTuple l2 ys) (hx : xs[k1]? = some x) (hy : ys[k2]? = some y)
    (hQ : ∀ h' f0' f1', IsZipF h' z TI TO f0' f1' → F0 f0' → (∃ a b, IsPair h' TO a b) → h'.IsTupleIter i1 l1 (k1 + 1) → h'.IsTupleIter i2 l2 (k2 + 1) → IsPair h' s.heap.objs.size x y → h'.objs.size = s.heap.objs.size + 1 →
      (∀ c o, c ≠ z → c ≠ TO → c ≠ i1 → c ≠ i2 → s.heap.get? c = some o → h'.get? c = some o) → Q (some (.ref s.heap.objs.size)) { s with heap := h' }) :
    wpAny (model prog w) A (pyNext (.ref z)) Q E s := by
  have hT : s.TypeIs (.ref z) "zip" := ⟨_, hz, rfl⟩
  unfold pyNext
  exact wpAny_bind (wpAny_attempt (wpAny_callSpecial?_slot (name := Str.ofString "__next__") hT PySem.F.slot_zip_next
    (wpAny_call_entry PySem.F.slot_zip_next hT PySem.F.entry_zip_next
      (zn_item D hz hf hTI hTO h1 h2 hl1 hl2 hx hy fun h' g0 g1 a1 a2 a3 a4 a5 a6 a7 a8 => wpAny_pure (hQ h' g0 g1 a1 a2 a3 a4 a5 a6 a7 a8)) (PySem.F.args_zip_next_1 _))))
theorem pn_end {z TI TO i1 i2 l1 l2 : Addr} {f0 : Value} {f1 : Bool} {k1 k2 : Nat} {xs ys : Array Value} {a b : Value} {Q : Option Value → Shared → Prop} (hh : A.handled = none) (D : ZipApart z TI TO i1 i2 l1 l2)
    (hz : IsZipF s.heap z TI TO f0 f1) (hf : F0 f0) (hTI : IsPair s.heap TI (.ref i1) (.ref i2)) (hTO : IsPair s.heap TO a b)
    (h1 : s.heap.IsTupleIter i1 l1 k1) (h2 : s.heap.IsTupleIter i2 l2 k2) (hl1 : s.heap.IsTuple l1 xs) (hl2 : s.heap.IsTuple l2 ys) (hend : xs[k1]? = none ∨ ys[k2]? = none)
    (hQ : ∀ h', (∀ c o, c ≠ z → c ≠ TO → c ≠ i1 → c ≠ i2 → s.heap.get? c = some o → h'.get? c = some o) → Q none { s with heap := h' }) : wpAny (model prog w) A (pyNext (.ref z)) Q E s := by
  have hT : s.TypeIs (.ref z) "zip" := ⟨_, hz, rfl⟩
  unfold pyNext
  refine wpAny_bind (wpAny_attempt (wpAny_callSpecial?_slot (name := Str.ofString "__next__") hT PySem.F.slot_zip_next
    (wpAny_call_entry PySem.F.slot_zip_next hT PySem.F.entry_zip_next (zn_end hh D hz hf hTI hTO h1 h2 hl1 hl2 hend fun h' e hk he => ?_) (PySem.F.args_zip_next_1 _))))
  obtain ⟨o, ho, hc⟩ := he
  refine wpAny_bind (wpAny_isInstance (T := "StopIteration") (b := true) ⟨o, ho, hc⟩ isSubtype_stop ?_)
  exact wpAny_pure (hQ _ hk)
theorem pi_zipF {z TI TO : Addr} {f0 : Value} {f1 : Bool} {Q : Value → Shared → Prop} (hz : IsZipF s.heap z TI TO f0 f1) (h : Q (.ref z) s) : wpAny (model prog w) A (pyIter (.ref z)) Q E s := by
  have hT : s.TypeIs (.ref z) "zip" := ⟨_, hz, rfl⟩
  refine wpAny_pyIter_slot hT PySem.F.slot_zip_iter (wpAny_call_entry PySem.F.slot_zip_iter hT PySem.F.entry_zip_iter ?_ (PySem.F.args_zip_iter_1 _))
  show wpAny _ _ (ret (.ref z)) _ _ s
  exact wpAny_pure ⟨_, rfl, "zip", _, hT, PySem.F.slot_zip_next.lookup, h⟩
end
theorem turn_zipN {P : Program} {w : World} {K : PySem.W.Frag} {nm : Str} {tpos : Pos} {a b z TI TO i1 i2 : Addr} (D : ZipApart z TI TO i1 i2 a b) :
    Turn P w K (.Name nm tpos) (RZ.ItzT K a b) [z, TI, TO, i1, i2] z (fun i h => (∃ f0 f1, IsZipF h z TI TO f0 f1 ∧ F0 f0) ∧ IsPair h TI (.ref i1) (.ref i2) ∧ (∃ x y, IsPair h TO x y) ∧ h.IsTupleIter i1 a i ∧ h.IsTupleIter i2 b i) where
  mem := by simp
  obj := fun i h st c hc => by
    obtain ⟨⟨f0, f1, hz, hf⟩, hTI, ⟨x, y, hTO⟩, ⟨o1, e1, _, d1⟩, ⟨o2, e2, _, d2⟩⟩ := st
    have e' : c = z ∨ c = TI ∨ c = TO ∨ c = i1 ∨ c = i2 := by simpa using hc
    rcases e' with q | q | q | q | q
    · rw [q]; exact ⟨_, hz, fun v q => nomatch q⟩
    · rw [q]; exact ⟨_, hTI, fun v q => nomatch q⟩
    · rw [q]; exact ⟨_, hTO, fun v q => nomatch q⟩
    · rw [q]; exact ⟨o1, e1, fun v q => by rw [d1] at q; cases q⟩
    · rw [q]; exact ⟨o2, e2, fun v q => by rw [d2] at q; cases q⟩
  keep := fun i h h' st k => by
    obtain ⟨⟨f0, f1, hz, hf⟩, hTI, ⟨x, y, hTO⟩, h1, h2⟩ := st
    exact ⟨⟨f0, f1, k z (by simp) _ hz, hf⟩, k TI (by simp) _ hTI, ⟨x, y, k TO (by simp) _ hTO⟩, h1.at fun o q => k i1 (by simp) o q, h2.at fun o q => k i2 (by simp) o q⟩
  item := by
    intro X hP hw hK hc i pins s σ H E I hf st hg
    subst hP hw hK
    obtain ⟨⟨f0, f1, hz, hf0⟩, hTI, ⟨x0, y0, hTO⟩, h1, h2⟩ := st
    obtain ⟨xs, ys, x, y, hqx, hqy, hx, hy⟩ := hg
    obtain ⟨its, rv, p, _⟩ := I.tuple hqx
    obtain ⟨its2, rv2, p2, _⟩ := I.tuple hqy
    obtain ⟨u, hu, ru⟩ := rv.get hx
    obtain ⟨u2, hu2, ru2⟩ := rv2.get hy
    refine pn_item D hz hf0 hTI hTO h1 h2 p p2 (x := u) (y := u2) (by simpa using hu) (by simpa using hu2) fun h' g0 g1 z' hg0 TO' h1' h2' hT hsz hk => ?_
    refine ⟨_, rfl, ?_⟩
    show wpAny _ _ (pure ()) _ _ _
    refine wpAny_pure ?_
    have new : ObjOk X.prog X.w (upd H s.heap.objs.size (.tup [x, y])) h' s.heap.objs.size (.tup [x, y]) :=
      ⟨by show 2 ≤ sizeLine; decide, [u, u2], .cons ru (.cons ru2 .nil), ⟨_, hT, rfl, _, rfl⟩⟩
    have I1 : Inv X pins σ (upd H s.heap.objs.size (.tup [x, y])) { s with heap := h' } :=
      I.turnedNew (t' := s.toks) (ch := [z, TI, TO, i1, i2]) (fun c o hb q => hk c o (fun q' => hb (by simp [q'])) (fun q' => hb (by simp [q'])) (fun q' => hb (by simp [q'])) (fun q' => hb (by simp [q'])) q) hf (Nat.le_refl _) new
    refine ⟨.ref s.heap.objs.size, _, I1, rfl, ⟨_, x, y, rfl, I.hok.fresh (Nat.le_refl _), rfl, fun l hl => by rw [I.tuple_inj hl hqx]; exact hx, fun l hl => by rw [I.tuple_inj hl hqy]; exact hy⟩, ⟨⟨g0, g1, z', hg0⟩, hk _ _ D.TIz D.TITO D.TIi1 D.TIi2 hTI, TO', h1', h2'⟩, fun c hcm => ?_⟩
    have hlt : c < s.heap.objs.size := by
      have e' : c = z ∨ c = TI ∨ c = TO ∨ c = i1 ∨ c = i2 := by simpa using hcm
      rcases e' with q | q | q | q | q
      · rw [q]; exact Heap.lt_size hz
      · rw [q]; exact Heap.lt_size hTI
      · rw [q]; exact Heap.lt_size hTO
      · rw [q]; obtain ⟨_, e1, _⟩ := h1; exact Heap.lt_size e1
      · rw [q]; obtain ⟨_, e2, _⟩ := h2; exact Heap.lt_size e2
    rw [upd_ne (Nat.ne_of_lt hlt)]
    exact (hf c hcm).1
  done := by
    intro X hP hw hK hc i pins s σ H E I hf st hg
    subst hP hw hK
    obtain ⟨⟨f0, f1, hz, hf0⟩, hTI, ⟨x0, y0, hTO⟩, h1, h2⟩ := st
    obtain ⟨xs, ys, hqx, hqy, hend⟩ := hg
    obtain ⟨its, rv, p, _⟩ := I.tuple hqx
    obtain ⟨its2, rv2, p2, _⟩ := I.tuple hqy
    have l1 := rv.length
    have l2 := rv2.length
    have he : its.toArray[i]? = none ∨ its2.toArray[i]? = none := by
      rcases hend with q | q
      · exact .inl (by simp; omega)
      · exact .inr (by simp; omega)
    exact pn_end (I.ok.hd hc) D hz hf0 hTI hTO h1 h2 p p2 he fun h' hk => ⟨rfl, I.turnedL (t' := s.toks) (ch := [z, TI, TO, i1, i2]) (fun c o hb q =>
      hk c o (fun q' => hb (by simp [q'])) (fun q' => hb (by simp [q'])) (fun q' => hb (by simp [q'])) (fun q' => hb (by simp [q'])) q) hf⟩
  self := fun A i s Q E st h => by
    obtain ⟨⟨f0, f1, hz, _⟩, _⟩ := st
    exact pi_zipF hz h
def iZipN (K : PySem.W.Frag) (ta : TA) : TI := fun σ H R => ta σ H fun vs H1 => ∃ a b xs ys, vs = [.ref a, .ref b] ∧ SqT K H1 a xs ∧ SqT K H1 b ys ∧ R (RZ.ItzT K a b) H1
theorem pi_zipN {X : Cx} {e e2 : Expr} {ta : TA} {p pos tpos : Pos} {nm : Str} (hg : Gl X "zip") (hm : X.mg "zip" = none) (ha : PA X [e, e2] ta)
    (hs : starEach [e, e2] X.env = (false, eval e X.env) :: starEach [e2] X.env := by rfl) (hpl : (backTo pos (starEach [e2] X.env)).any (·.1) = false := by rfl) :
    PI X (.Name nm tpos) (.Call (.Name "zip" p) [e, e2] [] pos) (iZipN X.K ta) := by
  refine ⟨fun pins s σ H R I h => ?_⟩
  refine Call_ (ld_blt I hg hm PyProof.Rows.boot_zip (PyProof.Rows.callWith_type1 (thn (ha.run pos pins s σ H _ I h) fun us s1 ⟨vs, H1, I1, r1, q1⟩ => ?_) hs hpl))
  obtain ⟨a, b, xs, ys, ex, hqx, hqy, q⟩ := q1
  subst ex
  cases r1 with
  | cons r rr =>
    cases rr with
    | cons r' rr =>
      cases rr
      cases r
      cases r'
      obtain ⟨its, rv, p1, _⟩ := I1.tuple hqx
      obtain ⟨its2, rv2, p2, _⟩ := I1.tuple hqy
      obtain ⟨o1, ho1, _⟩ := id p1
      obtain ⟨o2, ho2, _⟩ := id p2
      refine RZ.call_zipT (show s1.heap.IsTuple a its.toArray from p1) (show s1.heap.IsTuple b its2.toArray from p2) fun h' hz hTI hTO h1 h2 hsz hk => wpAny_pyIter_zip hz ?_
      have I2 : Inv X pins σ H1 { s1 with heap := h' } := I1.kept (t' := s1.toks) hk
      refine ⟨s1.heap.objs.size + 4, [s1.heap.objs.size + 4, s1.heap.objs.size + 2, s1.heap.objs.size + 3, s1.heap.objs.size, s1.heap.objs.size + 1], _, _, H1, rfl, I2, turn_zipN (PySem.W.ktu_apart s1.heap.objs.size a b (Heap.lt_size ho1) (Heap.lt_size ho2)), ⟨⟨_, _, hz, Or.inl rfl⟩, hTI, ⟨_, _, hTO⟩, h1, h2⟩, fun c hcm => ?_, q⟩
      have e' : c = s1.heap.objs.size + 4 ∨ c = s1.heap.objs.size + 2 ∨ c = s1.heap.objs.size + 3 ∨ c = s1.heap.objs.size ∨ c = s1.heap.objs.size + 1 := by simpa using hcm
      have hle : s1.heap.objs.size ≤ c := by
        rcases e' with z | z | z | z | z
        · rw [z]; exact Nat.le_add_right _ _
        · rw [z]; exact Nat.le_add_right _ _
        · rw [z]; exact Nat.le_add_right _ _
        · rw [z]; exact Nat.le_refl _
        · rw [z]; exact Nat.le_add_right _ _
      exact I1.fpOk hle (I1.hok.fresh hle)
@[simp] def hiZN (ta : HA) : HI := fun s C => ta s fun ps s1 => match ps with
  | [.dat (.tuple ds), .dat (.tuple es)] => C (zipD ds es) s1
  | _ => False
section
variable {X : Cx} {f : Fr} {a b : Expr} {r : HA}
theorem hi_zipN {p pos : Pos} {nm : Str} {tpos : Pos} (hg : Gl X "zip") (hm : X.mg "zip" = none) (ha : PA X [a, b] (lfA X.K f r)) (hs : starEach [a, b] X.env = (false, eval a X.env) :: starEach [b] X.env := by rfl) (hpl : (backTo pos (starEach [b] X.env)).any (·.1) = false := by rfl) : PI X (.Name nm tpos) (.Call (.Name "zip" p) [a, b] [] pos) (lfI X.K f (hiZN r)) := (pi_zipN hg hm ha hs hpl).mono fun σ H Q q => by
  obtain ⟨F, O, G, s, C, R, ht, k⟩ := q
  refine ⟨F, O, G, s, _, R, ht, fun ps s1 G1 H1 vs c1 e1 R1 V1 => ?_⟩
  split at c1
  · rename_i ds es
    cases V1 with
    | cons v1 V1 =>
      cases V1 with
      | cons v2 V1 =>
        cases V1
        have v1 : Dp X.K G1 _ (.tuple ds) := v1
        have v2 : Dp X.K G1 _ (.tuple es) := v2
        cases v1 with
        | tup hs ha =>
          cases v2 with
          | tup hs' ha' => exact ⟨_, _, _, _, rfl, Evl.ex_t R1.gh hs, Evl.ex_t R1.gh hs', k _ _ _ _ _ c1 e1 R1 (itOk_zipT hs ha hs' ha')⟩
  · exact c1.elim
end
end Sk
set_option Elab.async false
set_option linter.all false
set_option maxRecDepth 100000
set_option maxHeartbeats 4000000
namespace Sk
open PySem PySem.Spec PyProof.Rows L2
open PySem.W (Datum DatumOrd Tup T3 T4)
open Evl (Ex)
/-! k25: a way into a circle of hidden moves: the plain law -/
def hids (M : Mch) : List (List Int) := M.items.map fun r => hidR r.items
theorem hids_at {M : Mch} {x : Int} : (((hids M)[x.toNat]?).getD []) = hid M x := (hid_run (M := M) rfl x).symm
def endH (H : List (List Int)) : List Int := rndsH H H.length (rngI H.length)
theorem mem_endH {M : Mch} {x : Int} : x ∈ endH (hids M) ↔ Endl M x := endl_run (M := M) (H := hids M) rfl rfl x
def nextsH (H : List (List Int)) (E : List Int) (x : Int) : List Int := ((H[x.toNat]?).getD []).filter fun g => decide (g ∈ E)
def nextH (H : List (List Int)) (E : List Int) (x : Int) : Int := (nextsH H E x).head?.getD 0
theorem endl_next {M : Mch} {x : Int} (h : Endl M x) : ∃ g, g ∈ hid M x ∧ Endl M g := by
  obtain ⟨S, hS, hx⟩ := h
  obtain ⟨_, _, g, hg, h2⟩ := hS x hx
  exact ⟨g, hg, S, hS, h2⟩
theorem nexts_cons {M : Mch} {x : Int} (h : Endl M x) : ∃ r, nextsH (hids M) (endH (hids M)) x = nextH (hids M) (endH (hids M)) x :: r ∧ nextH (hids M) (endH (hids M)) x ∈ hid M x ∧ Endl M (nextH (hids M) (endH (hids M)) x) := by
  obtain ⟨g, hg, he⟩ := endl_next h
  have hm : g ∈ nextsH (hids M) (endH (hids M)) x := List.mem_filter.mpr ⟨by rw [hids_at]; exact hg, decide_eq_true (mem_endH.mpr he)⟩
  unfold nextH
  cases q : nextsH (hids M) (endH (hids M)) x with
  | nil => rw [q] at hm; cases hm
  | cons a r =>
    have ha : a ∈ nextsH (hids M) (endH (hids M)) x := by rw [q]; exact List.mem_cons_self
    obtain ⟨h1, h2⟩ := List.mem_filter.mp ha
    rw [hids_at] at h1
    exact ⟨r, rfl, h1, mem_endH.mp (of_decide_eq_true h2)⟩
def wayH (H : List (List Int)) (E : List Int) : Nat → List Int → Int → List Int × Int
  | 0, w, g => (w, g)
  | k + 1, w, g => if g ∈ w then (w, g) else wayH H E k (w ++ [g]) (nextH H E g)
theorem wayH_done {H : List (List Int)} {E : List Int} {k : Nat} {w : List Int} {g : Int} (h : g ∈ w) : wayH H E k w g = (w, g) := by
  cases k with
  | zero => rfl
  | succ k => show (if g ∈ w then _ else _) = _; rw [if_pos h]
/-- the way and the circle out of the walk -/
def cutH (p : List Int × Int) : List Int × List Int := (p.1.take (p.1.idxOf p.2 + 1), p.1.drop (p.1.idxOf p.2))
def circH (H : List (List Int)) (x : Int) : Option (List Int × List Int) := if x ∈ endH H then some (cutH (wayH H (endH H) H.length [x] (nextH H (endH H) x))) else none
def pairD (p : List Int × List Int) : PyData := .tuple [.tuple (p.1.map .int), .tuple (p.2.map .int)]
def circD (M : Mch) (x : Int) : PyData := match circH (hids M) x with
  | none => .none
  | some p => pairD p
/-- hidden moves lead from each to the next -/
def Lnk (M : Mch) (w : List Int) : Prop := ∀ (i : Nat) (a b : Int), w[i]? = some a → w[i + 1]? = some b → b ∈ hid M a
theorem Lnk.one {M : Mch} {x : Int} : Lnk M [x] := fun i a b _ h2 => by simp at h2
theorem Lnk.snoc {M : Mch} {w : List Int} {y z : Int} (h : Lnk M (w ++ [y])) (hz : z ∈ hid M y) : Lnk M (w ++ [y] ++ [z]) := fun i a b h1 h2 => by
  rcases Nat.lt_or_ge (i + 1) (w ++ [y]).length with l | l
  · rw [List.getElem?_append_left l] at h2
    rw [List.getElem?_append_left (by omega)] at h1
    exact h i a b h1 h2
  · rw [List.getElem?_append_right l] at h2
    have l2 : i + 1 - (w ++ [y]).length = 0 := by
      rcases Nat.eq_zero_or_pos (i + 1 - (w ++ [y]).length) with q | q
      · exact q
      · rw [List.getElem?_eq_none (by simp at q ⊢; omega)] at h2; cases h2
    rw [l2] at h2
    have hb : b = z := by simpa using h2.symm
    have hi : i = w.length := by simp at l l2; omega
    subst hi
    rw [List.getElem?_append_left (by simp), List.getElem?_append_right (Nat.le_refl _)] at h1
    have ha : a = y := by simpa using h1.symm
    rw [ha, hb]; exact hz
theorem Lnk.take {M : Mch} {w : List Int} (h : Lnk M w) (n : Nat) : Lnk M (w.take n) := fun i a b h1 h2 => by
  rw [List.getElem?_take] at h1 h2
  split at h2
  · rw [if_pos (by omega)] at h1
    exact h i a b h1 h2
  · cases h2
theorem Lnk.drop {M : Mch} {w : List Int} (h : Lnk M w) (n : Nat) : Lnk M (w.drop n) := fun i a b h1 h2 => by
  rw [List.getElem?_drop] at h1 h2
  exact h (n + i) a b h1 h2
structure WInv (M : Mch) (x : Int) (w : List Int) (g : Int) : Prop where
  nd : w.Nodup
  en : ∀ y ∈ w, Endl M y
  gl : Endl M g
  hd : w[0]? = some x
  lk : Lnk M (w ++ [g])
theorem WInv.start {M : Mch} {x : Int} (h : Endl M x) : WInv M x [x] (nextH (hids M) (endH (hids M)) x) := by
  obtain ⟨r, _, h1, h2⟩ := nexts_cons h
  exact ⟨by simp, fun y hy => by rw [List.mem_singleton.mp hy]; exact h, h2, rfl, Lnk.snoc (w := []) Lnk.one h1⟩
theorem WInv.step {M : Mch} {x : Int} {w : List Int} {g : Int} (h : WInv M x w g) (hg : g ∉ w) : WInv M x (w ++ [g]) (nextH (hids M) (endH (hids M)) g) := by
  obtain ⟨r, _, h1, h2⟩ := nexts_cons h.gl
  refine ⟨?_, fun y hy => ?_, h2, ?_, h.lk.snoc h1⟩
  · rw [List.nodup_append]
    exact ⟨h.nd, by simp, fun a ha b hb e => by rw [List.mem_singleton.mp hb] at e; exact hg (e ▸ ha)⟩
  · rcases List.mem_append.mp hy with hy | hy
    · exact h.en y hy
    · rw [List.mem_singleton.mp hy]; exact h.gl
  · have := h.hd
    cases w with
    | nil => cases this
    | cons a w => simpa using this
theorem WInv.len {M : Mch} {x : Int} {w : List Int} {g : Int} (h : WInv M x w g) : w.length ≤ M.items.length := rng_len h.nd fun y hy => endl_rng (h.en y hy)
theorem WInv.more {M : Mch} {x : Int} {w : List Int} {g : Int} (h : WInv M x w g) (hg : g ∉ w) : w.length < M.items.length := by
  have := (h.step hg).len
  simp at this
  omega
theorem WInv.pos {M : Mch} {x : Int} {w : List Int} {g : Int} (h : WInv M x w g) : 0 < w.length := by
  have := h.hd
  cases w with
  | nil => cases this
  | cons a w => simp
theorem WInv.fin {M : Mch} {x : Int} : ∀ (k : Nat) (w : List Int) (g : Int), WInv M x w g → M.items.length ≤ k + w.length → ∃ w' g', wayH (hids M) (endH (hids M)) k w g = (w', g') ∧ WInv M x w' g' ∧ g' ∈ w'
  | 0, w, g, h, l => ⟨w, g, rfl, h, by
      apply Classical.byContradiction
      intro q
      have := h.more q
      omega⟩
  | k + 1, w, g, h, l => by
    by_cases q : g ∈ w
    · exact ⟨w, g, wayH_done q, h, q⟩
    · obtain ⟨w', g', h1, h2, h3⟩ := WInv.fin k _ _ (h.step q) (by simp; omega)
      refine ⟨w', g', ?_, h2, h3⟩
      show (if g ∈ w then _ else _) = _
      rw [if_neg q]; exact h1
/-- what the law asks of the pair -/
structure IsCirc (M : Mch) (x : Int) (p : List Int × List Int) : Prop where
  w0 : p.1[0]? = some x
  c0 : ∃ g, p.2[0]? = some g ∧ p.1[p.1.length - 1]? = some g
  rg : ∀ y ∈ p.1 ++ p.2, 0 ≤ y ∧ y < M.items.length
  len : p.1.length + p.2.length = (once (p.1 ++ p.2)).length + 1
  ll : p.1.length + p.2.length ≤ M.items.length + 1
  l1 : Lnk M p.1
  l2 : Lnk M (p.2 ++ p.2.take 1)
theorem idxOf_at {w : List Int} {g : Int} (h : g ∈ w) : w[w.idxOf g]? = some g := by
  have hl : w.idxOf g < w.length := List.idxOf_lt_length_iff.mpr h
  rw [List.getElem?_eq_getElem hl, List.getElem_idxOf hl]
theorem WInv.circ {M : Mch} {x : Int} {w : List Int} {g : Int} (h : WInv M x w g) (hg : g ∈ w) : IsCirc M x (cutH (w, g)) := by
  have hl : w.idxOf g < w.length := List.idxOf_lt_length_iff.mpr hg
  have ia := idxOf_at hg
  unfold cutH
  simp only
  generalize w.idxOf g = i at hl ia
  have t1 : (w.drop i).take 1 = [g] := by
    rw [List.drop_eq_getElem_cons hl]
    rw [List.getElem?_eq_getElem hl] at ia
    have := Option.some.inj ia
    simp [this]
  have perm : (once (w.take (i + 1) ++ w.drop i)).length = w.length := by
    have : (once (w.take (i + 1) ++ w.drop i)).Perm w := (List.perm_ext_iff_of_nodup (once_nodup _) h.nd).mpr fun y => by
      rw [mem_once, List.mem_append]
      constructor
      · rintro (h | h)
        · exact List.mem_of_mem_take h
        · exact List.mem_of_mem_drop h
      · intro hy
        rw [← List.take_append_drop i w] at hy
        rcases List.mem_append.mp hy with hy | hy
        · exact Or.inl ((List.take_prefix_take_left (by omega)).subset hy)
        · exact Or.inr hy
    exact this.length_eq
  have hle := h.len
  have lt : (w.take (i + 1)).length = i + 1 := by rw [List.length_take]; omega
  exact {
    w0 := by
      rw [List.getElem?_take, if_pos (by omega)]; exact h.hd
    c0 := ⟨g, by rw [List.getElem?_drop]; exact ia, by rw [lt, List.getElem?_take, if_pos (by omega)]; exact ia⟩
    rg := fun y hy => by
      refine endl_rng (h.en y ?_)
      rcases List.mem_append.mp hy with h | h
      · exact List.mem_of_mem_take h
      · exact List.mem_of_mem_drop h
    len := by rw [perm, lt, List.length_drop]; omega
    ll := by rw [lt, List.length_drop]; omega
    l1 := by
      have := h.lk.take (i + 1)
      rw [List.take_append_of_le_length (by omega)] at this
      exact this
    l2 := by
      have := h.lk.drop i
      rw [List.drop_append_of_le_length (by omega)] at this
      rw [t1]; exact this }
theorem circ_some {M : Mch} {x : Int} (h : Endl M x) : ∃ p, circH (hids M) x = some p ∧ IsCirc M x p := by
  have hl : (hids M).length = M.items.length := by unfold hids; rw [List.length_map]
  obtain ⟨w, g, h1, h2, h3⟩ := WInv.fin (hids M).length _ _ (WInv.start h) (by rw [hl]; simp)
  refine ⟨cutH (w, g), ?_, h2.circ h3⟩
  unfold circH
  rw [if_pos (mem_endH.mpr h), h1]
theorem circ_none {M : Mch} {x : Int} (h : ¬ Endl M x) : circH (hids M) x = none := by
  unfold circH
  rw [if_neg fun z => h (mem_endH.mp z)]
end Sk
set_option Elab.async false
set_option linter.all false
set_option maxRecDepth 100000
set_option maxHeartbeats 4000000
namespace Sk
open PySem PySem.Spec PyProof.Rows L2
open PySem.W (Datum DatumOrd Tup T3 T4)
open Evl (Ex)
/-! k25: the readings -/
theorem cutTo (ds : List PyData) (h : Nat) : cutD ds none (some (h : Int)) = ds.take h := by
  unfold cutD
  rw [HT.sIx_none, HT.sIx_nat, List.drop_zero, Nat.sub_zero]
  rcases Nat.le_total h ds.length with q | q
  · rw [Nat.min_eq_left q]
  · rw [Nat.min_eq_right q, List.take_length, List.take_of_length_le q]
theorem cutFrom (ds : List PyData) (l : Nat) : cutD ds (some (l : Int)) none = ds.drop l := by
  unfold cutD
  rw [HT.sIx_none, HT.sIx_nat]
  rcases Nat.le_total l ds.length with q | q
  · rw [Nat.min_eq_left q, List.take_of_length_le (by rw [List.length_drop]; omega)]
  · rw [Nat.min_eq_right q, List.drop_length, List.drop_eq_nil_of_le q]; simp
def sp_circle_of_5ad863 : HSp := fun ps n C => ∃ (M : Mch) (x : Int), ps = [.dat (Datum.toD M), .dat (.int x)] ∧ MOk M ∧ 0 ≤ x ∧ x < M.items.length ∧ RowsLe 60 M ∧ C (.dat (circD M x)) n
theorem nexts_lc {M : Mch} (ok : MOk M) (le : RowsLe 60 M) {bs : List Bool} (hl : bs.length = M.items.length) (hb : ∀ x : Int, 0 ≤ x → x < M.items.length → (bs[x.toNat]? = some true ↔ Endl M x)) {x : Int} {o1 o3 o4 o6 : Option PV} {n : Nat} {C : PV → Sg → Prop}
    (c : C (.own ((nextsH (hids M) (endH (hids M)) x).map .int)) ⟨[some (.dat (Datum.toD M)), o1, some (.own (bs.map .bool)), o3, o4, none, o6], n⟩) :
    lcs [5] (gN 5) (hB (hC ixW (hL 2 (hL 5 hNil)))) (hV 5) ((hid M x).map .int) [] ⟨[some (.dat (Datum.toD M)), o1, some (.own (bs.map .bool)), o3, o4, none, o6], n⟩ C := by
  have hle := hid_le le (x := x)
  refine lcs_filter2 (fun x : Int => PyData.int x) (fun x => .int x) (fun g => decide (g ∈ endH (hids M))) (fun g hg K hF hT => ?_) [] _ (by simp; omega) ?_
  · have rg := hid_rng ok hg
    have lb : g.toNat < bs.length := by omega
    have at1 : atI (bs.map PyData.bool) g = some (.bool bs[g.toNat]) := by
      unfold atI ixN
      rw [List.length_map, if_pos rg.1, if_pos (by omega)]
      show (bs.map PyData.bool)[g.toNat]? = _
      rw [List.getElem?_map, List.getElem?_eq_getElem lb]; rfl
    have hbg := hb g rg.1 rg.2
    rw [List.getElem?_eq_getElem lb] at hbg
    simp
    refine ⟨_, at1, ?_⟩
    cases hb2 : bs[g.toNat] with
    | true =>
      rw [hb2] at hbg
      refine Or.inr ⟨rfl, hT (decide_eq_true (mem_endH.mpr (hbg.mp rfl))) _ fun K2 hK2 => ?_⟩
      simp; exact hK2 _ (by simp)
    | false =>
      rw [hb2] at hbg
      exact Or.inl ⟨rfl, hF (decide_eq_false fun z => by have := hbg.mpr (mem_endH.mp z); cases this) _ (by simp)⟩
  · simp only [List.nil_append]
    have e : ((hid M x).filter fun g => decide (g ∈ endH (hids M))).map PyData.int = (nextsH (hids M) (endH (hids M)) x).map .int := by
      unfold nextsH; rw [hids_at]
    rw [e]; exact c
theorem before_idx {g : Int} : ∀ {w : List Int} {m : Nat}, m < w.idxOf g → w[m]? ≠ some g
  | [], m, h => by simp
  | a :: w, m, h => by
    rw [List.idxOf_cons] at h
    by_cases e : a = g
    · subst e
      simp at h
    · have e2 : (a == g) = false := by simpa using e
      rw [e2] at h
      cases m with
      | zero => simpa using e
      | succ m =>
        rw [List.getElem?_cons_succ]
        exact before_idx (by simpa using h)
theorem ix0 (a : Int) (r : List Int) : atI ((a :: r).map PyData.int) 0 = some (.int a) := atI_ints (by decide) rfl
def h_circle_of_5ad863 : HS :=
    (hSeq (hDrop (hCall sp_need_machine_f4028c 1 (hL 0 hNil)))
    (hSeq (hDrop (hCall sp_need_node_37f819 2 (hL 0 (hL 1 hNil))))
    (hSeq (hAsg (hCall sp_endless_marks_77b142 1 (hL 0 hNil)) 2)
    (hSeq (hIfS (hNot (hB (hC ixW (hL 2 (hL 1 hNil))))) (hRet (hK .none)) hNext)
    (hSeq (hAsg (hLst (hE (hV 1) hNil)) 3)
    (hSeq (hAsg (hC ixW (hE (hLc (hiL (hCall sp_hidden_from_cea0e2 2 (hL 0 (hL 1 hNil)))) (gN 5) (hB (hC ixW (hL 2 (hL 5 hNil)))) (hV 5) [5]) (hE (hK (.int 0)) hNil))) 4)
    (hSeq (hWhile (hB (hC (inP true) (hL 4 (hL 3 hNil)))) (hSeq (hDrop (hApp 3 (hV 4)))
    (hAsg (hC ixW (hE (hLc (hiL (hCall sp_hidden_from_cea0e2 2 (hL 0 (hL 4 hNil)))) (gN 5) (hB (hC ixW (hL 2 (hL 5 hNil)))) (hV 5) [5]) (hE (hK (.int 0)) hNil))) 4)))
    (hSeq (hAsg (hIdx 3 (hV 4)) 6)
    (hRet (hTup (hE (hC tupW (hE (hSl 3 hNo (hPt (hC addW (hL 6 (hE (hK (.int 1)) hNil))))) hNil)) (hE (hC tupW (hE (hSl 3 (hPt (hV 6)) hNo) hNil)) hNil))))))))))))
theorem rd_circle_of_5ad863 : ∀ pvs n C, pvs.length = 2 → sp_circle_of_5ad863 pvs n C → h_circle_of_5ad863 ⟨fun s => C (.dat .none) s.n, fun p s => C p s.n, fun _ => False, fun _ => False⟩ ⟨pvs.map some ++ List.replicate (7 - pvs.length) none, n⟩ := by
  intro pvs n C _ h
  obtain ⟨M, x, rfl, ok, h0, h1, le, c⟩ := h
  unfold h_circle_of_5ad863
  have hi := ok.hi
  simp [-hLc]
  refine ⟨M, rfl, ok, M, x, rfl, h0, h1, M, rfl, ok, le, fun bs hl hb => ?_⟩
  have lb : x.toNat < bs.length := by omega
  have at1 : atI (bs.map PyData.bool) x = some (.bool bs[x.toNat]) := by
    unfold atI ixN
    rw [List.length_map, if_pos h0, if_pos (by omega)]
    show (bs.map PyData.bool)[x.toNat]? = _
    rw [List.getElem?_map, List.getElem?_eq_getElem lb]; rfl
  have hbx := hb x h0 h1
  rw [List.getElem?_eq_getElem lb] at hbx
  refine Or.inl ⟨_, _, rfl, at1, ?_⟩
  cases hb2 : bs[x.toNat] with
  | false =>
    rw [hb2] at hbx
    refine Or.inl ⟨rfl, ?_⟩
    have e : circD M x = .none := by unfold circD; rw [circ_none fun z => by have := hbx.mpr z; cases this]
    rw [e] at c; exact c
  | true =>
    rw [hb2] at hbx
    have en : Endl M x := hbx.mp rfl
    refine Or.inr ⟨rfl, ?_⟩
    refine hLc_eq.mpr ?_
    simp [-hLc, dats]
    refine ⟨M, x, rfl, ok, h0, h1, le, ?_⟩
    simp [-hLc, dats]
    refine nexts_lc ok le hl hb ?_
    obtain ⟨r, e1, _, _⟩ := nexts_cons en
    rw [e1]
    simp [-hLc, -hSl]
    refine ⟨_, ix0 _ _, ?_⟩
    obtain ⟨W, G, fW, IW, GW⟩ := WInv.fin M.items.length _ _ (WInv.start en) (by simp)
    have hlH : (hids M).length = M.items.length := by unfold hids; rw [List.length_map]
    have cD : circD M x = pairD (cutH (W, G)) := by
      unfold circD circH
      rw [if_pos (mem_endH.mpr en), hlH, fW]
    rw [cD] at c
    refine hWhile_by (fun m s => ∃ (w : List Int) (g : Int), s = ⟨[some (.dat (Datum.toD M)), some (.dat (.int x)), some (.own (bs.map .bool)), some (.own (w.map .int)), some (.dat (.int g)), none, none], n⟩ ∧ WInv M x w g ∧ wayH (hids M) (endH (hids M)) m w g = (W, G) ∧ M.items.length + 1 = m + w.length) M.items.length ⟨_, _, rfl, WInv.start en, fW, by simp⟩ ?_
    rintro m _ ⟨w, g, rfl, I, wf, ml⟩
    simp [-hLc, -hSl]
    have wl := I.len
    refine inP_D g w rfl rfl (by decide) ?_
    by_cases hg : g ∈ w
    · refine Or.inl ⟨by simp [hg], ?_⟩
      rw [wayH_done hg] at wf
      obtain ⟨rfl, rfl⟩ := Prod.mk.inj wf
      have ia := idxOf_at hg
      refine ⟨⟨w, rfl⟩, w, rfl, w.idxOf g, ia, fun m hm => ?_, ?_⟩
      · exact before_idx hm
      · simp [dats]
        have e2 : cutD (w.map PyData.int) none (some ((w.idxOf g : Int) + 1)) = (w.take (w.idxOf g + 1)).map .int := by
          have := cutTo (w.map PyData.int) (w.idxOf g + 1)
          rw [List.map_take]
          exact this
        rw [e2, cutFrom, ← List.map_drop]
        exact c
    · refine Or.inr ⟨by simp [hg], ?_⟩
      cases m with
      | zero => omega
      | succ m =>
        have wf2 : wayH (hids M) (endH (hids M)) m (w ++ [g]) (nextH (hids M) (endH (hids M)) g) = (W, G) := by
          rw [← wf]
          show _ = if g ∈ w then _ else _
          rw [if_neg hg]
        have rg := endl_rng I.gl
        refine ⟨by omega, ?_⟩
        refine hLc_eq.mpr ?_
        simp [-hLc, dats]
        refine ⟨M, g, rfl, ok, rg.1, rg.2, le, ?_⟩
        simp [-hLc, dats]
        refine nexts_lc ok le hl hb ?_
        obtain ⟨r2, e2, _, _⟩ := nexts_cons I.gl
        rw [e2]
        simp [-hLc, -hSl]
        refine ⟨_, ix0 _ _, m, by omega, w ++ [g], _, ⟨by simp, rfl⟩, I.step hg, wf2, by simp; omega⟩
def sp__law_goes_1279ee : HSp := fun ps n C => ∃ (M : Mch) (w : List Int), ps = [.dat (Datum.toD M), .dat (.tuple (w.map .int))] ∧ MOk M ∧ (∀ y ∈ w, 0 ≤ y ∧ y < M.items.length) ∧ w.length ≤ 5000 ∧ Lnk M w ∧ C (.dat (.bool true)) n
def h__law_goes_1279ee : HS :=
    (hRet (hC (eqP false) (hE (hLc (hiZN (hE (hV 1) (hE (hSl 1 (hPt (hK (.int 1))) hNo) hNil))) (gN 2) (hB (hC (inP true) (hE (hTup (hE (hK (.str "")) (hE (hC ixW (hL 2 (hE (hK (.int 1)) hNil))) hNil))) (hE (hC ixW (hL 0 (hE (hC ixW (hL 2 (hE (hK (.int 0)) hNil))) hNil))) hNil)))) (hV 2) [2]) (hE (hLst hNil) hNil))))
theorem rd__law_goes_1279ee : ∀ pvs n C, pvs.length = 2 → sp__law_goes_1279ee pvs n C → h__law_goes_1279ee ⟨fun s => C (.dat .none) s.n, fun p s => C p s.n, fun _ => False, fun _ => False⟩ ⟨pvs.map some ++ List.replicate (3 - pvs.length) none, n⟩ := by
  intro pvs n C _ h
  obtain ⟨M, w, rfl, ok, rg, hl, lk, c⟩ := h
  unfold h__law_goes_1279ee
  have hM : (Datum.toD M : PyData) = .tuple (M.items.map Datum.toD) := rfl
  rw [hM]
  simp [-hLc]
  refine hLc_eq.mpr ?_
  simp [-hLc]
  rw [cut1_none, ← List.map_drop, zipD_map]
  refine lcs_filter2 (fun p : Int × Int => PyData.tuple [.int p.1, .int p.2]) (fun p => PyData.tuple [.int p.1, .int p.2]) (fun _ => false) (fun p hp K hF hT => ?_) [] _ (by simp; omega) ?_
  · obtain ⟨i, hi⟩ := List.getElem?_of_mem hp
    rw [List.getElem?_zip_eq_some, List.getElem?_drop] at hi
    have hg := lk i p.1 p.2 hi.1 (by rw [← hi.2, Nat.add_comm])
    have r1 := rg p.1 (List.mem_of_getElem? hi.1)
    have a1 : atI [PyData.int p.1, .int p.2] 1 = some (.int p.2) := rfl
    have a0 : atI [PyData.int p.1, .int p.2] 0 = some (.int p.1) := rfl
    simp [dats]
    refine ⟨_, a1, ?_⟩
    refine ⟨_, a0, ?_⟩
    simp [atI_row r1.1 r1.2]
    refine inP_D (α := Str × Int) ("", p.2) (rowAt M p.1) rfl rfl (by decide) (Or.inl ⟨?_, hF rfl _ (by simp)⟩)
    simp [mem_hid.mp hg]
  · have ef : (w.zip (w.drop 1)).filter (fun _ => false) = [] := List.filter_eq_nil_iff.mpr fun _ _ h => by cases h
    rw [ef]
    simp
    exact eqP_same rfl rfl (by simp [PyData.plain, PyData.plainAll]) (by simp [PyData.depth, PyData.depthAll]) c
def sp__law_is_circle_4ff723 : HSp := fun ps n C => ∃ (M : Mch) (x : Int) (p : List Int × List Int), ps = [.dat (Datum.toD M), .dat (.int x), .dat (pairD p)] ∧ MOk M ∧ IsCirc M x p ∧ C (.dat (.bool true)) n
@[simp] theorem rIn (i n : Int) : (if false = true then !decide (0 ≤ i ∧ i < n) else decide (0 ≤ i ∧ i < n)) = decide (0 ≤ i ∧ i < n) := rfl
def h__law_is_circle_4ff723 : HS :=
    (hSeq (hIfS (hOr (hNot (hB (hC isiW (hL 2 (fun s C => hNil s fun ps s2 => C (.val (.ty "tuple") :: ps) s2))))) (hOr (hB (hC (eqP true) (hE (hC lenW (hL 2 hNil)) (hE (hK (.int 2)) hNil)))) (hNot (hB (hC (allW fun bs => bs.all id) (hE (hLc (hiT (hV 2)) (gN 3) hYes (hC isiW (hL 3 (fun s C => hNil s fun ps s2 => C (.val (.ty "tuple") :: ps) s2))) [3]) hNil)))))) (hRet (hK (.bool false))) hNext)
    (hSeq (fun D s => (hV 2) s fun p s1 => ∃ d, p.frz = some d ∧ (gP 4 5) d s1 D.nx)
    (hSeq (hIfS (hOr (hB (hC (eqP false) (hL 4 (hE (hTup hNil) hNil)))) (hOr (hB (hC (eqP false) (hL 5 (hE (hTup hNil) hNil)))) (hB (hC (eqP true) (hE (hLc (hiT (hC addTW (hL 4 (hL 5 hNil)))) (gN 6) (hNot (hB (hC isiW (hL 6 (fun s C => hNil s fun ps s2 => C (.val (.ty "int") :: ps) s2))))) (hV 6) [6]) (hE (hLst hNil) hNil)))))) (hRet (hK (.bool false))) hNext)
    (hSeq (hIfS (hB (hC (eqP true) (hE (hLc (hiT (hC addTW (hL 4 (hL 5 hNil)))) (gN 6) (hOr (hB (hC isiW (hL 6 (fun s C => hNil s fun ps s2 => C (.val (.ty "bool") :: ps) s2)))) (hB (hC (inRW true) (hL 6 (hE (hC lenW (hL 0 hNil)) hNil))))) (hV 6) [6]) (hE (hLst hNil) hNil)))) (hRet (hK (.bool false))) hNext)
    (hSeq (hIfS (hOr (hB (hC (eqP true) (hE (hC ixW (hL 4 (hE (hK (.int 0)) hNil))) (hL 1 hNil)))) (hOr (hB (hC (eqP true) (hE (hC ixW (hL 4 (hE (hK (.int (-1))) hNil))) (hE (hC ixW (hL 5 (hE (hK (.int 0)) hNil))) hNil)))) (hB (hC (eqP true) (hE (hC lenSetW (hE (hC addTW (hL 4 (hL 5 hNil))) hNil)) (hE (hC subW (hE (hC addW (hE (hC lenW (hL 4 hNil)) (hE (hC lenW (hL 5 hNil)) hNil))) (hE (hK (.int 1)) hNil))) hNil)))))) (hRet (hK (.bool false))) hNext)
    (hRet (hAndV (hCall sp__law_goes_1279ee 2 (hL 0 (hL 4 hNil))) (hCall sp__law_goes_1279ee 2 (hL 0 (hE (hC addTW (hL 5 (hE (hSl 5 hNo (hPt (hK (.int 1)))) hNil))) hNil))))))))))
theorem rd__law_is_circle_4ff723 : ∀ pvs n C, pvs.length = 3 → sp__law_is_circle_4ff723 pvs n C → h__law_is_circle_4ff723 ⟨fun s => C (.dat .none) s.n, fun p s => C p s.n, fun _ => False, fun _ => False⟩ ⟨pvs.map some ++ List.replicate (7 - pvs.length) none, n⟩ := by
  intro pvs n C _ h
  obtain ⟨M, x, ⟨w, c⟩, rfl, ok, I, q⟩ := h
  unfold h__law_is_circle_4ff723
  have hM : (Datum.toD M : PyData) = .tuple (M.items.map Datum.toD) := rfl
  have hi := ok.hi
  have lo := ok.lo
  obtain ⟨g, c0, wl⟩ := I.c0
  have len := I.len
  have ll := I.ll
  simp only at c0 wl len ll
  have wne : w ≠ [] := fun z => by have := I.w0; simp only [z] at this; cases this
  have cne : c ≠ [] := fun z => by rw [z] at c0; cases c0
  have wp : 0 < w.length := List.length_pos_iff.mpr wne
  unfold pairD
  rw [hM]
  have kT : ∀ ds, kitB (tyD (PyData.tuple ds)) "tuple" = some true := fun ds => rfl
  have kI : ∀ i, kitB (tyD (PyData.int i)) "int" = some true := fun i => rfl
  have kB : ∀ i, kitB (tyD (PyData.int i)) "bool" = some false := fun i => rfl
  simp [-hLc, isiW]
  refine Or.inr ⟨kT _, ?_⟩
  refine hLc_eq.mpr ?_
  simp [-hLc, isiW, kT]
  refine ⟨[true, true], rfl, Or.inr ⟨rfl, ?_⟩⟩
  refine eqP_D (α := PySem.W.Tup Int) ⟨w⟩ ⟨[]⟩ rfl rfl (by decide) (Or.inl ⟨by simp [wne], ?_⟩)
  refine eqP_D (α := PySem.W.Tup Int) ⟨c⟩ ⟨[]⟩ rfl rfl (by decide) (Or.inl ⟨by simp [cne], ?_⟩)
  refine hLc_eq.mpr ?_
  have hl5 : w.length + c.length ≤ 100000 := by omega
  have hsg : ∀ n, (⟨[some (PV.dat (PyData.tuple (List.map Datum.toD M.items))), some (PV.dat (PyData.int x)), some (PV.dat (PyData.tuple [PyData.tuple (List.map PyData.int w), PyData.tuple (List.map PyData.int c)])), none, some (PV.dat (PyData.tuple (List.map PyData.int w))), some (PV.dat (PyData.tuple (List.map PyData.int c))), none], n⟩ : Sg) = ⟨[some (PV.dat (PyData.tuple (List.map Datum.toD M.items))), some (PV.dat (PyData.int x)), some (PV.dat (PyData.tuple [PyData.tuple (List.map PyData.int w), PyData.tuple (List.map PyData.int c)])), none, some (PV.dat (PyData.tuple (List.map PyData.int w))), some (PV.dat (PyData.tuple (List.map PyData.int c))), none], n⟩ := fun _ => rfl
  have ef : ((w ++ c).filter fun _ => false) = [] := List.filter_eq_nil_iff.mpr fun _ _ h => by cases h
  have eqnil : ∀ {C : PV → Prop}, C (.dat (.bool false)) → eqP true [PV.dat (.list []), PV.dat (.list [])] C := fun {C} h => eqP_same rfl rfl (by simp [PyData.plain, PyData.plainAll]) (by simp [PyData.depth, PyData.depthAll]) h
  simp [-hLc, addTW]
  refine ⟨hl5, ?_⟩
  rw [← List.map_append]
  refine lcs_filter2 (fun y : Int => PyData.int y) (fun y => .int y) (fun _ => false) (fun y hy K hF hT => ?_) [] _ (by simp; omega) ?_
  · simp [isiW, kI]
    exact hF rfl _ (by simp)
  rw [ef]
  simp [-hLc]
  refine eqnil (Or.inl ⟨rfl, ?_⟩)
  refine hLc_eq.mpr ?_
  simp [-hLc, addTW]
  refine ⟨hl5, ?_⟩
  rw [← List.map_append]
  refine lcs_filter2 (fun y : Int => PyData.int y) (fun y => .int y) (fun _ => false) (fun y hy K hF hT => ?_) [] _ (by simp; omega) ?_
  · have ry := I.rg y hy
    simp [isiW, kB]
    have eb : (!decide (0 ≤ y) || !decide (y < (M.items.length : Int))) = false := by simp [ry.1, ry.2]
    rw [eb]
    exact hF rfl _ (by simp)
  rw [ef]
  refine ⟨_, rfl, eqnil (Or.inl ⟨rfl, ?_⟩)⟩
  have aw0 : atI (w.map PyData.int) 0 = some (.int x) := atI_ints (by decide) I.w0
  have ac0 : atI (c.map PyData.int) 0 = some (.int g) := atI_ints (by decide) c0
  have awl : atI (w.map PyData.int) (-1) = some (.int g) := by
    unfold atI ixN
    rw [List.length_map, if_neg (by decide), if_pos (by omega)]
    show (w.map PyData.int)[((-1 : Int) + (w.length : Nat)).toNat]? = _
    rw [show ((-1 : Int) + (w.length : Nat)).toNat = w.length - 1 by omega, List.getElem?_map, wl]; rfl
  have ct1 : cutD (c.map PyData.int) none (some 1) = (c.take 1).map .int := cut1 c _
  simp [addTW]
  refine ⟨_, aw0, eqP_D (α := Int) x x rfl rfl (by decide) (Or.inl ⟨by simp, ⟨_, awl, _, ac0, eqP_D (α := Int) g g rfl rfl (by decide) (Or.inl ⟨by simp, hl5, ?_⟩)⟩⟩)⟩
  rw [← List.map_append]
  have hl4 : (w ++ c).length ≤ 4000 := by rw [List.length_append]; omega
  refine ⟨w ++ c, rfl, hl4, _, rfl, ?_⟩
  refine eqP_D (α := Int) ((once (w ++ c)).length : Nat) ((w.length : Int) + c.length - 1) rfl rfl (by decide) (Or.inl ⟨by
    have : (((once (w ++ c)).length : Nat) : Int) = (w.length : Int) + c.length - 1 := by omega
    simp [this], ?_⟩)
  have rw1 : ∀ y ∈ w, 0 ≤ y ∧ y < M.items.length := fun y hy => I.rg y (List.mem_append.mpr (Or.inl hy))
  have rc1 : ∀ y ∈ c, 0 ≤ y ∧ y < M.items.length := fun y hy => I.rg y (List.mem_append.mpr (Or.inr hy))
  rw [ct1, ← List.map_append]
  refine ⟨M, w, rfl, ok, rw1, by omega, I.l1, Or.inr ⟨rfl, by simp; omega, M, _, rfl, ok, fun y hy => ?_, by simp; omega, I.l2, q⟩⟩
  rcases List.mem_append.mp hy with hy | hy
  · exact rc1 y hy
  · exact rc1 y (List.mem_of_mem_take hy)
theorem _root_.Sk.ShowK.consK' {d e : PyData} {k v : Nat} (h : ShowK d k v) (t : ShowK e k v) : ShowK (.tuple [d, e]) (k + 1) (v + 1 + (v + 1 + 0)) := (ShowAll.consK h (ShowAll.consK t ShowAll.nil)).tupK
theorem circ_show {M : Mch} {x : Int} (hi : M.items.length ≤ 300) : ShowOk (circD M x) := by
  by_cases h : Endl M x
  · obtain ⟨p, e, I⟩ := circ_some h
    have ll := I.ll
    unfold circD
    rw [e]
    have s1 : ShowK (.tuple (p.1.map .int)) 1 (21 * 400) := (show_ints fun y hy => by
      have := I.rg y (List.mem_append.mpr (Or.inl hy))
      exact ⟨this.1, by omega⟩).tupK.mono (by decide) (Nat.mul_le_mul_left _ (by omega))
    have s2 : ShowK (.tuple (p.2.map .int)) 1 (21 * 400) := (show_ints fun y hy => by
      have := I.rg y (List.mem_append.mpr (Or.inr hy))
      exact ⟨this.1, by omega⟩).tupK.mono (by decide) (Nat.mul_le_mul_left _ (by omega))
    exact ((s1.consK' s2)).ok (by decide) (by decide)
  · unfold circD
    rw [circ_none h]
    exact none_showK.ok (by decide) (by decide)
def sp__law_right_43d9f3 : HSp := fun ps n C => ∃ M : Mch, ps = [.dat (Datum.toD M)] ∧ MOk M ∧ RowsLe 60 M ∧ C (.dat (.bool true)) n
abbrev r25Body : HS := (hSeq (hAsg (hCall sp_circle_of_5ad863 2 (hL 0 (hL 2 hNil))) 3)
    (hSeq (hIfS (hOr (hAnd (hB (hC (inP true) (hL 2 (hL 1 hNil)))) (hB (hC (isN true) (hL 3 (hE (hK .none) hNil))))) (hAnd (hB (hC (inP false) (hL 2 (hL 1 hNil)))) (hNot (hB (hCall sp__law_is_circle_4ff723 3 (hL 0 (hL 2 (hL 3 hNil)))))))) (hRet (hK (.bool false))) hNext)
    (hIfS (hB (hC (eqP true) (hE (hC reprW (hE (hCall sp_circle_of_5ad863 2 (hL 0 (hL 2 hNil))) hNil)) (hE (hC reprW (hL 3 hNil)) hNil)))) (hRet (hK (.bool false))) hNext)))
theorem r25_loop {D : HD} {M : Mch} (ok : MOk M) (le : RowsLe 60 M) {ys : List Int} (hm : ∀ x, x ∈ ys ↔ Endl M x) {n : Nat} : ∀ (ks : List Nat) (o2 o3 : Option PV), (∀ k ∈ ks, k < M.items.length) → (∀ o2' o3', D.nx ⟨[some (.dat (Datum.toD M)), some (.own (ys.map .int)), o2', o3'], n⟩) →
    each (gN 2) r25Body D (ks.map fun i => PyData.int ((i : Nat) : Int)) ⟨[some (.dat (Datum.toD M)), some (.own (ys.map .int)), o2, o3], n⟩ := by
  intro ks
  induction ks with
  | nil => intro o2 o3 _ fin; exact fin o2 o3
  | cons k ks ih =>
    intro o2 o3 hk fin
    have k0 := hk k List.mem_cons_self
    have hi := ok.hi
    have sh := circ_show (M := M) (x := (k : Int)) hi
    have it := ih (some (.dat (.int (k : Int)))) (some (.dat (circD M k))) (fun j hj => hk j (List.mem_cons_of_mem _ hj)) fin
    simp
    refine ⟨M, k, rfl, ok, by omega, by omega, le, ?_⟩
    simp
    have tail : ∀ n', n' = n → sp_circle_of_5ad863 [.dat (Datum.toD M), .dat (.int (k : Int))] n' fun p n' => ∃ d, p.frz = some d ∧ reprW [PV.dat d] fun p => ∃ d, p.frz = some d ∧ reprW [PV.dat (circD M k)] fun p => ∃ d_1, p.frz = some d_1 ∧ eqP true [PV.dat d, PV.dat d_1] fun p =>
        p = PV.dat (PyData.bool false) ∧ each (gN 2) r25Body D (List.map (fun i : Nat => PyData.int (i : Int)) ks) ⟨[some (.dat (Datum.toD M)), some (.own (ys.map .int)), some (.dat (.int (k : Int))), some (.dat (circD M k))], n'⟩ ∨
        p = PV.dat (PyData.bool true) ∧ D.rt (PV.dat (PyData.bool false)) ⟨[some (.dat (Datum.toD M)), some (.own (ys.map .int)), some (.dat (.int (k : Int))), some (.dat (circD M k))], n'⟩ := fun n' e => by
      subst e
      exact ⟨M, k, rfl, ok, by omega, by omega, le, _, rfl, repr_ok sh rfl ⟨_, rfl, repr_ok sh rfl ⟨_, rfl, eq_str.mpr (Or.inl ⟨by simp, it⟩)⟩⟩⟩
    by_cases he : Endl M k
    · obtain ⟨p, e, I⟩ := circ_some he
      refine inP_D (k : Int) ys rfl rfl (by decide) (Or.inl ⟨by simp [(hm k).mpr he], ?_⟩)
      refine inP_D (k : Int) ys rfl rfl (by decide) (Or.inr ⟨by simp [(hm k).mpr he], ?_⟩)
      have ec : circD M k = pairD p := by unfold circD; rw [e]
      refine ⟨M, k, p, by rw [ec], ok, I, Or.inr ⟨rfl, ?_⟩⟩
      exact tail n rfl
    · have ec : circD M k = .none := by unfold circD; rw [circ_none he]
      refine inP_D (k : Int) ys rfl rfl (by decide) (Or.inr ⟨by simp [mt (hm k).mp he], Or.inl ⟨by rw [ec]; rfl, ?_⟩⟩)
      refine inP_D (k : Int) ys rfl rfl (by decide) (Or.inl ⟨by simp [mt (hm k).mp he], ?_⟩)
      exact tail n rfl
def h__law_right_43d9f3 : HS :=
    (hSeq (hAsg (hCall sp__law_endless_97b8f5 1 (hL 0 hNil)) 1)
    (hSeq (hFor (hiR1 (hE (hC lenW (hL 0 hNil)) hNil)) (gN 2) (hSeq (hAsg (hCall sp_circle_of_5ad863 2 (hL 0 (hL 2 hNil))) 3)
    (hSeq (hIfS (hOr (hAnd (hB (hC (inP true) (hL 2 (hL 1 hNil)))) (hB (hC (isN true) (hL 3 (hE (hK .none) hNil))))) (hAnd (hB (hC (inP false) (hL 2 (hL 1 hNil)))) (hNot (hB (hCall sp__law_is_circle_4ff723 3 (hL 0 (hL 2 (hL 3 hNil)))))))) (hRet (hK (.bool false))) hNext)
    (hIfS (hB (hC (eqP true) (hE (hC reprW (hE (hCall sp_circle_of_5ad863 2 (hL 0 (hL 2 hNil))) hNil)) (hE (hC reprW (hL 3 hNil)) hNil)))) (hRet (hK (.bool false))) hNext))))
    (hRet (hK (.bool true)))))
theorem rd__law_right_43d9f3 : ∀ pvs n C, pvs.length = 1 → sp__law_right_43d9f3 pvs n C → h__law_right_43d9f3 ⟨fun s => C (.dat .none) s.n, fun p s => C p s.n, fun _ => False, fun _ => False⟩ ⟨pvs.map some ++ List.replicate (4 - pvs.length) none, n⟩ := by
  intro pvs n C _ h
  obtain ⟨M, rfl, ok, le, q⟩ := h
  unfold h__law_right_43d9f3
  have hi := ok.hi
  have hM : (Datum.toD M : PyData) = .tuple (M.items.map Datum.toD) := rfl
  simp [-hFor]
  refine ⟨M, rfl, ok, le, fun ys hy hm => ?_⟩
  simp only [hFor, hiR1]
  simp [-hFor, hM]
  refine ⟨by omega, ?_⟩
  have er : rngD 0 M.items.length = (List.range M.items.length).map fun i => PyData.int ((i : Nat) : Int) := by simp [rngD]
  rw [er, ← hM]
  refine r25_loop ok le hm (List.range M.items.length) _ _ (fun k hk => List.mem_range.mp hk) fun o2 o3 => ?_
  simp
  exact q
end Sk
set_option Elab.async false
set_option linter.all false
set_option maxRecDepth 100000
set_option maxHeartbeats 4000000
namespace Sk
open PySem PySem.Spec PyProof.Rows L2
open PySem.W (Datum DatumOrd Tup T3 T4)
open Evl (Ex)
/-! k25: by hand, and the law -/
def circR : Option (List Int × List Int) → PyData
  | none => .none
  | some p => pairD p
theorem circD_run {M : Mch} {H : List (List Int)} {x : Int} {r : Option (List Int × List Int)} (e : (M.items.map fun r => hidR r.items) = H) (h : circH H x = r) : circD M x = circR r := by
  unfold circD hids
  rw [e, h]; rfl
def some25 (a b : Str) : Mch := ⟨[⟨[(("" : Str), 0), (a, 1)]⟩, ⟨[(("" : Str), 2), (b, 0)]⟩, ⟨[(("" : Str), 3)]⟩, ⟨[(("" : Str), 4)]⟩, ⟨[(("" : Str), 2), (("" : Str), 5)]⟩, ⟨[(a, 5)]⟩]⟩
def step25 (k : Nat) : PySem.W.Tup (Str × Int) := ⟨[(("" : Str), ((k : Nat) : Int) + 1)]⟩
def chain25 : Mch := ⟨(List.range 40).map step25 ++ [⟨[(("" : Str), 40)]⟩]⟩
def tri25 : Mch := ⟨[⟨[(("" : Str), 1), (("" : Str), 2)]⟩, ⟨[(("" : Str), 1)]⟩, ⟨[(("" : Str), 2)]⟩]⟩
def two25 (a b : Str) : Mch := ⟨[⟨[(a, 1)]⟩, ⟨[(b, 0)]⟩]⟩
theorem row_mk1 {many i : Int} {ws : List Str} (w : Str) (hw : w = "" ∨ w ∈ ws) (h0 : 0 ≤ i) (h1 : i < many) : (∀ q ∈ (Tup.mk [(w, i)]).items, VM many ws q) ∧ Rising (Tup.mk [(w, i)]).items ∧ (Tup.mk [(w, i)]).items.length ≤ 4 :=
  ⟨fun q hq => by simp at hq; subst hq; exact ⟨h0, h1, hw.symm⟩, by simp [Rising], by show (1 : Nat) ≤ 4; decide⟩
theorem chain25_ok : MOk chain25 := by
  refine mok_of (many := 41) (ws := []) (by simp) (by simp) (by simp [chain25]) (by decide) (fun w hw => by cases hw) fun r hr => ?_
  rcases List.mem_append.mp hr with hr | hr
  · obtain ⟨k, hk, rfl⟩ := List.mem_map.mp hr
    have := List.mem_range.mp hk
    exact row_mk1 "" (Or.inl rfl) (by omega) (by omega)
  · rw [List.mem_singleton.mp hr]
    exact row_mk1 "" (Or.inl rfl) (by omega) (by omega)
theorem chain25_le : RowsLe 60 chain25 := fun r hr => by
  rcases List.mem_append.mp hr with hr | hr
  · obtain ⟨k, hk, rfl⟩ := List.mem_map.mp hr
    show (1 : Nat) ≤ 60; decide
  · rw [List.mem_singleton.mp hr]; show (1 : Nat) ≤ 60; decide
def chainH : List (List Int) := (List.range 40).map (fun k => [((k : Nat) : Int) + 1]) ++ [[40]]
theorem chain25_circ : circD chain25 0 = pairD (rngI 41, [40]) := by
  refine circD_run (H := chainH) (r := some (rngI 41, [40])) ?_ (by decide +kernel)
  simp [chain25, chainH, step25, hidR]
theorem tri25_ok : MOk tri25 := by
  refine mok_of (many := 3) (ws := []) (by simp) (by simp) rfl (by decide) (fun w hw => by cases hw) fun r hr => ?_
  simp [tri25] at hr
  rcases hr with rfl | rfl | rfl
  · refine ⟨fun q hq => ?_, by simp [Rising]; exact lt_p2 (by decide), by show (2 : Nat) ≤ 4; decide⟩
    simp at hq; rcases hq with rfl | rfl <;> exact ⟨by simp, by simp, by simp⟩
  · exact row_mk1 "" (Or.inl rfl) (by omega) (by omega)
  · exact row_mk1 "" (Or.inl rfl) (by omega) (by omega)
theorem tri25_le : RowsLe 60 tri25 := fun r hr => by
  simp [tri25] at hr
  rcases hr with rfl | rfl | rfl <;> simp
section
variable {a b : Str} (ha : isWordS a = true) (hb : isWordS b = true) (hab : DatumOrd.lt a b = true)
include ha hb hab
theorem some25_ok : MOk (some25 a b) := by
  have ea := str_pos (word_ne ha)
  have eb := str_pos (word_ne hb)
  refine mok_of (many := 6) (ws := [a, b]) (by simp) (by simp) rfl (by show (2 : Nat) ≤ 8; decide) (fun w hw => ?_) fun r hr => ?_
  · simp at hw; rcases hw with rfl | rfl <;> assumption
  · simp [some25] at hr
    rcases hr with rfl | rfl | rfl | rfl | rfl | rfl
    · refine row_mk ha hb hab (fun q hq => ?_) (by simp [Rising]; exact lt_p1 ea) (by show (2 : Nat) ≤ 4; decide)
      simp at hq; rcases hq with rfl | rfl <;> exact ⟨by simp, by simp, by simp⟩
    · refine row_mk ha hb hab (fun q hq => ?_) (by simp [Rising]; exact lt_p1 eb) (by show (2 : Nat) ≤ 4; decide)
      simp at hq; rcases hq with rfl | rfl <;> exact ⟨by simp, by simp, by simp⟩
    · exact row_mk1 "" (Or.inl rfl) (by omega) (by omega)
    · exact row_mk1 "" (Or.inl rfl) (by omega) (by omega)
    · refine row_mk ha hb hab (fun q hq => ?_) (by simp [Rising]; exact lt_p2 (by decide)) (by show (2 : Nat) ≤ 4; decide)
      simp at hq; rcases hq with rfl | rfl <;> exact ⟨by simp, by simp, by simp⟩
    · exact row_mk1 a (Or.inr (by simp)) (by omega) (by omega)
theorem two25_ok : MOk (two25 a b) := by
  refine mok_of (many := 2) (ws := [a, b]) (by simp) (by simp) rfl (by show (2 : Nat) ≤ 8; decide) (fun w hw => ?_) fun r hr => ?_
  · simp at hw; rcases hw with rfl | rfl <;> assumption
  · simp [two25] at hr
    rcases hr with rfl | rfl
    · exact row_mk1 a (Or.inr (by simp)) (by omega) (by omega)
    · exact row_mk1 b (Or.inr (by simp)) (by omega) (by omega)
theorem some25_circ : circD (some25 a b) 0 = pairD ([0], [0]) ∧ circD (some25 a b) 1 = pairD ([1, 2], [2, 3, 4]) ∧ circD (some25 a b) 2 = pairD ([2], [2, 3, 4]) ∧ circD (some25 a b) 3 = pairD ([3], [3, 4, 2]) ∧ circD (some25 a b) 4 = pairD ([4], [4, 2, 3]) ∧ circD (some25 a b) 5 = .none := by
  have na := word_ne ha
  have nb := word_ne hb
  have e : ((some25 a b).items.map fun r => hidR r.items) = [[0], [2], [3], [4], [2, 5], []] := by simp [some25, hidR, na, nb]
  exact ⟨circD_run e (r := some ([0], [0])) (by decide +kernel), circD_run e (r := some ([1, 2], [2, 3, 4])) (by decide +kernel), circD_run e (r := some ([2], [2, 3, 4])) (by decide +kernel), circD_run e (r := some ([3], [3, 4, 2])) (by decide +kernel), circD_run e (r := some ([4], [4, 2, 3])) (by decide +kernel), circD_run e (r := none) (by decide +kernel)⟩
theorem two25_circ : circD (two25 a b) 1 = .none := by
  have na := word_ne ha
  have nb := word_ne hb
  have e : ((two25 a b).items.map fun r => hidR r.items) = [[], []] := by simp [two25, hidR, na, nb]
  exact circD_run e (r := none) (by decide +kernel)
end
theorem circ_of {M : Mch} {x : Int} {d : PyData} {n : Nat} {C : PV → Nat → Prop} (ok : MOk M) (le : RowsLe 60 M) (h0 : 0 ≤ x) (h1 : x < M.items.length) (e : circD M x = d) (c : C (.dat d) n) : sp_circle_of_5ad863 [.dat (Datum.toD M), .dat (.int x)] n C := ⟨M, x, rfl, ok, h0, h1, le, by rw [e]; exact c⟩
def sp__law_hand_right_20486c : HSp := fun ps n C => ps = [.drw] ∧ n < 100000000 ∧ C (.dat (.bool true)) (n + 5)
def h__law_hand_right_20486c : HS :=
    (hSeq (fun D s => (hC (sortA (Str)) (hE (hCall sp__law_words_aaf2f6 2 (hL 0 (hE (hK (.int 2)) hNil))) hNil)) s fun p s1 => ∃ d, p.frz = some d ∧ (gPL 1 2) d s1 D.nx)
    (hSeq (hAsg (hTup (hE (hTup (hE (hTup (hE (hK (.str "")) (hE (hK (.int 0)) hNil))) (hE (hTup (hE (hV 1) (hE (hK (.int 1)) hNil))) hNil))) (hE (hTup (hE (hTup (hE (hK (.str "")) (hE (hK (.int 2)) hNil))) (hE (hTup (hE (hV 2) (hE (hK (.int 0)) hNil))) hNil))) (hE (hTup (hE (hTup (hE (hK (.str "")) (hE (hK (.int 3)) hNil))) hNil)) (hE (hTup (hE (hTup (hE (hK (.str "")) (hE (hK (.int 4)) hNil))) hNil)) (hE (hTup (hE (hTup (hE (hK (.str "")) (hE (hK (.int 2)) hNil))) (hE (hTup (hE (hK (.str "")) (hE (hK (.int 5)) hNil))) hNil))) (hE (hTup (hE (hTup (hE (hV 1) (hE (hK (.int 5)) hNil))) hNil)) hNil))))))) 3)
    (hSeq (hAsg (hTup (hE (hTup (hE (hK (.int 2)) (hE (hK (.int 3)) (hE (hK (.int 4)) hNil)))) (hE (hTup (hE (hK (.int 3)) (hE (hK (.int 4)) (hE (hK (.int 2)) hNil)))) (hE (hTup (hE (hK (.int 4)) (hE (hK (.int 2)) (hE (hK (.int 3)) hNil)))) hNil)))) 4)
    (hSeq (hAsg (hLst (hE (hTup (hE (hTup (hE (hK (.int 0)) hNil)) (hE (hTup (hE (hK (.int 0)) hNil)) hNil))) (hE (hTup (hE (hTup (hE (hK (.int 1)) (hE (hK (.int 2)) hNil))) (hE (hC ixW (hL 4 (hE (hK (.int 0)) hNil))) hNil))) (hE (hTup (hE (hTup (hE (hK (.int 2)) hNil)) (hE (hC ixW (hL 4 (hE (hK (.int 0)) hNil))) hNil))) (hE (hTup (hE (hTup (hE (hK (.int 3)) hNil)) (hE (hC ixW (hL 4 (hE (hK (.int 1)) hNil))) hNil))) (hE (hTup (hE (hTup (hE (hK (.int 4)) hNil)) (hE (hC ixW (hL 4 (hE (hK (.int 2)) hNil))) hNil))) (hE (hK .none) hNil))))))) 5)
    (hSeq (hIfS (hB (hC (eqP true) (hE (hLc (hiR1 (hE (hK (.int 6)) hNil)) (gN 6) hYes (hCall sp_circle_of_5ad863 2 (hL 3 (hL 6 hNil))) [6]) (hL 5 hNil)))) (hRet (hK (.bool false))) hNext)
    (hSeq (hAsg (hC tupW (hE (hC addW (hE (hLc (hiR1 (hE (hK (.int 40)) hNil)) (gN 8) hYes (hTup (hE (hTup (hE (hK (.str "")) (hE (hC addW (hL 8 (hE (hK (.int 1)) hNil))) hNil))) hNil)) [8]) (hE (hLst (hE (hTup (hE (hTup (hE (hK (.str "")) (hE (hK (.int 40)) hNil))) hNil)) hNil)) hNil))) hNil)) 7)
    (hSeq (hIfS (hOr (hB (hC (eqP true) (hE (hCall sp_circle_of_5ad863 2 (hL 7 (hE (hK (.int 0)) hNil))) (hE (hTup (hE (hTR1 (hE (hK (.int 41)) hNil)) (hE (hTup (hE (hK (.int 40)) hNil)) hNil))) hNil)))) (hNot (hB (hCall sp__law_right_43d9f3 1 (hE (hTup (hE (hTup (hE (hTup (hE (hK (.str "")) (hE (hK (.int 1)) hNil))) (hE (hTup (hE (hK (.str "")) (hE (hK (.int 2)) hNil))) hNil))) (hE (hTup (hE (hTup (hE (hK (.str "")) (hE (hK (.int 1)) hNil))) hNil)) (hE (hTup (hE (hTup (hE (hK (.str "")) (hE (hK (.int 2)) hNil))) hNil)) hNil)))) hNil))))) (hRet (hK (.bool false))) hNext)
    (hRet (hC (isN false) (hE (hCall sp_circle_of_5ad863 2 (hE (hTup (hE (hTup (hE (hTup (hE (hV 1) (hE (hK (.int 1)) hNil))) hNil)) (hE (hTup (hE (hTup (hE (hV 2) (hE (hK (.int 0)) hNil))) hNil)) hNil))) (hE (hK (.int 1)) hNil))) (hE (hK .none) hNil)))))))))))
theorem rd__law_hand_right_20486c : ∀ pvs n C, pvs.length = 1 → sp__law_hand_right_20486c pvs n C → h__law_hand_right_20486c ⟨fun s => C (.dat .none) s.n, fun p s => C p s.n, fun _ => False, fun _ => False⟩ ⟨pvs.map some ++ List.replicate (9 - pvs.length) none, n⟩ := by
  intro pvs n C _ h
  obtain ⟨rfl, hn, q⟩ := h
  unfold h__law_hand_right_20486c
  simp [-hLc, dats]
  refine ⟨2, rfl, by decide, by decide, by omega, fun ws hl hws hnd => ?_⟩
  obtain ⟨a, b, es, ha, hb, hab⟩ := two_words (by omega) hws hnd
  refine ⟨_, rfl, ws, rfl, ?_⟩
  rw [es]
  simp [-hLc, dats]
  have so := some25_ok ha hb hab
  have sle : RowsLe 60 (some25 a b) := fun r hr => by simp [some25] at hr; rcases hr with rfl | rfl | rfl | rfl | rfl | rfl <;> simp
  have sl : (some25 a b).items.length = 6 := rfl
  obtain ⟨c0, c1, c2, c3, c4, c5⟩ := some25_circ ha hb hab
  refine ⟨_, rfl, _, rfl, _, rfl, _, rfl, ?_⟩
  refine hLc_eq.mpr ?_
  simp [-hLc, dats]
  have er : rngD 0 6 = (List.range 6).map fun i => PyData.int ((i : Nat) : Int) := by simp [rngD]
  rw [er]
  refine lcs_map (fun i : Nat => PyData.int (i : Int)) (fun i => circD (some25 a b) i) (fun i hx K hK => ?_) [] _ (by simp) ?_
  · have := List.mem_range.mp hx
    simp
    refine circ_of so sle (by omega) (by rw [sl]; omega) rfl ?_
    exact hK _ (by simp)
  have em : (List.range 6).map (fun i : Nat => circD (some25 a b) i) = [pairD ([0], [0]), pairD ([1, 2], [2, 3, 4]), pairD ([2], [2, 3, 4]), pairD ([3], [3, 4, 2]), pairD ([4], [4, 2, 3]), .none] := by
    rw [← c0, ← c1, ← c2, ← c3, ← c4, ← c5]; rfl
  rw [em]
  simp [-hLc, dats]
  refine eqP_same rfl rfl (by simp [PyData.plain, PyData.plainAll, pairD]) (by simp [PyData.depth, PyData.depthAll, pairD]) (Or.inl ⟨rfl, ?_⟩)
  refine hLc_eq.mpr ?_
  simp [-hLc, dats]
  have er : rngD 0 40 = (List.range 40).map fun i => PyData.int ((i : Nat) : Int) := by simp [rngD]
  rw [er]
  refine lcs_map (fun i : Nat => PyData.int (i : Int)) (fun i => Datum.toD (step25 i)) (fun i hx K hK => ?_) [] _ (by simp) ?_
  · simp [dats]
    exact hK _ (by simp)
  simp [-hLc, dats]
  refine ⟨_, _, rfl, rfl, by simp, ?_⟩
  have ed : (Datum.toD chain25 : PyData) = .tuple ((List.range 40).map (fun i => (Datum.toD (step25 i) : PyData)) ++ [PyData.tuple [PyData.tuple [PyData.str "", PyData.int 40]]]) := by
    have e0 : (Datum.toD chain25 : PyData) = .tuple (chain25.items.map Datum.toD) := rfl
    rw [e0]
    unfold chain25
    rw [List.map_append, List.map_map]; rfl
  simp
  rw [← ed]
  have cl : chain25.items.length = 41 := by simp [chain25]
  refine circ_of chain25_ok chain25_le (by decide) (by rw [cl]; decide) chain25_circ ?_
  simp
  have e41 : (PyData.tuple [PyData.tuple (rgD 0 41), PyData.tuple [PyData.int 40]]) = pairD (rngI 41, [40]) := by
    have := rgD_rngI 41
    rw [show rgD 0 41 = (rngI 41).map PyData.int from this]; rfl
  rw [e41]
  have pl : (pairD (rngI 41, [40])).plain = true := by decide +kernel
  have dl : (pairD (rngI 41, [40])).depth ≤ 60 := by decide +kernel
  refine eqP_same rfl rfl pl dl (Or.inl ⟨rfl, ?_⟩)
  refine ⟨tri25, rfl, tri25_ok, tri25_le, Or.inr ⟨rfl, ?_⟩⟩
  have wle : RowsLe 60 (two25 a b) := fun r hr => by simp [two25] at hr; rcases hr with rfl | rfl <;> simp
  refine circ_of (M := two25 a b) (two25_ok ha hb hab) wle (by decide) (by show (1 : Int) < ((2 : Nat) : Int); decide) (two25_circ ha hb hab) ⟨_, rfl, ?_⟩
  exact q
abbrev t25Body : HS := (hSeq (hAsg (hCall sp__law_words_aaf2f6 2 (hL 1 (hE (hC ixW (hE (hLst (hE (hK (.int 0)) (hE (hK (.int 1)) (hE (hK (.int 1)) (hE (hK (.int 2)) (hE (hK (.int 3)) (hE (hK (.int 5)) hNil))))))) (hE (hCall sp__law_draw_a6e186 2 (hL 1 (hE (hK (.int 6)) hNil))) hNil))) hNil))) 3)
    (hIfS (hNot (hB (hCall sp__law_right_43d9f3 1 (hE (hCall sp__law_machine_5d3daf 3 (hL 1 (hE (hK (.int 11)) (hL 3 hNil)))) hNil)))) (hRet (hK (.bool false))) hNext))
theorem t25_loop {D : HD} {o0 : Option PV} : ∀ (ks : List Nat) (o2 o3 : Option PV) (n : Nat), n + 20000 * ks.length < 90000000 →
    (∀ (o2' o3' : Option PV) (n' : Nat), n' ≤ n + 20000 * ks.length → D.nx ⟨[o0, some .drw, o2', o3'], n'⟩) →
    each (gN 2) t25Body D (ks.map fun i => PyData.int ((i : Nat) : Int)) ⟨[o0, some .drw, o2, o3], n⟩ := by
  intro ks
  induction ks with
  | nil => intro o2 o3 n _ fin; exact fin o2 o3 n (by simp)
  | cons k ks ih =>
    intro o2 o3 n hn fin
    have hn' : n + 20000 * (ks.length + 1) < 90000000 := by simpa using hn
    simp [-hFor, -hLc, dats]
    refine drw' 6 _ _ (by decide) (by decide) (by omega) fun a a0 a1 => ?_
    obtain ⟨m, hm, hmm, _⟩ := atI_int (cs := [0, 1, 1, 2, 3, 5]) a0 a1
    have m4 : 0 ≤ m ∧ m ≤ 8 := by
      simp at hmm
      omega
    refine ⟨_, rfl, (ix_lst (ds := [.int 0, .int 1, .int 1, .int 2, .int 3, .int 5])).mpr ⟨_, hm, ?_⟩⟩
    refine ⟨_, rfl, m, rfl, m4.1, by omega, by omega, fun ws hl hws hnd => ?_⟩
    simp [-hFor, -hLc, dats]
    refine ⟨11, ws, rfl, by decide, by decide, by omega, hws, by omega, fun M n3 ok h4 _ l3 => ?_⟩
    refine ⟨Im.im M, _, rfl, M, rfl, ok, le_of4 h4, Or.inr ⟨rfl, ?_⟩⟩
    exact ih _ _ _ (by omega) fun a b n' h => fin a b n' (by simp at h ⊢; omega)
def h_law_f18a42 : HS :=
    (hSeq (hFor (hiR1 (hE (hC addW (hE (hK (.int 3)) (hE (hC min2W (hE (hK (.int 4)) (hE (hC fdivW (hE (hC lenW (hL 0 hNil)) (hE (hK (.int 4)) hNil))) hNil))) hNil))) hNil)) (gN 2) (hSeq (hAsg (hCall sp__law_words_aaf2f6 2 (hL 1 (hE (hC ixW (hE (hLst (hE (hK (.int 0)) (hE (hK (.int 1)) (hE (hK (.int 1)) (hE (hK (.int 2)) (hE (hK (.int 3)) (hE (hK (.int 5)) hNil))))))) (hE (hCall sp__law_draw_a6e186 2 (hL 1 (hE (hK (.int 6)) hNil))) hNil))) hNil))) 3)
    (hIfS (hNot (hB (hCall sp__law_right_43d9f3 1 (hE (hCall sp__law_machine_5d3daf 3 (hL 1 (hE (hK (.int 11)) (hL 3 hNil)))) hNil)))) (hRet (hK (.bool false))) hNext)))
    (hRet (hCall sp__law_hand_right_20486c 1 (hL 1 hNil))))
theorem rd_law_f18a42 : ∀ ns : List Int, ns.length ≤ 63 → h_law_f18a42 lawD ⟨some (.dat (.list (ns.map .int))) :: some .drw :: List.replicate 2 none, 0⟩ := by
  intro ns hns
  unfold h_law_f18a42
  simp [-hFor]
  simp only [hFor, hiR1]
  simp [-hFor, -hLc]
  have hd : (0 : Int) ≤ (ns.length : Int) / 4 ∧ (ns.length : Int) / 4 ≤ 15 := by omega
  refine ⟨wide_div (b := 10) (by decide) (by decide) (by decide) (by decide), ⟨by split <;> omega, by split <;> omega⟩, ?_⟩
  generalize hz : (3 + if (ns.length : Int) / 4 < 4 then (ns.length : Int) / 4 else 4).toNat = z
  have z7 : z ≤ 7 := by rw [← hz]; split <;> omega
  have er : rngD 0 z = (List.range z).map fun i => PyData.int ((i : Nat) : Int) := by simp [rngD]
  rw [er]
  refine t25_loop (List.range z) _ _ _ (by simp; omega) fun a b n' hn' => ?_
  simp [sp__law_hand_right_20486c]
  simp at hn'
  omega
end Sk
set_option Elab.async false
set_option linter.all false
set_option maxRecDepth 100000
set_option maxHeartbeats 4000000
namespace Sk
open PySem PySem.Spec PyProof.Rows L2
open PySem.W (Datum DatumOrd Tup T3 T4)
open Evl (Ex)
def topS (i : Nat) : Stmt := PySem.Challenge.pw_standhouse_k25_ways_into_circles.main.body.getD i (.Pass ⟨0, 0, 0, 0⟩)
structure Tops (K : PySem.W.Frag) (mg : Str → Option Value) : Prop where
  n_all : mg "all" = none
  n_bool : mg "bool" = none
  n_dict : mg "dict" = none
  n_enumerate : mg "enumerate" = none
  n_int : mg "int" = none
  n_isinstance : mg "isinstance" = none
  n_len : mg "len" = none
  n_list : mg "list" = none
  n_min : mg "min" = none
  n_range : mg "range" = none
  n_repr : mg "repr" = none
  n_set : mg "set" = none
  n_sorted : mg "sorted" = none
  n_str : mg "str" = none
  n_tuple : mg "tuple" = none
  n_zip : mg "zip" = none
  c_BARS : Cst K mg "BARS" c_BARS
  c_HIDDEN_moves : Cst K mg "HIDDEN_moves" c_HIDDEN
  c_HIDDEN_silents : Cst K mg "HIDDEN_silents" c_HIDDEN
  c_LETTERS : Cst K mg "LETTERS" c_LETTERS
  c_MOST_DEEDS : Cst K mg "MOST_DEEDS" c_MOST_DEEDS
  c_MOST_LETTERS : Cst K mg "MOST_LETTERS" c_MOST_LETTERS
  c_MOST_NODES : Cst K mg "MOST_NODES" c_MOST_NODES
section
variable {P : Program} {w : World} {K : PySem.W.Frag} {mg : Str → Option Value} {base : Heap}
abbrev s_is_word : Stmt := topS 9
theorem sc_is_word : FnScope ["thing", "sign"] ["thing"] (defScope s_is_word) := ⟨rfl, rfl, rfl, by decide +kernel, rfl, by decide +kernel, by decide +kernel⟩
theorem d_is_word (T : Tops K mg)  {fa : Addr} {cdv : Value} {A : Around} {outer : List Env} {s : Shared} {H : Hp} {E : XK} (hgd : (A.deeper (envOfC "is_word" (defScope s_is_word) s.heap.objs.size fa cdv)).guards = some []) (hr : Room 0 (A.deeper (envOfC "is_word" (defScope s_is_word) s.heap.objs.size fa cdv))) :
    PSs (cxOf CX0 P w K mg base ["thing", "sign"] "is_word" (defScope s_is_word) fa cdv A outer s H E).nox (defBody s_is_word) (lfS K f0 h_is_word_e81331) := by
  have nd := sc_is_word.nd
  exact (hs_cons (hs_if (PW.pt (ht_or (ht_not (hp_test (hp_callB call_isiD op_isi (by rfl) T.n_isinstance (by decide +kernel) (hpa_cons (opd_v 0 (pv 0)) (hpa_cons (opd_w (pe_bltn (v := .ty "str") (u := .type "str") (by rfl) T.n_str (by decide +kernel) rfl)) hpa_nil))))) (ht_or (ht_not (ht_chain op_le op_le (opd_e (hp_k pe_int fun _ => .int _)) (opd_e (hp_callB call_lenAll op_lenW (by rfl) T.n_len (by decide +kernel) (hpa_cons (opd_v 0 (pv 0)) hpa_nil))) (opd_e (hp_c T.c_MOST_LETTERS (by rfl))) op_leW op_leW)) (ht_or1 (ht_cmp (op_inP (u64 hr)) (opd_v 0 (pv 0)) (opd_e (hp_c T.c_BARS (by rfl))) op_inPW (by first | exact nobehind _ (by decide) (by decide) | rfl)))))) (hs_one (hs_ret (hp_k pe_bl fun _ => .bl _))) hs_nil)
    (hs_one (hs_ret (hp_callB (cr_all rfl) op_allW (by rfl) T.n_all (by decide +kernel) (hpa_cons (opd_e (hp_lc (pe_lc (own := [("sign", 1)]) rfl nd (hi_str (hp_v 0 (pv 0))) (blkOk_by (own := [("sign", 1)]) (N := ["thing", "sign"]) (sc := defScope s_is_word) (by decide +kernel)) (fun _ _ _ _ _ => (hg_name (pg_name (i := 1) nd rfl (by first | exact .inl rfl | exact .inr rfl)))) (fun _ _ _ _ _ => pts_yes) (fun _ _ _ _ _ => (hp_cmp op_in_sign (opd_v 1 (pv 1)) (opd_e (hp_c T.c_LETTERS (by rfl))) op_inS (by first | exact nobehind _ (by decide) (by decide) | rfl)))) (by decide) gl_name)) hpa_nil)))))
theorem has_is_word (T : Tops K mg)  {fa : Addr} {fd : FuncData} (Fn : Fun K "is_word" "is_word" s_is_word fa fd) (hm : mg "is_word" = some (.ref fa)) : Has P w K mg base 1 "is_word" 1 sp_is_word_e81331 :=
  Has.mk' (ps := ["thing"]) Fn hm (Fn.binds fun _ _ _ _ _ _ us hl => match us, hl with | [_], _ => rfl) sc_is_word (fun _ _ _ _ _ _ hgd hr => d_is_word T  hgd hr) rd_is_word_e81331
abbrev s_is_number : Stmt := topS 13
theorem sc_is_number : FnScope ["thing", "many"] ["thing", "many"] (defScope s_is_number) := ⟨rfl, rfl, rfl, by decide +kernel, rfl, by decide +kernel, by decide +kernel⟩
theorem d_is_number (T : Tops K mg)  {fa : Addr} {cdv : Value} {A : Around} {outer : List Env} {s : Shared} {H : Hp} {E : XK} (hgd : (A.deeper (envOfC "is_number" (defScope s_is_number) s.heap.objs.size fa cdv)).guards = some []) (hr : Room 0 (A.deeper (envOfC "is_number" (defScope s_is_number) s.heap.objs.size fa cdv))) :
    PSs (cxOf CX0 P w K mg base ["thing", "many"] "is_number" (defScope s_is_number) fa cdv A outer s H E).nox (defBody s_is_number) (lfS K f0 h_is_number_562222) := by
  have nd := sc_is_number.nd
  exact (hs_one (hs_ret (hp_andV (hp_callB call_isiD op_isi (by rfl) T.n_isinstance (by decide +kernel) (hpa_cons (opd_v 0 (pv 0)) (hpa_cons (opd_w (pe_bltn (v := .ty "int") (u := .type "int") (by rfl) T.n_int (by decide +kernel) rfl)) hpa_nil))) (hp_andV (hp_notV (hp_callB call_isiD op_isi (by rfl) T.n_isinstance (by decide +kernel) (hpa_cons (opd_v 0 (pv 0)) (hpa_cons (opd_w (pe_bltn (v := .ty "bool") (u := .type "bool") (by rfl) T.n_bool (by decide +kernel) rfl)) hpa_nil)))) (pe_one (hp_chain op_le op_lt (opd_e (hp_k pe_int fun _ => .int _)) (opd_v 0 (pv 0)) (opd_v 1 (pv 1)) op_leW op_ltW))))))
theorem has_is_number (T : Tops K mg)  {fa : Addr} {fd : FuncData} (Fn : Fun K "is_number" "is_number" s_is_number fa fd) (hm : mg "is_number" = some (.ref fa)) : Has P w K mg base 1 "is_number" 2 sp_is_number_562222 :=
  Has.mk' (ps := ["thing", "many"]) Fn hm (Fn.binds fun _ _ _ _ _ _ us hl => match us, hl with | [_, _], _ => rfl) sc_is_number (fun _ _ _ _ _ _ hgd hr => d_is_number T  hgd hr) rd_is_number_562222
abbrev s_is_move : Stmt := topS 14
theorem sc_is_move : FnScope ["thing", "many"] ["thing", "many"] (defScope s_is_move) := ⟨rfl, rfl, rfl, by decide +kernel, rfl, by decide +kernel, by decide +kernel⟩
theorem d_is_move (T : Tops K mg) (g_is_word : Has P w K mg base 1 "is_word" 1 sp_is_word_e81331) (g_is_number : Has P w K mg base 1 "is_number" 2 sp_is_number_562222) {fa : Addr} {cdv : Value} {A : Around} {outer : List Env} {s : Shared} {H : Hp} {E : XK} (hgd : (A.deeper (envOfC "is_move" (defScope s_is_move) s.heap.objs.size fa cdv)).guards = some []) (hr : Room 1 (A.deeper (envOfC "is_move" (defScope s_is_move) s.heap.objs.size fa cdv))) :
    PSs (cxOf CX0 P w K mg base ["thing", "many"] "is_move" (defScope s_is_move) fa cdv A outer s H E).nox (defBody s_is_move) (lfS K f0 h_is_move_84a0bd) := by
  have nd := sc_is_move.nd
  exact (hs_cons (hs_if (PW.pt (ht_or (ht_not (hp_test (hp_callB call_isiD op_isi (by rfl) T.n_isinstance (by decide +kernel) (hpa_cons (opd_v 0 (pv 0)) (hpa_cons (opd_w (pe_bltn (v := .ty "tuple") (u := .type "tuple") (by rfl) T.n_tuple (by decide +kernel) rfl)) hpa_nil))))) (ht_or (ht_cmp (op_neP (u64 hr)) (opd_e (hp_callB call_lenAll op_lenW (by rfl) T.n_len (by decide +kernel) (hpa_cons (opd_v 0 (pv 0)) hpa_nil))) (opd_e (hp_k pe_int fun _ => .int _)) op_eqPW (nomark _)) (ht_or1 (ht_not (hp_test (hp_callH g_is_number hgd (hr.mono (by decide)) (by rfl) (hpa_cons (opd_e (hp_ix ix_seq (opd_v 0 (pv 0)) (opd_e (hp_k pe_int fun _ => .int _)) op_ixW (fun _ _ => rfl))) (hpa_cons (opd_v 1 (pv 1)) hpa_nil))))))))) (hs_one (hs_ret (hp_k pe_bl fun _ => .bl _))) hs_nil)
    (hs_one (hs_ret (hp_orV (hp_callH g_is_word hgd (hr.mono (by decide)) (by rfl) (hpa_cons (opd_e (hp_ix ix_seq (opd_v 0 (pv 0)) (opd_e (hp_k pe_int fun _ => .int _)) op_ixW (fun _ _ => rfl))) hpa_nil)) (pe_one (hp_andV (hp_callB call_isiD op_isi (by rfl) T.n_isinstance (by decide +kernel) (hpa_cons (opd_e (hp_ix ix_seq (opd_v 0 (pv 0)) (opd_e (hp_k pe_int fun _ => .int _)) op_ixW (fun _ _ => rfl))) (hpa_cons (opd_w (pe_bltn (v := .ty "str") (u := .type "str") (by rfl) T.n_str (by decide +kernel) rfl)) hpa_nil))) (pe_one (hp_cmp (op_eqP (u64 hr)) (opd_e (hp_ix ix_seq (opd_v 0 (pv 0)) (opd_e (hp_k pe_int fun _ => .int _)) op_ixW (fun _ _ => rfl))) (opd_e (hp_c T.c_HIDDEN_moves (by rfl))) op_eqPW (nomark _)))))))))
theorem has_is_move (T : Tops K mg) (g_is_word : Has P w K mg base 1 "is_word" 1 sp_is_word_e81331) (g_is_number : Has P w K mg base 1 "is_number" 2 sp_is_number_562222) {fa : Addr} {fd : FuncData} (Fn : Fun K "is_move" "is_move" s_is_move fa fd) (hm : mg "is_move" = some (.ref fa)) : Has P w K mg base 2 "is_move" 2 sp_is_move_84a0bd :=
  Has.mk' (ps := ["thing", "many"]) Fn hm (Fn.binds fun _ _ _ _ _ _ us hl => match us, hl with | [_, _], _ => rfl) sc_is_move (fun _ _ _ _ _ _ hgd hr => d_is_move T g_is_word g_is_number hgd hr) rd_is_move_84a0bd
abbrev s_is_node_row : Stmt := topS 15
theorem sc_is_node_row : FnScope ["thing", "many", "move", "one", "other"] ["thing", "many"] (defScope s_is_node_row) := ⟨rfl, rfl, rfl, by decide +kernel, rfl, by decide +kernel, by decide +kernel⟩
theorem d_is_node_row (T : Tops K mg) (g_is_move : Has P w K mg base 2 "is_move" 2 sp_is_move_84a0bd) {fa : Addr} {cdv : Value} {A : Around} {outer : List Env} {s : Shared} {H : Hp} {E : XK} (hgd : (A.deeper (envOfC "is_node_row" (defScope s_is_node_row) s.heap.objs.size fa cdv)).guards = some []) (hr : Room 2 (A.deeper (envOfC "is_node_row" (defScope s_is_node_row) s.heap.objs.size fa cdv))) :
    PSs (cxOf CX0 P w K mg base ["thing", "many", "move", "one", "other"] "is_node_row" (defScope s_is_node_row) fa cdv A outer s H E).nox (defBody s_is_node_row) (lfS K f0 h_is_node_row_5d6d4a) := by
  have nd := sc_is_node_row.nd
  exact (hs_cons (hs_if (PW.pt (ht_or (ht_not (hp_test (hp_callB call_isiD op_isi (by rfl) T.n_isinstance (by decide +kernel) (hpa_cons (opd_v 0 (pv 0)) (hpa_cons (opd_w (pe_bltn (v := .ty "tuple") (u := .type "tuple") (by rfl) T.n_tuple (by decide +kernel) rfl)) hpa_nil))))) (ht_or1 (ht_not (hp_test (hp_callB (cr_all rfl) op_allW (by rfl) T.n_all (by decide +kernel) (hpa_cons (opd_e (hp_lc (pe_lc (own := [("move", 2)]) rfl nd (hi_tup (hp_v 0 (pv 0))) (blkOk_by (own := [("move", 2)]) (N := ["thing", "many", "move", "one", "other"]) (sc := defScope s_is_node_row) (by decide +kernel)) (fun _ _ _ _ _ => (hg_name (pg_name (i := 2) nd rfl (by first | exact .inl rfl | exact .inr rfl)))) (fun _ _ _ _ _ => pts_yes) (fun _ _ _ _ _ => (hp_callH g_is_move hgd (hr.mono (by decide)) (by rfl) (hpa_cons (opd_v 2 (pv 2)) (hpa_cons (opd_v 1 (pv 1)) hpa_nil))))) (by decide) gl_name)) hpa_nil))))))) (hs_one (hs_ret (hp_k pe_bl fun _ => .bl _))) hs_nil)
    (hs_one (hs_ret (hp_callB (cr_all rfl) op_allW (by rfl) T.n_all (by decide +kernel) (hpa_cons (opd_e (hp_lc (pe_lc (own := [("one", 3), ("other", 4)]) rfl nd (hi_zip (by rfl) T.n_zip (hpa_cons (opd_e (hp_v 0 (pv 0))) (hpa_cons (opd_e (hp_sl (pv 0) (ho_some (hp_k pe_int fun _ => .int _)) ho_none)) hpa_nil))) (blkOk_by (own := [("one", 3), ("other", 4)]) (N := ["thing", "many", "move", "one", "other"]) (sc := defScope s_is_node_row) (by decide +kernel)) (fun _ _ _ _ _ => (hg_pair (pg_tup rfl (pgs_cons (pg_name (i := 3) nd rfl (by first | exact .inl rfl | exact .inr rfl)) (pgs_cons (pg_name (i := 4) nd rfl (by first | exact .inl rfl | exact .inr rfl)) pgs_nil))))) (fun _ _ _ _ _ => pts_yes) (fun _ _ _ _ _ => (hp_cmp (op_ltA (α := Str × Int) (uD hr (by decide))) (opd_v 3 (pv 3)) (opd_v 4 (pv 4)) op_ltAW (nomark _)))) (by decide) gl_pair)) hpa_nil)))))
theorem has_is_node_row (T : Tops K mg) (g_is_move : Has P w K mg base 2 "is_move" 2 sp_is_move_84a0bd) {fa : Addr} {fd : FuncData} (Fn : Fun K "is_node_row" "is_node_row" s_is_node_row fa fd) (hm : mg "is_node_row" = some (.ref fa)) : Has P w K mg base 3 "is_node_row" 2 sp_is_node_row_5d6d4a :=
  Has.mk' (ps := ["thing", "many"]) Fn hm (Fn.binds fun _ _ _ _ _ _ us hl => match us, hl with | [_, _], _ => rfl) sc_is_node_row (fun _ _ _ _ _ _ hgd hr => d_is_node_row T g_is_move hgd hr) rd_is_node_row_5d6d4a
abbrev s_deeds_by : Stmt := topS 16
theorem sc_deeds_by : FnScope ["rows", "found", "row", "deed", "node"] ["rows"] (defScope s_deeds_by) := ⟨rfl, rfl, rfl, by decide +kernel, rfl, by decide +kernel, by decide +kernel⟩
theorem d_deeds_by (T : Tops K mg)  {fa : Addr} {cdv : Value} {A : Around} {outer : List Env} {s : Shared} {H : Hp} {E : XK} (hgd : (A.deeper (envOfC "deeds_by" (defScope s_deeds_by) s.heap.objs.size fa cdv)).guards = some []) (hr : Room 0 (A.deeper (envOfC "deeds_by" (defScope s_deeds_by) s.heap.objs.size fa cdv))) :
    PSs (cxOf CX0 P w K mg base ["rows", "found", "row", "deed", "node"] "deeds_by" (defScope s_deeds_by) fa cdv A outer s H E).nox (defBody s_deeds_by) (lfS K f0 h_deeds_by_079b22) := by
  have nd := sc_deeds_by.nd
  exact (hs_cons (hs_set (i := 1) nd rfl (.inl rfl) (hp_dnew pe_dnewK))
    (hs_cons (hs_for PassesOwn.never rfl (hi_tup (hp_v 0 (pv 0))) (hg_name (pg_name (i := 2) nd rfl (by first | exact .inl rfl | exact .inr rfl))) (hs_one (hs_drop (hp_upd (fun h => pe_bm PySem.F.plainAttrs_dict PySem.F.slot_dict_update PySem.F.type_dict_update mt_update (pv 1) h) (hp_callTy (call_dictP rfl) op_dictW (by rfl) T.n_dict (by decide +kernel) (hpa_cons (opd_e (hp_lc (pe_lc (own := [("deed", 3), ("node", 4)]) rfl nd (hi_tup (hp_v 2 (pv 2))) (blkOk_by (own := [("deed", 3), ("node", 4)]) (N := ["rows", "found", "row", "deed", "node"]) (sc := defScope s_deeds_by) (by decide +kernel)) (fun _ _ _ _ _ => (hg_pair (pg_tup rfl (pgs_cons (pg_name (i := 3) nd rfl (by first | exact .inl rfl | exact .inr rfl)) (pgs_cons (pg_name (i := 4) nd rfl (by first | exact .inl rfl | exact .inr rfl)) pgs_nil))))) (fun _ _ _ _ _ => (pts_one (ht_cmp (op_neP (u64 hr)) (opd_v 3 (pv 3)) (opd_e (hp_c T.c_HIDDEN_moves (by rfl))) op_eqPW (nomark _)))) (fun _ _ _ _ _ => (hp_tup (hpa_cons (opd_e (hp_v 3 (pv 3))) (hpa_cons (opd_e (hp_k pe_bl fun _ => .bl _)) hpa_nil))))) (by decide) gl_pair)) hpa_nil))))))
    (hs_one (hs_ret (hp_callB (cr_sortD (α := Str) rfl) op_sortDW (by rfl) T.n_sorted (by decide +kernel) (hpa_cons (opd_v 1 (pv 1)) hpa_nil))))))
theorem has_deeds_by (T : Tops K mg)  {fa : Addr} {fd : FuncData} (Fn : Fun K "deeds_by" "deeds_by" s_deeds_by fa fd) (hm : mg "deeds_by" = some (.ref fa)) : Has P w K mg base 1 "deeds_by" 1 sp_deeds_by_079b22 :=
  Has.mk' (ps := ["rows"]) Fn hm (Fn.binds fun _ _ _ _ _ _ us hl => match us, hl with | [_], _ => rfl) sc_deeds_by (fun _ _ _ _ _ _ hgd hr => d_deeds_by T  hgd hr) rd_deeds_by_079b22
abbrev s_is_machine : Stmt := topS 17
theorem sc_is_machine : FnScope ["thing", "row"] ["thing"] (defScope s_is_machine) := ⟨rfl, rfl, rfl, by decide +kernel, rfl, by decide +kernel, by decide +kernel⟩
theorem d_is_machine (T : Tops K mg) (g_is_node_row : Has P w K mg base 3 "is_node_row" 2 sp_is_node_row_5d6d4a) (g_deeds_by : Has P w K mg base 1 "deeds_by" 1 sp_deeds_by_079b22) {fa : Addr} {cdv : Value} {A : Around} {outer : List Env} {s : Shared} {H : Hp} {E : XK} (hgd : (A.deeper (envOfC "is_machine" (defScope s_is_machine) s.heap.objs.size fa cdv)).guards = some []) (hr : Room 3 (A.deeper (envOfC "is_machine" (defScope s_is_machine) s.heap.objs.size fa cdv))) :
    PSs (cxOf CX0 P w K mg base ["thing", "row"] "is_machine" (defScope s_is_machine) fa cdv A outer s H E).nox (defBody s_is_machine) (lfS K f0 h_is_machine_569ab3) := by
  have nd := sc_is_machine.nd
  exact (hs_cons (hs_if (PW.pt (ht_or (ht_not (hp_test (hp_callB call_isiD op_isi (by rfl) T.n_isinstance (by decide +kernel) (hpa_cons (opd_v 0 (pv 0)) (hpa_cons (opd_w (pe_bltn (v := .ty "tuple") (u := .type "tuple") (by rfl) T.n_tuple (by decide +kernel) rfl)) hpa_nil))))) (ht_or1 (ht_not (ht_chain op_le op_le (opd_e (hp_k pe_int fun _ => .int _)) (opd_e (hp_callB call_lenAll op_lenW (by rfl) T.n_len (by decide +kernel) (hpa_cons (opd_v 0 (pv 0)) hpa_nil))) (opd_e (hp_c T.c_MOST_NODES (by rfl))) op_leW op_leW))))) (hs_one (hs_ret (hp_k pe_bl fun _ => .bl _))) hs_nil)
    (hs_one (hs_ret (hp_andV (hp_callB (cr_all rfl) op_allW (by rfl) T.n_all (by decide +kernel) (hpa_cons (opd_e (hp_lc (pe_lc (own := [("row", 1)]) rfl nd (hi_tup (hp_v 0 (pv 0))) (blkOk_by (own := [("row", 1)]) (N := ["thing", "row"]) (sc := defScope s_is_machine) (by decide +kernel)) (fun _ _ _ _ _ => (hg_name (pg_name (i := 1) nd rfl (by first | exact .inl rfl | exact .inr rfl)))) (fun _ _ _ _ _ => pts_yes) (fun _ _ _ _ _ => (hp_callH g_is_node_row hgd (hr.mono (by decide)) (by rfl) (hpa_cons (opd_v 1 (pv 1)) (hpa_cons (opd_e (hp_callB call_lenAll op_lenW (by rfl) T.n_len (by decide +kernel) (hpa_cons (opd_v 0 (pv 0)) hpa_nil))) hpa_nil))))) (by decide) gl_name)) hpa_nil)) (pe_one (hp_cmp op_le (opd_e (hp_callB call_lenAll op_lenW (by rfl) T.n_len (by decide +kernel) (hpa_cons (opd_e (hp_callH g_deeds_by hgd (hr.mono (by decide)) (by rfl) (hpa_cons (opd_v 0 (pv 0)) hpa_nil))) hpa_nil))) (opd_e (hp_c T.c_MOST_DEEDS (by rfl))) op_leW (nomark _)))))))
theorem has_is_machine (T : Tops K mg) (g_is_node_row : Has P w K mg base 3 "is_node_row" 2 sp_is_node_row_5d6d4a) (g_deeds_by : Has P w K mg base 1 "deeds_by" 1 sp_deeds_by_079b22) {fa : Addr} {fd : FuncData} (Fn : Fun K "is_machine" "is_machine" s_is_machine fa fd) (hm : mg "is_machine" = some (.ref fa)) : Has P w K mg base 4 "is_machine" 1 sp_is_machine_569ab3 :=
  Has.mk' (ps := ["thing"]) Fn hm (Fn.binds fun _ _ _ _ _ _ us hl => match us, hl with | [_], _ => rfl) sc_is_machine (fun _ _ _ _ _ _ hgd hr => d_is_machine T g_is_node_row g_deeds_by hgd hr) rd_is_machine_569ab3
abbrev s_need_machine : Stmt := topS 18
theorem sc_need_machine : FnScope ["thing"] ["thing"] (defScope s_need_machine) := ⟨rfl, rfl, rfl, by decide +kernel, rfl, by decide +kernel, by decide +kernel⟩
theorem d_need_machine (T : Tops K mg) (g_is_machine : Has P w K mg base 4 "is_machine" 1 sp_is_machine_569ab3) {fa : Addr} {cdv : Value} {A : Around} {outer : List Env} {s : Shared} {H : Hp} {E : XK} (hgd : (A.deeper (envOfC "need_machine" (defScope s_need_machine) s.heap.objs.size fa cdv)).guards = some []) (hr : Room 4 (A.deeper (envOfC "need_machine" (defScope s_need_machine) s.heap.objs.size fa cdv))) :
    PSs (cxOf CX0 P w K mg base ["thing"] "need_machine" (defScope s_need_machine) fa cdv A outer s H E).nox (defBody s_need_machine) (lfS K f0 h_need_machine_f4028c) := by
  have nd := sc_need_machine.nd
  exact (hs_one (hs_if (ht_not (hp_test (hp_callH g_is_machine hgd (hr.mono (by decide)) (by rfl) (hpa_cons (opd_v 0 (pv 0)) hpa_nil)))) (hs_one hs_never) hs_nil))
theorem has_need_machine (T : Tops K mg) (g_is_machine : Has P w K mg base 4 "is_machine" 1 sp_is_machine_569ab3) {fa : Addr} {fd : FuncData} (Fn : Fun K "need_machine" "need_machine" s_need_machine fa fd) (hm : mg "need_machine" = some (.ref fa)) : Has P w K mg base 5 "need_machine" 1 sp_need_machine_f4028c :=
  Has.mk' (ps := ["thing"]) Fn hm (Fn.binds fun _ _ _ _ _ _ us hl => match us, hl with | [_], _ => rfl) sc_need_machine (fun _ _ _ _ _ _ hgd hr => d_need_machine T g_is_machine hgd hr) rd_need_machine_f4028c
abbrev s_is_count : Stmt := topS 21
theorem sc_is_count : FnScope ["thing", "most"] ["thing", "most"] (defScope s_is_count) := ⟨rfl, rfl, rfl, by decide +kernel, rfl, by decide +kernel, by decide +kernel⟩
theorem d_is_count (T : Tops K mg)  {fa : Addr} {cdv : Value} {A : Around} {outer : List Env} {s : Shared} {H : Hp} {E : XK} (hgd : (A.deeper (envOfC "is_count" (defScope s_is_count) s.heap.objs.size fa cdv)).guards = some []) (hr : Room 0 (A.deeper (envOfC "is_count" (defScope s_is_count) s.heap.objs.size fa cdv))) :
    PSs (cxOf CX0 P w K mg base ["thing", "most"] "is_count" (defScope s_is_count) fa cdv A outer s H E).nox (defBody s_is_count) (lfS K f0 h_is_count_0b1f0e) := by
  have nd := sc_is_count.nd
  exact (hs_one (hs_ret (hp_andV (hp_callB call_isiD op_isi (by rfl) T.n_isinstance (by decide +kernel) (hpa_cons (opd_v 0 (pv 0)) (hpa_cons (opd_w (pe_bltn (v := .ty "int") (u := .type "int") (by rfl) T.n_int (by decide +kernel) rfl)) hpa_nil))) (hp_andV (hp_notV (hp_callB call_isiD op_isi (by rfl) T.n_isinstance (by decide +kernel) (hpa_cons (opd_v 0 (pv 0)) (hpa_cons (opd_w (pe_bltn (v := .ty "bool") (u := .type "bool") (by rfl) T.n_bool (by decide +kernel) rfl)) hpa_nil)))) (pe_one (hp_chain op_le op_le (opd_e (hp_k pe_int fun _ => .int _)) (opd_v 0 (pv 0)) (opd_v 1 (pv 1)) op_leW op_leW))))))
theorem has_is_count (T : Tops K mg)  {fa : Addr} {fd : FuncData} (Fn : Fun K "is_count" "is_count" s_is_count fa fd) (hm : mg "is_count" = some (.ref fa)) : Has P w K mg base 1 "is_count" 2 sp_is_count_0b1f0e :=
  Has.mk' (ps := ["thing", "most"]) Fn hm (Fn.binds fun _ _ _ _ _ _ us hl => match us, hl with | [_, _], _ => rfl) sc_is_count (fun _ _ _ _ _ _ hgd hr => d_is_count T  hgd hr) rd_is_count_0b1f0e
abbrev s_need_node : Stmt := topS 22
theorem sc_need_node : FnScope ["machine", "thing"] ["machine", "thing"] (defScope s_need_node) := ⟨rfl, rfl, rfl, by decide +kernel, rfl, by decide +kernel, by decide +kernel⟩
theorem d_need_node (T : Tops K mg) (g_is_count : Has P w K mg base 1 "is_count" 2 sp_is_count_0b1f0e) {fa : Addr} {cdv : Value} {A : Around} {outer : List Env} {s : Shared} {H : Hp} {E : XK} (hgd : (A.deeper (envOfC "need_node" (defScope s_need_node) s.heap.objs.size fa cdv)).guards = some []) (hr : Room 1 (A.deeper (envOfC "need_node" (defScope s_need_node) s.heap.objs.size fa cdv))) :
    PSs (cxOf CX0 P w K mg base ["machine", "thing"] "need_node" (defScope s_need_node) fa cdv A outer s H E).nox (defBody s_need_node) (lfS K f0 h_need_node_37f819) := by
  have nd := sc_need_node.nd
  exact (hs_one (hs_if (ht_not (hp_test (hp_callH g_is_count hgd (hr.mono (by decide)) (by rfl) (hpa_cons (opd_v 1 (pv 1)) (hpa_cons (opd_e (hp_op op_sub (opd_e (hp_callB call_lenAll op_lenW (by rfl) T.n_len (by decide +kernel) (hpa_cons (opd_v 0 (pv 0)) hpa_nil))) (opd_e (hp_k pe_int fun _ => .int _)) op_subW)) hpa_nil))))) (hs_one hs_never) hs_nil))
theorem has_need_node (T : Tops K mg) (g_is_count : Has P w K mg base 1 "is_count" 2 sp_is_count_0b1f0e) {fa : Addr} {fd : FuncData} (Fn : Fun K "need_node" "need_node" s_need_node fa fd) (hm : mg "need_node" = some (.ref fa)) : Has P w K mg base 2 "need_node" 2 sp_need_node_37f819 :=
  Has.mk' (ps := ["machine", "thing"]) Fn hm (Fn.binds fun _ _ _ _ _ _ us hl => match us, hl with | [_, _], _ => rfl) sc_need_node (fun _ _ _ _ _ _ hgd hr => d_need_node T g_is_count hgd hr) rd_need_node_37f819
abbrev s_hidden_from : Stmt := topS 23
theorem sc_hidden_from : FnScope ["machine", "node", "deed", "goal"] ["machine", "node"] (defScope s_hidden_from) := ⟨rfl, rfl, rfl, by decide +kernel, rfl, by decide +kernel, by decide +kernel⟩
theorem d_hidden_from (T : Tops K mg)  {fa : Addr} {cdv : Value} {A : Around} {outer : List Env} {s : Shared} {H : Hp} {E : XK} (hgd : (A.deeper (envOfC "hidden_from" (defScope s_hidden_from) s.heap.objs.size fa cdv)).guards = some []) (hr : Room 0 (A.deeper (envOfC "hidden_from" (defScope s_hidden_from) s.heap.objs.size fa cdv))) :
    PSs (cxOf CX0 P w K mg base ["machine", "node", "deed", "goal"] "hidden_from" (defScope s_hidden_from) fa cdv A outer s H E).nox (defBody s_hidden_from) (lfS K f0 h_hidden_from_cea0e2) := by
  have nd := sc_hidden_from.nd
  exact (hs_one (hs_ret (hp_lc (pe_lc (own := [("deed", 2), ("goal", 3)]) rfl nd (hi_tup (hp_ix ix_seq (opd_v 0 (pv 0)) (opd_v 1 (pv 1)) op_ixW (fun _ _ => rfl))) (blkOk_by (own := [("deed", 2), ("goal", 3)]) (N := ["machine", "node", "deed", "goal"]) (sc := defScope s_hidden_from) (by decide +kernel)) (fun _ _ _ _ _ => (hg_pair (pg_tup rfl (pgs_cons (pg_name (i := 2) nd rfl (by first | exact .inl rfl | exact .inr rfl)) (pgs_cons (pg_name (i := 3) nd rfl (by first | exact .inl rfl | exact .inr rfl)) pgs_nil))))) (fun _ _ _ _ _ => (pts_one (ht_cmp (op_eqP (u64 hr)) (opd_v 2 (pv 2)) (opd_e (hp_c T.c_HIDDEN_silents (by rfl))) op_eqPW (nomark _)))) (fun _ _ _ _ _ => (hp_v 3 (pv 3)))) (by decide) gl_pair)))
theorem has_hidden_from (T : Tops K mg)  {fa : Addr} {fd : FuncData} (Fn : Fun K "hidden_from" "hidden_from" s_hidden_from fa fd) (hm : mg "hidden_from" = some (.ref fa)) : Has P w K mg base 1 "hidden_from" 2 sp_hidden_from_cea0e2 :=
  Has.mk' (ps := ["machine", "node"]) Fn hm (Fn.binds fun _ _ _ _ _ _ us hl => match us, hl with | [_, _], _ => rfl) sc_hidden_from (fun _ _ _ _ _ _ hgd hr => d_hidden_from T  hgd hr) rd_hidden_from_cea0e2
abbrev s_endless_marks : Stmt := topS 25
theorem sc_endless_marks : FnScope ["machine", "left", "node", "ahead", "moves", "goal", "ended", "many"] ["machine"] (defScope s_endless_marks) := ⟨rfl, rfl, rfl, by decide +kernel, rfl, by decide +kernel, by decide +kernel⟩
theorem d_endless_marks (T : Tops K mg) (g_hidden_from : Has P w K mg base 1 "hidden_from" 2 sp_hidden_from_cea0e2) {fa : Addr} {cdv : Value} {A : Around} {outer : List Env} {s : Shared} {H : Hp} {E : XK} (hgd : (A.deeper (envOfC "endless_marks" (defScope s_endless_marks) s.heap.objs.size fa cdv)).guards = some []) (hr : Room 1 (A.deeper (envOfC "endless_marks" (defScope s_endless_marks) s.heap.objs.size fa cdv))) :
    PSs (cxOf CX0 P w K mg base ["machine", "left", "node", "ahead", "moves", "goal", "ended", "many"] "endless_marks" (defScope s_endless_marks) fa cdv A outer s H E).nox (defBody s_endless_marks) (lfS K f0 h_endless_marks_77b142) := by
  have nd := sc_endless_marks.nd
  exact (hs_cons (hs_set (i := 1) nd rfl (.inr rfl) (hp_lc (pe_lc (own := [("node", 2)]) rfl nd (hi_rng1 (by rfl) T.n_range (hpa_cons (opd_e (hp_callB call_lenAll op_lenW (by rfl) T.n_len (by decide +kernel) (hpa_cons (opd_v 0 (pv 0)) hpa_nil))) hpa_nil)) (blkOk_by (own := [("node", 2)]) (N := ["machine", "left", "node", "ahead", "moves", "goal", "ended", "many"]) (sc := defScope s_endless_marks) (by decide +kernel)) (fun _ _ _ _ _ => (hg_name (pg_name (i := 2) nd rfl (by first | exact .inl rfl | exact .inr rfl)))) (fun _ _ _ _ _ => pts_yes) (fun _ _ _ _ _ => (hp_callB call_lenAll op_lenW (by rfl) T.n_len (by decide +kernel) (hpa_cons (opd_e (hp_callH g_hidden_from hgd (hr.mono (by decide)) (by rfl) (hpa_cons (opd_v 0 (pv 0)) (hpa_cons (opd_v 2 (pv 2)) hpa_nil)))) hpa_nil)))) (by decide) gl_name))
    (hs_gath (ps_setLc (i := 3) (own := [("moves", 4)]) rfl nd rfl rfl (sw_true rfl rfl rfl (by decide +kernel)) (hi_tup (hp_v 0 (pv 0))) (blkOk_by (own := [("moves", 4)]) (N := ["machine", "left", "node", "ahead", "moves", "goal", "ended", "many"]) (sc := defScope s_endless_marks) (by decide +kernel)) (fun _ _ _ _ _ => (hg_name (pg_name (i := 4) nd rfl (by first | exact .inl rfl | exact .inr rfl)))) (fun _ _ _ _ _ => pts_yes) (fun _ _ _ _ _ => pe_lst pa_nil)) (by decide) (by decide) (hn_for PassesOwn.never rfl (hi_rng1 (by rfl) T.n_range (hpa_cons (opd_e (hp_callB call_lenAll op_lenW (by rfl) T.n_len (by decide +kernel) (hpa_cons (opd_v 0 (pv 0)) hpa_nil))) hpa_nil)) (hg_name (pg_name (i := 2) nd rfl (by first | exact .inl rfl | exact .inr rfl))) (by decide) (pss_one (hn_for PassesOwn.never rfl (hi_list (hp_callH g_hidden_from hgd (hr.mono (by decide)) (by rfl) (hpa_cons (opd_v 0 (pv 0)) (hpa_cons (opd_v 2 (pv 2)) hpa_nil)))) (hg_name (pg_name (i := 5) nd rfl (by first | exact .inl rfl | exact .inr rfl))) (by decide) (pss_one (hn_app (hp_v 5 (pv 5)) (hp_v 2 (pv 2)) (fun h h2 => pe_bm PySem.F.plainAttrs_list PySem.F.slot_list_append PySem.F.type_list_append mt_append (pe_ix ix_list (pv 3) h (fun _ _ => rfl)) h2))))))
    (hs_cons (hs_setLc (ps_setLc (i := 6) (own := [("node", 2)]) rfl nd rfl rfl (sw_true rfl rfl rfl (by decide +kernel)) (hi_rng1 (by rfl) T.n_range (hpa_cons (opd_e (hp_callB call_lenAll op_lenW (by rfl) T.n_len (by decide +kernel) (hpa_cons (opd_v 0 (pv 0)) hpa_nil))) hpa_nil)) (blkOk_by (own := [("node", 2)]) (N := ["machine", "left", "node", "ahead", "moves", "goal", "ended", "many"]) (sc := defScope s_endless_marks) (by decide +kernel)) (fun _ _ _ _ _ => (hg_name (pg_name (i := 2) nd rfl (by first | exact .inl rfl | exact .inr rfl)))) (fun _ _ _ _ _ => (pts_one (ht_cmp (op_eqP (u64 hr)) (opd_e (hp_ix ix_seq (opd_v 1 (pv 1)) (opd_v 2 (pv 2)) op_ixW (fun _ _ => rfl))) (opd_e (hp_k pe_int fun _ => .int _)) op_eqPW (nomark _)))) (fun _ _ _ _ _ => (hp_v 2 (pv 2)))) (by decide) gl_name)
    (hs_cons (hs_while PassesOwn.never (ht_cmp (op_neP (u64 hr)) (opd_v 6 (pv 6)) (opd_e (hp_lst hpa_nil)) op_eqPW (nomark _)) (hs_one (hs_for PassesOwn.never rfl (hi_list (hp_ix ix_seq (opd_v 3 (pv 3)) (opd_e (hp_pop (pe_bm0 PySem.F.plainAttrs_list PySem.F.slot_list_pop PySem.F.type_list_pop mt_pop (pv 6)))) op_ixW (fun _ _ => rfl))) (hg_name (pg_name (i := 2) nd rfl (by first | exact .inl rfl | exact .inr rfl))) (hs_cons (hs_augL (ps_augS (pv 1) (hp_v 2 (pv 2)) get_list (hp_k pe_int fun _ => .int _) ip_sub set_list))
    (hs_one (hs_if (ht_cmp (op_eqP (u64 hr)) (opd_e (hp_ix ix_seq (opd_v 1 (pv 1)) (opd_v 2 (pv 2)) op_ixW (fun _ _ => rfl))) (opd_e (hp_k pe_int fun _ => .int _)) op_eqPW (nomark _)) (hs_one (hs_drop (hp_app (hp_v 2 (pv 2)) (fun h => pe_bm PySem.F.plainAttrs_list PySem.F.slot_list_append PySem.F.type_list_append mt_append (pv 6) h)))) hs_nil))))))
    (hs_one (hs_ret (hp_lc (pe_lc (own := [("many", 7)]) rfl nd (hi_list (hp_v 1 (pv 1))) (blkOk_by (own := [("many", 7)]) (N := ["machine", "left", "node", "ahead", "moves", "goal", "ended", "many"]) (sc := defScope s_endless_marks) (by decide +kernel)) (fun _ _ _ _ _ => (hg_name (pg_name (i := 7) nd rfl (by first | exact .inl rfl | exact .inr rfl)))) (fun _ _ _ _ _ => pts_yes) (fun _ _ _ _ _ => (hp_cmp op_gt (opd_v 7 (pv 7)) (opd_e (hp_k pe_int fun _ => .int _)) op_gtW (nomark _)))) (by decide) gl_name)))))))
theorem has_endless_marks (T : Tops K mg) (g_hidden_from : Has P w K mg base 1 "hidden_from" 2 sp_hidden_from_cea0e2) {fa : Addr} {fd : FuncData} (Fn : Fun K "endless_marks" "endless_marks" s_endless_marks fa fd) (hm : mg "endless_marks" = some (.ref fa)) : Has P w K mg base 2 "endless_marks" 1 sp_endless_marks_77b142 :=
  Has.mk' (ps := ["machine"]) Fn hm (Fn.binds fun _ _ _ _ _ _ us hl => match us, hl with | [_], _ => rfl) sc_endless_marks (fun _ _ _ _ _ _ hgd hr => d_endless_marks T g_hidden_from hgd hr) rd_endless_marks_77b142
abbrev s_circle_of : Stmt := topS 26
theorem sc_circle_of : FnScope ["machine", "node", "marks", "way", "goal", "other", "at"] ["machine", "node"] (defScope s_circle_of) := ⟨rfl, rfl, rfl, by decide +kernel, rfl, by decide +kernel, by decide +kernel⟩
theorem d_circle_of (T : Tops K mg) (g_hidden_from : Has P w K mg base 1 "hidden_from" 2 sp_hidden_from_cea0e2) (g_endless_marks : Has P w K mg base 2 "endless_marks" 1 sp_endless_marks_77b142) (g_need_node : Has P w K mg base 2 "need_node" 2 sp_need_node_37f819) (g_need_machine : Has P w K mg base 5 "need_machine" 1 sp_need_machine_f4028c) {fa : Addr} {cdv : Value} {A : Around} {outer : List Env} {s : Shared} {H : Hp} {E : XK} (hgd : (A.deeper (envOfC "circle_of" (defScope s_circle_of) s.heap.objs.size fa cdv)).guards = some []) (hr : Room 5 (A.deeper (envOfC "circle_of" (defScope s_circle_of) s.heap.objs.size fa cdv))) :
    PSs (cxOf CX0 P w K mg base ["machine", "node", "marks", "way", "goal", "other", "at"] "circle_of" (defScope s_circle_of) fa cdv A outer s H E).nox (defBody s_circle_of) (lfS K f0 h_circle_of_5ad863) := by
  have nd := sc_circle_of.nd
  exact (hs_cons (hs_drop (hp_callH g_need_machine hgd (hr.mono (by decide)) (by rfl) (hpa_cons (opd_v 0 (pv 0)) hpa_nil)))
    (hs_cons (hs_drop (hp_callH g_need_node hgd (hr.mono (by decide)) (by rfl) (hpa_cons (opd_v 0 (pv 0)) (hpa_cons (opd_v 1 (pv 1)) hpa_nil))))
    (hs_cons (hs_set (i := 2) nd rfl (.inr rfl) (hp_callH g_endless_marks hgd (hr.mono (by decide)) (by rfl) (hpa_cons (opd_v 0 (pv 0)) hpa_nil)))
    (hs_cons (hs_if (ht_not (hp_test (hp_ix ix_seq (opd_v 2 (pv 2)) (opd_v 1 (pv 1)) op_ixW (fun _ _ => rfl)))) (hs_one (hs_ret (hp_k pe_non fun _ => .non))) hs_nil)
    (hs_cons (hs_set (i := 3) nd rfl (.inl rfl) (hp_lst (hpa_cons (opd_e (hp_v 1 (pv 1))) hpa_nil)))
    (hs_cons (hs_set (i := 4) nd rfl (.inl rfl) (hp_ix ix_seq (opd_e (hp_lc (pe_lc (own := [("other", 5)]) rfl nd (hi_list (hp_callH g_hidden_from hgd (hr.mono (by decide)) (by rfl) (hpa_cons (opd_v 0 (pv 0)) (hpa_cons (opd_v 1 (pv 1)) hpa_nil)))) (blkOk_by (own := [("other", 5)]) (N := ["machine", "node", "marks", "way", "goal", "other", "at"]) (sc := defScope s_circle_of) (by decide +kernel)) (fun _ _ _ _ _ => (hg_name (pg_name (i := 5) nd rfl (by first | exact .inl rfl | exact .inr rfl)))) (fun _ _ _ _ _ => (pts_one (hp_test (hp_ix ix_seq (opd_v 2 (pv 2)) (opd_v 5 (pv 5)) op_ixW (fun _ _ => rfl))))) (fun _ _ _ _ _ => (hp_v 5 (pv 5)))) (by decide) gl_name)) (opd_e (hp_k pe_int fun _ => .int _)) op_ixW (fun _ _ => rfl)))
    (hs_cons (hs_while PassesOwn.never (ht_cmp (op_ninP (u64 hr)) (opd_v 4 (pv 4)) (opd_v 3 (pv 3)) op_inPW (by first | exact nobehind _ (by decide) (by decide) | rfl)) (hs_cons (hs_drop (hp_app (hp_v 4 (pv 4)) (fun h => pe_bm PySem.F.plainAttrs_list PySem.F.slot_list_append PySem.F.type_list_append mt_append (pv 3) h)))
    (hs_one (hs_set (i := 4) nd rfl (.inl rfl) (hp_ix ix_seq (opd_e (hp_lc (pe_lc (own := [("other", 5)]) rfl nd (hi_list (hp_callH g_hidden_from hgd (hr.mono (by decide)) (by rfl) (hpa_cons (opd_v 0 (pv 0)) (hpa_cons (opd_v 4 (pv 4)) hpa_nil)))) (blkOk_by (own := [("other", 5)]) (N := ["machine", "node", "marks", "way", "goal", "other", "at"]) (sc := defScope s_circle_of) (by decide +kernel)) (fun _ _ _ _ _ => (hg_name (pg_name (i := 5) nd rfl (by first | exact .inl rfl | exact .inr rfl)))) (fun _ _ _ _ _ => (pts_one (hp_test (hp_ix ix_seq (opd_v 2 (pv 2)) (opd_v 5 (pv 5)) op_ixW (fun _ _ => rfl))))) (fun _ _ _ _ _ => (hp_v 5 (pv 5)))) (by decide) gl_name)) (opd_e (hp_k pe_int fun _ => .int _)) op_ixW (fun _ _ => rfl))))))
    (hs_cons (hs_set (i := 6) nd rfl (.inl rfl) (hp_idx (hp_v 4 (pv 4)) (fun h => pe_bm PySem.F.plainAttrs_list PySem.F.slot_list_index PySem.F.type_list_index mt_index (pv 3) h)))
    (hs_one (hs_ret (hp_tup (hpa_cons (opd_e (hp_callTy call_tuple_of op_tupW (by rfl) T.n_tuple (by decide +kernel) (hpa_cons (opd_e (hp_sl (pv 3) ho_none (ho_some (hp_op op_addAll (opd_v 6 (pv 6)) (opd_e (hp_k pe_int fun _ => .int _)) op_addW)))) hpa_nil))) (hpa_cons (opd_e (hp_callTy call_tuple_of op_tupW (by rfl) T.n_tuple (by decide +kernel) (hpa_cons (opd_e (hp_sl (pv 3) (ho_some (hp_v 6 (pv 6))) ho_none)) hpa_nil))) hpa_nil)))))))))))))
theorem has_circle_of (T : Tops K mg) (g_hidden_from : Has P w K mg base 1 "hidden_from" 2 sp_hidden_from_cea0e2) (g_endless_marks : Has P w K mg base 2 "endless_marks" 1 sp_endless_marks_77b142) (g_need_node : Has P w K mg base 2 "need_node" 2 sp_need_node_37f819) (g_need_machine : Has P w K mg base 5 "need_machine" 1 sp_need_machine_f4028c) {fa : Addr} {fd : FuncData} (Fn : Fun K "circle_of" "circle_of" s_circle_of fa fd) (hm : mg "circle_of" = some (.ref fa)) : Has P w K mg base 6 "circle_of" 2 sp_circle_of_5ad863 :=
  Has.mk' (ps := ["machine", "node"]) Fn hm (Fn.binds fun _ _ _ _ _ _ us hl => match us, hl with | [_, _], _ => rfl) sc_circle_of (fun _ _ _ _ _ _ hgd hr => d_circle_of T g_hidden_from g_endless_marks g_need_node g_need_machine hgd hr) rd_circle_of_5ad863
abbrev s__law_mixed : Stmt := topS 28
theorem sc__law_mixed : FnScope ["_law_cell", "_law_k", "_law_number"] ["_law_cell", "_law_k"] (defScope s__law_mixed) := ⟨rfl, rfl, rfl, by decide +kernel, rfl, by decide +kernel, by decide +kernel⟩
theorem d__law_mixed (T : Tops K mg)  {fa : Addr} {cdv : Value} {A : Around} {outer : List Env} {s : Shared} {H : Hp} {E : XK} (hgd : (A.deeper (envOfC "_law_mixed" (defScope s__law_mixed) s.heap.objs.size fa cdv)).guards = some []) (hr : Room 0 (A.deeper (envOfC "_law_mixed" (defScope s__law_mixed) s.heap.objs.size fa cdv))) :
    PSs (cxOf CX0 P w K mg base ["_law_cell", "_law_k", "_law_number"] "_law_mixed" (defScope s__law_mixed) fa cdv A outer s H E).nox (defBody s__law_mixed) (lfS K f0 h__law_mixed_2d863d) := by
  have nd := sc__law_mixed.nd
  exact (hs_cons (hs_set (i := 2) nd rfl (.inl rfl) (hp_op op_addAll (opd_e (hp_op op_addAll (opd_e (hp_op op_mod (opd_e (hp_op op_mulAll (opd_e (hp_op op_mulAll (opd_v 0 (pv 0)) (opd_e (hp_op op_addAll (opd_e (hp_k pe_int fun _ => .int _)) (opd_e (hp_op op_mulAll (opd_e (hp_k pe_int fun _ => .int _)) (opd_v 1 (pv 1)) op_mulW')) op_addW)) op_mulW')) (opd_e (hp_k pe_int fun _ => .int _)) op_mulW')) (opd_e (hp_k pe_int fun _ => .int _)) op_modWW)) (opd_e (hp_op op_mulAll (opd_e (hp_op op_mulAll (opd_e (hp_k pe_int fun _ => .int _)) (opd_v 1 (pv 1)) op_mulW')) (opd_v 1 (pv 1)) op_mulW')) op_addW)) (opd_e (hp_op op_mulAll (opd_e (hp_k pe_int fun _ => .int _)) (opd_v 1 (pv 1)) op_mulW')) op_addW))
    (hs_one (hs_ret (hp_op op_fdivW (opd_e (hp_op op_mod (opd_e (hp_op op_mulAll (opd_v 2 (pv 2)) (opd_e (hp_k pe_int fun _ => .int _)) op_mulW')) (opd_e (hp_k pe_int fun _ => .int _)) op_modWW)) (opd_e (hp_k pe_int fun _ => .int _)) op_fdivWW))))
theorem has__law_mixed (T : Tops K mg)  {fa : Addr} {fd : FuncData} (Fn : Fun K "_law_mixed" "_law_mixed" s__law_mixed fa fd) (hm : mg "_law_mixed" = some (.ref fa)) : Has P w K mg base 1 "_law_mixed" 2 sp__law_mixed_2d863d :=
  Has.mk' (ps := ["_law_cell", "_law_k"]) Fn hm (Fn.binds fun _ _ _ _ _ _ us hl => match us, hl with | [_, _], _ => rfl) sc__law_mixed (fun _ _ _ _ _ _ hgd hr => d__law_mixed T  hgd hr) rd__law_mixed_2d863d
abbrev s__law_folded : Stmt := topS 29
theorem sc__law_folded : FnScope ["_law_script", "_law_found", "_law_k", "_law_cell"] ["_law_script"] (defScope s__law_folded) := ⟨rfl, rfl, rfl, by decide +kernel, rfl, by decide +kernel, by decide +kernel⟩
theorem d__law_folded (T : Tops K mg)  {fa : Addr} {cdv : Value} {A : Around} {outer : List Env} {s : Shared} {H : Hp} {E : XK} (hgd : (A.deeper (envOfC "_law_folded" (defScope s__law_folded) s.heap.objs.size fa cdv)).guards = some []) (hr : Room 0 (A.deeper (envOfC "_law_folded" (defScope s__law_folded) s.heap.objs.size fa cdv))) :
    PSs (cxOf CX0 P w K mg base ["_law_script", "_law_found", "_law_k", "_law_cell"] "_law_folded" (defScope s__law_folded) fa cdv A outer s H E).nox (defBody s__law_folded) (lfS K f0 h__law_folded_8cf898) := by
  have nd := sc__law_folded.nd
  exact (hs_cons (hs_setLc (ps_setLc (i := 1) (own := [("_law_k", 2)]) rfl nd rfl rfl (sw_true rfl rfl rfl (by decide +kernel)) (hi_rng1 (by rfl) T.n_range (hpa_cons (opd_e (hp_k pe_int fun _ => .int _)) hpa_nil)) (blkOk_by (own := [("_law_k", 2)]) (N := ["_law_script", "_law_found", "_law_k", "_law_cell"]) (sc := defScope s__law_folded) (by decide +kernel)) (fun _ _ _ _ _ => (hg_name (pg_name (i := 2) nd rfl (by first | exact .inl rfl | exact .inr rfl)))) (fun _ _ _ _ _ => pts_yes) (fun _ _ _ _ _ => (hp_op op_addAll (opd_e (hp_k pe_int fun _ => .int _)) (opd_v 2 (pv 2)) op_addW))) (by decide) gl_name)
    (hs_cons (hs_for PassesOwn.never rfl (hi_enum (by rfl) T.n_enumerate (hpa_cons (opd_e (hp_v 0 (pv 0))) hpa_nil)) (hg_pair (pg_tup rfl (pgs_cons (pg_name (i := 2) nd rfl (by first | exact .inl rfl | exact .inr rfl)) (pgs_cons (pg_name (i := 3) nd rfl (by first | exact .inl rfl | exact .inr rfl)) pgs_nil)))) (hs_one (hs_setL (ps_asg (hp_op op_mod (opd_e (hp_op op_addAll (opd_e (hp_op op_mulAll (opd_e (hp_ix ix_seq (opd_v 1 (pv 1)) (opd_e (hp_op op_mod (opd_v 2 (pv 2)) (opd_e (hp_k pe_int fun _ => .int _)) op_modWW)) op_ixW (fun _ _ => rfl))) (opd_e (hp_k pe_int fun _ => .int _)) op_mulW')) (opd_v 3 (pv 3)) op_addW)) (opd_e (hp_k pe_int fun _ => .int _)) op_modWW) (pg_sub (pv 1) (hp_op op_mod (opd_v 2 (pv 2)) (opd_e (hp_k pe_int fun _ => .int _)) op_modWW) set_list)))))
    (hs_cons (hs_for PassesOwn.never rfl (hi_rng2 (by rfl) T.n_range (hpa_cons (opd_e (hp_k pe_int fun _ => .int _)) (hpa_cons (opd_e (hp_k pe_int fun _ => .int _)) hpa_nil))) (hg_name (pg_name (i := 2) nd rfl (by first | exact .inl rfl | exact .inr rfl))) (hs_one (hs_setL (ps_asg (hp_op op_mod (opd_e (hp_op op_addAll (opd_e (hp_ix ix_seq (opd_v 1 (pv 1)) (opd_v 2 (pv 2)) op_ixW (fun _ _ => rfl))) (opd_e (hp_op op_mulAll (opd_e (hp_ix ix_seq (opd_v 1 (pv 1)) (opd_e (hp_op op_sub (opd_v 2 (pv 2)) (opd_e (hp_k pe_int fun _ => .int _)) op_subW)) op_ixW (fun _ _ => rfl))) (opd_e (hp_k pe_int fun _ => .int _)) op_mulW')) op_addW)) (opd_e (hp_k pe_int fun _ => .int _)) op_modWW) (pg_sub (pv 1) (hp_v 2 (pv 2)) set_list)))))
    (hs_one (hs_ret (hp_m 1 (pv 1)))))))
theorem has__law_folded (T : Tops K mg)  {fa : Addr} {fd : FuncData} (Fn : Fun K "_law_folded" "_law_folded" s__law_folded fa fd) (hm : mg "_law_folded" = some (.ref fa)) : Has P w K mg base 1 "_law_folded" 1 sp__law_folded_8cf898 :=
  Has.mk' (ps := ["_law_script"]) Fn hm (Fn.binds fun _ _ _ _ _ _ us hl => match us, hl with | [_], _ => rfl) sc__law_folded (fun _ _ _ _ _ _ hgd hr => d__law_folded T  hgd hr) rd__law_folded_8cf898
abbrev s__law_words : Stmt := topS 32
theorem sc__law_words : FnScope ["_law_m", "_law_many", "_law_letters", "_law_start", "_law_way", "_law_size", "_law_at", "_law_stride", "_law_base", "_law_j", "_law_found", "_law_k", "_law_mark", "_law_bars", "_law_word"] ["_law_m", "_law_many"] (defScope s__law_words) := ⟨rfl, rfl, rfl, by decide +kernel, rfl, by decide +kernel, by decide +kernel⟩
theorem d__law_words (T : Tops K mg) (g__law_draw : Has P w K mg base 2 "_law_draw" 2 sp__law_draw_a6e186) {fa : Addr} {cdv : Value} {A : Around} {outer : List Env} {s : Shared} {H : Hp} {E : XK} (hgd : (A.deeper (envOfC "_law_words" (defScope s__law_words) s.heap.objs.size fa cdv)).guards = some []) (hr : Room 2 (A.deeper (envOfC "_law_words" (defScope s__law_words) s.heap.objs.size fa cdv))) :
    PSs (cxOf CX0 P w K mg base ["_law_m", "_law_many", "_law_letters", "_law_start", "_law_way", "_law_size", "_law_at", "_law_stride", "_law_base", "_law_j", "_law_found", "_law_k", "_law_mark", "_law_bars", "_law_word"] "_law_words" (defScope s__law_words) fa cdv A outer s H E).nox (defBody s__law_words) (lfS K f0 h__law_words_aaf2f6) := by
  have nd := sc__law_words.nd
  exact (hs_cons (hs_set (i := 2) nd rfl (.inr rfl) (hp_k pe_str fun _ => .str _))
    (hs_cons (hs_unp (hp_tup (hpa_cons (opd_e (hp_callH g__law_draw hgd (hr.mono (by decide)) (by rfl) (hpa_cons (opd_v 0 (pv 0)) (hpa_cons (opd_e (hp_k pe_int fun _ => .int _)) hpa_nil)))) (hpa_cons (opd_e (hp_callH g__law_draw hgd (hr.mono (by decide)) (by rfl) (hpa_cons (opd_v 0 (pv 0)) (hpa_cons (opd_e (hp_k pe_int fun _ => .int _)) hpa_nil)))) hpa_nil))) (hg_pair (pg_tup rfl (pgs_cons (pg_name (i := 3) nd rfl (by first | exact .inl rfl | exact .inr rfl)) (pgs_cons (pg_name (i := 4) nd rfl (by first | exact .inl rfl | exact .inr rfl)) pgs_nil)))))
    (hs_cons (hs_set (i := 5) nd rfl (.inl rfl) (hp_op op_addAll (opd_e (hp_k pe_int fun _ => .int _)) (opd_e (hp_callH g__law_draw hgd (hr.mono (by decide)) (by rfl) (hpa_cons (opd_v 0 (pv 0)) (hpa_cons (opd_e (hp_k pe_int fun _ => .int _)) hpa_nil)))) op_addW))
    (hs_cons (hs_set (i := 6) nd rfl (.inl rfl) (hp_callH g__law_draw hgd (hr.mono (by decide)) (by rfl) (hpa_cons (opd_v 0 (pv 0)) (hpa_cons (opd_v 5 (pv 5)) hpa_nil))))
    (hs_cons (hs_set (i := 7) nd rfl (.inl rfl) (hp_ix ix_seq (opd_e (hp_lst (hpa_cons (opd_e (hp_k pe_int fun _ => .int _)) (hpa_cons (opd_e (hp_k pe_int fun _ => .int _)) (hpa_cons (opd_e (hp_k pe_int fun _ => .int _)) (hpa_cons (opd_e (hp_k pe_int fun _ => .int _)) (hpa_cons (opd_e (hp_k pe_int fun _ => .int _)) (hpa_cons (opd_e (hp_k pe_int fun _ => .int _)) hpa_nil)))))))) (opd_e (hp_callH g__law_draw hgd (hr.mono (by decide)) (by rfl) (hpa_cons (opd_v 0 (pv 0)) (hpa_cons (opd_e (hp_k pe_int fun _ => .int _)) hpa_nil)))) op_ixW (fun _ _ => rfl)))
    (hs_cons (hs_set (i := 8) nd rfl (.inl rfl) (hp_join pe_str (opd_e (hp_lc (pe_lc (own := [("_law_j", 9)]) rfl nd (hi_rng1 (by rfl) T.n_range (hpa_cons (opd_e (hp_k pe_int fun _ => .int _)) hpa_nil)) (blkOk_by (own := [("_law_j", 9)]) (N := ["_law_m", "_law_many", "_law_letters", "_law_start", "_law_way", "_law_size", "_law_at", "_law_stride", "_law_base", "_law_j", "_law_found", "_law_k", "_law_mark", "_law_bars", "_law_word"]) (sc := defScope s__law_words) (by decide +kernel)) (fun _ _ _ _ _ => (hg_name (pg_name (i := 9) nd rfl (by first | exact .inl rfl | exact .inr rfl)))) (fun _ _ _ _ _ => pts_yes) (fun _ _ _ _ _ => (hp_ix ix_seq (opd_v 2 (pv 2)) (opd_e (hp_op op_mod (opd_e (hp_op op_addAll (opd_v 3 (pv 3)) (opd_e (hp_op op_mulAll (opd_e (hp_k pe_int fun _ => .int _)) (opd_v 9 (pv 9)) op_mulW')) op_addW)) (opd_e (hp_k pe_int fun _ => .int _)) op_modWW)) op_ixW (fun _ _ => rfl)))) (by decide) gl_name))))
    (hs_cons (hs_set (i := 10) nd rfl (.inl rfl) (hp_lst hpa_nil))
    (hs_cons (hs_for PassesOwn.never rfl (hi_rng1 (by rfl) T.n_range (hpa_cons (opd_v 1 (pv 1)) hpa_nil)) (hg_name (pg_name (i := 11) nd rfl (by first | exact .inl rfl | exact .inr rfl))) (hs_cons (hs_set (i := 12) nd rfl (.inl rfl) (hp_ix ix_seq (opd_v 2 (pv 2)) (opd_e (hp_op op_mod (opd_e (hp_op op_addAll (opd_v 3 (pv 3)) (opd_e (hp_op op_mulAll (opd_v 7 (pv 7)) (opd_v 11 (pv 11)) op_mulW')) op_addW)) (opd_e (hp_k pe_int fun _ => .int _)) op_modWW)) op_ixW (fun _ _ => rfl)))
    (hs_one (hs_if (ht_cmp (op_eqP (u64 hr)) (opd_v 4 (pv 4)) (opd_e (hp_k pe_int fun _ => .int _)) op_eqPW (nomark _)) (hs_one (hs_drop (hp_app (hp_op op_addAll (opd_v 12 (pv 12)) (opd_e (hp_sl (pv 8) ho_none (ho_some (hp_op op_mod (opd_e (hp_op op_mulAll (opd_v 11 (pv 11)) (opd_v 7 (pv 7)) op_mulW')) (opd_e (hp_k pe_int fun _ => .int _)) op_modWW)))) op_addW) (fun h => pe_bm PySem.F.plainAttrs_list PySem.F.slot_list_append PySem.F.type_list_append mt_append (pv 10) h)))) (hs_one (hs_drop (hp_app (hp_op op_addAll (opd_e (hp_op op_addAll (opd_e (hp_sl (pv 8) ho_none (ho_some (hp_v 6 (pv 6))))) (opd_v 12 (pv 12)) op_addW)) (opd_e (hp_sl (pv 8) (ho_some (hp_op op_addAll (opd_v 6 (pv 6)) (opd_e (hp_k pe_int fun _ => .int _)) op_addW)) (ho_some (hp_v 5 (pv 5))))) op_addW) (fun h => pe_bm PySem.F.plainAttrs_list PySem.F.slot_list_append PySem.F.type_list_append mt_append (pv 10) h))))))))
    (hs_cons (hs_set (i := 13) nd rfl (.inr rfl) (hp_lst (hpa_cons (opd_e (hp_k pe_str fun _ => .str _)) (hpa_cons (opd_e (hp_k pe_str fun _ => .str _)) (hpa_cons (opd_e (hp_k pe_str fun _ => .str _)) (hpa_cons (opd_e (hp_k pe_str fun _ => .str _)) (hpa_cons (opd_e (hp_k pe_str fun _ => .str _)) (hpa_cons (opd_e (hp_k pe_str fun _ => .str _)) (hpa_cons (opd_e (hp_k pe_str fun _ => .str _)) hpa_nil)))))))))
    (hs_one (hs_ret (hp_lc (pe_lc (own := [("_law_word", 14)]) rfl nd (hi_list (hp_v 10 (pv 10))) (blkOk_by (own := [("_law_word", 14)]) (N := ["_law_m", "_law_many", "_law_letters", "_law_start", "_law_way", "_law_size", "_law_at", "_law_stride", "_law_base", "_law_j", "_law_found", "_law_k", "_law_mark", "_law_bars", "_law_word"]) (sc := defScope s__law_words) (by decide +kernel)) (fun _ _ _ _ _ => (hg_name (pg_name (i := 14) nd rfl (by first | exact .inl rfl | exact .inr rfl)))) (fun _ _ _ _ _ => pts_yes) (fun _ _ _ _ _ => (hp_if (ht_cmp (op_ninP (u64 hr)) (opd_v 14 (pv 14)) (opd_v 13 (pv 13)) op_inPW (by first | exact nobehind _ (by decide) (by decide) | rfl)) (hp_v 14 (pv 14)) (hp_op op_addAll (opd_e (hp_op op_addAll (opd_e (hp_k pe_str fun _ => .str _)) (opd_e (hp_sl (pv 14) ho_none (ho_some (hp_k pe_int fun _ => .int _)))) op_addW)) (opd_e (hp_k pe_str fun _ => .str _)) op_addW)))) (by decide) gl_name))))))))))))
theorem has__law_words (T : Tops K mg) (g__law_draw : Has P w K mg base 2 "_law_draw" 2 sp__law_draw_a6e186) {fa : Addr} {fd : FuncData} (Fn : Fun K "_law_words" "_law_words" s__law_words fa fd) (hm : mg "_law_words" = some (.ref fa)) : Has P w K mg base 3 "_law_words" 2 sp__law_words_aaf2f6 :=
  Has.mk' (ps := ["_law_m", "_law_many"]) Fn hm (Fn.binds fun _ _ _ _ _ _ us hl => match us, hl with | [_, _], _ => rfl) sc__law_words (fun _ _ _ _ _ _ hgd hr => d__law_words T g__law_draw hgd hr) rd__law_words_aaf2f6
abbrev s__law_machine : Stmt := topS 33
theorem sc__law_machine : FnScope ["_law_m", "_law_most", "_law_deeds", "_law_many", "_law_hidden", "_law_found", "_law_k", "_law_row", "_law_j", "_law_is_own", "_law_deed"] ["_law_m", "_law_most", "_law_deeds"] (defScope s__law_machine) := ⟨rfl, rfl, rfl, by decide +kernel, rfl, by decide +kernel, by decide +kernel⟩
theorem d__law_machine (T : Tops K mg) (g__law_draw : Has P w K mg base 2 "_law_draw" 2 sp__law_draw_a6e186) {fa : Addr} {cdv : Value} {A : Around} {outer : List Env} {s : Shared} {H : Hp} {E : XK} (hgd : (A.deeper (envOfC "_law_machine" (defScope s__law_machine) s.heap.objs.size fa cdv)).guards = some []) (hr : Room 2 (A.deeper (envOfC "_law_machine" (defScope s__law_machine) s.heap.objs.size fa cdv))) :
    PSs (cxOf CX0 P w K mg base ["_law_m", "_law_most", "_law_deeds", "_law_many", "_law_hidden", "_law_found", "_law_k", "_law_row", "_law_j", "_law_is_own", "_law_deed"] "_law_machine" (defScope s__law_machine) fa cdv A outer s H E).nox (defBody s__law_machine) (lfS K f0 h__law_machine_5d3daf) := by
  have nd := sc__law_machine.nd
  exact (hs_cons (hs_par (fun h => ps_par (i := 3) (j := 4) rfl nd rfl rfl (by decide) rfl rfl h (by rfl)) (hpa_cons (opd_e (hp_op op_addAll (opd_e (hp_k pe_int fun _ => .int _)) (opd_e (hp_callH g__law_draw hgd (hr.mono (by decide)) (by rfl) (hpa_cons (opd_v 0 (pv 0)) (hpa_cons (opd_v 1 (pv 1)) hpa_nil)))) op_addW)) (hpa_cons (opd_e (hp_callH g__law_draw hgd (hr.mono (by decide)) (by rfl) (hpa_cons (opd_v 0 (pv 0)) (hpa_cons (opd_e (hp_k pe_int fun _ => .int _)) hpa_nil)))) hpa_nil)))
    (hs_cons (hs_set (i := 5) nd rfl (.inl rfl) (hp_lst hpa_nil))
    (hs_cons (hs_for PassesOwn.never rfl (hi_rng1 (by rfl) T.n_range (hpa_cons (opd_v 3 (pv 3)) hpa_nil)) (hg_name (pg_name (i := 6) nd rfl (by first | exact .inl rfl | exact .inr rfl))) (hs_cons (hs_set (i := 7) nd rfl (.inl rfl) (hp_lst hpa_nil))
    (hs_cons (hs_for PassesOwn.never rfl (hi_rng1 (by rfl) T.n_range (hpa_cons (opd_e (hp_ix ix_seq (opd_e (hp_lst (hpa_cons (opd_e (hp_k pe_int fun _ => .int _)) (hpa_cons (opd_e (hp_k pe_int fun _ => .int _)) (hpa_cons (opd_e (hp_k pe_int fun _ => .int _)) (hpa_cons (opd_e (hp_k pe_int fun _ => .int _)) (hpa_cons (opd_e (hp_k pe_int fun _ => .int _)) (hpa_cons (opd_e (hp_k pe_int fun _ => .int _)) (hpa_cons (opd_e (hp_k pe_int fun _ => .int _)) (hpa_cons (opd_e (hp_k pe_int fun _ => .int _)) hpa_nil)))))))))) (opd_e (hp_callH g__law_draw hgd (hr.mono (by decide)) (by rfl) (hpa_cons (opd_v 0 (pv 0)) (hpa_cons (opd_e (hp_k pe_int fun _ => .int _)) hpa_nil)))) op_ixW (fun _ _ => rfl))) hpa_nil)) (hg_name (pg_name (i := 8) nd rfl (by first | exact .inl rfl | exact .inr rfl))) (hs_cons (hs_set (i := 9) nd rfl (.inl rfl) (hp_orV (hp_cmp (op_eqP (u64 hr)) (opd_v 2 (pv 2)) (opd_e (hp_lst hpa_nil)) op_eqPW (nomark _)) (pe_one (hp_cmp op_lt (opd_e (hp_callH g__law_draw hgd (hr.mono (by decide)) (by rfl) (hpa_cons (opd_v 0 (pv 0)) (hpa_cons (opd_e (hp_k pe_int fun _ => .int _)) hpa_nil)))) (opd_v 4 (pv 4)) op_ltW (nomark _)))))
    (hs_cons (hs_set (i := 10) nd rfl (.inl rfl) (hp_if (hp_test (hp_v 9 (pv 9))) (hp_k pe_str fun _ => .str _) (hp_ix ix_seq (opd_v 2 (pv 2)) (opd_e (hp_callH g__law_draw hgd (hr.mono (by decide)) (by rfl) (hpa_cons (opd_v 0 (pv 0)) (hpa_cons (opd_e (hp_callB call_lenAll op_lenW (by rfl) T.n_len (by decide +kernel) (hpa_cons (opd_v 2 (pv 2)) hpa_nil))) hpa_nil)))) op_ixW (fun _ _ => rfl))))
    (hs_one (hs_drop (hp_app (hp_tup (hpa_cons (opd_e (hp_v 10 (pv 10))) (hpa_cons (opd_e (hp_ix ix_seq (opd_e (hp_lst (hpa_cons (opd_e (hp_op op_mod (opd_e (hp_op op_addAll (opd_v 6 (pv 6)) (opd_e (hp_k pe_int fun _ => .int _)) op_addW)) (opd_v 3 (pv 3)) op_modWW)) (hpa_cons (opd_e (hp_callH g__law_draw hgd (hr.mono (by decide)) (by rfl) (hpa_cons (opd_v 0 (pv 0)) (hpa_cons (opd_v 3 (pv 3)) hpa_nil)))) hpa_nil)))) (opd_e (hp_callH g__law_draw hgd (hr.mono (by decide)) (by rfl) (hpa_cons (opd_v 0 (pv 0)) (hpa_cons (opd_e (hp_k pe_int fun _ => .int _)) hpa_nil)))) op_ixW (fun _ _ => rfl))) hpa_nil))) (fun h => pe_bm PySem.F.plainAttrs_list PySem.F.slot_list_append PySem.F.type_list_append mt_append (pv 7) h)))))))
    (hs_one (hs_drop (hp_app (hp_callTy call_tuple_of op_tupW (by rfl) T.n_tuple (by decide +kernel) (hpa_cons (opd_e (hp_sortUT (α := Str) (β := Int) rfl (u64 hr) (by rfl) T.n_sorted (by rfl) T.n_set (opd_v 7 (pv 7)))) hpa_nil)) (fun h => pe_bm PySem.F.plainAttrs_list PySem.F.slot_list_append PySem.F.type_list_append mt_append (pv 5) h)))))))
    (hs_one (hs_ret (hp_callTy call_tuple_of op_tupW (by rfl) T.n_tuple (by decide +kernel) (hpa_cons (opd_v 5 (pv 5)) hpa_nil)))))))
theorem has__law_machine (T : Tops K mg) (g__law_draw : Has P w K mg base 2 "_law_draw" 2 sp__law_draw_a6e186) {fa : Addr} {fd : FuncData} (Fn : Fun K "_law_machine" "_law_machine" s__law_machine fa fd) (hm : mg "_law_machine" = some (.ref fa)) : Has P w K mg base 3 "_law_machine" 3 sp__law_machine_5d3daf :=
  Has.mk' (ps := ["_law_m", "_law_most", "_law_deeds"]) Fn hm (Fn.binds fun _ _ _ _ _ _ us hl => match us, hl with | [_, _, _], _ => rfl) sc__law_machine (fun _ _ _ _ _ _ hgd hr => d__law_machine T g__law_draw hgd hr) rd__law_machine_5d3daf
abbrev s__law_endless : Stmt := topS 34
theorem sc__law_endless : FnScope ["_law_machine_here", "_law_found", "_law_turn", "_law_node", "_law_deed", "_law_goal"] ["_law_machine_here"] (defScope s__law_endless) := ⟨rfl, rfl, rfl, by decide +kernel, rfl, by decide +kernel, by decide +kernel⟩
theorem d__law_endless (T : Tops K mg)  {fa : Addr} {cdv : Value} {A : Around} {outer : List Env} {s : Shared} {H : Hp} {E : XK} (hgd : (A.deeper (envOfC "_law_endless" (defScope s__law_endless) s.heap.objs.size fa cdv)).guards = some []) (hr : Room 0 (A.deeper (envOfC "_law_endless" (defScope s__law_endless) s.heap.objs.size fa cdv))) :
    PSs (cxOf CX0 P w K mg base ["_law_machine_here", "_law_found", "_law_turn", "_law_node", "_law_deed", "_law_goal"] "_law_endless" (defScope s__law_endless) fa cdv A outer s H E).nox (defBody s__law_endless) (lfS K f0 h__law_endless_97b8f5) := by
  have nd := sc__law_endless.nd
  exact (hs_cons (hs_set (i := 1) nd rfl (.inr rfl) (hp_lr1 (fun h => pe_listRg rfl (by rfl) T.n_list (prg_1 (by rfl) T.n_range h)) (opd_e (hp_callB call_lenAll op_lenW (by rfl) T.n_len (by decide +kernel) (hpa_cons (opd_v 0 (pv 0)) hpa_nil)))))
    (hs_cons (hs_for PassesOwn.never rfl (hi_rng1 (by rfl) T.n_range (hpa_cons (opd_e (hp_callB call_lenAll op_lenW (by rfl) T.n_len (by decide +kernel) (hpa_cons (opd_v 0 (pv 0)) hpa_nil))) hpa_nil)) (hg_name (pg_name (i := 2) nd rfl (by first | exact .inl rfl | exact .inr rfl))) (hs_one (hs_set (i := 1) nd rfl (.inr rfl) (hp_lc (pe_lc (own := [("_law_node", 3)]) rfl nd (hi_list (hp_v 1 (pv 1))) (blkOk_by (own := [("_law_node", 3)]) (N := ["_law_machine_here", "_law_found", "_law_turn", "_law_node", "_law_deed", "_law_goal"]) (sc := defScope s__law_endless) (by decide +kernel)) (fun _ _ _ _ _ => (hg_name (pg_name (i := 3) nd rfl (by first | exact .inl rfl | exact .inr rfl)))) (fun _ _ _ _ _ => (pts_one (ht_cmp (op_neP (u64 hr)) (opd_e (hp_lc (pe_lc (own := [("_law_deed", 4), ("_law_goal", 5)]) rfl nd (hi_tup (hp_ix ix_seq (opd_v 0 (pv 0)) (opd_v 3 (pv 3)) op_ixW (fun _ _ => rfl))) (blkOk_by (own := [("_law_deed", 4), ("_law_goal", 5)]) (by kernel_rfl)) (fun _ _ _ _ _ => (hg_pair (pg_tup rfl (pgs_cons (pg_name (i := 4) nd rfl (by first | exact .inl rfl | exact .inr rfl)) (pgs_cons (pg_name (i := 5) nd rfl (by first | exact .inl rfl | exact .inr rfl)) pgs_nil))))) (fun _ _ _ _ _ => (pts_one (PW.pt (ht_and (ht_cmp (op_eqP (u64 hr)) (opd_v 4 (pv 4)) (opd_e (hp_k pe_str fun _ => .str _)) op_eqPW (nomark _)) (ht_and1 (ht_cmp (op_inP (u64 hr)) (opd_v 5 (pv 5)) (opd_v 1 (pv 1)) op_inPW (by first | exact nobehind _ (by decide) (by decide) | rfl))))))) (fun _ _ _ _ _ => (hp_v 5 (pv 5)))) (by decide) gl_pair)) (opd_e (hp_lst hpa_nil)) op_eqPW (nomark _)))) (fun _ _ _ _ _ => (hp_v 3 (pv 3)))) (by decide) gl_name))))
    (hs_one (hs_ret (hp_m 1 (pv 1))))))
theorem has__law_endless (T : Tops K mg)  {fa : Addr} {fd : FuncData} (Fn : Fun K "_law_endless" "_law_endless" s__law_endless fa fd) (hm : mg "_law_endless" = some (.ref fa)) : Has P w K mg base 1 "_law_endless" 1 sp__law_endless_97b8f5 :=
  Has.mk' (ps := ["_law_machine_here"]) Fn hm (Fn.binds fun _ _ _ _ _ _ us hl => match us, hl with | [_], _ => rfl) sc__law_endless (fun _ _ _ _ _ _ hgd hr => d__law_endless T  hgd hr) rd__law_endless_97b8f5
abbrev s__law_goes : Stmt := topS 35
theorem sc__law_goes : FnScope ["_law_machine_here", "_law_nodes", "_law_pair"] ["_law_machine_here", "_law_nodes"] (defScope s__law_goes) := ⟨rfl, rfl, rfl, by decide +kernel, rfl, by decide +kernel, by decide +kernel⟩
theorem d__law_goes (T : Tops K mg)  {fa : Addr} {cdv : Value} {A : Around} {outer : List Env} {s : Shared} {H : Hp} {E : XK} (hgd : (A.deeper (envOfC "_law_goes" (defScope s__law_goes) s.heap.objs.size fa cdv)).guards = some []) (hr : Room 0 (A.deeper (envOfC "_law_goes" (defScope s__law_goes) s.heap.objs.size fa cdv))) :
    PSs (cxOf CX0 P w K mg base ["_law_machine_here", "_law_nodes", "_law_pair"] "_law_goes" (defScope s__law_goes) fa cdv A outer s H E).nox (defBody s__law_goes) (lfS K f0 h__law_goes_1279ee) := by
  have nd := sc__law_goes.nd
  exact (hs_one (hs_ret (hp_cmp (op_eqP (u64 hr)) (opd_e (hp_lc (pe_lc (own := [("_law_pair", 2)]) rfl nd (hi_zipN (by rfl) T.n_zip (hpa_cons (opd_e (hp_v 1 (pv 1))) (hpa_cons (opd_e (hp_sl (pv 1) (ho_some (hp_k pe_int fun _ => .int _)) ho_none)) hpa_nil))) (blkOk_by (own := [("_law_pair", 2)]) (N := ["_law_machine_here", "_law_nodes", "_law_pair"]) (sc := defScope s__law_goes) (by decide +kernel)) (fun _ _ _ _ _ => (hg_name (pg_name (i := 2) nd rfl (by first | exact .inl rfl | exact .inr rfl)))) (fun _ _ _ _ _ => (pts_one (ht_cmp (op_ninP (u64 hr)) (opd_e (hp_tup (hpa_cons (opd_e (hp_k pe_str fun _ => .str _)) (hpa_cons (opd_e (hp_ix ix_seq (opd_v 2 (pv 2)) (opd_e (hp_k pe_int fun _ => .int _)) op_ixW (fun _ _ => rfl))) hpa_nil)))) (opd_e (hp_ix ix_seq (opd_v 0 (pv 0)) (opd_e (hp_ix ix_seq (opd_v 2 (pv 2)) (opd_e (hp_k pe_int fun _ => .int _)) op_ixW (fun _ _ => rfl))) op_ixW (fun _ _ => rfl))) op_inPW (by first | exact nobehind _ (by decide) (by decide) | rfl)))) (fun _ _ _ _ _ => (hp_v 2 (pv 2)))) (by decide) gl_name)) (opd_e (hp_lst hpa_nil)) op_eqPW (nomark _))))
theorem has__law_goes (T : Tops K mg)  {fa : Addr} {fd : FuncData} (Fn : Fun K "_law_goes" "_law_goes" s__law_goes fa fd) (hm : mg "_law_goes" = some (.ref fa)) : Has P w K mg base 1 "_law_goes" 2 sp__law_goes_1279ee :=
  Has.mk' (ps := ["_law_machine_here", "_law_nodes"]) Fn hm (Fn.binds fun _ _ _ _ _ _ us hl => match us, hl with | [_, _], _ => rfl) sc__law_goes (fun _ _ _ _ _ _ hgd hr => d__law_goes T  hgd hr) rd__law_goes_1279ee
abbrev s__law_is_circle : Stmt := topS 36
theorem sc__law_is_circle : FnScope ["_law_machine_here", "_law_node", "_law_found", "_law_part", "_law_way", "_law_circle", "_law_one"] ["_law_machine_here", "_law_node", "_law_found"] (defScope s__law_is_circle) := ⟨rfl, rfl, rfl, by decide +kernel, rfl, by decide +kernel, by decide +kernel⟩
theorem d__law_is_circle (T : Tops K mg) (g__law_goes : Has P w K mg base 1 "_law_goes" 2 sp__law_goes_1279ee) {fa : Addr} {cdv : Value} {A : Around} {outer : List Env} {s : Shared} {H : Hp} {E : XK} (hgd : (A.deeper (envOfC "_law_is_circle" (defScope s__law_is_circle) s.heap.objs.size fa cdv)).guards = some []) (hr : Room 1 (A.deeper (envOfC "_law_is_circle" (defScope s__law_is_circle) s.heap.objs.size fa cdv))) :
    PSs (cxOf CX0 P w K mg base ["_law_machine_here", "_law_node", "_law_found", "_law_part", "_law_way", "_law_circle", "_law_one"] "_law_is_circle" (defScope s__law_is_circle) fa cdv A outer s H E).nox (defBody s__law_is_circle) (lfS K f0 h__law_is_circle_4ff723) := by
  have nd := sc__law_is_circle.nd
  exact (hs_cons (hs_if (PW.pt (ht_or (ht_not (hp_test (hp_callB call_isiD op_isi (by rfl) T.n_isinstance (by decide +kernel) (hpa_cons (opd_v 2 (pv 2)) (hpa_cons (opd_w (pe_bltn (v := .ty "tuple") (u := .type "tuple") (by rfl) T.n_tuple (by decide +kernel) rfl)) hpa_nil))))) (ht_or (ht_cmp (op_neP (u64 hr)) (opd_e (hp_callB call_lenAll op_lenW (by rfl) T.n_len (by decide +kernel) (hpa_cons (opd_v 2 (pv 2)) hpa_nil))) (opd_e (hp_k pe_int fun _ => .int _)) op_eqPW (nomark _)) (ht_or1 (ht_not (hp_test (hp_callB (cr_all rfl) op_allW (by rfl) T.n_all (by decide +kernel) (hpa_cons (opd_e (hp_lc (pe_lc (own := [("_law_part", 3)]) rfl nd (hi_tup (hp_v 2 (pv 2))) (blkOk_by (own := [("_law_part", 3)]) (N := ["_law_machine_here", "_law_node", "_law_found", "_law_part", "_law_way", "_law_circle", "_law_one"]) (sc := defScope s__law_is_circle) (by decide +kernel)) (fun _ _ _ _ _ => (hg_name (pg_name (i := 3) nd rfl (by first | exact .inl rfl | exact .inr rfl)))) (fun _ _ _ _ _ => pts_yes) (fun _ _ _ _ _ => (hp_callB call_isiD op_isi (by rfl) T.n_isinstance (by decide +kernel) (hpa_cons (opd_v 3 (pv 3)) (hpa_cons (opd_w (pe_bltn (v := .ty "tuple") (u := .type "tuple") (by rfl) T.n_tuple (by decide +kernel) rfl)) hpa_nil))))) (by decide) gl_name)) hpa_nil)))))))) (hs_one (hs_ret (hp_k pe_bl fun _ => .bl _))) hs_nil)
    (hs_cons (hs_unp (hp_v 2 (pv 2)) (hg_pair (pg_tup rfl (pgs_cons (pg_name (i := 4) nd rfl (by first | exact .inl rfl | exact .inr rfl)) (pgs_cons (pg_name (i := 5) nd rfl (by first | exact .inl rfl | exact .inr rfl)) pgs_nil)))))
    (hs_cons (hs_if (PW.pt (ht_or (ht_cmp (op_eqP (u64 hr)) (opd_v 4 (pv 4)) (opd_e (hp_tup hpa_nil)) op_eqPW (nomark _)) (ht_or (ht_cmp (op_eqP (u64 hr)) (opd_v 5 (pv 5)) (opd_e (hp_tup hpa_nil)) op_eqPW (nomark _)) (ht_or1 (ht_cmp (op_neP (u64 hr)) (opd_e (hp_lc (pe_lc (own := [("_law_one", 6)]) rfl nd (hi_tup (hp_op op_catA (opd_v 4 (pv 4)) (opd_v 5 (pv 5)) op_addTW)) (blkOk_by (own := [("_law_one", 6)]) (N := ["_law_machine_here", "_law_node", "_law_found", "_law_part", "_law_way", "_law_circle", "_law_one"]) (sc := defScope s__law_is_circle) (by decide +kernel)) (fun _ _ _ _ _ => (hg_name (pg_name (i := 6) nd rfl (by first | exact .inl rfl | exact .inr rfl)))) (fun _ _ _ _ _ => (pts_one (ht_not (hp_test (hp_callB call_isiD op_isi (by rfl) T.n_isinstance (by decide +kernel) (hpa_cons (opd_v 6 (pv 6)) (hpa_cons (opd_w (pe_bltn (v := .ty "int") (u := .type "int") (by rfl) T.n_int (by decide +kernel) rfl)) hpa_nil))))))) (fun _ _ _ _ _ => (hp_v 6 (pv 6)))) (by decide) gl_name)) (opd_e (hp_lst hpa_nil)) op_eqPW (nomark _)))))) (hs_one (hs_ret (hp_k pe_bl fun _ => .bl _))) hs_nil)
    (hs_cons (hs_if (ht_cmp (op_neP (u64 hr)) (opd_e (hp_lc (pe_lc (own := [("_law_one", 6)]) rfl nd (hi_tup (hp_op op_catA (opd_v 4 (pv 4)) (opd_v 5 (pv 5)) op_addTW)) (blkOk_by (own := [("_law_one", 6)]) (N := ["_law_machine_here", "_law_node", "_law_found", "_law_part", "_law_way", "_law_circle", "_law_one"]) (sc := defScope s__law_is_circle) (by decide +kernel)) (fun _ _ _ _ _ => (hg_name (pg_name (i := 6) nd rfl (by first | exact .inl rfl | exact .inr rfl)))) (fun _ _ _ _ _ => (pts_one (PW.pt (ht_or (hp_test (hp_callB call_isiD op_isi (by rfl) T.n_isinstance (by decide +kernel) (hpa_cons (opd_v 6 (pv 6)) (hpa_cons (opd_w (pe_bltn (v := .ty "bool") (u := .type "bool") (by rfl) T.n_bool (by decide +kernel) rfl)) hpa_nil)))) (ht_or1 (ht_nin_rng (by rfl) T.n_range (opd_v 6 (pv 6)) (opd_e (hp_callB call_lenAll op_lenW (by rfl) T.n_len (by decide +kernel) (hpa_cons (opd_v 0 (pv 0)) hpa_nil))))))))) (fun _ _ _ _ _ => (hp_v 6 (pv 6)))) (by decide) gl_name)) (opd_e (hp_lst hpa_nil)) op_eqPW (nomark _)) (hs_one (hs_ret (hp_k pe_bl fun _ => .bl _))) hs_nil)
    (hs_cons (hs_if (PW.pt (ht_or (ht_cmp (op_neP (u64 hr)) (opd_e (hp_ix ix_seq (opd_v 4 (pv 4)) (opd_e (hp_k pe_int fun _ => .int _)) op_ixW (fun _ _ => rfl))) (opd_v 1 (pv 1)) op_eqPW (nomark _)) (ht_or (ht_cmp (op_neP (u64 hr)) (opd_e (hp_ix ix_seq (opd_v 4 (pv 4)) (opd_e (hp_neg pe_int)) op_ixW (fun _ _ => rfl))) (opd_e (hp_ix ix_seq (opd_v 5 (pv 5)) (opd_e (hp_k pe_int fun _ => .int _)) op_ixW (fun _ _ => rfl))) op_eqPW (nomark _)) (ht_or1 (ht_cmp (op_neP (u64 hr)) (opd_e (hp_lenSet rfl (u64 hr) (by rfl) T.n_len (by rfl) T.n_set (opd_e (hp_op op_catA (opd_v 4 (pv 4)) (opd_v 5 (pv 5)) op_addTW)))) (opd_e (hp_op op_sub (opd_e (hp_op op_addAll (opd_e (hp_callB call_lenAll op_lenW (by rfl) T.n_len (by decide +kernel) (hpa_cons (opd_v 4 (pv 4)) hpa_nil))) (opd_e (hp_callB call_lenAll op_lenW (by rfl) T.n_len (by decide +kernel) (hpa_cons (opd_v 5 (pv 5)) hpa_nil))) op_addW)) (opd_e (hp_k pe_int fun _ => .int _)) op_subW)) op_eqPW (nomark _)))))) (hs_one (hs_ret (hp_k pe_bl fun _ => .bl _))) hs_nil)
    (hs_one (hs_ret (hp_andV (hp_callH g__law_goes hgd (hr.mono (by decide)) (by rfl) (hpa_cons (opd_v 0 (pv 0)) (hpa_cons (opd_v 4 (pv 4)) hpa_nil))) (pe_one (hp_callH g__law_goes hgd (hr.mono (by decide)) (by rfl) (hpa_cons (opd_v 0 (pv 0)) (hpa_cons (opd_e (hp_op op_catA (opd_v 5 (pv 5)) (opd_e (hp_sl (pv 5) ho_none (ho_some (hp_k pe_int fun _ => .int _)))) op_addTW)) hpa_nil))))))))))))
theorem has__law_is_circle (T : Tops K mg) (g__law_goes : Has P w K mg base 1 "_law_goes" 2 sp__law_goes_1279ee) {fa : Addr} {fd : FuncData} (Fn : Fun K "_law_is_circle" "_law_is_circle" s__law_is_circle fa fd) (hm : mg "_law_is_circle" = some (.ref fa)) : Has P w K mg base 2 "_law_is_circle" 3 sp__law_is_circle_4ff723 :=
  Has.mk' (ps := ["_law_machine_here", "_law_node", "_law_found"]) Fn hm (Fn.binds fun _ _ _ _ _ _ us hl => match us, hl with | [_, _, _], _ => rfl) sc__law_is_circle (fun _ _ _ _ _ _ hgd hr => d__law_is_circle T g__law_goes hgd hr) rd__law_is_circle_4ff723
abbrev s__law_right : Stmt := topS 37
theorem sc__law_right : FnScope ["_law_machine_here", "_law_own", "_law_node", "_law_found"] ["_law_machine_here"] (defScope s__law_right) := ⟨rfl, rfl, rfl, by decide +kernel, rfl, by decide +kernel, by decide +kernel⟩
theorem d__law_right (T : Tops K mg) (g_circle_of : Has P w K mg base 6 "circle_of" 2 sp_circle_of_5ad863) (g__law_is_circle : Has P w K mg base 2 "_law_is_circle" 3 sp__law_is_circle_4ff723) (g__law_endless : Has P w K mg base 1 "_law_endless" 1 sp__law_endless_97b8f5) {fa : Addr} {cdv : Value} {A : Around} {outer : List Env} {s : Shared} {H : Hp} {E : XK} (hgd : (A.deeper (envOfC "_law_right" (defScope s__law_right) s.heap.objs.size fa cdv)).guards = some []) (hr : Room 6 (A.deeper (envOfC "_law_right" (defScope s__law_right) s.heap.objs.size fa cdv))) :
    PSs (cxOf CX0 P w K mg base ["_law_machine_here", "_law_own", "_law_node", "_law_found"] "_law_right" (defScope s__law_right) fa cdv A outer s H E).nox (defBody s__law_right) (lfS K f0 h__law_right_43d9f3) := by
  have nd := sc__law_right.nd
  exact (hs_cons (hs_set (i := 1) nd rfl (.inl rfl) (hp_callH g__law_endless hgd (hr.mono (by decide)) (by rfl) (hpa_cons (opd_v 0 (pv 0)) hpa_nil)))
    (hs_cons (hs_for PassesOwn.never rfl (hi_rng1 (by rfl) T.n_range (hpa_cons (opd_e (hp_callB call_lenAll op_lenW (by rfl) T.n_len (by decide +kernel) (hpa_cons (opd_v 0 (pv 0)) hpa_nil))) hpa_nil)) (hg_name (pg_name (i := 2) nd rfl (by first | exact .inl rfl | exact .inr rfl))) (hs_cons (hs_set (i := 3) nd rfl (.inl rfl) (hp_callH g_circle_of hgd (hr.mono (by decide)) (by rfl) (hpa_cons (opd_v 0 (pv 0)) (hpa_cons (opd_v 2 (pv 2)) hpa_nil))))
    (hs_cons (hs_if (PW.pt (ht_or (PW.pt (ht_and (ht_cmp (op_ninP (u64 hr)) (opd_v 2 (pv 2)) (opd_v 1 (pv 1)) op_inPW (by first | exact nobehind _ (by decide) (by decide) | rfl)) (ht_and1 (ht_cmp op_notN (opd_v 3 (pv 3)) (opd_e (hp_k pe_non fun _ => .non)) op_notNW (nomark _))))) (ht_or1 (PW.pt (ht_and (ht_cmp (op_inP (u64 hr)) (opd_v 2 (pv 2)) (opd_v 1 (pv 1)) op_inPW (by first | exact nobehind _ (by decide) (by decide) | rfl)) (ht_and1 (ht_not (hp_test (hp_callH g__law_is_circle hgd (hr.mono (by decide)) (by rfl) (hpa_cons (opd_v 0 (pv 0)) (hpa_cons (opd_v 2 (pv 2)) (hpa_cons (opd_v 3 (pv 3)) hpa_nil)))))))))))) (hs_one (hs_ret (hp_k pe_bl fun _ => .bl _))) hs_nil)
    (hs_one (hs_if (ht_cmp (op_neP (u64 hr)) (opd_e (hp_callB (call_repr hgd (u150 hr)) op_reprW (by rfl) T.n_repr (by decide +kernel) (hpa_cons (opd_e (hp_callH g_circle_of hgd (hr.mono (by decide)) (by rfl) (hpa_cons (opd_v 0 (pv 0)) (hpa_cons (opd_v 2 (pv 2)) hpa_nil)))) hpa_nil))) (opd_e (hp_callB (call_repr hgd (u150 hr)) op_reprW (by rfl) T.n_repr (by decide +kernel) (hpa_cons (opd_v 3 (pv 3)) hpa_nil))) op_eqPW (nomark _)) (hs_one (hs_ret (hp_k pe_bl fun _ => .bl _))) hs_nil)))))
    (hs_one (hs_ret (hp_k pe_bl fun _ => .bl _)))))
theorem has__law_right (T : Tops K mg) (g_circle_of : Has P w K mg base 6 "circle_of" 2 sp_circle_of_5ad863) (g__law_is_circle : Has P w K mg base 2 "_law_is_circle" 3 sp__law_is_circle_4ff723) (g__law_endless : Has P w K mg base 1 "_law_endless" 1 sp__law_endless_97b8f5) {fa : Addr} {fd : FuncData} (Fn : Fun K "_law_right" "_law_right" s__law_right fa fd) (hm : mg "_law_right" = some (.ref fa)) : Has P w K mg base 7 "_law_right" 1 sp__law_right_43d9f3 :=
  Has.mk' (ps := ["_law_machine_here"]) Fn hm (Fn.binds fun _ _ _ _ _ _ us hl => match us, hl with | [_], _ => rfl) sc__law_right (fun _ _ _ _ _ _ hgd hr => d__law_right T g_circle_of g__law_is_circle g__law_endless hgd hr) rd__law_right_43d9f3
abbrev s__law_hand_right : Stmt := topS 38
theorem sc__law_hand_right : FnScope ["_law_m", "_law_one", "_law_other", "_law_some", "_law_ring", "_law_due", "_law_node", "_law_chain", "_law_k"] ["_law_m"] (defScope s__law_hand_right) := ⟨rfl, rfl, rfl, by decide +kernel, rfl, by decide +kernel, by decide +kernel⟩
theorem d__law_hand_right (T : Tops K mg) (g_circle_of : Has P w K mg base 6 "circle_of" 2 sp_circle_of_5ad863) (g__law_right : Has P w K mg base 7 "_law_right" 1 sp__law_right_43d9f3) (g__law_words : Has P w K mg base 3 "_law_words" 2 sp__law_words_aaf2f6) {fa : Addr} {cdv : Value} {A : Around} {outer : List Env} {s : Shared} {H : Hp} {E : XK} (hgd : (A.deeper (envOfC "_law_hand_right" (defScope s__law_hand_right) s.heap.objs.size fa cdv)).guards = some []) (hr : Room 7 (A.deeper (envOfC "_law_hand_right" (defScope s__law_hand_right) s.heap.objs.size fa cdv))) :
    PSs (cxOf CX0 P w K mg base ["_law_m", "_law_one", "_law_other", "_law_some", "_law_ring", "_law_due", "_law_node", "_law_chain", "_law_k"] "_law_hand_right" (defScope s__law_hand_right) fa cdv A outer s H E).nox (defBody s__law_hand_right) (lfS K f0 h__law_hand_right_20486c) := by
  have nd := sc__law_hand_right.nd
  exact (hs_cons (hs_unp (hp_callB (cr_sortG (α := Str) (u64 hr) (by decide)) op_sortA (by rfl) T.n_sorted (by decide +kernel) (hpa_cons (opd_e (hp_callH g__law_words hgd (hr.mono (by decide)) (by rfl) (hpa_cons (opd_v 0 (pv 0)) (hpa_cons (opd_e (hp_k pe_int fun _ => .int _)) hpa_nil)))) hpa_nil)) (hg_pairL (pg_unl rfl (pgs_cons (pg_name (i := 1) nd rfl (by first | exact .inl rfl | exact .inr rfl)) (pgs_cons (pg_name (i := 2) nd rfl (by first | exact .inl rfl | exact .inr rfl)) pgs_nil)))))
    (hs_cons (hs_set (i := 3) nd rfl (.inr rfl) (hp_tup (hpa_cons (opd_e (hp_tup (hpa_cons (opd_e (hp_tup (hpa_cons (opd_e (hp_k pe_str fun _ => .str _)) (hpa_cons (opd_e (hp_k pe_int fun _ => .int _)) hpa_nil)))) (hpa_cons (opd_e (hp_tup (hpa_cons (opd_e (hp_v 1 (pv 1))) (hpa_cons (opd_e (hp_k pe_int fun _ => .int _)) hpa_nil)))) hpa_nil)))) (hpa_cons (opd_e (hp_tup (hpa_cons (opd_e (hp_tup (hpa_cons (opd_e (hp_k pe_str fun _ => .str _)) (hpa_cons (opd_e (hp_k pe_int fun _ => .int _)) hpa_nil)))) (hpa_cons (opd_e (hp_tup (hpa_cons (opd_e (hp_v 2 (pv 2))) (hpa_cons (opd_e (hp_k pe_int fun _ => .int _)) hpa_nil)))) hpa_nil)))) (hpa_cons (opd_e (hp_tup (hpa_cons (opd_e (hp_tup (hpa_cons (opd_e (hp_k pe_str fun _ => .str _)) (hpa_cons (opd_e (hp_k pe_int fun _ => .int _)) hpa_nil)))) hpa_nil))) (hpa_cons (opd_e (hp_tup (hpa_cons (opd_e (hp_tup (hpa_cons (opd_e (hp_k pe_str fun _ => .str _)) (hpa_cons (opd_e (hp_k pe_int fun _ => .int _)) hpa_nil)))) hpa_nil))) (hpa_cons (opd_e (hp_tup (hpa_cons (opd_e (hp_tup (hpa_cons (opd_e (hp_k pe_str fun _ => .str _)) (hpa_cons (opd_e (hp_k pe_int fun _ => .int _)) hpa_nil)))) (hpa_cons (opd_e (hp_tup (hpa_cons (opd_e (hp_k pe_str fun _ => .str _)) (hpa_cons (opd_e (hp_k pe_int fun _ => .int _)) hpa_nil)))) hpa_nil)))) (hpa_cons (opd_e (hp_tup (hpa_cons (opd_e (hp_tup (hpa_cons (opd_e (hp_v 1 (pv 1))) (hpa_cons (opd_e (hp_k pe_int fun _ => .int _)) hpa_nil)))) hpa_nil))) hpa_nil))))))))
    (hs_cons (hs_set (i := 4) nd rfl (.inl rfl) (hp_tup (hpa_cons (opd_e (hp_tup (hpa_cons (opd_e (hp_k pe_int fun _ => .int _)) (hpa_cons (opd_e (hp_k pe_int fun _ => .int _)) (hpa_cons (opd_e (hp_k pe_int fun _ => .int _)) hpa_nil))))) (hpa_cons (opd_e (hp_tup (hpa_cons (opd_e (hp_k pe_int fun _ => .int _)) (hpa_cons (opd_e (hp_k pe_int fun _ => .int _)) (hpa_cons (opd_e (hp_k pe_int fun _ => .int _)) hpa_nil))))) (hpa_cons (opd_e (hp_tup (hpa_cons (opd_e (hp_k pe_int fun _ => .int _)) (hpa_cons (opd_e (hp_k pe_int fun _ => .int _)) (hpa_cons (opd_e (hp_k pe_int fun _ => .int _)) hpa_nil))))) hpa_nil)))))
    (hs_cons (hs_set (i := 5) nd rfl (.inl rfl) (hp_lst (hpa_cons (opd_e (hp_tup (hpa_cons (opd_e (hp_tup (hpa_cons (opd_e (hp_k pe_int fun _ => .int _)) hpa_nil))) (hpa_cons (opd_e (hp_tup (hpa_cons (opd_e (hp_k pe_int fun _ => .int _)) hpa_nil))) hpa_nil)))) (hpa_cons (opd_e (hp_tup (hpa_cons (opd_e (hp_tup (hpa_cons (opd_e (hp_k pe_int fun _ => .int _)) (hpa_cons (opd_e (hp_k pe_int fun _ => .int _)) hpa_nil)))) (hpa_cons (opd_e (hp_ix ix_seq (opd_v 4 (pv 4)) (opd_e (hp_k pe_int fun _ => .int _)) op_ixW (fun _ _ => rfl))) hpa_nil)))) (hpa_cons (opd_e (hp_tup (hpa_cons (opd_e (hp_tup (hpa_cons (opd_e (hp_k pe_int fun _ => .int _)) hpa_nil))) (hpa_cons (opd_e (hp_ix ix_seq (opd_v 4 (pv 4)) (opd_e (hp_k pe_int fun _ => .int _)) op_ixW (fun _ _ => rfl))) hpa_nil)))) (hpa_cons (opd_e (hp_tup (hpa_cons (opd_e (hp_tup (hpa_cons (opd_e (hp_k pe_int fun _ => .int _)) hpa_nil))) (hpa_cons (opd_e (hp_ix ix_seq (opd_v 4 (pv 4)) (opd_e (hp_k pe_int fun _ => .int _)) op_ixW (fun _ _ => rfl))) hpa_nil)))) (hpa_cons (opd_e (hp_tup (hpa_cons (opd_e (hp_tup (hpa_cons (opd_e (hp_k pe_int fun _ => .int _)) hpa_nil))) (hpa_cons (opd_e (hp_ix ix_seq (opd_v 4 (pv 4)) (opd_e (hp_k pe_int fun _ => .int _)) op_ixW (fun _ _ => rfl))) hpa_nil)))) (hpa_cons (opd_e (hp_k pe_non fun _ => .non)) hpa_nil))))))))
    (hs_cons (hs_if (ht_cmp (op_neP (u64 hr)) (opd_e (hp_lc (pe_lc (own := [("_law_node", 6)]) rfl nd (hi_rng1 (by rfl) T.n_range (hpa_cons (opd_e (hp_k pe_int fun _ => .int _)) hpa_nil)) (blkOk_by (own := [("_law_node", 6)]) (N := ["_law_m", "_law_one", "_law_other", "_law_some", "_law_ring", "_law_due", "_law_node", "_law_chain", "_law_k"]) (sc := defScope s__law_hand_right) (by decide +kernel)) (fun _ _ _ _ _ => (hg_name (pg_name (i := 6) nd rfl (by first | exact .inl rfl | exact .inr rfl)))) (fun _ _ _ _ _ => pts_yes) (fun _ _ _ _ _ => (hp_callH g_circle_of hgd (hr.mono (by decide)) (by rfl) (hpa_cons (opd_v 3 (pv 3)) (hpa_cons (opd_v 6 (pv 6)) hpa_nil))))) (by decide) gl_name)) (opd_v 5 (pv 5)) op_eqPW (nomark _)) (hs_one (hs_ret (hp_k pe_bl fun _ => .bl _))) hs_nil)
    (hs_cons (hs_set (i := 7) nd rfl (.inl rfl) (hp_callTy call_tuple_of op_tupW (by rfl) T.n_tuple (by decide +kernel) (hpa_cons (opd_e (hp_op op_addAll (opd_e (hp_lc (pe_lc (own := [("_law_k", 8)]) rfl nd (hi_rng1 (by rfl) T.n_range (hpa_cons (opd_e (hp_k pe_int fun _ => .int _)) hpa_nil)) (blkOk_by (own := [("_law_k", 8)]) (N := ["_law_m", "_law_one", "_law_other", "_law_some", "_law_ring", "_law_due", "_law_node", "_law_chain", "_law_k"]) (sc := defScope s__law_hand_right) (by decide +kernel)) (fun _ _ _ _ _ => (hg_name (pg_name (i := 8) nd rfl (by first | exact .inl rfl | exact .inr rfl)))) (fun _ _ _ _ _ => pts_yes) (fun _ _ _ _ _ => (hp_tup (hpa_cons (opd_e (hp_tup (hpa_cons (opd_e (hp_k pe_str fun _ => .str _)) (hpa_cons (opd_e (hp_op op_addAll (opd_v 8 (pv 8)) (opd_e (hp_k pe_int fun _ => .int _)) op_addW)) hpa_nil)))) hpa_nil)))) (by decide) gl_name)) (opd_e (hp_lst (hpa_cons (opd_e (hp_tup (hpa_cons (opd_e (hp_tup (hpa_cons (opd_e (hp_k pe_str fun _ => .str _)) (hpa_cons (opd_e (hp_k pe_int fun _ => .int _)) hpa_nil)))) hpa_nil))) hpa_nil))) op_addW)) hpa_nil)))
    (hs_cons (hs_if (PW.pt (ht_or (ht_cmp (op_neP (u64 hr)) (opd_e (hp_callH g_circle_of hgd (hr.mono (by decide)) (by rfl) (hpa_cons (opd_v 7 (pv 7)) (hpa_cons (opd_e (hp_k pe_int fun _ => .int _)) hpa_nil)))) (opd_e (hp_tup (hpa_cons (opd_e (hp_tr1 (fun h => pe_tupRg rfl (by rfl) T.n_tuple (prg_1 (by rfl) T.n_range h)) (opd_e (hp_k pe_int fun _ => .int _)))) (hpa_cons (opd_e (hp_tup (hpa_cons (opd_e (hp_k pe_int fun _ => .int _)) hpa_nil))) hpa_nil)))) op_eqPW (nomark _)) (ht_or1 (ht_not (hp_test (hp_callH g__law_right hgd (hr.mono (by decide)) (by rfl) (hpa_cons (opd_e (hp_tup (hpa_cons (opd_e (hp_tup (hpa_cons (opd_e (hp_tup (hpa_cons (opd_e (hp_k pe_str fun _ => .str _)) (hpa_cons (opd_e (hp_k pe_int fun _ => .int _)) hpa_nil)))) (hpa_cons (opd_e (hp_tup (hpa_cons (opd_e (hp_k pe_str fun _ => .str _)) (hpa_cons (opd_e (hp_k pe_int fun _ => .int _)) hpa_nil)))) hpa_nil)))) (hpa_cons (opd_e (hp_tup (hpa_cons (opd_e (hp_tup (hpa_cons (opd_e (hp_k pe_str fun _ => .str _)) (hpa_cons (opd_e (hp_k pe_int fun _ => .int _)) hpa_nil)))) hpa_nil))) (hpa_cons (opd_e (hp_tup (hpa_cons (opd_e (hp_tup (hpa_cons (opd_e (hp_k pe_str fun _ => .str _)) (hpa_cons (opd_e (hp_k pe_int fun _ => .int _)) hpa_nil)))) hpa_nil))) hpa_nil))))) hpa_nil))))))) (hs_one (hs_ret (hp_k pe_bl fun _ => .bl _))) hs_nil)
    (hs_one (hs_ret (hp_cmp op_isN (opd_e (hp_callH g_circle_of hgd (hr.mono (by decide)) (by rfl) (hpa_cons (opd_e (hp_tup (hpa_cons (opd_e (hp_tup (hpa_cons (opd_e (hp_tup (hpa_cons (opd_e (hp_v 1 (pv 1))) (hpa_cons (opd_e (hp_k pe_int fun _ => .int _)) hpa_nil)))) hpa_nil))) (hpa_cons (opd_e (hp_tup (hpa_cons (opd_e (hp_tup (hpa_cons (opd_e (hp_v 2 (pv 2))) (hpa_cons (opd_e (hp_k pe_int fun _ => .int _)) hpa_nil)))) hpa_nil))) hpa_nil)))) (hpa_cons (opd_e (hp_k pe_int fun _ => .int _)) hpa_nil)))) (opd_e (hp_k pe_non fun _ => .non)) op_isNW (nomark _)))))))))))
theorem has__law_hand_right (T : Tops K mg) (g_circle_of : Has P w K mg base 6 "circle_of" 2 sp_circle_of_5ad863) (g__law_right : Has P w K mg base 7 "_law_right" 1 sp__law_right_43d9f3) (g__law_words : Has P w K mg base 3 "_law_words" 2 sp__law_words_aaf2f6) {fa : Addr} {fd : FuncData} (Fn : Fun K "_law_hand_right" "_law_hand_right" s__law_hand_right fa fd) (hm : mg "_law_hand_right" = some (.ref fa)) : Has P w K mg base 8 "_law_hand_right" 1 sp__law_hand_right_20486c :=
  Has.mk' (ps := ["_law_m"]) Fn hm (Fn.binds fun _ _ _ _ _ _ us hl => match us, hl with | [_], _ => rfl) sc__law_hand_right (fun _ _ _ _ _ _ hgd hr => d__law_hand_right T g_circle_of g__law_right g__law_words hgd hr) rd__law_hand_right_20486c
abbrev s_law : Stmt := topS 39
theorem sc_law : FnScope ["_law_script", "_law_m", "_law_turn", "_law_deeds"] ["_law_script"] (defScope s_law) := ⟨rfl, rfl, rfl, by decide +kernel, rfl, by decide +kernel, by decide +kernel⟩
theorem d_law (T : Tops K mg) {fb : Addr} {fdb : FuncData} (Gb : GnOk P w K mg base CX0 2 fb fdb ["_law_script"] (spBegun K)) (hb : mg "_law_begun" = some (.ref fb)) (kb : PySem.W.keepIn K (.ref fb) = true) (bb : Binds K fdb ["_law_script"] []) (g__law_hand_right : Has P w K mg base 8 "_law_hand_right" 1 sp__law_hand_right_20486c) (g__law_right : Has P w K mg base 7 "_law_right" 1 sp__law_right_43d9f3) (g__law_machine : Has P w K mg base 3 "_law_machine" 3 sp__law_machine_5d3daf) (g__law_words : Has P w K mg base 3 "_law_words" 2 sp__law_words_aaf2f6) (g__law_draw : Has P w K mg base 2 "_law_draw" 2 sp__law_draw_a6e186) {fa : Addr} {cdv : Value} {A : Around} {outer : List Env} {s : Shared} {H : Hp} {E : XK} (hgd : (A.deeper (envOfC "law" (defScope s_law) s.heap.objs.size fa cdv)).guards = some []) (hr : Room 8 (A.deeper (envOfC "law" (defScope s_law) s.heap.objs.size fa cdv))) :
    PSs (cxOf CX0 P w K mg base ["_law_script", "_law_m", "_law_turn", "_law_deeds"] "law" (defScope s_law) fa cdv A outer s H E).nox (defBody s_law) (tSeq (tAsg (tCall (spBegun K) [] E0 (tCons (tVar 0) tNil)) (gName 1)) (lfS K f0 h_law_f18a42)) := by
  have nd := sc_law.nd
  exact pss_cons (ps_set (i := 1) nd rfl (.inl rfl) (pe_callG Gb hgd (hr.mono (by decide)) (by rfl) hb kb bb pass0 (pa_cons (pv 0) pa_nil)))
    (hs_cons (hs_for PassesOwn.never rfl (hi_rng1 (by rfl) T.n_range (hpa_cons (opd_e (hp_op op_addAll (opd_e (hp_k pe_int fun _ => .int _)) (opd_e (hp_callB (call_min2 rfl) op_min2 (by rfl) T.n_min (by decide +kernel) (hpa_cons (opd_e (hp_k pe_int fun _ => .int _)) (hpa_cons (opd_e (hp_op op_fdivW (opd_e (hp_callB call_lenAll op_lenW (by rfl) T.n_len (by decide +kernel) (hpa_cons (opd_v 0 (pv 0)) hpa_nil))) (opd_e (hp_k pe_int fun _ => .int _)) op_fdivWW)) hpa_nil)))) op_addW)) hpa_nil)) (hg_name (pg_name (i := 2) nd rfl (by first | exact .inl rfl | exact .inr rfl))) (hs_cons (hs_set (i := 3) nd rfl (.inl rfl) (hp_callH g__law_words hgd (hr.mono (by decide)) (by rfl) (hpa_cons (opd_v 1 (pv 1)) (hpa_cons (opd_e (hp_ix ix_seq (opd_e (hp_lst (hpa_cons (opd_e (hp_k pe_int fun _ => .int _)) (hpa_cons (opd_e (hp_k pe_int fun _ => .int _)) (hpa_cons (opd_e (hp_k pe_int fun _ => .int _)) (hpa_cons (opd_e (hp_k pe_int fun _ => .int _)) (hpa_cons (opd_e (hp_k pe_int fun _ => .int _)) (hpa_cons (opd_e (hp_k pe_int fun _ => .int _)) hpa_nil)))))))) (opd_e (hp_callH g__law_draw hgd (hr.mono (by decide)) (by rfl) (hpa_cons (opd_v 1 (pv 1)) (hpa_cons (opd_e (hp_k pe_int fun _ => .int _)) hpa_nil)))) op_ixW (fun _ _ => rfl))) hpa_nil))))
    (hs_one (hs_if (ht_not (hp_test (hp_callH g__law_right hgd (hr.mono (by decide)) (by rfl) (hpa_cons (opd_e (hp_callH g__law_machine hgd (hr.mono (by decide)) (by rfl) (hpa_cons (opd_v 1 (pv 1)) (hpa_cons (opd_e (hp_k pe_int fun _ => .int _)) (hpa_cons (opd_v 3 (pv 3)) hpa_nil))))) hpa_nil)))) (hs_one (hs_ret (hp_k pe_bl fun _ => .bl _))) hs_nil))))
    (hs_one (hs_ret (hp_callH g__law_hand_right hgd (hr.mono (by decide)) (by rfl) (hpa_cons (opd_v 1 (pv 1)) hpa_nil)))))
end
section
variable {P : Program} {w : World} {K : PySem.W.Frag} {mg : Str → Option Value} {base : Heap}
abbrev s__law_draw : Stmt := topS 30
theorem sc__law_draw : FnScope ["_law_m", "_law_many", "_law_k", "_law_at", "_law_cell"] ["_law_m", "_law_many"] (defScope s__law_draw) := ⟨rfl, rfl, rfl, by decide +kernel, rfl, by decide +kernel, by decide +kernel⟩
theorem d__law_draw {P : Program} {w : World} {K : PySem.W.Frag} {mg : Str → Option Value} {base : Heap} (zl : mg "len" = none) (g__law_mixed : Has P w K mg base 1 "_law_mixed" 2 spMixed) {fa : Addr} {cdv : Value} {A : Around} {outer : List Env} {s : Shared} {H : Hp} {E : XK} (hgd : (A.deeper (envOfC "_law_draw" (defScope s__law_draw) s.heap.objs.size fa cdv)).guards = some []) (hr : Room 1 (A.deeper (envOfC "_law_draw" (defScope s__law_draw) s.heap.objs.size fa cdv))) :
    PSs (cxOf CX0 P w K mg base ["_law_m", "_law_many", "_law_k", "_law_at", "_law_cell"] "_law_draw" (defScope s__law_draw) fa cdv A outer s H E).nox (defBody s__law_draw) (t_draw K) := by
  have nd := sc__law_draw.nd
  obtain ⟨fm, fd, ps, _, G, hm, kp, b⟩ := g__law_mixed.ex
  exact pss_cons (ps_set (i := 2) nd rfl (.inl rfl) (pe_dget (u1 hr) (pv 0) pe_str (fun _ _ => rfl)))
    (pss_cons (ps_dput (u1 hr) (pv 0) pe_str (pe_op op_add (pv 2) pe_int) rfl)
    (pss_cons (ps_if (pt_cmpR (op_neP (u64 hr)) (pe_dget (u1 hr) (pv 0) pe_str (fun _ _ => rfl)) (pe_lst pa_nil) (nomark _))
        (pss_cons (ps_set (i := 3) nd rfl (.inl rfl) (pe_op op_mod (pv 2) (pe_callB call_len_seq (by rfl) zl PySem.boot_len (pa_cons (pe_dget (u1 hr) (pv 0) pe_str (fun _ _ => rfl)) pa_nil))))
        (pss_cons (ps_set (i := 4) nd rfl (.inl rfl) (pe_ix ix_list (pe_dget (u1 hr) (pv 0) pe_str (fun _ _ => rfl)) (pv 3) (fun _ _ => rfl)))
        (pss_one (ps_if (pt_cmpR op_gt (pv 4) pe_int (nomark _))
          (pss_cons (ps_asg (pe_op op_fdivW (pv 4) (pv 1)) (pg_sub (pe_dget (u1 hr) (pv 0) pe_str (fun _ _ => rfl)) (pv 3) set_list))
          (pss_one (ps_ret (pe_op op_mod (pv 4) (pv 1))))) pss_nil)))) pss_nil)
    (pss_one (ps_ret (pe_op op_mod (pe_callG G hgd (hr.mono (by decide)) (by rfl) hm kp b pass0 (pa_cons (pe_callG G hgd (hr.mono (by decide)) (by rfl) hm kp b pass0 (pa_cons (pe_op op_add (pe_ix ix_list (pe_dget (u1 hr) (pv 0) pe_str (fun _ _ => rfl)) (pe_op op_mod (pv 2) pe_int) (fun _ _ => rfl)) (pe_op op_mulW pe_int (pe_op op_fdivW (pv 2) pe_int))) (pa_cons (pv 2) pa_nil))) (pa_cons (pe_op op_add (pv 2) pe_int) pa_nil))) (pv 1))))))

abbrev s__law_begun : Stmt := topS 31
theorem sc__law_begun : FnScope ["_law_script", "_law_m", "_law_cell"] ["_law_script"] (defScope s__law_begun) := ⟨rfl, rfl, rfl, by decide +kernel, rfl, by decide +kernel, by decide +kernel⟩
theorem d__law_begun {P : Program} {w : World} {K : PySem.W.Frag} {mg : Str → Option Value} {base : Heap} (g__law_folded : Has P w K mg base 1 "_law_folded" 1 spFolded) {fa : Addr} {cdv : Value} {A : Around} {outer : List Env} {s : Shared} {H : Hp} {E : XK} (hgd : (A.deeper (envOfC "_law_begun" (defScope s__law_begun) s.heap.objs.size fa cdv)).guards = some []) (hr : Room 1 (A.deeper (envOfC "_law_begun" (defScope s__law_begun) s.heap.objs.size fa cdv))) :
    PSs (cxOf CX0 P w K mg base ["_law_script", "_law_m", "_law_cell"] "_law_begun" (defScope s__law_begun) fa cdv A outer s H E).nox (defBody s__law_begun) (t_begun K [(tC (.str "room"), tC (.int 12))]) := by
  have nd := sc__law_begun.nd
  obtain ⟨fm, fd, ps, _, G, hm, kp, b⟩ := g__law_folded.ex
  exact pss_cons (ps_set (i := 1) nd rfl (.inl rfl) (pe_disp (pps_cons pe_str (pe_callG G hgd (hr.mono (by decide)) (by rfl) hm kp b pass0 (pa_cons (pv 0) pa_nil)) (pps_cons pe_str (pe_lst pa_nil) (pps_cons pe_str pe_int (pps_cons pe_str pe_int pps_nil)))) (by rfl) (by rfl) (fun z => by cases z) (by decide)))
    (pss_cons (ps_dput (u1 hr) (pv 1) pe_str (hp_lc (pe_lc (own := [("_law_cell", 2)]) rfl nd (hi_list (hp_v 0 (pv 0))) (blkOk_by (own := [("_law_cell", 2)]) (N := ["_law_script", "_law_m", "_law_cell"]) (sc := defScope s__law_begun) (by decide +kernel)) (fun _ _ _ _ _ => (hg_name (pg_name (i := 2) nd rfl (.inl rfl)))) (fun _ _ _ _ _ => pts_yes)
      (fun _ _ _ _ _ => (hp_if (ht_cmp op_ge (opd_v 2 (pv 2)) (opd_e (hp_op op_pow (opd_e (hp_k pe_int fun _ => .int _)) (opd_e (hp_k pe_int fun _ => .int _)) op_powW)) op_geW (nomark _)) (hp_v 2 (pv 2)) (hp_k pe_int fun _ => .int _)))) (by decide) gl_name) rfl)
    (pss_one (ps_ret (pv 1))))

theorem all_mk {w : World} {K : PySem.W.Frag} {h : Heap} {mg : Str → Option Value} {fa : Addr} (X : K.In h) (G : h.Ns mainGlobals mg) (hfa : mg "law" = some (.ref fa))
    {f0 : Addr} {od0 an0 : Option Addr} {sl0 : Array (Option Value)} {oc0 kV0 dc0 pm0 cd0 ct0 : Value} (a0 : PySem.W.nsIn K mainGlobals "is_word" = some (some (.ref f0))) (l0 : K.lookup f0 = some ⟨oc0, od0, .func (PySem.W.fnOf "is_word" "is_word" (defArgs s_is_word) (defBody s_is_word) (defScope s_is_word) .none kV0 dc0 pm0 an0 cd0 ct0), sl0⟩) (c0 : PySem.W.codeIn K cd0 "is_word" = true) (k0 : PySem.W.keepIn K (.ref f0) = true)
    {f1 : Addr} {od1 an1 : Option Addr} {sl1 : Array (Option Value)} {oc1 kV1 dc1 pm1 cd1 ct1 : Value} (a1 : PySem.W.nsIn K mainGlobals "is_number" = some (some (.ref f1))) (l1 : K.lookup f1 = some ⟨oc1, od1, .func (PySem.W.fnOf "is_number" "is_number" (defArgs s_is_number) (defBody s_is_number) (defScope s_is_number) .none kV1 dc1 pm1 an1 cd1 ct1), sl1⟩) (c1 : PySem.W.codeIn K cd1 "is_number" = true) (k1 : PySem.W.keepIn K (.ref f1) = true)
    {f2 : Addr} {od2 an2 : Option Addr} {sl2 : Array (Option Value)} {oc2 kV2 dc2 pm2 cd2 ct2 : Value} (a2 : PySem.W.nsIn K mainGlobals "is_move" = some (some (.ref f2))) (l2 : K.lookup f2 = some ⟨oc2, od2, .func (PySem.W.fnOf "is_move" "is_move" (defArgs s_is_move) (defBody s_is_move) (defScope s_is_move) .none kV2 dc2 pm2 an2 cd2 ct2), sl2⟩) (c2 : PySem.W.codeIn K cd2 "is_move" = true) (k2 : PySem.W.keepIn K (.ref f2) = true)
    {f3 : Addr} {od3 an3 : Option Addr} {sl3 : Array (Option Value)} {oc3 kV3 dc3 pm3 cd3 ct3 : Value} (a3 : PySem.W.nsIn K mainGlobals "is_node_row" = some (some (.ref f3))) (l3 : K.lookup f3 = some ⟨oc3, od3, .func (PySem.W.fnOf "is_node_row" "is_node_row" (defArgs s_is_node_row) (defBody s_is_node_row) (defScope s_is_node_row) .none kV3 dc3 pm3 an3 cd3 ct3), sl3⟩) (c3 : PySem.W.codeIn K cd3 "is_node_row" = true) (k3 : PySem.W.keepIn K (.ref f3) = true)
    {f4 : Addr} {od4 an4 : Option Addr} {sl4 : Array (Option Value)} {oc4 kV4 dc4 pm4 cd4 ct4 : Value} (a4 : PySem.W.nsIn K mainGlobals "deeds_by" = some (some (.ref f4))) (l4 : K.lookup f4 = some ⟨oc4, od4, .func (PySem.W.fnOf "deeds_by" "deeds_by" (defArgs s_deeds_by) (defBody s_deeds_by) (defScope s_deeds_by) .none kV4 dc4 pm4 an4 cd4 ct4), sl4⟩) (c4 : PySem.W.codeIn K cd4 "deeds_by" = true) (k4 : PySem.W.keepIn K (.ref f4) = true)
    {f5 : Addr} {od5 an5 : Option Addr} {sl5 : Array (Option Value)} {oc5 kV5 dc5 pm5 cd5 ct5 : Value} (a5 : PySem.W.nsIn K mainGlobals "is_machine" = some (some (.ref f5))) (l5 : K.lookup f5 = some ⟨oc5, od5, .func (PySem.W.fnOf "is_machine" "is_machine" (defArgs s_is_machine) (defBody s_is_machine) (defScope s_is_machine) .none kV5 dc5 pm5 an5 cd5 ct5), sl5⟩) (c5 : PySem.W.codeIn K cd5 "is_machine" = true) (k5 : PySem.W.keepIn K (.ref f5) = true)
    {f6 : Addr} {od6 an6 : Option Addr} {sl6 : Array (Option Value)} {oc6 kV6 dc6 pm6 cd6 ct6 : Value} (a6 : PySem.W.nsIn K mainGlobals "need_machine" = some (some (.ref f6))) (l6 : K.lookup f6 = some ⟨oc6, od6, .func (PySem.W.fnOf "need_machine" "need_machine" (defArgs s_need_machine) (defBody s_need_machine) (defScope s_need_machine) .none kV6 dc6 pm6 an6 cd6 ct6), sl6⟩) (c6 : PySem.W.codeIn K cd6 "need_machine" = true) (k6 : PySem.W.keepIn K (.ref f6) = true)
    {f7 : Addr} {od7 an7 : Option Addr} {sl7 : Array (Option Value)} {oc7 kV7 dc7 pm7 cd7 ct7 : Value} (a7 : PySem.W.nsIn K mainGlobals "is_count" = some (some (.ref f7))) (l7 : K.lookup f7 = some ⟨oc7, od7, .func (PySem.W.fnOf "is_count" "is_count" (defArgs s_is_count) (defBody s_is_count) (defScope s_is_count) .none kV7 dc7 pm7 an7 cd7 ct7), sl7⟩) (c7 : PySem.W.codeIn K cd7 "is_count" = true) (k7 : PySem.W.keepIn K (.ref f7) = true)
    {f8 : Addr} {od8 an8 : Option Addr} {sl8 : Array (Option Value)} {oc8 kV8 dc8 pm8 cd8 ct8 : Value} (a8 : PySem.W.nsIn K mainGlobals "need_node" = some (some (.ref f8))) (l8 : K.lookup f8 = some ⟨oc8, od8, .func (PySem.W.fnOf "need_node" "need_node" (defArgs s_need_node) (defBody s_need_node) (defScope s_need_node) .none kV8 dc8 pm8 an8 cd8 ct8), sl8⟩) (c8 : PySem.W.codeIn K cd8 "need_node" = true) (k8 : PySem.W.keepIn K (.ref f8) = true)
    {f9 : Addr} {od9 an9 : Option Addr} {sl9 : Array (Option Value)} {oc9 kV9 dc9 pm9 cd9 ct9 : Value} (a9 : PySem.W.nsIn K mainGlobals "hidden_from" = some (some (.ref f9))) (l9 : K.lookup f9 = some ⟨oc9, od9, .func (PySem.W.fnOf "hidden_from" "hidden_from" (defArgs s_hidden_from) (defBody s_hidden_from) (defScope s_hidden_from) .none kV9 dc9 pm9 an9 cd9 ct9), sl9⟩) (c9 : PySem.W.codeIn K cd9 "hidden_from" = true) (k9 : PySem.W.keepIn K (.ref f9) = true)
    {f10 : Addr} {od10 an10 : Option Addr} {sl10 : Array (Option Value)} {oc10 kV10 dc10 pm10 cd10 ct10 : Value} (a10 : PySem.W.nsIn K mainGlobals "endless_marks" = some (some (.ref f10))) (l10 : K.lookup f10 = some ⟨oc10, od10, .func (PySem.W.fnOf "endless_marks" "endless_marks" (defArgs s_endless_marks) (defBody s_endless_marks) (defScope s_endless_marks) .none kV10 dc10 pm10 an10 cd10 ct10), sl10⟩) (c10 : PySem.W.codeIn K cd10 "endless_marks" = true) (k10 : PySem.W.keepIn K (.ref f10) = true)
    {f11 : Addr} {od11 an11 : Option Addr} {sl11 : Array (Option Value)} {oc11 kV11 dc11 pm11 cd11 ct11 : Value} (a11 : PySem.W.nsIn K mainGlobals "circle_of" = some (some (.ref f11))) (l11 : K.lookup f11 = some ⟨oc11, od11, .func (PySem.W.fnOf "circle_of" "circle_of" (defArgs s_circle_of) (defBody s_circle_of) (defScope s_circle_of) .none kV11 dc11 pm11 an11 cd11 ct11), sl11⟩) (c11 : PySem.W.codeIn K cd11 "circle_of" = true) (k11 : PySem.W.keepIn K (.ref f11) = true)
    {f12 : Addr} {od12 an12 : Option Addr} {sl12 : Array (Option Value)} {oc12 kV12 dc12 pm12 cd12 ct12 : Value} (a12 : PySem.W.nsIn K mainGlobals "_law_mixed" = some (some (.ref f12))) (l12 : K.lookup f12 = some ⟨oc12, od12, .func (PySem.W.fnOf "_law_mixed" "_law_mixed" (defArgs s__law_mixed) (defBody s__law_mixed) (defScope s__law_mixed) .none kV12 dc12 pm12 an12 cd12 ct12), sl12⟩) (c12 : PySem.W.codeIn K cd12 "_law_mixed" = true) (k12 : PySem.W.keepIn K (.ref f12) = true)
    {f13 : Addr} {od13 an13 : Option Addr} {sl13 : Array (Option Value)} {oc13 kV13 dc13 pm13 cd13 ct13 : Value} (a13 : PySem.W.nsIn K mainGlobals "_law_folded" = some (some (.ref f13))) (l13 : K.lookup f13 = some ⟨oc13, od13, .func (PySem.W.fnOf "_law_folded" "_law_folded" (defArgs s__law_folded) (defBody s__law_folded) (defScope s__law_folded) .none kV13 dc13 pm13 an13 cd13 ct13), sl13⟩) (c13 : PySem.W.codeIn K cd13 "_law_folded" = true) (k13 : PySem.W.keepIn K (.ref f13) = true)
    {f14 : Addr} {od14 an14 : Option Addr} {sl14 : Array (Option Value)} {oc14 kV14 dc14 pm14 cd14 ct14 : Value} (a14 : PySem.W.nsIn K mainGlobals "_law_draw" = some (some (.ref f14))) (l14 : K.lookup f14 = some ⟨oc14, od14, .func (PySem.W.fnOf "_law_draw" "_law_draw" (defArgs s__law_draw) (defBody s__law_draw) (defScope s__law_draw) .none kV14 dc14 pm14 an14 cd14 ct14), sl14⟩) (c14 : PySem.W.codeIn K cd14 "_law_draw" = true) (k14 : PySem.W.keepIn K (.ref f14) = true)
    {f15 : Addr} {od15 an15 : Option Addr} {sl15 : Array (Option Value)} {oc15 kV15 dc15 pm15 cd15 ct15 : Value} (a15 : PySem.W.nsIn K mainGlobals "_law_begun" = some (some (.ref f15))) (l15 : K.lookup f15 = some ⟨oc15, od15, .func (PySem.W.fnOf "_law_begun" "_law_begun" (defArgs s__law_begun) (defBody s__law_begun) (defScope s__law_begun) .none kV15 dc15 pm15 an15 cd15 ct15), sl15⟩) (c15 : PySem.W.codeIn K cd15 "_law_begun" = true) (k15 : PySem.W.keepIn K (.ref f15) = true)
    {f16 : Addr} {od16 an16 : Option Addr} {sl16 : Array (Option Value)} {oc16 kV16 dc16 pm16 cd16 ct16 : Value} (a16 : PySem.W.nsIn K mainGlobals "_law_words" = some (some (.ref f16))) (l16 : K.lookup f16 = some ⟨oc16, od16, .func (PySem.W.fnOf "_law_words" "_law_words" (defArgs s__law_words) (defBody s__law_words) (defScope s__law_words) .none kV16 dc16 pm16 an16 cd16 ct16), sl16⟩) (c16 : PySem.W.codeIn K cd16 "_law_words" = true) (k16 : PySem.W.keepIn K (.ref f16) = true)
    {f17 : Addr} {od17 an17 : Option Addr} {sl17 : Array (Option Value)} {oc17 kV17 dc17 pm17 cd17 ct17 : Value} (a17 : PySem.W.nsIn K mainGlobals "_law_machine" = some (some (.ref f17))) (l17 : K.lookup f17 = some ⟨oc17, od17, .func (PySem.W.fnOf "_law_machine" "_law_machine" (defArgs s__law_machine) (defBody s__law_machine) (defScope s__law_machine) .none kV17 dc17 pm17 an17 cd17 ct17), sl17⟩) (c17 : PySem.W.codeIn K cd17 "_law_machine" = true) (k17 : PySem.W.keepIn K (.ref f17) = true)
    {f18 : Addr} {od18 an18 : Option Addr} {sl18 : Array (Option Value)} {oc18 kV18 dc18 pm18 cd18 ct18 : Value} (a18 : PySem.W.nsIn K mainGlobals "_law_endless" = some (some (.ref f18))) (l18 : K.lookup f18 = some ⟨oc18, od18, .func (PySem.W.fnOf "_law_endless" "_law_endless" (defArgs s__law_endless) (defBody s__law_endless) (defScope s__law_endless) .none kV18 dc18 pm18 an18 cd18 ct18), sl18⟩) (c18 : PySem.W.codeIn K cd18 "_law_endless" = true) (k18 : PySem.W.keepIn K (.ref f18) = true)
    {f19 : Addr} {od19 an19 : Option Addr} {sl19 : Array (Option Value)} {oc19 kV19 dc19 pm19 cd19 ct19 : Value} (a19 : PySem.W.nsIn K mainGlobals "_law_goes" = some (some (.ref f19))) (l19 : K.lookup f19 = some ⟨oc19, od19, .func (PySem.W.fnOf "_law_goes" "_law_goes" (defArgs s__law_goes) (defBody s__law_goes) (defScope s__law_goes) .none kV19 dc19 pm19 an19 cd19 ct19), sl19⟩) (c19 : PySem.W.codeIn K cd19 "_law_goes" = true) (k19 : PySem.W.keepIn K (.ref f19) = true)
    {f20 : Addr} {od20 an20 : Option Addr} {sl20 : Array (Option Value)} {oc20 kV20 dc20 pm20 cd20 ct20 : Value} (a20 : PySem.W.nsIn K mainGlobals "_law_is_circle" = some (some (.ref f20))) (l20 : K.lookup f20 = some ⟨oc20, od20, .func (PySem.W.fnOf "_law_is_circle" "_law_is_circle" (defArgs s__law_is_circle) (defBody s__law_is_circle) (defScope s__law_is_circle) .none kV20 dc20 pm20 an20 cd20 ct20), sl20⟩) (c20 : PySem.W.codeIn K cd20 "_law_is_circle" = true) (k20 : PySem.W.keepIn K (.ref f20) = true)
    {f21 : Addr} {od21 an21 : Option Addr} {sl21 : Array (Option Value)} {oc21 kV21 dc21 pm21 cd21 ct21 : Value} (a21 : PySem.W.nsIn K mainGlobals "_law_right" = some (some (.ref f21))) (l21 : K.lookup f21 = some ⟨oc21, od21, .func (PySem.W.fnOf "_law_right" "_law_right" (defArgs s__law_right) (defBody s__law_right) (defScope s__law_right) .none kV21 dc21 pm21 an21 cd21 ct21), sl21⟩) (c21 : PySem.W.codeIn K cd21 "_law_right" = true) (k21 : PySem.W.keepIn K (.ref f21) = true)
    {f22 : Addr} {od22 an22 : Option Addr} {sl22 : Array (Option Value)} {oc22 kV22 dc22 pm22 cd22 ct22 : Value} (a22 : PySem.W.nsIn K mainGlobals "_law_hand_right" = some (some (.ref f22))) (l22 : K.lookup f22 = some ⟨oc22, od22, .func (PySem.W.fnOf "_law_hand_right" "_law_hand_right" (defArgs s__law_hand_right) (defBody s__law_hand_right) (defScope s__law_hand_right) .none kV22 dc22 pm22 an22 cd22 ct22), sl22⟩) (c22 : PySem.W.codeIn K cd22 "_law_hand_right" = true) (k22 : PySem.W.keepIn K (.ref f22) = true)
    {f23 : Addr} {od23 an23 : Option Addr} {sl23 : Array (Option Value)} {oc23 kV23 dc23 pm23 cd23 ct23 : Value} (a23 : PySem.W.nsIn K mainGlobals "law" = some (some (.ref f23))) (l23 : K.lookup f23 = some ⟨oc23, od23, .func (PySem.W.fnOf "law" "law" (defArgs s_law) (defBody s_law) (defScope s_law) .none kV23 dc23 pm23 an23 cd23 ct23), sl23⟩) (c23 : PySem.W.codeIn K cd23 "law" = true) (k23 : PySem.W.keepIn K (.ref f23) = true)
    (z0 : PySem.W.nsIn K mainGlobals "all" = some none)
    (z1 : PySem.W.nsIn K mainGlobals "bool" = some none)
    (z2 : PySem.W.nsIn K mainGlobals "dict" = some none)
    (z3 : PySem.W.nsIn K mainGlobals "enumerate" = some none)
    (z4 : PySem.W.nsIn K mainGlobals "int" = some none)
    (z5 : PySem.W.nsIn K mainGlobals "isinstance" = some none)
    (z6 : PySem.W.nsIn K mainGlobals "len" = some none)
    (z7 : PySem.W.nsIn K mainGlobals "list" = some none)
    (z8 : PySem.W.nsIn K mainGlobals "min" = some none)
    (z9 : PySem.W.nsIn K mainGlobals "range" = some none)
    (z10 : PySem.W.nsIn K mainGlobals "repr" = some none)
    (z11 : PySem.W.nsIn K mainGlobals "set" = some none)
    (z12 : PySem.W.nsIn K mainGlobals "sorted" = some none)
    (z13 : PySem.W.nsIn K mainGlobals "str" = some none)
    (z14 : PySem.W.nsIn K mainGlobals "tuple" = some none)
    (z15 : PySem.W.nsIn K mainGlobals "zip" = some none)
    {b0 : Addr} {o0 : Obj} (u0 : PySem.W.nsIn K mainGlobals "BARS" = some (some (.ref b0))) (w0 : K.lookup b0 = some o0) (t0 : TupK o0 [V.str "stop", V.str "spin", V.str "out", V.str "own", V.str "beside", V.str "hide", V.str "as"])
    {b1 : Value} (u1 : PySem.W.nsIn K mainGlobals "HIDDEN_moves" = some (some b1)) (w1 : RelV (V.str "") b1)
    {b2 : Value} (u2 : PySem.W.nsIn K mainGlobals "HIDDEN_silents" = some (some b2)) (w2 : RelV (V.str "") b2)
    {b3 : Value} (u3 : PySem.W.nsIn K mainGlobals "LETTERS" = some (some b3)) (w3 : RelV (V.str "abcdefghijklmnopqrstuvwxyz") b3)
    {b4 : Value} (u4 : PySem.W.nsIn K mainGlobals "MOST_DEEDS" = some (some b4)) (w4 : RelV (V.int 8) b4)
    {b5 : Value} (u5 : PySem.W.nsIn K mainGlobals "MOST_LETTERS" = some (some b5)) (w5 : RelV (V.int 6) b5)
    {b6 : Value} (u6 : PySem.W.nsIn K mainGlobals "MOST_NODES" = some (some b6)) (w6 : RelV (V.int 300) b6)
    : ∃ fd : FuncData, (∀ (s : Shared) (v : Value), BindsTo s fd ⟨[v], []⟩ [("_law_script", v)]) ∧ ∀ base : Heap, K.In base → base.Ns mainGlobals mg → GnOk P w K mg base CX0 9 fa fd ["_law_script"] (spLaw K) := by
  have e := hfa.symm.trans (PySem.W.mg_of X G a23)
  cases e
  have T : Tops K mg := { n_all := PySem.W.mg_none_of X G z0, n_bool := PySem.W.mg_none_of X G z1, n_dict := PySem.W.mg_none_of X G z2, n_enumerate := PySem.W.mg_none_of X G z3, n_int := PySem.W.mg_none_of X G z4, n_isinstance := PySem.W.mg_none_of X G z5, n_len := PySem.W.mg_none_of X G z6, n_list := PySem.W.mg_none_of X G z7, n_min := PySem.W.mg_none_of X G z8, n_range := PySem.W.mg_none_of X G z9, n_repr := PySem.W.mg_none_of X G z10, n_set := PySem.W.mg_none_of X G z11, n_sorted := PySem.W.mg_none_of X G z12, n_str := PySem.W.mg_none_of X G z13, n_tuple := PySem.W.mg_none_of X G z14, n_zip := PySem.W.mg_none_of X G z15, c_BARS := cst_t X G u0 w0 t0 fun G => .cons (.str _) (.cons (.str _) (.cons (.str _) (.cons (.str _) (.cons (.str _) (.cons (.str _) (.cons (.str _) (.nil))))))), c_HIDDEN_moves := cst_v X G u1 w1 fun G => .str _, c_HIDDEN_silents := cst_v X G u2 w2 fun G => .str _, c_LETTERS := cst_v X G u3 w3 fun G => .str _, c_MOST_DEEDS := cst_v X G u4 w4 fun G => .int _, c_MOST_LETTERS := cst_v X G u5 w5 fun G => .int _, c_MOST_NODES := cst_v X G u6 w6 fun G => .int _ }
  have F0 := fun_mk (st := s_is_word) l0 c0 k0
  have F1 := fun_mk (st := s_is_number) l1 c1 k1
  have F2 := fun_mk (st := s_is_move) l2 c2 k2
  have F3 := fun_mk (st := s_is_node_row) l3 c3 k3
  have F4 := fun_mk (st := s_deeds_by) l4 c4 k4
  have F5 := fun_mk (st := s_is_machine) l5 c5 k5
  have F6 := fun_mk (st := s_need_machine) l6 c6 k6
  have F7 := fun_mk (st := s_is_count) l7 c7 k7
  have F8 := fun_mk (st := s_need_node) l8 c8 k8
  have F9 := fun_mk (st := s_hidden_from) l9 c9 k9
  have F10 := fun_mk (st := s_endless_marks) l10 c10 k10
  have F11 := fun_mk (st := s_circle_of) l11 c11 k11
  have F12 := fun_mk (st := s__law_mixed) l12 c12 k12
  have F13 := fun_mk (st := s__law_folded) l13 c13 k13
  have F14 := fun_mk (st := s__law_draw) l14 c14 k14
  have F15 := fun_mk (st := s__law_begun) l15 c15 k15
  have F16 := fun_mk (st := s__law_words) l16 c16 k16
  have F17 := fun_mk (st := s__law_machine) l17 c17 k17
  have F18 := fun_mk (st := s__law_endless) l18 c18 k18
  have F19 := fun_mk (st := s__law_goes) l19 c19 k19
  have F20 := fun_mk (st := s__law_is_circle) l20 c20 k20
  have F21 := fun_mk (st := s__law_right) l21 c21 k21
  have F22 := fun_mk (st := s__law_hand_right) l22 c22 k22
  have F23 := fun_mk (st := s_law) l23 c23 k23
  refine ⟨PySem.W.fnOf "law" "law" (defArgs s_law) (defBody s_law) (defScope s_law) .none kV23 dc23 pm23 an23 cd23 ct23, fun s v => .of_eq rfl, fun base _ _ => ?_⟩
  have g_is_word := has_is_word (P := P) (w := w) (base := base) T  F0 (PySem.W.mg_of X G a0)
  have g_is_number := has_is_number (P := P) (w := w) (base := base) T  F1 (PySem.W.mg_of X G a1)
  have g_deeds_by := has_deeds_by (P := P) (w := w) (base := base) T  F4 (PySem.W.mg_of X G a4)
  have g_is_count := has_is_count (P := P) (w := w) (base := base) T  F7 (PySem.W.mg_of X G a7)
  have g_hidden_from := has_hidden_from (P := P) (w := w) (base := base) T  F9 (PySem.W.mg_of X G a9)
  have g__law_mixed := has__law_mixed (P := P) (w := w) (base := base) T  F12 (PySem.W.mg_of X G a12)
  have g__law_folded := has__law_folded (P := P) (w := w) (base := base) T  F13 (PySem.W.mg_of X G a13)
  have g__law_endless := has__law_endless (P := P) (w := w) (base := base) T  F18 (PySem.W.mg_of X G a18)
  have g__law_goes := has__law_goes (P := P) (w := w) (base := base) T  F19 (PySem.W.mg_of X G a19)
  have g_is_move := has_is_move (P := P) (w := w) (base := base) T g_is_word g_is_number F2 (PySem.W.mg_of X G a2)
  have g_need_node := has_need_node (P := P) (w := w) (base := base) T g_is_count F8 (PySem.W.mg_of X G a8)
  have g_endless_marks := has_endless_marks (P := P) (w := w) (base := base) T g_hidden_from F10 (PySem.W.mg_of X G a10)
  have g__law_draw : Has P w K mg base 2 "_law_draw" 2 spDraw := has_draw (k := 1) (by decide) F14 (PySem.W.mg_of X G a14) rfl (F14.binds fun _ _ _ _ _ _ us hl => match us, hl with | [_, _], _ => rfl) sc__law_draw (fun _ _ _ _ _ _ hgd hr => d__law_draw T.n_len g__law_mixed hgd hr) fun _ _ _ _ h => rd_draw h
  have g__law_is_circle := has__law_is_circle (P := P) (w := w) (base := base) T g__law_goes F20 (PySem.W.mg_of X G a20)
  have g_is_node_row := has_is_node_row (P := P) (w := w) (base := base) T g_is_move F3 (PySem.W.mg_of X G a3)
  have g__law_words := has__law_words (P := P) (w := w) (base := base) T g__law_draw F16 (PySem.W.mg_of X G a16)
  have g__law_machine := has__law_machine (P := P) (w := w) (base := base) T g__law_draw F17 (PySem.W.mg_of X G a17)
  have g_is_machine := has_is_machine (P := P) (w := w) (base := base) T g_is_node_row g_deeds_by F5 (PySem.W.mg_of X G a5)
  have g_need_machine := has_need_machine (P := P) (w := w) (base := base) T g_is_machine F6 (PySem.W.mg_of X G a6)
  have g_circle_of := has_circle_of (P := P) (w := w) (base := base) T g_hidden_from g_endless_marks g_need_node g_need_machine F11 (PySem.W.mg_of X G a11)
  have g__law_right := has__law_right (P := P) (w := w) (base := base) T g_circle_of g__law_is_circle g__law_endless F21 (PySem.W.mg_of X G a21)
  have g__law_hand_right := has__law_hand_right (P := P) (w := w) (base := base) T g_circle_of g__law_right g__law_words F22 (PySem.W.mg_of X G a22)
  have Gb : GnOk P w K mg base CX0 2 f15 _ ["_law_script"] (spBegun K) := begun_ok F15 sc__law_begun (fun _ _ _ _ _ _ hgd hr => d__law_begun g__law_folded hgd hr) fun _ _ _ _ h => rd_begun (kv := [("room", 12)]) (by decide) (fun _ _ => rfl) h
  exact ok_law (n := 2) F23 sc_law rfl (fun _ _ _ _ _ _ hgd hr => d_law T Gb (PySem.W.mg_of X G a15) F15.kp (F15.binds fun _ _ _ _ _ _ us hl => match us, hl with | [_], _ => rfl) g__law_hand_right g__law_right g__law_machine g__law_words g__law_draw hgd hr) rd_law_f18a42
end
end Sk
open PySem PySem.W PyProof.Rows
set_option maxHeartbeats 0 in
theorem PySem.Challenge.cw_standhouse_k25_ways_into_circles_holds : PySem.Challenge.rw_standhouse_k25_ways_into_circles.Holds := by
  w_on; o_law; k_head; (case hw => w_witness2)
  k_fill
  refine Sk.walk_ofG (l := PySem.Challenge.rw_standhouse_k25_ways_into_circles) (n := 63) (k := 9) (x := "_law_script") (spw := fun w => Sk.spLaw _) rfl (by decide) rfl ⟨rfl, by decide, by decide⟩ (fun w h Y => PySem.W.kIn_of Y) ?F (fun w H a ns hl hO hS => ⟨a, ns, rfl, hS, hl, fun _ => rfl⟩)
  case F =>
    intro w mg fa h KX G hmg
    refine' Sk.all_mk KX G hmg ?a0 ?l0 ?c0 ?k0 ?a1 ?l1 ?c1 ?k1 ?a2 ?l2 ?c2 ?k2 ?a3 ?l3 ?c3 ?k3 ?a4 ?l4 ?c4 ?k4 ?a5 ?l5 ?c5 ?k5 ?a6 ?l6 ?c6 ?k6 ?a7 ?l7 ?c7 ?k7 ?a8 ?l8 ?c8 ?k8 ?a9 ?l9 ?c9 ?k9 ?a10 ?l10 ?c10 ?k10 ?a11 ?l11 ?c11 ?k11 ?a12 ?l12 ?c12 ?k12 ?a13 ?l13 ?c13 ?k13 ?a14 ?l14 ?c14 ?k14 ?a15 ?l15 ?c15 ?k15 ?a16 ?l16 ?c16 ?k16 ?a17 ?l17 ?c17 ?k17 ?a18 ?l18 ?c18 ?k18 ?a19 ?l19 ?c19 ?k19 ?a20 ?l20 ?c20 ?k20 ?a21 ?l21 ?c21 ?k21 ?a22 ?l22 ?c22 ?k22 ?a23 ?l23 ?c23 ?k23 ?z0 ?z1 ?z2 ?z3 ?z4 ?z5 ?z6 ?z7 ?z8 ?z9 ?z10 ?z11 ?z12 ?z13 ?z14 ?z15 ?u0 ?w0 ?t0 ?u1 ?w1 ?u2 ?w2 ?u3 ?w3 ?u4 ?w4 ?u5 ?w5 ?u6 ?w6
    (case a0 => k_is)
    (case l0 => k_is)
    (case c0 => k_is)
    (case k0 => k_is)
    (case a1 => k_is)
    (case l1 => k_is)
    (case c1 => k_is)
    (case k1 => k_is)
    (case a2 => k_is)
    (case l2 => k_is)
    (case c2 => k_is)
    (case k2 => k_is)
    (case a3 => k_is)
    (case l3 => k_is)
    (case c3 => k_is)
    (case k3 => k_is)
    (case a4 => k_is)
    (case l4 => k_is)
    (case c4 => k_is)
    (case k4 => k_is)
    (case a5 => k_is)
    (case l5 => k_is)
    (case c5 => k_is)
    (case k5 => k_is)
    (case a6 => k_is)
    (case l6 => k_is)
    (case c6 => k_is)
    (case k6 => k_is)
    (case a7 => k_is)
    (case l7 => k_is)
    (case c7 => k_is)
    (case k7 => k_is)
    (case a8 => k_is)
    (case l8 => k_is)
    (case c8 => k_is)
    (case k8 => k_is)
    (case a9 => k_is)
    (case l9 => k_is)
    (case c9 => k_is)
    (case k9 => k_is)
    (case a10 => k_is)
    (case l10 => k_is)
    (case c10 => k_is)
    (case k10 => k_is)
    (case a11 => k_is)
    (case l11 => k_is)
    (case c11 => k_is)
    (case k11 => k_is)
    (case a12 => k_is)
    (case l12 => k_is)
    (case c12 => k_is)
    (case k12 => k_is)
    (case a13 => k_is)
    (case l13 => k_is)
    (case c13 => k_is)
    (case k13 => k_is)
    (case a14 => k_is)
    (case l14 => k_is)
    (case c14 => k_is)
    (case k14 => k_is)
    (case a15 => k_is)
    (case l15 => k_is)
    (case c15 => k_is)
    (case k15 => k_is)
    (case a16 => k_is)
    (case l16 => k_is)
    (case c16 => k_is)
    (case k16 => k_is)
    (case a17 => k_is)
    (case l17 => k_is)
    (case c17 => k_is)
    (case k17 => k_is)
    (case a18 => k_is)
    (case l18 => k_is)
    (case c18 => k_is)
    (case k18 => k_is)
    (case a19 => k_is)
    (case l19 => k_is)
    (case c19 => k_is)
    (case k19 => k_is)
    (case a20 => k_is)
    (case l20 => k_is)
    (case c20 => k_is)
    (case k20 => k_is)
    (case a21 => k_is)
    (case l21 => k_is)
    (case c21 => k_is)
    (case k21 => k_is)
    (case a22 => k_is)
    (case l22 => k_is)
    (case c22 => k_is)
    (case k22 => k_is)
    (case a23 => k_is)
    (case l23 => k_is)
    (case c23 => k_is)
    (case k23 => k_is)
    (case z0 => k_is)
    (case z1 => k_is)
    (case z2 => k_is)
    (case z3 => k_is)
    (case z4 => k_is)
    (case z5 => k_is)
    (case z6 => k_is)
    (case z7 => k_is)
    (case z8 => k_is)
    (case z9 => k_is)
    (case z10 => k_is)
    (case z11 => k_is)
    (case z12 => k_is)
    (case z13 => k_is)
    (case z14 => k_is)
    (case z15 => k_is)
    (case u0 => k_is)
    (case w0 => k_is)
    (case t0 => exact ⟨_, _, rfl, rfl, by decide, .cons ⟨_, rfl⟩ (.cons ⟨_, rfl⟩ (.cons ⟨_, rfl⟩ (.cons ⟨_, rfl⟩ (.cons ⟨_, rfl⟩ (.cons ⟨_, rfl⟩ (.cons ⟨_, rfl⟩ (.nil)))))))⟩)
    (case u1 => k_is)
    (case w1 => exact ⟨_, rfl⟩)
    (case u2 => k_is)
    (case w2 => exact ⟨_, rfl⟩)
    (case u3 => k_is)
    (case w3 => exact ⟨_, rfl⟩)
    (case u4 => k_is)
    (case w4 => exact ⟨_, rfl⟩)
    (case u5 => k_is)
    (case w5 => exact ⟨_, rfl⟩)
    (case u6 => k_is)
    (case w6 => exact ⟨_, rfl⟩)
