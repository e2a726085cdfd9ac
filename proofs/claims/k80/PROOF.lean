import PyProof.Rows.All
import Wide.All
import OpenK.AllK
import Wide.FinOn
import HandS.ForMost
import HandS.ForExc
import PyProof.ReprRoads
import PyProof.CallFns
import HandS.TupSets
import HandS.Sort
import KE.KSortTupG
import HandS.SetFor
import HandS.IsInst
import HandS.Evl
import HandS.Zip
import HandS.TupAny
import HandS.Conv
import HandS.Flow
import KE.DatumMoreOrd
import KE.DatumIndex
import KE.SortData
import KE.KDictKeyed
import KE.KeyNested
import HandS.Lambda
import HandS.Comp
import HandS.Iter
import HandS.Wide
import HandS.Deep
import HandS.Text
import HandS.Dict
import HandS.WordsDict
import PyProof.Rows.ListMulArg
import HandS.More
import HandS.SortInts
import KE.DataEq
import HandS.SortKw
import KE.SortKeyHeap
import HandS.ExcIs
import KE.KDictPairs
import KE.KDictWalk
import HandS.Nested
import HandS.NoneIn
import KE.KItemsList
import HandS.TupMul
import PyProof.TupleOfSeq
import KE.GoesMore
import PyProof.EnumMake
import KE.KDictCopyH
import KE.DataMinMax
import PyProof.DictTable
import HandS.Style
import KE.KEqDict
import PyProof.AutoSeq1
import KE.KRevSl
import PySem.Challenge.RW_standhouse_k80_steps_put_round
set_option Elab.async false
set_option linter.all false
set_option maxRecDepth 100000
set_option maxHeartbeats 2000000
namespace Sk
open PySem PySem.Spec PyProof.Rows L2
mutual
/-- what a value is, by what is laid -/
inductive Dp (K : PySem.W.Frag) (G : Hp) : V → PyData → Prop
  | non : Dp K G .non .none
  | bl (k : Bool) : Dp K G (.bl k) (.bool k)
  | int (n : Int) : Dp K G (.int n) (.int n)
  | str (z : Str) : Dp K G (.str z) (.str z)
  | lst {p : Addr} {vs : List V} {es : List PyData} (q : SqL K G p vs) (r : DpAll K G vs es) : Dp K G (.ref p) (.list es)
  | tup {p : Addr} {vs : List V} {es : List PyData} (q : SqT K G p vs) (r : DpAll K G vs es) : Dp K G (.ref p) (.tuple es)
  | emp {p : Addr} (q : G p = some (.dK [])) : Dp K G (.ref p) (.dict [])
inductive DpAll (K : PySem.W.Frag) (G : Hp) : List V → List PyData → Prop
  | nil : DpAll K G [] []
  | cons {x : V} {xs : List V} {e : PyData} {es : List PyData} (q : Dp K G x e) (r : DpAll K G xs es) : DpAll K G (x :: xs) (e :: es)
end
section
variable {X : Cx} {pins : List (Addr × Obj)} {σ : L2.St} {H : Hp} {s : Shared}
theorem emp_reads (I : Inv X pins σ H s) {p : Addr} (q : H p = some (.dK [])) : Reads s.heap (.ref p) (.dict []) [p] ∧ sysModules ∉ [p] := by
  obtain ⟨_, ns, vs, kv, o, es, ep, ho, hx, hd, _, hp, _⟩ := (show ObjOk X.prog X.w H s.heap p (.dK []) from I.hok p _ q)
  have e1 : vs = [] := by
    cases kv
    rfl
  subst e1
  have e2 : es.toList = [] := by
    generalize es.toList = l at hp
    cases hp
    rfl
  refine ⟨?_, fun h => ?_⟩
  · have := Reads.dict (h := s.heap) (kvs := []) (as := []) (bs := []) ho hx.1 hd (by rw [e2]; exact .nil) (by rw [e2]; exact .nil)
    exact this
  · rw [List.mem_singleton.mp h] at ns
    simp at ns
mutual
theorem Dp.reads (I : Inv X pins σ H s) : ∀ (d : PyData) (x : V) (y : Value), Dp X.K H x d → RelV x y → ∃ as, Reads s.heap y d as
  | .none, _, _, h, r => by cases h; exact L2.Dp.reads I _ _ _ .non r
  | .bool k, _, _, h, r => by cases h; exact L2.Dp.reads I _ _ _ (.bl k) r
  | .int n, _, _, h, r => by cases h; exact L2.Dp.reads I _ _ _ (.int n) r
  | .str z, _, _, h, r => by cases h; exact L2.Dp.reads I _ _ _ (.str z) r
  | .list es, _, _, h, r => by
    cases h with
    | lst q t =>
      cases r
      obtain ⟨us, ru, ⟨ob, m, g1, g2, _, g3⟩, _⟩ := I.list q
      obtain ⟨bs, rb⟩ := Dp.readsAll I es _ us t ru
      exact ⟨_, .list g1 g2 g3 rb⟩
  | .tuple es, _, _, h, r => by
    cases h with
    | tup q t =>
      cases r
      obtain ⟨us, ru, ⟨ob, g1, g2, m, g3⟩, _⟩ := I.tuple q
      obtain ⟨bs, rb⟩ := Dp.readsAll I es _ us t ru
      exact ⟨_, .tuple g1 g2 g3 rb⟩
  | .dict kvs, _, _, h, r => by
    cases h with
    | emp q =>
      cases r
      exact ⟨_, (emp_reads I q).1⟩
theorem Dp.readsAll (I : Inv X pins σ H s) : ∀ (es : List PyData) (xs : List V) (us : List Value), DpAll X.K H xs es → Vals xs us → ∃ as, ReadsAll s.heap us es as
  | [], _, _, h, r => by
    cases h
    cases r
    exact ⟨_, .nil⟩
  | e :: es, _, _, h, r => by
    cases h with
    | cons q t =>
      cases r with
      | cons r1 r2 =>
        obtain ⟨as, ra⟩ := Dp.reads I e _ _ q r1
        obtain ⟨bs, rb⟩ := Dp.readsAll I es _ _ t r2
        exact ⟨_, .cons ra rb⟩
end
end
section
variable {K : PySem.W.Frag} {G : Hp}
mutual
/-- without a dict it is the kit's -/
theorem Dp.toL : ∀ (d : PyData) {x : V}, d.canLay0 = true → Dp K G x d → L2.Dp K G x d
  | .none, _, _, h => by cases h; exact .non
  | .bool k, _, _, h => by cases h; exact .bl k
  | .int n, _, _, h => by cases h; exact .int n
  | .str z, _, _, h => by cases h; exact .str z
  | .list es, _, w, h => by
    cases h with
    | lst q t => exact .lst q (Dp.toLAll es (by simpa [PyData.canLay0] using w) t)
  | .tuple es, _, w, h => by
    cases h with
    | tup q t => exact .tup q (Dp.toLAll es (by simpa [PyData.canLay0] using w) t)
  | .dict _, _, w, _ => by simp [PyData.canLay0] at w
theorem Dp.toLAll : ∀ (es : List PyData) {xs : List V}, PyData.canLayAll0 es = true → DpAll K G xs es → L2.DpAll K G xs es
  | [], _, _, h => by cases h; exact .nil
  | e :: es, _, w, h => by
    cases h with
    | cons q t =>
      have w : e.canLay0 = true ∧ PyData.canLayAll0 es = true := by simpa [PyData.canLayAll0] using w
      exact .cons (Dp.toL e w.1 q) (Dp.toLAll es w.2 t)
end
end
end Sk
set_option Elab.async false
set_option linter.all false
set_option maxRecDepth 100000
set_option maxHeartbeats 2000000
namespace Sk
open PySem PySem.Spec PyProof.Rows L2
structure GnOk (P : Program) (w : World) (K : PySem.W.Frag) (mg : Str → Option Value) (base : Heap) (CX : CXT) (k : Nat) (f : Addr) (fd : FuncData) (ps : List Str) (sp : Sp) : Prop where
  len : ∀ vs H Q E, sp vs H Q E → vs.length = ps.length
  go : ∀ {A : Around} {outer : List Env} {s : Shared} {H : Hp} {args : Args} {us : List Value} {vs : List V} {Q : VK} {E : XK},
    A.guards = some [] → Room k A → Env0 P w K mg base A outer s H → BindsTo s fd args (ps.zip us) → Vals vs us → sp vs H Q E →
      codeAny (model P w) A (.call (.ref f) args) (CR CX outer P w H s Q E) s
section
variable {P : Program} {w : World} {K : PySem.W.Frag} {mg : Str → Option Value} {base : Heap} {CX : CXT} {k : Nat} {f : Addr} {fd : FuncData} {ps : List Str} {sp : Sp}
theorem GnOk.of (F : FnOk P w K mg base CX k f fd ps sp) : GnOk P w K mg base CX k f fd ps sp :=
  ⟨F.len, fun _ hr e0 hb r h => F.run _ _ _ _ _ _ _ _ _ hr e0 hb r h⟩
theorem guards_deeper (A : Around) (env : Env) (h : A.guards = some []) : (A.deeper env).guards = some [] := by
  first | exact h | (simpa [Around.deeper] using h)
theorem gn_ok {x qual : Str} {st : Stmt} {N : List Str} (F : Fun K x qual st f fd) (S : FnScope N ps (defScope st)) (len : ∀ vs H Q E, sp vs H Q E → vs.length = ps.length)
    (body : ∀ (cdv : Value), fd.code = cdv → ∀ (A : Around) (outer : List Env) (s : Shared) (H : Hp) (vs : List V) (Q : VK) (E : XK),
      (A.deeper (envOfC qual (defScope st) s.heap.objs.size f cdv)).guards = some [] → Room k (A.deeper (envOfC qual (defScope st) s.heap.objs.size f cdv)) → sp vs H Q E →
      ∃ t, PSs (cxOf CX P w K mg base N qual (defScope st) f cdv A outer s H E).nox (defBody st) t ∧ t { nx := fun _ H' => Q .non H', rt := Q } (start N vs) H) :
    GnOk P w K mg base CX (k + 1) f fd ps sp := by
  obtain ⟨oc, od, kV, doc, pm, an, cdv, ct, osl, efd, lk, hcd⟩ := F.ex
  subst efd
  refine ⟨len, fun {A outer s H args us vs Q E} hgd hr e0 hb r hsp => ?_⟩
  have hl := len _ _ _ _ hsp
  have hin : K.In s.heap := e0.mod.kin.keeps fun b o e => (e0.bs b o e).1
  have hlim : s.heap.NoLimit := e0.mod.nolimit.keeps fun b o e => (e0.bs b o e).1
  refine codeAny_call_function hr.depth (hin _ _ lk) rfl S.co S.gen rfl (PySem.W.codeRec_of hin hcd) (hb _ _ _ _ ?_)
  refine wpAny_newFunctionEnv_cells S.kind (fun y hy => ?_) fun env he s1 hx => ?_
  · rcases S.par y.1 (List.of_mem_zip (show (y.1, y.2) ∈ ps.zip us from hy)).1 with q | q
    · exact Or.inl q
    · exact Or.inr ⟨q, PySem.W.cellsFrom_some _ _ _ (Or.inl q)⟩
  subst he
  refine ⟨hlim.keeps hx.toInCall.keep, codeAny_func ?_⟩
  obtain ⟨t, ht, hq⟩ := body cdv rfl A outer s H vs Q E (guards_deeper A _ hgd) (hr.deeper _) hsp
  have I := inv_start (CX := CX) (E := E) (qual := qual) (f := f) (cd := cdv) S hr.hd e0 hl r hx
  have ret : ∀ {σ' : L2.St} {H' : Hp} {v : V} {u : Value} {s' : Shared}, Inv (cxOf CX P w K mg base N qual (defScope st) f cdv A outer s H E) [] σ' H' s' → RelV v u → Q v H' → CE outer P w H s Q u s' :=
    fun J rv q => ⟨_, _, J.os, J.bare, J.base, J.hok, rv, q⟩
  refine wpAny_mono (ht.nox.run [] s1 (start N vs) H _ I hq) (fun fl s' hs => ?_) fun e s' hs => hs
  cases fl with
  | ret u => obtain ⟨v, σ', H', J, rv, q⟩ := hs; exact ret J rv q
  | next => obtain ⟨σ', H', J, q⟩ := hs; exact ret (v := V.non) (u := Value.none) J rfl q
  | brk => obtain ⟨_, _, _, q⟩ := hs; exact q.elim
  | cont => obtain ⟨_, _, _, q⟩ := hs; exact q.elim
end
section
variable {X : Cx} {CX : CXT} {k : Nat} {f : Addr} {fd : FuncData} {ps : List Str} {sp : Sp} {E : XK} {x : Str} {p pos : Pos} {e : Expr} {es : List Expr} {t : TA}
theorem run_gn {pins : List (Addr × Obj)} {σ : L2.St} {H : Hp} {s : Shared} {Q : VK} {us : List Value} {vs : List V} (F : GnOk X.prog X.w X.K X.mg X.base CX k f fd ps sp) (hgd : X.A.guards = some []) (hr : Room k X.A) (hb : Binds X.K fd ps [])
    (hx : Passes CX X E) (I : Inv X pins σ H s) (r : Vals vs us) (h : sp vs H Q E) : wpAny (model X.prog X.w) X.A (call (.ref f) us) (EP X pins σ Q) X.xe s := by
  have hlu : (us ++ []).length = ps.length := by
    rw [List.append_nil, ← r.length]
    exact F.len _ _ _ _ h
  have bb := hb s us I.kIn hlu
  rw [List.append_nil] at bb
  refine wpAny_call (codeAny_mono (F.go hgd hr I.env0 bb r h) fun res s' hq => ?_)
  match res, hq with
  | .error e, hq => exact hx pins σ H s e s' I hq
  | .ok (.ret u), hq => exact I.after hq
theorem pe_callG (F : GnOk X.prog X.w X.K X.mg X.base CX k f fd ps sp) (hgd : X.A.guards = some []) (hr : Room k X.A) (hg : Gl X x) (hm : X.mg x = some (.ref f)) (hk : PySem.W.keepIn X.K (.ref f) = true) (hb : Binds X.K fd ps []) (hx : Passes CX X E)
    (ha : PA X (e :: es) t) (hdb : (x == ("__debug__" : Str)) = false := by decide) (he : starEach (e :: es) X.env = (false, eval e X.env) :: starEach es X.env := by rfl) (hpl : (backTo pos (starEach es X.env)).any (·.1) = false := by rfl) :
    PE X (.Call (.Name x p) (e :: es) [] pos) (tCall sp [] E t) := ⟨fun pins s σ H Q I h =>
  wpAny_Call_Name_kw (ld_glob I hg hm (PySem.W.callWith_K (h₀ := X.base) I.ok.mod.kin hk (thn (ha.run pos pins s σ H _ I h) fun us s1 hz => by
    obtain ⟨vs, H1, I1, r, q⟩ := hz
    rw [List.append_nil] at q
    exact ⟨I1.kIn, run_gn F hgd hr hb hx I1 r q⟩) he hpl) hdb)⟩
end
section
variable {P : Program} {w : World} {K : PySem.W.Frag} {mg mb : Str → Option Value} {CX : CXT} {k : Nat} {fa a : Addr} {fd : FuncData} {x : Str} {sp : Sp} {s1 : Shared} {vs : List Value} {ns : List Int}
def hpScript (K : PySem.W.Frag) (a : Addr) (vs : List Value) (ns : List Int) : Hp := fun b =>
  if b = a ∧ (K.lookup a).isNone = true then some (.frz { cls := .type "list", data := .seq vs.toArray } (.lst (ns.map V.int))) else none
theorem hpScript_at {b : Addr} {o : HO} (h : hpScript K a vs ns b = some o) : b = a ∧ K.lookup a = none ∧ o = .frz { cls := .type "list", data := .seq vs.toArray } (.lst (ns.map V.int)) := by
  unfold hpScript at h
  split at h
  · rename_i hc
    exact ⟨hc.1, Option.isNone_iff_eq_none.mp hc.2, (Option.some.inj h).symm⟩
  · cases h
theorem hpScript_only : Only (hpScript K a vs ns) := fun b => by
  cases e : hpScript K a vs ns b with
  | none => exact Or.inl rfl
  | some o =>
    obtain ⟨_, _, rfl⟩ := hpScript_at e
    exact Or.inr ⟨_, _, rfl⟩
theorem law_callG (hin : K.In s1.heap) (hns : s1.heap.Ns mainGlobals mg) (hbn : s1.heap.Ns builtinsNs mb) (hbb : ∀ y : Str, y ≠ "__name__" → mb y = bootBuiltins y) (hlim : s1.heap.NoLimit) (hgn : s1.gens = #[])
    (hobj : s1.heap.get? a = some { cls := .type "list", data := .seq vs.toArray }) (hi : IntsAre vs ns) (hl : ns.length ≤ sizeLine) (hr : Room k callerA)
    (F : ∀ base : Heap, K.In base → base.Ns mainGlobals mg → GnOk P w K mg base CX k fa fd [x] sp) (hbind : ∀ (s : Shared) (u : Value), BindsTo s fd ⟨[u], []⟩ [(x, u)])
    (hsp : ∀ H : Hp, Only H → SqL K H a (ns.map V.int) → sp [.ref a] H (fun v _ => v = .bl true) fun _ _ _ => False)
    (hCX : ∀ H e s', CX [] H s1 (fun _ _ _ => False) e s' → False) :
    codeAny (model P w) callerA (.call (.ref fa) ⟨[.ref a], []⟩) (fun r s' => r = .ok (.ret (.bool true)) ∧ OldK s1.heap s'.heap ∧ s'.os = s1.os ∧ AllBare s'.gens) s1 := by
  have rv := vals_ints hi
  have hlen := hi.length
  let H : Hp := hpScript K a vs ns
  have hS : SqL K H a (ns.map V.int) := by
    cases hk : K.lookup a with
    | none =>
      refine Or.inl (Or.inr ⟨{ cls := .type "list", data := .seq vs.toArray }, ?_⟩)
      show hpScript K a vs ns a = _
      unfold hpScript
      rw [if_pos ⟨rfl, by rw [hk]; rfl⟩]
    | some o =>
      have e := hin a o hk
      rw [hobj] at e
      cases e
      exact Or.inr ⟨_, vs.toArray, _, hk, rfl, rfl, rfl, by rw [List.size_toArray, hlen]; exact hl, by simpa using rv⟩
  have hok : HOk P w H s1.heap := fun b u e => by
    obtain ⟨rfl, _, rfl⟩ := hpScript_at e
    exact ⟨hobj, by rw [List.length_map]; exact hl, vs, _, rv, hobj⟩
  have low : ∀ {b : Addr} {o : Obj}, s1.heap.get? b = some o → H b = none → (hidT s1.heap H).get? b = some o := fun e n => hidT_get e n
  have dct : ∀ {b : Addr} {o : Obj} {es : Array DictEntry} {ep : Nat}, s1.heap.get? b = some o → o.data = .dict es ep → H b = none := fun {b o es ep} e d => by
    cases q : H b with
    | none => rfl
    | some u =>
      obtain ⟨rfl, _, _⟩ := hpScript_at q
      rw [hobj] at e
      cases e
      cases d
  have ns' : ∀ {b : Addr} {m : Str → Option Value}, s1.heap.Ns b m → (hidT s1.heap H).Ns b m := fun z => by
    obtain ⟨o, es, ep, e, d, r⟩ := z
    exact ⟨o, es, ep, low e (dct e d), d, r⟩
  have hK : K.In (hidT s1.heap H) := fun b o e => low (hin b o e) (by
    cases q : H b with
    | none => rfl
    | some u =>
      obtain ⟨rfl, z, _⟩ := hpScript_at q
      rw [z] at e
      cases e)
  have hM : Mod K mg (hidT s1.heap H) := { kin := hK, glob := ns' hns, blt := ⟨mb, ns' hbn, hbb⟩, nolimit := by obtain ⟨mc, h1, h2⟩ := hlim; exact ⟨mc, ns' h1, h2⟩ }
  have e0 : Env0 P w K mg (hidT s1.heap H) callerA [] s1 H := { frames := rfl, mod := hM, bs := fun b o e => of_hidT e, bsz := Nat.le_of_eq (hidT_size _ _), funs := trivial, frf := fun b hb => absurd (show b ∈ ([] : List Addr) from hb) List.not_mem_nil, hok := hok, bare := .of_eq hgn }
  refine codeAny_mono ((F _ hK (ns' hns)).go (us := [.ref a]) (vs := [V.ref a]) rfl hr e0 (hbind s1 (.ref a)) (.cons rfl .nil) (hsp H hpScript_only hS)) fun r s' h => ?_
  match r, h with
  | .error e, h => exact (hCX H e s' h).elim
  | .ok (.ret u), h =>
    obtain ⟨v, H', os, bare, un, hok', r', q⟩ := h
    obtain rfl : v = .bl true := q
    obtain rfl : u = Value.bool true := r'
    refine ⟨rfl, OldK.of_keep fun b o e => ?_, os, bare⟩
    cases q : H b with
    | none => exact un.keep b o e q (fun z => absurd (show b ∈ ([] : List Addr) from z) List.not_mem_nil) (fun z => absurd (show b ∈ ([] : List Addr) from z) List.not_mem_nil)
    | some u =>
      obtain ⟨rfl, _, rfl⟩ := hpScript_at q
      have z1 := (hok b _ q).1
      have z2 := (hok' b _ (un.frzs b _ _ q)).1
      rw [e] at z1
      cases z1
      exact z2
theorem walk_ofG {l : PySem.W.OpenLaw} {n : Nat} {q : Program} {loose : List Str} {XP : (Str → Option Value) → Heap → Prop} {YP : World → Heap → Prop} {d : DefRec} {KK : Params → PySem.W.Frag}
    {spw : World → Sp} (hn : l.most = some n) (hn2 : n ≤ sizeLine) (hdf : d.params.defaults = []) (hr : Room k callerA)
    (hY : ∀ (w : World) (h : Heap), YP w h → (KK w.params).In h)
    (F : ∀ (w : World) (mg : Str → Option Value) (fa : Addr) (h : Heap), (KK w.params).In h → h.Ns mainGlobals mg → mg d.name = some (.ref fa) →
      ∃ fd : FuncData, (∀ (s : Shared) (u : Value), BindsTo s fd ⟨[u], []⟩ [(x, u)]) ∧
        ∀ base : Heap, (KK w.params).In base → base.Ns mainGlobals mg → GnOk l.prog w (KK w.params) mg base CX0 k fa fd [x] (spw w))
    (hsp : ∀ (w : World) (H : Hp) (a : Addr) (ns : List Int), ns.length ≤ n → Only H → SqL (KK w.params) H a (ns.map V.int) → spw w [.ref a] H (fun v _ => v = .bl true) fun _ _ _ => False) :
    PySem.W.WalkO q loose XP YP l.row.toRowW d [] (fun f vs => PySem.call f vs) := by
  refine Att.attach_call hn hdf fun w s0 s1 mg mb fa o pm cd doc a vs ns G Y ho hd hcd hmg hobj hints hlen hg => ?_
  obtain ⟨fd, hb, hF⟩ := F w mg fa _ (hY w _ Y) G.T.g hmg
  exact law_callG (hY w _ Y) G.T.g G.T.b G.T.builtins G.T.nolimit hg hobj hints (Nat.le_trans hlen hn2) hr hF hb (fun H hO hS => hsp w H a ns hlen hO hS) fun _ _ _ z => z
end
def rRepr (K : PySem.W.Frag) : List V → Hp → VK → Prop := fun xs H Q => ∃ (x : V) (d : PyData), xs = [x] ∧ Dp K H x d ∧ d.showable = true ∧ (d.hasDict = false ∨ d = .dict []) ∧ d.depth ≤ 100 ∧ d.shown.length ≤ sizeLine ∧ Q (.str d.shown) H
theorem call_repr {X : Cx} (hgd : X.A.guards = some []) (hu : X.A.units + 150 < cLine) : CallR X (.builtin "repr") (rRepr X.K) := by
  intro pins s σ H xs us Q I r h
  obtain ⟨x, d, rfl, hd, hsh, hnd, hdp, hlen, q⟩ := h
  cases r with
  | cons rx rt =>
    cases rt
    cases hd with
    | non =>
      cases rx
      refine P.repr_of_none ?_
      exact ⟨.str _, _, I.tok _, ⟨_, rfl⟩, q⟩
    | bl b =>
      cases rx
      refine P.repr_of_bool ?_
      exact ⟨.str _, _, I.tok _, ⟨_, rfl⟩, q⟩
    | int i =>
      obtain ⟨t, rfl⟩ := rx
      refine P.repr_of_int (by simpa [PyData.showable] using hsh) ?_
      exact ⟨.str _, _, I.tok _, ⟨_, rfl⟩, q⟩
    | str z =>
      obtain ⟨t, rfl⟩ := rx
      refine P.repr_of_str ?_ hlen
      exact ⟨.str _, _, I.tok _, ⟨_, rfl⟩, q⟩
    | lst hs ha =>
      obtain ⟨as, hr⟩ := Dp.reads I _ _ _ (Dp.lst hs ha) rx
      cases rx
      have hnd := hnd.resolve_right (fun z => by cases z)
      refine repr_of_reads' hr hsh (PyData.noDict_hsm hnd) hgd (by omega) (fun b o e => e) (fun h' u tk hk => ?_) hlen
      exact ⟨.str _, _, I.kept hk, ⟨_, rfl⟩, q⟩
    | tup hs ha =>
      obtain ⟨as, hr⟩ := Dp.reads I _ _ _ (Dp.tup hs ha) rx
      cases rx
      have hnd := hnd.resolve_right (fun z => by cases z)
      refine repr_of_reads' hr hsh (PyData.noDict_hsm hnd) hgd (by omega) (fun b o e => e) (fun h' u tk hk => ?_) hlen
      exact ⟨.str _, _, I.kept hk, ⟨_, rfl⟩, q⟩
    | emp hz =>
      obtain ⟨hr, hm⟩ := emp_reads I hz
      cases rx
      refine repr_of_reads' hr hsh (fun _ => hm) hgd (by omega) (fun b o e => e) (fun h' u tk hk => ?_) hlen
      exact ⟨.str _, _, I.kept hk, ⟨_, rfl⟩, q⟩
end Sk
set_option Elab.async false
set_option linter.all false
set_option maxRecDepth 100000
set_option maxHeartbeats 2000000
namespace Sk
open PySem PySem.Spec PyProof.Rows L2
def KeepT (h h' : Heap) : Prop := ∀ b o, h.get? b = some o → o.cls = .type "tuple" → h'.get? b = some o
theorem KeepT.all {h h' : Heap} (k : ∀ b o, h.get? b = some o → h'.get? b = some o) : KeepT h h' := fun b o e _ => k b o e
theorem KeepT.trans {h h1 h2 : Heap} (a : KeepT h h1) (b : KeepT h1 h2) : KeepT h h2 := fun c o e t => b c o (a c o e t) t
structure TKind (P : Program) (w : World) (α : Type) [DecidableEq α] where
  is : Heap → α → Addr → Prop
  hash : α → Int
  tup : ∀ {h : Heap} {k : α} {a : Addr}, is h k a → ∃ o xs n, h.get? a = some o ∧ o.cls = .type "tuple" ∧ o.data = .seq xs n
  stay : ∀ {h h' : Heap} {k : α} {a : Addr}, is h k a → KeepT h h' → is h' k a
  inj : ∀ {h : Heap} {x y : α} {a : Addr}, is h x a → is h y a → x = y
  hashes : ∀ {A : Around} {E : Value → Shared → Prop} {s : Shared} {k : α} {a : Addr} {Q : Int → Shared → Prop}, A.units + 8 < cLine → is s.heap k a → (∀ tk, s.toks ≤ tk → Q (hash k) { s with toks := tk }) → wpAny (model P w) A (pyHash (.ref a)) Q E s
  same : ∀ {A : Around} {E : Value → Shared → Prop} {s : Shared} {x y : α} {a b : Addr} {Q : Bool → Shared → Prop}, A.units + 8 < cLine → is s.heap x a → is s.heap y b → Q (decide (x = y)) s → wpAny (model P w) A (eqBool (.ref a) (.ref b)) Q E s
  quiet : ∀ {A : Around} {E : Value → Shared → Prop} {s : Shared} {k : α} {a : Addr} {Q : Bool → Shared → Prop}, is s.heap k a → Q true s → wpAny (model P w) A (eqIsQuiet 8 (.ref a)) Q E s
  ofNone : ∀ {A : Around} {E : Value → Shared → Prop} {s : Shared} {k : α} {a : Addr} {Q : Bool → Shared → Prop}, is s.heap k a → Q false s → wpAny (model P w) A (ofAClassStatement 8 (.ref a)) Q E s
  byVal : ∀ {A : Around} {E : Value → Shared → Prop} {s : Shared} {k : α} {a : Addr} {Q : Bool → Shared → Prop}, is s.heap k a → (∀ b, Q b s) → wpAny (model P w) A (hashByValue 8 (.ref a)) Q E s
section
variable {P : Program} {w : World} {A : Around} {E : Value → Shared → Prop} {s : Shared}
end
end Sk
set_option Elab.async false
set_option linter.all false
set_option maxRecDepth 100000
set_option maxHeartbeats 2000000
namespace Sk
open PySem PySem.Spec PyProof.Rows L2
section
variable {P : Program} {w : World} {α : Type} [DecidableEq α] (κ : TKind P w α)
def rowsT (L : List (Addr × α)) : List (Int × Value) := L.map fun p => (κ.hash p.2, Value.ref p.1)
structure TSet (h : Heap) (a : Addr) (L : List (Addr × α)) (es : Array (Int × Value)) (ep : Nat) (t : SetTable) : Prop where
  ob : ∃ o, h.get? a = some o ∧ o.ExactSet ∧ o.data = .set es ep t
  rows : es.toList = rowsT κ L
  tab : TabOk t (L.map fun p => κ.hash p.2)
  nd : (L.map (·.2)).Nodup
  led : w.params.followText "set-order" = true ∨ t.led = true
  room : L.length * 5 < t.mask * 3
  few : L.length < 64
variable {κ} {A : Around} {E : Value → Shared → Prop} {s : Shared} {a : Addr} {L : List (Addr × α)} {es : Array (Int × Value)} {ep : Nat} {t : SetTable}
theorem rowsT_len (hr : es.toList = rowsT κ L) : es.size = L.length := by
  have h := congrArg List.length hr
  rwa [Array.length_toList, rowsT, List.length_map] at h
theorem fits_of (sz : t.place.size = L.length) (dm : t.dummies = #[]) (hr : es.toList = rowsT κ L) (hm : L.length ≤ t.mask) : t.fits es.size = true := by
  have h := rowsT_len hr
  unfold SetTable.fits SetTable.fill
  rw [dm, Bool.and_eq_true, beq_iff_eq, decide_eq_true_eq]
  exact ⟨by omega, by show t.place.size + 0 ≤ t.mask; omega⟩
theorem TSet.sz {h : Heap} (R : TSet κ h a L es ep t) : t.place.size = L.length := by
  have h := R.tab.sz
  rwa [List.length_map] at h
theorem TSet.fits {h : Heap} (R : TSet κ h a L es ep t) : t.fits es.size = true := fits_of R.sz R.tab.dm R.rows (by have := R.room; omega)
end
end Sk
set_option Elab.async false
set_option linter.all false
set_option maxRecDepth 100000
set_option maxHeartbeats 2000000
namespace Sk
open PySem PySem.Spec PyProof.Rows L2
section
variable {P : Program} {w : World} {α : Type} [DecidableEq α] {κ : TKind P w α} {A : Around} {E : Value → Shared → Prop} {s : Shared} {a : Addr} {L : List (Addr × α)} {es : Array (Int × Value)} {ep : Nat} {t : SetTable}
end
end Sk
namespace Sk
open PySem PySem.Spec PyProof.Rows L2
abbrev noneIn (w : World) : Obj := { cls := .type "set", dict := none, data := .set #[] 0 (.fresh 0 0 (!w.params.followText "set-order")) }
structure Adder (P : Program) (w : World) (h0 : Heap) (a : Addr) (vs : List Value) where
  St : Nat → Heap → Prop
  at' : ∀ {i : Nat} {h h' : Heap}, St i h → (∀ o, h.get? a = some o → h'.get? a = some o) → St i h'
  start : ∀ {h : Heap}, h.get? a = some (noneIn w) → St 0 h
  add : ∀ {A : Around} {E : Value → Shared → Prop} {s : Shared} {i : Nat} {v : Value} {Q : Bool → Shared → Prop}, A.units + 8 < cLine → vs[i]? = some v → (∀ b o, h0.get? b = some o → s.heap.get? b = some o) → St i s.heap →
    (∀ b h' tk, s.toks ≤ tk → Heap.SameBut a s.heap h' → St (i + 1) h' → Q b { s with heap := h', toks := tk }) → wpAny (model P w) A (setAdd a v) Q E s
section
variable {P : Program} {w : World} {A : Around} {E : Value → Shared → Prop} {s : Shared}
theorem fill {I S : Addr} {fp wr : List Addr} {G : Array GenState → Array GenState → Prop} {n : Nat} {Pv : Nat → Value → Prop} {Si : Nat → Shared → Prop} {R : Result → Shared → Prop} {h0 : Heap} {vs : List Value}
    (W : WalksS P w A.in1 I fp wr G n Pv Si) (hSf : S ∉ fp) (D : Adder P w h0 S vs) (hn : n = vs.length) (hval : ∀ i v, Pv i v → vs[i]? = some v) (hS0 : h0.get? S = none) (hw0 : ∀ b ∈ wr, h0.get? b = none) (hu : A.in1.units + 8 < cLine) (m : Nat) :
    ∀ (i : Nat) (s : Shared), n - i = m → i ≤ n → Si i s → (∀ b o, h0.get? b = some o → s.heap.get? b = some o) → D.St i s.heap →
      (∀ s', Moved (S :: wr) G s s' → D.St n s'.heap → (∀ b o, h0.get? b = some o → s'.heap.get? b = some o) → R (.ok (.ret .none)) s') →
      codeAny (model P w) A (.builtin "set.update.loop" ⟨[.ref S, .ref I], []⟩) R s := by
  have sub : ∀ b ∈ wr, b ∈ S :: wr := fun b hb => List.mem_cons_of_mem _ hb
  have nS : S ∉ wr := fun h => hSf (W.sub _ h)
  have old : ∀ {s s' : Shared}, Moved wr G s s' → (∀ b o, h0.get? b = some o → s.heap.get? b = some o) → ∀ b o, h0.get? b = some o → s'.heap.get? b = some o := fun hm k b o e =>
    hm.heap b o (fun hb => by rw [hw0 b hb] at e; cases e) (k b o e)
  induction m with
  | zero =>
    intro i s hm hi hst k0 d hR
    obtain rfl : i = n := by omega
    refine codeAny_builtin F.entry_set_update_loop ?_
    rw [Around.under_plainId F.plain_set_update_loop _]
    refine wpAny_bind (W.done s _ _ hst fun s' mv => ?_)
    exact wpAny_pure (hR s' (mv.mono sub) (D.at' d fun o e => mv.heap S o nS e) (old mv k0))
  | succ m ih =>
    intro i s hm hi hst k0 d hR
    have lt : i < n := by omega
    refine codeAny_builtin F.entry_set_update_loop ?_
    rw [Around.under_plainId F.plain_set_update_loop _]
    refine wpAny_bind (W.item i s _ _ lt hst fun v s' hP hst' mv => ?_)
    have k1 := old mv k0
    show wpAny _ A.in1 (holding [v] (setAdd S v) >>= _) _ _ s'
    refine wpAny_bind (wpAny_holding (D.add hu (hval i v hP) k1 (D.at' d fun o e => mv.heap S o nS e) fun b h' tk htk sb d' => ?_))
    have k2 : ∀ b o, h0.get? b = some o → h'.get? b = some o := fun b o e => (sb.2 b (fun z => by rw [z, hS0] at e; cases e)).trans (k1 b o e)
    refine wpAny_pure ⟨plainId_quiet F.plain_set_update_loop _, ih (i + 1) _ (by omega) lt (W.frame _ s' _ _ hst' htk fun b hb o e => ?_) k2 d' fun s'' mv2 d2 k3 => ?_⟩
    · exact (sb.2 b fun z => hSf (z ▸ hb)).trans e
    · refine hR s'' (Moved.trans W.gtrans ((mv.mono sub).then_heap htk fun b o hb e => ?_) mv2) d2 k3
      exact (sb.2 b fun z => hb (z ▸ List.mem_cons_self)).trans e
end
end Sk
set_option Elab.async false
set_option linter.all false
set_option maxRecDepth 100000
set_option maxHeartbeats 2000000
namespace Sk
open PySem PySem.Spec PyProof.Rows L2
theorem paired_at {α β : Type} {R : α → β → Prop} : ∀ {as : List α} {bs : List β} {i : Nat} {b : β}, Paired R as bs → bs[i]? = some b → ∃ a, as[i]? = some a ∧ R a b
  | _, _, _, _, .nil, e => by simp at e
  | _, _, 0, _, .cons r _, e => by simp at e; subst e; exact ⟨_, rfl, r⟩
  | _, _, i + 1, b, .cons _ t, e => by
    obtain ⟨a, h1, h2⟩ := paired_at (i := i) (b := b) t (by simpa using e)
    exact ⟨a, by simpa using h1, h2⟩
theorem paired_len {α β : Type} {R : α → β → Prop} : ∀ {as : List α} {bs : List β}, Paired R as bs → as.length = bs.length
  | _, _, .nil => rfl
  | _, _, .cons _ t => congrArg (· + 1) (paired_len t)
theorem take_next' {α : Type} {l : List α} {i : Nat} {x : α} (h : l[i]? = some x) : l.take (i + 1) = l.take i ++ [x] := by
  rw [List.take_succ, h]
  rfl
def GotK {α : Type} (ks : List α) (i : Nat) (L : List α) : Prop := L.Nodup ∧ L.length ≤ i ∧ ∀ k, k ∈ L ↔ k ∈ ks.take i
theorem GotK.next {α : Type} {ks L L' : List α} {i : Nat} {k : α} (g : GotK ks i L) (h : ks[i]? = some k) (hin : k ∈ L → L'.Perm L) (hout : k ∉ L → L'.Perm (k :: L)) : GotK ks (i + 1) L' := by
  obtain ⟨g1, g2, g3⟩ := g
  have tk := take_next' h
  by_cases c : k ∈ L
  · have p := hin c
    refine ⟨p.nodup_iff.mpr g1, by rw [p.length_eq]; omega, fun j => ?_⟩
    rw [p.mem_iff, g3, tk, List.mem_append, List.mem_singleton]
    exact ⟨Or.inl, fun z => z.elim id fun e => by rw [e]; exact (g3 k).mp c⟩
  · have p := hout c
    refine ⟨p.nodup_iff.mpr (List.nodup_cons.mpr ⟨c, g1⟩), by rw [p.length_eq, List.length_cons]; omega, fun j => ?_⟩
    rw [p.mem_iff, List.mem_cons, g3, tk, List.mem_append, List.mem_singleton]
    exact Or.comm
structure Walkable (w : World) (h : Heap) (a : Addr) (es : Array (Int × Value)) : Prop where
  ex : ∃ ep t, SetAt h a es ep t ∧ t.fits es.size = true ∧ Ris t.place.toList ∧ (w.params.followText "set-order" = true ∨ t.led = true)
  few : es.size < scanBound
section
variable {P : Program} {w : World} {A : Around} {E : Value → Shared → Prop} {s : Shared}
def FElem (e : Int × Value) (k : Key) : Prop := keyIs k e.2 = true ∧ e.1 = keyH w k ∧ e.2.scannable = true
structure SetF (w : World) (h : Heap) (a : Addr) (L : List Key) : Prop where
  ex : ∃ o es ep t, h.get? a = some o ∧ o.ExactSet ∧ o.data = .set es ep t ∧ Paired (fun k e => FElem (w := w) e k) L es.toList ∧ es.size < scanBound ∧ t.fits es.size = true ∧ Ris t.place.toList ∧ (w.params.followText "set-order" = true ∨ t.led = true)
theorem stored {h : Heap} {a : Addr} {o : Obj} {es es' : Array (Int × Value)} {ep : Nat} {t t' : SetTable} {L' : List Key} (ho : h.get? a = some o) (hex : o.ExactSet) (hd : o.data = .set es ep t)
    (hp : Paired (fun k e => FElem (w := w) e k) L' es'.toList) (hb : es'.size < scanBound) (hf : t'.fits es'.size = true) (hr : Ris t'.place.toList) (hl : w.params.followText "set-order" = true ∨ t'.led = true) :
    SetF w (h.update a (Obj.putSet es' t')) a L' := ⟨_, es', ep + 1, t', store_at ho hd, ⟨hex.1, hex.2.1, hex.2.2⟩, rfl, hp, hb, hf, hr, hl⟩
end
end Sk
set_option Elab.async false
set_option linter.all false
set_option maxRecDepth 100000
set_option maxHeartbeats 2000000
namespace Sk
open PySem PySem.Spec PyProof.Rows L2
structure SrtK (P : Program) (w : World) (h : Heap) (good : Value → Prop) where
  κ : PyProof.Rows.KeyKind
  kd : SortKind
  keys : ∀ v, good v → ∃ a, κ.keyOf v = some a
  lt : ∀ s2 : Shared, KeepT h s2.heap → PyProof.Rows.G.LtAt P w s2 κ kd
  kk : ∀ vs : List Value, (∀ v ∈ vs, good v) → 2 ≤ vs.length → ∀ (A : Around) (E : Value → Shared → Prop) (s2 : Shared) {Q : SortKind → Shared → Prop}, KeepT h s2.heap → Q kd s2 → wpAny (model P w) A (keyKind' vs.toArray) Q E s2
def SrtK.keep {P : Program} {w : World} {h h' : Heap} {good : Value → Prop} (S : SrtK P w h good) (k : KeepT h h') : SrtK P w h' good where
  κ := S.κ
  kd := S.kd
  keys := S.keys
  lt := fun s2 k2 => S.lt s2 (k.trans k2)
  kk := fun vs hv h2 A E s2 Q k2 hq => S.kk vs hv h2 A E s2 (k.trans k2) hq
def Upto (κ : PyProof.Rows.KeyKind) (u v : Value) : Prop := ∀ a b, κ.keyOf u = some a → κ.keyOf v = some b → κ.kle a b
section
variable {P : Program} {w : World} {A : Around} {E : Value → Shared → Prop} {s : Shared}
def srtI (P : Program) (w : World) (h : Heap) : SrtK P w h (fun v => ∃ i t, v = Value.int i t) where
  κ := PyProof.Rows.intKind
  kd := oneType'
  keys := fun v hv => by obtain ⟨i, t, rfl⟩ := hv; exact ⟨i, rfl⟩
  lt := fun s2 _ A E x y a b Q ha hb hq => intKind_oneLt P w A E s2 x y a b ha hb hq
  kk := fun vs hv h2 A E s2 Q _ hq => by
    have all : ∀ vs : List Value, (∀ v ∈ vs, ∃ i t, v = Value.int i t) → ∃ ns, IntsAre vs ns := by
      intro vs
      induction vs with
      | nil => intro _; exact ⟨[], .nil⟩
      | cons v r ih =>
        intro hv
        obtain ⟨i, t, rfl⟩ := hv v List.mem_cons_self
        obtain ⟨ns, hn⟩ := ih fun u hu => hv u (List.mem_cons_of_mem _ hu)
        exact ⟨_, .cons i t hn⟩
    obtain ⟨ns, hn⟩ := all vs hv
    match vs, h2, hn with
    | v1 :: v2 :: r, _, hn =>
      rw [keyKind_ints hn]
      exact wpAny_pure hq
def srtS (P : Program) (w : World) (h : Heap) : SrtK P w h (fun v => ∃ x t, v = Value.str x t) where
  κ := PyProof.Rows.strKind
  kd := oneType'
  keys := fun v hv => by obtain ⟨x, t, rfl⟩ := hv; exact ⟨_, rfl⟩
  lt := fun s2 _ A E x y a b Q ha hb hq => strKind_oneLt P w A E s2 x y a b ha hb hq
  kk := fun vs hv h2 A E s2 Q _ hq => by
    have all : ∀ vs : List Value, (∀ v ∈ vs, ∃ x t, v = Value.str x t) → ∃ ss, StrsAre vs ss := by
      intro vs
      induction vs with
      | nil => intro _; exact ⟨[], .nil⟩
      | cons v r ih =>
        intro hv
        obtain ⟨x, t, rfl⟩ := hv v List.mem_cons_self
        obtain ⟨ss, hs⟩ := ih fun u hu => hv u (List.mem_cons_of_mem _ hu)
        exact ⟨_, .cons x t hs⟩
    obtain ⟨ss, hs⟩ := all vs hv
    match vs, h2, hs with
    | v1 :: v2 :: r, _, hs =>
      rw [keyKind_strs hs]
      exact wpAny_pure hq
def kc : Key → Int ⊕ List Nat
  | .inl i => .inl i
  | .inr x => .inr x.cps.toList
end
end Sk
set_option Elab.async false
set_option linter.all false
set_option maxRecDepth 100000
set_option maxHeartbeats 2000000
namespace Sk
open PySem PySem.Spec PyProof.Rows L2
section
variable {P : Program} {w : World}
structure Elems (w : World) (h : Heap) (a : Addr) {α : Type} (R : α → Value → Prop) (ks L : List α) : Prop where
  ex : ∃ o es ep t, h.get? a = some o ∧ o.ExactSet ∧ o.data = .set es ep t ∧ t.fits es.size = true ∧ es.size < scanBound ∧ Ris t.place.toList ∧ (w.params.followText "set-order" = true ∨ t.led = true) ∧ Paired R L (es.toList.map (·.2))
  nd : L.Nodup
  mem : ∀ k, k ∈ L ↔ k ∈ ks
end
end Sk
set_option Elab.async false
set_option linter.all false
set_option maxRecDepth 100000
set_option maxHeartbeats 2000000
namespace Sk
open PySem PySem.Spec PyProof.Rows L2
theorem nodup_le {α : Type} [DecidableEq α] : ∀ (l D : List α), l.Nodup → (∀ x ∈ l, x ∈ D) → l.length ≤ D.length
  | [], _, _, _ => Nat.zero_le _
  | x :: l, D, h, hs => by
    rw [List.nodup_cons] at h
    have hx := hs x List.mem_cons_self
    have e := nodup_le l (D.erase x) h.2 fun y hy => (List.mem_erase_of_ne (fun z => h.1 (by rw [← z]; exact hy))).mpr (hs y (List.mem_cons_of_mem _ hy))
    rw [List.length_erase_of_mem hx] at e
    have := List.length_pos_of_mem hx
    rw [List.length_cons]
    omega
def slt (x y : Str) : Prop := x.cps.toList < y.cps.toList
section
variable {X : Cx} {pins : List (Addr × Obj)} {σ : L2.St} {H : Hp} {s : Shared}
end
section
variable {X : Cx} {a : Expr} {ta : TE} {p p2 q pos : Pos}
theorem lt_of_upto {ms : List Int} {us : List Value} (h : Paired (fun k v => keyIs k v = true) (ms.map Sum.inl) us) (hp : us.Pairwise (Upto PyProof.Rows.intKind)) (nd : (ms.map (Sum.inl : Int → Key)).Nodup) : ms.Pairwise (· < ·) := by
  induction us generalizing ms with
  | nil =>
    match ms, h with
    | [], _ => exact .nil
  | cons u us ih =>
    match ms, h with
    | m :: ms, .cons h1 t =>
      rw [List.map_cons, List.nodup_cons] at nd
      rw [List.pairwise_cons] at hp
      refine .cons (fun m' hm => ?_) (ih t hp.2 nd.2)
      obtain ⟨i, hi⟩ := List.getElem?_of_mem hm
      have hne : m ≠ m' := fun e => nd.1 (by rw [e]; exact List.mem_map.mpr ⟨m', hm, rfl⟩)
      have hi2 : (ms.map (Sum.inl : Int → Key))[i]? = some (Sum.inl m') := by rw [List.getElem?_map, hi] <;> rfl
      have il : i < us.length := by rw [← paired_len t, List.length_map]; exact (List.getElem?_eq_some_iff.mp hi).1
      obtain ⟨k2, hk2, r2⟩ := paired_at t (List.getElem?_eq_getElem il)
      rw [hi2] at hk2
      obtain rfl := Option.some.inj hk2
      have z := hp.1 us[i] (List.getElem_mem il)
      rcases keyIs_shape h1 with ⟨j, u1, e1, rfl⟩ | ⟨x, u1, e1, _⟩
      · rcases keyIs_shape r2 with ⟨j2, u2, e2, e3⟩ | ⟨x, u2, e2, _⟩
        · injection e1 with e1
          injection e2 with e2
          subst e1 e2
          have y := z m m' rfl (by rw [e3] <;> rfl)
          have y2 : decide (m' < m) = false := y
          have := of_decide_eq_false y2
          omega
        · cases e2
      · cases e1
theorem slt_of_upto {ms : List Str} {us : List Value} (h : Paired (fun k v => keyIs k v = true) (ms.map Sum.inr) us) (hp : us.Pairwise (Upto PyProof.Rows.strKind)) (nd : (ms.map (Sum.inr : Str → Key)).Nodup) : ms.Pairwise slt := by
  induction us generalizing ms with
  | nil =>
    match ms, h with
    | [], _ => exact .nil
  | cons u us ih =>
    match ms, h with
    | m :: ms, .cons h1 t =>
      rw [List.map_cons, List.nodup_cons] at nd
      rw [List.pairwise_cons] at hp
      refine .cons (fun m' hm => ?_) (ih t hp.2 nd.2)
      obtain ⟨i, hi⟩ := List.getElem?_of_mem hm
      have hne : m ≠ m' := fun e => nd.1 (by rw [e]; exact List.mem_map.mpr ⟨m', hm, rfl⟩)
      have hi2 : (ms.map (Sum.inr : Str → Key))[i]? = some (Sum.inr m') := by rw [List.getElem?_map, hi] <;> rfl
      have il : i < us.length := by rw [← paired_len t, List.length_map]; exact (List.getElem?_eq_some_iff.mp hi).1
      obtain ⟨k2, hk2, r2⟩ := paired_at t (List.getElem?_eq_getElem il)
      rw [hi2] at hk2
      obtain rfl := Option.some.inj hk2
      have z := hp.1 us[i] (List.getElem_mem il)
      rcases keyIs_shape h1 with ⟨j, u1, e1, _⟩ | ⟨x, u1, e1, rfl⟩
      · cases e1
      · rcases keyIs_shape r2 with ⟨j2, u2, e2, _⟩ | ⟨x2, u2, e2, e3⟩
        · cases e2
        · injection e1 with e1
          injection e2 with e2
          subst e1 e2
          have y := z m.cps.toList m'.cps.toList rfl (by rw [e3] <;> rfl)
          have y2 : decide (m'.cps.toList < m.cps.toList) = false := y
          have y3 := of_decide_eq_false y2
          rcases List.le_iff_lt_or_eq.mp (List.not_lt.mp y3) with c | c
          · exact c
          · refine absurd ?_ hne
            cases m
            cases m'
            congr 1
            exact Array.toList_inj.mp c
end
end Sk
set_option Elab.async false
set_option linter.all false
set_option maxRecDepth 100000
set_option maxHeartbeats 2000000
namespace Sk
open PySem PySem.Spec PyProof.Rows L2
open PySem.W (Datum DatumOrd Tup T3 T4)
open Evl (Ex)
def Gr (H H' : Hp) : Prop := ∀ a xs, Rd H a (.tup xs) → Rd H' a (.tup xs)
theorem Gr.refl (H : Hp) : Gr H H := fun _ _ h => h
theorem Gr.trans {H H1 H2 : Hp} (a : Gr H H1) (b : Gr H1 H2) : Gr H H2 := fun c xs h => b c xs (a c xs h)
theorem Gr.ex {H H' : Hp} (e : Ex H H') : Gr H H' := fun a xs h => Evl.ex_rd e h
def ExB (p : Addr) (H H' : Hp) : Prop := ∀ a o, a ≠ p → H a = some o → H' a = some o
theorem ExB.ex {p : Addr} {H H' : Hp} (e : Ex H H') : ExB p H H' := fun a o _ h => e a o h
theorem ExB.trans {p : Addr} {H H1 H2 : Hp} (a : ExB p H H1) (b : ExB p H1 H2) : ExB p H H2 := fun c o n h => b c o n (a c o n h)
theorem ExB.upd {p : Addr} {H : Hp} {o : HO} : ExB p H (upd H p o) := fun a u n h => by rw [upd_ne n]; exact h
def NoTup (o : HO) : Prop := match o with
  | .tup _ => False
  | .frz _ _ => False
  | _ => True
theorem ExB.gr {p : Addr} {H H' : Hp} {o : HO} (e : ExB p H H') (h : H p = some o) (n : NoTup o) : Gr H H' := fun a xs r => by
  have hne : a ≠ p := fun z => by
    subst z
    rcases r with r | ⟨ob, r⟩ <;> (rw [h] at r; cases r; exact n)
  rcases r with r | ⟨ob, r⟩
  · exact Or.inl (e a _ hne r)
  · exact Or.inr ⟨ob, e a _ hne r⟩
theorem Ex.fresh {H H' : Hp} {p : Addr} (e : Ex H H') (h : H' p = none) : H p = none := Evl.fresh_back e h
mutual
def imm : PyData → Bool
  | .none | .bool _ | .int _ | .str _ => true
  | .tuple xs => immAll xs
  | .list _ | .dict _ => false
def immAll : List PyData → Bool
  | [] => true
  | x :: xs => imm x && immAll xs
end
section
variable {K : PySem.W.Frag} {H H' : Hp}
theorem _root_.L2.SqT.gr {a : Addr} {xs : List V} (g : Gr H H') (h : SqT K H a xs) : SqT K H' a xs := h.elim (fun h => Or.inl (g a xs h)) Or.inr
mutual
theorem Dp.gr (g : Gr H H') : ∀ (d : PyData) {v : V}, imm d = true → Dp K H v d → Dp K H' v d
  | .none, _, _, h => by cases h; exact .non
  | .bool b, _, _, h => by cases h; exact .bl b
  | .int i, _, _, h => by cases h; exact .int i
  | .str x, _, _, h => by cases h; exact .str x
  | .list _, _, i, _ => by simp [imm] at i
  | .dict _, _, i, _ => by simp [imm] at i
  | .tuple ds, _, i, h => by
    cases h with
    | tup hs ha => exact .tup (SqT.gr g hs) (Dp.grAll g ds (by simpa [imm] using i) ha)
theorem Dp.grAll (g : Gr H H') : ∀ (ds : List PyData) {vs : List V}, immAll ds = true → DpAll K H vs ds → DpAll K H' vs ds
  | [], _, _, h => by cases h; exact .nil
  | d :: ds, _, i, h => by
    cases h with
    | cons h1 h2 =>
      have i' : imm d = true ∧ immAll ds = true := by simpa [immAll] using i
      exact .cons (Dp.gr g d i'.1 h1) (Dp.grAll g ds i'.2 h2)
end
mutual
theorem Dp.ex (e : Ex H H') : ∀ (d : PyData) {v : V}, Dp K H v d → Dp K H' v d
  | .none, _, h => by cases h; exact .non
  | .bool b, _, h => by cases h; exact .bl b
  | .int i, _, h => by cases h; exact .int i
  | .str x, _, h => by cases h; exact .str x
  | .list ds, _, h => by
    cases h with
    | lst hs ha => exact .lst (Evl.ex_l e hs) (Dp.exAll e ds ha)
  | .tuple ds, _, h => by
    cases h with
    | tup hs ha => exact .tup (Evl.ex_t e hs) (Dp.exAll e ds ha)
  | .dict _, _, h => by
    cases h with
    | emp q => exact .emp (e _ _ q)
theorem Dp.exAll (e : Ex H H') : ∀ (ds : List PyData) {vs : List V}, DpAll K H vs ds → DpAll K H' vs ds
  | [], _, h => by cases h; exact .nil
  | d :: ds, _, h => by
    cases h with
    | cons h1 h2 => exact .cons (Dp.ex e d h1) (Dp.exAll e ds h2)
end
theorem DpAll.append {vs ws : List V} {ds es : List PyData} (a : DpAll K H vs ds) (b : DpAll K H ws es) : DpAll K H (vs ++ ws) (ds ++ es) := by
  induction ds generalizing vs with
  | nil => cases a; exact b
  | cons d ds ih =>
    cases a with
    | cons h1 h2 => exact .cons h1 (ih h2)
theorem DpAll.at {vs : List V} {ds : List PyData} {i : Nat} {d : PyData} (a : DpAll K H vs ds) (h : ds[i]? = some d) : ∃ v, vs[i]? = some v ∧ Dp K H v d := by
  induction ds generalizing vs i with
  | nil => simp at h
  | cons e ds ih =>
    cases a with
    | cons h1 h2 =>
      cases i with
      | zero => simp at h; subst h; exact ⟨_, rfl, h1⟩
      | succ i =>
        obtain ⟨v, e1, e2⟩ := ih h2 (by simpa using h)
        exact ⟨v, by simpa using e1, e2⟩
theorem DpAll.at' {vs : List V} {ds : List PyData} {i : Nat} {v : V} (a : DpAll K H vs ds) (h : vs[i]? = some v) : ∃ d, ds[i]? = some d ∧ Dp K H v d := by
  induction ds generalizing vs i with
  | nil => cases a; simp at h
  | cons e ds ih =>
    cases a with
    | cons h1 h2 =>
      cases i with
      | zero => simp at h; subst h; exact ⟨_, rfl, h1⟩
      | succ i =>
        obtain ⟨v, e1, e2⟩ := ih h2 (by simpa using h)
        exact ⟨v, by simpa using e1, e2⟩
theorem DpAll.len {vs : List V} {ds : List PyData} (a : DpAll K H vs ds) : vs.length = ds.length := by
  induction ds generalizing vs with
  | nil => cases a; rfl
  | cons e ds ih =>
    cases a with
    | cons h1 h2 => rw [List.length_cons, List.length_cons, ih h2]
theorem DpAll.set {vs : List V} {ds : List PyData} {i : Nat} {v : V} {d : PyData} (a : DpAll K H vs ds) (h : Dp K H v d) : DpAll K H (vs.set i v) (ds.set i d) := by
  induction ds generalizing vs i with
  | nil => cases a; exact .nil
  | cons e ds ih =>
    cases a with
    | cons h1 h2 =>
      cases i with
      | zero => exact .cons h h2
      | succ i => exact .cons h1 (ih h2)
theorem DpAll.take {vs : List V} {ds : List PyData} (a : DpAll K H vs ds) (n : Nat) : DpAll K H (vs.take n) (ds.take n) := by
  induction ds generalizing vs n with
  | nil => cases a; simp; exact .nil
  | cons e ds ih =>
    cases a with
    | cons h1 h2 =>
      cases n with
      | zero => exact .nil
      | succ n => exact .cons h1 (ih h2 n)
theorem DpAll.drop {vs : List V} {ds : List PyData} (a : DpAll K H vs ds) (n : Nat) : DpAll K H (vs.drop n) (ds.drop n) := by
  induction ds generalizing vs n with
  | nil => cases a; simp; exact .nil
  | cons e ds ih =>
    cases a with
    | cons h1 h2 =>
      cases n with
      | zero => exact .cons h1 h2
      | succ n => exact ih h2 n
theorem dpAll_ints : ∀ ns : List Int, DpAll K H (ns.map V.int) (ns.map PyData.int)
  | [] => .nil
  | n :: ns => .cons (.int n) (dpAll_ints ns)
theorem ints_dpAll : ∀ {ns : List Int} {vs : List V}, DpAll K H vs (ns.map PyData.int) → vs = ns.map V.int
  | [], _, h => by cases h; rfl
  | n :: ns, _, h => by
    cases h with
    | cons h1 h2 =>
      cases h1
      rw [ints_dpAll h2]
      rfl
theorem strs_dpAll : ∀ {ns : List Str} {vs : List V}, DpAll K H vs (ns.map PyData.str) → vs = ns.map V.str
  | [], _, h => by cases h; rfl
  | n :: ns, _, h => by
    cases h with
    | cons h1 h2 =>
      cases h1
      rw [strs_dpAll h2]
      rfl
end
class Im (α : Type) [DecidableEq α] [Datum α] : Prop where
  im : ∀ a : α, imm (Datum.toD a) = true
theorem immAll_map {α : Type} [DecidableEq α] [Datum α] [Im α] : ∀ xs : List α, immAll (xs.map Datum.toD) = true
  | [] => rfl
  | x :: xs => by rw [List.map_cons, immAll, Im.im x, immAll_map xs]; rfl
instance : Im Int := ⟨fun _ => rfl⟩
instance : Im Bool := ⟨fun _ => rfl⟩
instance : Im Str := ⟨fun _ => rfl⟩
instance : Im Unit := ⟨fun _ => rfl⟩
section
variable {α β γ δ : Type} [DecidableEq α] [Datum α] [Im α] [DecidableEq β] [Datum β] [Im β] [DecidableEq γ] [Datum γ] [Im γ] [DecidableEq δ] [Datum δ] [Im δ]
instance : Im (α × β) := ⟨fun p => by show imm (.tuple [_, _]) = true; simp only [imm, immAll, Im.im]; rfl⟩
instance : Im (Tup α) := ⟨fun t => by show imm (.tuple _) = true; simp only [imm]; exact immAll_map t.items⟩
instance : Im (T3 α β γ) := ⟨fun p => by show imm (.tuple [_, _, _]) = true; simp only [imm, immAll, Im.im]; rfl⟩
instance : Im (T4 α β γ δ) := ⟨fun p => by show imm (.tuple [_, _, _, _]) = true; simp only [imm, immAll, Im.im]; rfl⟩
end
instance {α : Type} [DecidableEq α] [Datum α] [PySem.W.SomeDatum α] [Im α] : Im (Option α) := ⟨fun o => by cases o with
  | none => rfl
  | some a => exact Im.im a⟩
def IsD {α : Type} [DecidableEq α] [Datum α] (K : PySem.W.Frag) (H : Hp) (v : V) (a : α) : Prop := Dp K H v (Datum.toD a)
def LsD {α : Type} [DecidableEq α] [Datum α] (K : PySem.W.Frag) (H : Hp) (p : Addr) (xs : List α) : Prop := ∃ vs, H p = some (.lst vs) ∧ DpAll K H vs (xs.map Datum.toD)
section
variable {α β : Type} [DecidableEq α] [Datum α] [DecidableEq β] [Datum β] {K : PySem.W.Frag} {H H' : Hp} {v : V} {p : Addr} {xs : List α}
theorem IsD.gr [Im α] {a : α} (g : Gr H H') (h : IsD K H v a) : IsD K H' v a := Dp.gr g _ (Im.im a) h
theorem IsD.ex {a : α} (e : Ex H H') (h : IsD K H v a) : IsD K H' v a := Dp.ex e _ h
theorem LsD.ex (e : Ex H H') (h : LsD K H p xs) : LsD K H' p xs := by
  obtain ⟨vs, h1, h2⟩ := h
  exact ⟨vs, e _ _ h1, Dp.exAll e _ h2⟩
theorem LsD.isD (h : LsD K H p xs) : IsD K H (.ref p) xs := by
  obtain ⟨vs, h1, h2⟩ := h
  exact .lst (Or.inl (Or.inl h1)) h2
theorem IsD.intV {i : Int} (h : IsD K H v i) : v = .int i := by cases h; rfl
theorem IsD.strV {x : Str} (h : IsD K H v x) : v = .str x := by cases h; rfl
theorem IsD.blV {b : Bool} (h : IsD K H v b) : v = .bl b := by cases h; rfl
theorem isD_int (i : Int) : IsD K H (.int i) i := .int i
theorem isD_str (x : Str) : IsD K H (.str x) x := .str x
theorem isD_bl (b : Bool) : IsD K H (.bl b) b := .bl b
theorem isD_non : IsD K H .non () := .non
theorem IsD.tup {t : Tup α} (h : IsD K H v t) : ∃ a vs, v = .ref a ∧ SqT K H a vs ∧ DpAll K H vs (t.items.map Datum.toD) := by
  cases h with
  | tup hs ha => exact ⟨_, _, rfl, hs, ha⟩
theorem IsD.pair {t : α × β} (h : IsD K H v t) : ∃ a x y, v = .ref a ∧ SqT K H a [x, y] ∧ IsD K H x t.1 ∧ IsD K H y t.2 := by
  cases h with
  | tup hs ha =>
    cases ha with
    | cons h1 h2 =>
      cases h2 with
      | cons h3 h4 =>
        cases h4
        exact ⟨_, _, _, rfl, hs, h1, h3⟩
theorem IsD.lst (h : IsD K H v xs) : ∃ a vs, v = .ref a ∧ SqL K H a vs ∧ DpAll K H vs (xs.map Datum.toD) := by
  cases h with
  | lst hs ha => exact ⟨_, _, rfl, hs, ha⟩
end
section
variable {α : Type} [DecidableEq α] [Datum α] {X : Cx}
def rLtA (α : Type) [DecidableEq α] [DatumOrd α] (K : PySem.W.Frag) : R2 := fun x y H Q => ∃ a b : α, IsD K H x a ∧ IsD K H y b ∧ Q (.bl (DatumOrd.lt a b)) H
theorem op_ltA {α : Type} [DecidableEq α] [DatumOrd α] (hu : X.A.units + Datum.depth α < cLine) : OpR X (compareOp .Lt) (rLtA α X.K) := by
  intro pins s σ H x y v u Q I rx ry h
  obtain ⟨a, b, ha, hb, q⟩ := h
  exact PySem.W.lt_datum (x := a) (y := b) (Dp.reads I _ _ _ ha rx) (Dp.reads I _ _ _ hb ry) hu ⟨.bl _, H, I, rfl, q⟩
end
end Sk
set_option Elab.async false
set_option linter.all false
set_option maxRecDepth 100000
set_option maxHeartbeats 2000000
namespace Sk
open PySem PySem.Spec PyProof.Rows L2
open PySem.W (Datum DatumOrd Tup T3 T4)
class OrdL (α : Type) [DecidableEq α] [DatumOrd α] : Prop where
  tri : ∀ a b : α, DatumOrd.lt a b = false → DatumOrd.lt b a = false → a = b
section
variable {α β γ : Type} [DecidableEq α] [DatumOrd α] [DecidableEq β] [DatumOrd β] [DecidableEq γ] [DatumOrd γ]
theorem lt_irr (a : α) : DatumOrd.lt a a = false := by rw [← DatumOrd.lt_eq]; exact PySem.W.dataLt_self _
theorem lt_trans' {a b c : α} (h : DatumOrd.lt a b = true) (h' : DatumOrd.lt b c = true) : DatumOrd.lt a c = true := by
  rw [← DatumOrd.lt_eq] at h h' ⊢
  exact lex_trans _ _ _ h h'
theorem lt_neg {a b c : α} (h : DatumOrd.lt a c = true) : DatumOrd.lt a b = true ∨ DatumOrd.lt b c = true := by
  rw [← DatumOrd.lt_eq] at h
  rw [← DatumOrd.lt_eq, ← DatumOrd.lt_eq]
  exact lex_negTrans _ _ _ h
theorem lt_asymm' {a b : α} (h : DatumOrd.lt a b = true) : DatumOrd.lt b a = false := by
  cases e : DatumOrd.lt b a with
  | false => rfl
  | true => exact absurd (lt_trans' h e) (by rw [lt_irr]; decide)
instance : OrdL Int := ⟨fun a b h h' => by
  have h1 := of_decide_eq_false (show decide (a < b) = false from h)
  have h2 := of_decide_eq_false (show decide (b < a) = false from h')
  omega⟩
instance : OrdL Str := ⟨fun a b h h' => by
  have h1 := of_decide_eq_false (show decide (a.cps.toList < b.cps.toList) = false from h)
  have h2 := of_decide_eq_false (show decide (b.cps.toList < a.cps.toList) = false from h')
  exact PySem.W.str_of_cps (List.le_antisymm (List.not_lt.mp h2) (List.not_lt.mp h1))⟩
instance : OrdL Bool := ⟨fun a b h h' => by
  have h1 : (!a && b) = false := h
  have h2 : (!b && a) = false := h'
  cases a <;> cases b <;> first | rfl | simp at h1 h2⟩
instance [OrdL α] [OrdL β] : OrdL (α × β) := ⟨fun p q h h' => by
  have h1 : (if p.1 = q.1 then DatumOrd.lt p.2 q.2 else DatumOrd.lt p.1 q.1) = false := h
  have h2 : (if q.1 = p.1 then DatumOrd.lt q.2 p.2 else DatumOrd.lt q.1 p.1) = false := h'
  by_cases e : p.1 = q.1
  · rw [if_pos e] at h1
    rw [if_pos e.symm] at h2
    exact Prod.ext e (OrdL.tri _ _ h1 h2)
  · rw [if_neg e] at h1
    rw [if_neg (fun z => e z.symm)] at h2
    exact absurd (OrdL.tri _ _ h1 h2) e⟩
theorem listLt_tri [OrdL α] : ∀ xs ys : List α, PySem.W.listLt xs ys = false → PySem.W.listLt ys xs = false → xs = ys
  | [], [], _, _ => rfl
  | [], _ :: _, h, _ => by simp [PySem.W.listLt] at h
  | _ :: _, [], _, h => by simp [PySem.W.listLt] at h
  | x :: xs, y :: ys, h, h' => by
    rw [PySem.W.listLt] at h h'
    by_cases e : x = y
    · rw [if_pos e] at h
      rw [if_pos e.symm] at h'
      rw [e, listLt_tri xs ys h h']
    · rw [if_neg e] at h
      rw [if_neg (fun z => e z.symm)] at h'
      exact absurd (OrdL.tri _ _ h h') e
instance [OrdL α] : OrdL (Tup α) := ⟨fun p q h h' => by
  have e := listLt_tri p.items q.items h h'
  cases p
  cases q
  exact congrArg Tup.mk e⟩
instance [OrdL α] : OrdL (List α) := ⟨fun p q h h' => listLt_tri p q h h'⟩
instance [OrdL α] [OrdL β] [OrdL γ] : OrdL (T3 α β γ) := ⟨fun p q h h' => by
  have h1 : (if p.a = q.a then (if p.b = q.b then (DatumOrd.lt p.c q.c) else DatumOrd.lt p.b q.b) else DatumOrd.lt p.a q.a) = false := h
  have h2 : (if q.a = p.a then (if q.b = p.b then (DatumOrd.lt q.c p.c) else DatumOrd.lt q.b p.b) else DatumOrd.lt q.a p.a) = false := h'
  by_cases e : p.a = q.a
  · rw [if_pos e] at h1
    rw [if_pos e.symm] at h2
    by_cases e2 : p.b = q.b
    · rw [if_pos e2] at h1
      rw [if_pos e2.symm] at h2
      exact T3.same e e2 (OrdL.tri _ _ h1 h2)
    · rw [if_neg e2] at h1
      rw [if_neg (fun z => e2 z.symm)] at h2
      exact absurd (OrdL.tri _ _ h1 h2) e2
  · rw [if_neg e] at h1
    rw [if_neg (fun z => e z.symm)] at h2
    exact absurd (OrdL.tri _ _ h1 h2) e⟩
def Rising (xs : List α) : Prop := xs.Pairwise fun a b => DatumOrd.lt a b = true
theorem Rising.nodup {xs : List α} (h : Rising xs) : xs.Nodup := h.imp fun {a b} h e => by rw [e, lt_irr] at h; cases h
theorem Rising.eq : ∀ {xs ys : List α}, Rising xs → Rising ys → (∀ a, a ∈ xs ↔ a ∈ ys) → xs = ys
  | [], [], _, _, _ => rfl
  | [], y :: ys, _, _, h => absurd ((h y).mpr List.mem_cons_self) List.not_mem_nil
  | x :: xs, [], _, _, h => absurd ((h x).mp List.mem_cons_self) List.not_mem_nil
  | x :: xs, y :: ys, hx, hy, h => by
    have hx' := List.pairwise_cons.mp hx
    have hy' := List.pairwise_cons.mp hy
    have e : x = y := by
      rcases List.mem_cons.mp ((h x).mp List.mem_cons_self) with e | h1
      · exact e
      · rcases List.mem_cons.mp ((h y).mpr List.mem_cons_self) with e | h2
        · exact e.symm
        · have z1 := hy'.1 x h1
          have z2 := hx'.1 y h2
          rw [lt_asymm' z1] at z2
          cases z2
    subst e
    refine congrArg (x :: ·) (Rising.eq hx'.2 hy'.2 fun a => ⟨fun ha => ?_, fun ha => ?_⟩)
    · rcases List.mem_cons.mp ((h a).mp (List.mem_cons_of_mem _ ha)) with e | z
      · subst e
        exact absurd (hx'.1 a ha) (by rw [lt_irr]; decide)
      · exact z
    · rcases List.mem_cons.mp ((h a).mpr (List.mem_cons_of_mem _ ha)) with e | z
      · subst e
        exact absurd (hy'.1 a ha) (by rw [lt_irr]; decide)
      · exact z
def leD (a b : α) : Bool := !DatumOrd.lt b a
def sortL (xs : List α) : List α := xs.mergeSort leD
theorem leD_trans (a b c : α) (h1 : leD a b = true) (h2 : leD b c = true) : leD a c = true := by
  unfold leD at *
  cases e : DatumOrd.lt c a with
  | false => rfl
  | true =>
    rcases lt_neg (b := b) e with z | z
    · rw [z] at h2; cases h2
    · rw [z] at h1; cases h1
theorem leD_total (a b : α) : (leD a b || leD b a) = true := by
  unfold leD
  cases e : DatumOrd.lt b a with
  | false => rfl
  | true => rw [lt_asymm' e]; rfl
theorem sortL_perm (xs : List α) : (sortL xs).Perm xs := List.mergeSort_perm xs leD
theorem sortL_up (xs : List α) : (sortL xs).Pairwise fun a b => leD a b = true := List.pairwise_mergeSort (fun a b c => leD_trans a b c) (fun a b => leD_total a b) xs
theorem sortL_len (xs : List α) : (sortL xs).length = xs.length := (sortL_perm xs).length_eq
theorem mem_sortL {xs : List α} {a : α} : a ∈ sortL xs ↔ a ∈ xs := (sortL_perm xs).mem_iff
theorem rising_of [OrdL α] {xs : List α} (h : xs.Pairwise fun a b => leD a b = true) (n : xs.Nodup) : Rising xs := by
  induction xs with
  | nil => exact .nil
  | cons x xs ih =>
    have h' := List.pairwise_cons.mp h
    have n' := List.nodup_cons.mp n
    refine List.pairwise_cons.mpr ⟨fun y hy => ?_, ih h'.2 n'.2⟩
    cases e : DatumOrd.lt x y with
    | true => rfl
    | false =>
      have z : leD x y = true := h'.1 y hy
      unfold leD at z
      have z2 : DatumOrd.lt y x = false := by simpa using z
      exact absurd (OrdL.tri _ _ e z2) fun q => n'.1 (by rw [q]; exact hy)
theorem sortL_rising [OrdL α] {xs : List α} (n : xs.Nodup) : Rising (sortL xs) := rising_of (sortL_up xs) ((sortL_perm xs).nodup_iff.mpr n)
def once : List α → List α
  | [] => []
  | x :: xs => if x ∈ xs then once xs else x :: once xs
theorem mem_once : ∀ {xs : List α} {a : α}, a ∈ once xs ↔ a ∈ xs
  | [], _ => Iff.rfl
  | x :: xs, a => by
    rw [once]
    by_cases c : x ∈ xs
    · rw [if_pos c, mem_once, List.mem_cons]
      exact ⟨Or.inr, fun z => z.elim (fun e => by rw [e]; exact c) id⟩
    · rw [if_neg c, List.mem_cons, List.mem_cons, mem_once]
theorem once_nodup : ∀ xs : List α, (once xs).Nodup
  | [] => .nil
  | x :: xs => by
    rw [once]
    by_cases c : x ∈ xs
    · rw [if_pos c]; exact once_nodup xs
    · rw [if_neg c]; exact List.nodup_cons.mpr ⟨fun z => c (mem_once.mp z), once_nodup xs⟩
def sortU (xs : List α) : List α := sortL (once xs)
theorem mem_sortU {xs : List α} {a : α} : a ∈ sortU xs ↔ a ∈ xs := mem_sortL.trans mem_once
theorem sortU_rising [OrdL α] (xs : List α) : Rising (sortU xs) := sortL_rising (once_nodup xs)
theorem once_len : ∀ xs : List α, (once xs).length ≤ xs.length
  | [] => Nat.le_refl _
  | x :: xs => by
    rw [once]
    split
    · exact Nat.le_succ_of_le (once_len xs)
    · exact Nat.succ_le_succ (once_len xs)
theorem sortU_len (xs : List α) : (sortU xs).length ≤ xs.length := by
  unfold sortU
  rw [sortL_len]
  exact once_len xs
end
end Sk
set_option Elab.async false
set_option linter.all false
set_option maxRecDepth 100000
set_option maxHeartbeats 2000000
namespace Sk
open PySem PySem.Spec PyProof.Rows L2
open PySem.W (Datum DatumOrd Tup T3 T4)
open Evl (Ex Ev EvT EvA)
def EV (te : TE) (σ : L2.St) (H : Hp) (P : Hp → V → Hp → Prop) : Prop := ∀ H1, Ex H H1 → ∀ Q : VK, (∀ v H2, Ex H1 H2 → P H1 v H2 → Q v H2) → te σ H1 Q
abbrev ED {α : Type} [DecidableEq α] [Datum α] (K : PySem.W.Frag) (te : TE) (σ : L2.St) (H : Hp) (a : α) : Prop := EV te σ H fun _ v H2 => IsD K H2 v a
abbrev EL {α : Type} [DecidableEq α] [Datum α] (K : PySem.W.Frag) (te : TE) (σ : L2.St) (H : Hp) (xs : List α) : Prop := EV te σ H fun H1 v H2 => ∃ p, v = .ref p ∧ H1 p = none ∧ LsD K H2 p xs
section
variable {α β γ : Type} [DecidableEq α] [Datum α] [DecidableEq β] [Datum β] [DecidableEq γ] [Datum γ] {K : PySem.W.Frag} {σ : L2.St} {H H' Hk : Hp} {te ta tb tc : TE} {t u : TT} {v : V} {P : Hp → V → Hp → Prop}
theorem EV.mono (e : Ex H H') (h : EV te σ H P) : EV te σ H' P := fun H1 a Q q => h H1 (e.trans a) Q q
theorem EV.imp {P' : Hp → V → Hp → Prop} (h : EV te σ H P) (k : ∀ H1 v H2, Ex H H1 → Ex H1 H2 → P H1 v H2 → P' H1 v H2) : EV te σ H P' := fun H1 e Q q => h H1 e Q fun v H2 e2 p => q v H2 e2 (k H1 v H2 e e2 p)
theorem EV.go {Q : VK} (h : EV te σ H P) (q : ∀ v H2, Ex H H2 → P H v H2 → Q v H2) : te σ H Q := h H (Ex.refl H) Q q
theorem Ev.ev (h : Ev te σ H v) : EV te σ H fun _ x _ => x = v := fun H1 e Q q => h H1 e Q fun H2 e2 => q v H2 e2 rfl
theorem EV.exact (h : EV te σ H fun _ x _ => x = v) : Ev te σ H v := fun H1 e Q q => h H1 e Q fun x H2 e2 z => by rw [z]; exact q H2 e2
theorem Ev.int {i : Int} (h : Ev te σ H (.int i)) : ED K te σ H i := (Ev.ev h).imp fun _ _ _ _ _ z => by rw [z]; exact isD_int i
theorem Ev.str {i : Str} (h : Ev te σ H (.str i)) : ED K te σ H i := (Ev.ev h).imp fun _ _ _ _ _ z => by rw [z]; exact isD_str i
theorem Ev.bl {i : Bool} (h : Ev te σ H (.bl i)) : ED K te σ H i := (Ev.ev h).imp fun _ _ _ _ _ z => by rw [z]; exact isD_bl i
theorem Ev.non (h : Ev te σ H .non) : ED K te σ H () := (Ev.ev h).imp fun _ _ _ _ _ z => by rw [z]; exact isD_non
theorem ED.int {i : Int} (h : ED K te σ H i) : Ev te σ H (.int i) := (h.imp fun _ _ _ _ _ z => IsD.intV z).exact
theorem ED.str {i : Str} (h : ED K te σ H i) : Ev te σ H (.str i) := (h.imp fun _ _ _ _ _ z => IsD.strV z).exact
theorem ED.bl {i : Bool} (h : ED K te σ H i) : Ev te σ H (.bl i) := (h.imp fun _ _ _ _ _ z => IsD.blV z).exact
theorem ED.to {a b : α} (h : ED K te σ H a) (e : a = b) : ED K te σ H b := by rw [← e]; exact h
theorem EL.to {a b : List α} (h : EL K te σ H a) (e : a = b) : EL K te σ H b := by rw [← e]; exact h
theorem EL.d {xs : List α} (h : EL K te σ H xs) : ED K te σ H xs := h.imp fun _ _ _ _ _ z => by
  obtain ⟨p, rfl, _, z⟩ := z
  exact LsD.isD z
end
end Sk
set_option Elab.async false
set_option linter.all false
set_option maxRecDepth 100000
set_option maxHeartbeats 2000000
namespace Sk
open PySem PySem.Spec PyProof.Rows L2
open Evl (Ex)
mutual
def keyN : PyData → NestedKey
  | .none => .none
  | .bool b => .num (if b = true then 1 else 0)
  | .int i => .num i
  | .str x => .text x
  | .tuple ds => .tup (keyNs ds)
  | .list _ => .none
  | .dict _ => .none
def keyNs : List PyData → List NestedKey
  | [] => []
  | d :: ds => keyN d :: keyNs ds
end
def KeyOk (d : PyData) : Prop := imm d = true ∧ (keyN d).depth ≤ 8
abbrev GEnt := NestedKey × V × V
abbrev GOb := Obj × List GEnt
def GDo (w : World) (p : Addr) (q : GOb) : HO := .ext fun h => h.get? p = some q.1 ∧ (p == sysModules) = false ∧ q.2.length ≤ sizeLine ∧ (q.2.map (·.1)).Nodup ∧ ∃ es ep, q.1.ExactDict ∧ q.1.data = .dict es ep ∧
  Paired (fun (x : GEnt) (e : DictEntry) => e.hash = x.1.hash w ∧ RelV x.2.1 e.key ∧ RelV x.2.2 e.val) q.2 es.toList
structure GRel (K : PySem.W.Frag) (G : Hp) (xs : List GEnt) (kvs : List (PyData × PyData)) : Prop where
  ks : xs.map (·.1) = kvs.map fun kv => keyN kv.1
  ok : ∀ kv ∈ kvs, KeyOk kv.1
  kv : DpAll K G (xs.map (·.2.1)) (kvs.map (·.1))
  vv : DpAll K G (xs.map (·.2.2)) (kvs.map (·.2))
theorem GRel.ex {K : PySem.W.Frag} {G G' : Hp} {xs : List GEnt} {kvs : List (PyData × PyData)} (e : Ex G G') (h : GRel K G xs kvs) : GRel K G' xs kvs := ⟨h.ks, h.ok, Dp.exAll e _ h.kv, Dp.exAll e _ h.vv⟩
abbrev Tbs := List (Addr × Str)
inductive PV where
  | dat (d : PyData)
  | own (ds : List PyData)
  | dct (kvs : List (Key × PyData))
  | dcg (kvs : List (PyData × PyData))
  | dgf (kvs : List (PyData × PyData))
  | abs (R : PySem.W.Frag → Hp → V → Prop)
  | drw
  | val (v : V)
  | byr (ds : List PyData)
def PV.mut : PV → Bool
  | .own _ => true
  | .dct _ => true
  | .dcg _ => true
  | .byr _ => true
  | _ => false
def PV.frz : PV → Option PyData
  | .dat d => some d
  | .own ds => some (.list ds)
  | _ => none
structure Sg where
  sl : List (Option PV)
  n : Nat
@[simp] def Sg.put (s : Sg) (i : Nat) (p : PV) : Sg := ⟨s.sl.set i (some p), s.n⟩
@[simp] def Sg.off (s : Sg) (i : Nat) : Sg := ⟨s.sl.set i none, s.n⟩
structure Ent where
  on : Bool
  m : Addr
  l : Addr
  c : Addr
  F : Hp
  O : Addr → Prop
  M : Addr → Prop
  r : Addr
  G : Hp
structure Fr where
  on : Bool
  m : Addr
  l : Addr
  c : Addr
  F : Hp
  O : Addr → Prop
  M : Addr → Prop
  r : Addr
  w : World
  T : Tbs
  e : Option Ent := none
def Fr.tab (f : Fr) (a : Addr) : Prop := ∃ q, (a, q) ∈ f.T
def TabOk (G H : Hp) (P : Addr) (q : Str) : Prop := ∃ ps : Array Value, H P = some (.tbl ps) ∧ TriplesOk ps.toList ∧ ∀ (pos : Pos) (cv : Value), codeAmong pos ps.toList = some cv → ∃ c, cv = .ref c ∧ G c = some (LamX.CodeO c q)
theorem TabOk.keep {G G' H H' : Hp} {P : Addr} {q : Str} (h : TabOk G H P q) (g : ∀ b o, (∀ xs, o ≠ .lst xs) → G b = some o → G' b = some o) (e : H' P = H P) : TabOk G' H' P q := by
  obtain ⟨ps, h1, h2, h3⟩ := h
  refine ⟨ps, by rw [e]; exact h1, h2, fun pos cv hc => ?_⟩
  obtain ⟨c, e1, e2⟩ := h3 pos cv hc
  exact ⟨c, e1, g _ _ (fun xs z => by unfold LamX.CodeO at z; cases z) e2⟩
theorem codeO_ne {c : Addr} {q : Str} {w : World} {g : GOb} : LamX.CodeO c q ≠ GDo w c g := fun e => by
  unfold LamX.CodeO GDo at e
  injection e with e
  have h0 := congrFun e ((⟨Array.replicate c default, {}⟩ : Heap).push { cls := .type "code", data := .fields #[.none, .str q 0] })
  have sz : (⟨Array.replicate c default, {}⟩ : Heap).objs.size = c := by simp
  have hg := Heap.get?_push_size (⟨Array.replicate c default, {}⟩ : Heap) (o := { cls := .type "code", data := .fields #[.none, .str q 0] }) rfl
  rw [sz] at hg
  have h1 := h0.mp ⟨_, _, 0, hg, rfl, rfl⟩
  obtain ⟨k1, _, _, _, es, ep, _, k2, _⟩ := h1
  rw [hg] at k1
  rw [← Option.some.inj k1] at k2
  cases k2
theorem TabOk.keep2 {G G' H H' : Hp} {P : Addr} {q : Str} (h : TabOk G H P q) (g : ∀ b o, (∀ xs, o ≠ .lst xs) → (∀ w g, o ≠ GDo w b g) → G b = some o → G' b = some o) (e : H' P = H P) : TabOk G' H' P q := by
  obtain ⟨ps, h1, h2, h3⟩ := h
  refine ⟨ps, by rw [e]; exact h1, h2, fun pos cv hc => ?_⟩
  obtain ⟨c, e1, e2⟩ := h3 pos cv hc
  exact ⟨c, e1, g _ _ (fun xs z => by unfold LamX.CodeO at z; cases z) (fun w g z => codeO_ne z) e2⟩
def DrwOk (m l c : Addr) (n : Nat) (H : Hp) : Prop := ∃ (k : Int) (cs ls : List Int) (rest : List (Key × V)),
  H m = some (.dK ([(.inr "cells", .ref c), (.inr "left", .ref l), (.inr "at", .int k)] ++ rest)) ∧ 0 ≤ k ∧ k ≤ n ∧ H c = some (.lst (cs.map V.int)) ∧ cs.length = 64 ∧ (∀ x ∈ cs, 0 ≤ x ∧ x < 2147483647) ∧
  H l = some (.lst (ls.map V.int)) ∧ ls.length ≤ 63 ∧ (∀ x ∈ ls, 0 ≤ x) ∧ (∃ r : Int, rest = [((.inr "room" : Key), V.int r)]) ∧ c ≠ l
theorem DrwOk.keep {m l c : Addr} {n : Nat} {H H' : Hp} (h : DrwOk m l c n H) (e1 : H' m = H m) (e2 : H' l = H l) (e3 : H' c = H c) : DrwOk m l c n H' := by
  obtain ⟨k, cs, ls, rest, h1, h2⟩ := h
  refine ⟨k, cs, ls, rest, ?_, ?_⟩
  · rw [e1]; exact h1
  · rw [e2, e3]; exact h2
theorem DrwOk.more {m l c : Addr} {n n' : Nat} {H : Hp} (h : DrwOk m l c n H) (e : n ≤ n') : DrwOk m l c n' H := by
  obtain ⟨k, cs, ls, rest, h1, h2, h3, h4⟩ := h
  exact ⟨k, cs, ls, rest, h1, h2, by omega, h4⟩
def VR (K : PySem.W.Frag) (f : Fr) (G H : Hp) : PV → V → Prop
  | .dat d, v => Dp K G v d
  | .own ds, v => ∃ p vs, v = .ref p ∧ H p = some (.lst vs) ∧ G p = none ∧ ¬ f.O p ∧ (f.F p = none ∨ f.M p) ∧ DpAll K G vs ds
  | .dct kvs, v => ∃ p ws, v = .ref p ∧ H p = some (.dK ws) ∧ G p = none ∧ ¬ f.O p ∧ (f.F p = none ∨ f.M p) ∧ ws.map (·.1) = kvs.map (·.1) ∧ DpAll K G (ws.map (·.2)) (kvs.map (·.2))
  | .dcg kvs, v => ∃ p xs, v = .ref p ∧ H p = some (GDo f.w p xs) ∧ G p = none ∧ ¬ f.O p ∧ (f.F p = none ∨ f.M p) ∧ GRel K G xs.2 kvs
  | .dgf kvs, v => ∃ p xs, v = .ref p ∧ G p = some (GDo f.w p xs) ∧ GRel K G xs.2 kvs
  | .abs R, v => ∀ G', Ex G G' → R K G' v
  | .drw, v => f.on = true ∧ v = .ref f.m
  | .val w, v => v = w
  | .byr ds, v => ∃ p vs, v = .ref p ∧ H p = some (.lst vs) ∧ G p = none ∧ ¬ f.O p ∧ (f.F p = none ∨ f.M p) ∧ DpAll K G vs ds ∧ p = f.r
structure EntOk (en : Ent) (f : Fr) (G : Hp) : Prop where
  on : f.on = en.on
  m : f.m = en.m
  l : f.l = en.l
  c : f.c = en.c
  F : Ex en.F f.F
  O : ∀ a, en.O a → f.O a
  M : f.M = en.M
  r : f.r = en.r
  G : Ex en.G G
  mo : en.on = true → en.O en.m ∧ en.O en.l ∧ en.O en.c ∧ en.M en.m ∧ en.M en.l
  tm : ∀ p ∈ f.T, en.O p.1 ∧ en.M p.1
theorem EntOk.ex {en : Ent} {f : Fr} {G G' : Hp} (h : EntOk en f G) (e : Ex G G') : EntOk en f G' := { h with G := h.G.trans e }
structure Rel (K : PySem.W.Frag) (f : Fr) (G : Hp) (s : Sg) (σ : L2.St) (H : Hp) : Prop where
  gh : Ex G H
  fh : ∀ a o, ¬ f.M a → f.F a = some o → H a = some o
  go : ∀ a, f.O a → G a = none
  oh : ∀ a, f.O a → H a ≠ none
  mh : ∀ a, f.M a → H a ≠ none
  mo : f.on = true → f.O f.m ∧ f.O f.l ∧ f.O f.c ∧ f.M f.m ∧ f.M f.l
  tm : ∀ p ∈ f.T, f.O p.1 ∧ f.M p.1
  tb : ∀ p ∈ f.T, TabOk G H p.1 p.2
  pk : ∀ en, f.e = some en → EntOk en f G
  dr : f.on = true → DrwOk f.m f.l f.c s.n H
  ln : σ.length = s.sl.length
  sl : ∀ (i : Nat) (p : PV), s.sl[i]? = some (some p) → ∃ v : V, σ[i]? = some (some v) ∧ VR K f G H p v
  ds : ∀ (i j : Nat) (p q : PV) (v : V), i ≠ j → s.sl[i]? = some (some p) → s.sl[j]? = some (some q) → p.mut = true → q.mut = true → σ[i]? = some (some v) → σ[j]? ≠ some (some v)
def VRf (K : PySem.W.Frag) (f : Fr) (G H : Hp) (s : Sg) (σ : L2.St) (p : PV) (v : V) : Prop := VR K f G H p v ∧ (p.mut = true → ∀ (i : Nat) (q : PV), s.sl[i]? = some (some q) → q.mut = true → σ[i]? ≠ some (some v))
def VRs (K : PySem.W.Frag) (f : Fr) (G H : Hp) : List PV → List V → Prop := Paired (VR K f G H)
section
variable {K : PySem.W.Frag} {f : Fr} {G G' G1 H H' H1 : Hp} {s s' : Sg} {σ σ' : L2.St} {p : PV} {v : V} {d : PyData}
theorem VR.mono (h : VR K f G H p v) (g : Ex G G') (n : ∀ a, G a = none → G' a ≠ none → H a = none) (e : Ex H H') : VR K f G' H' p v := by
  have key : ∀ a o, H a = some o → G a = none → G' a = none := fun a o h1 h2 => by
    cases q : G' a with
    | none => rfl
    | some u =>
      have := n a h2 (by rw [q]; intro z; cases z)
      rw [h1] at this; cases this
  cases p with
  | dat d => exact Dp.ex g _ h
  | own ds =>
    obtain ⟨p, vs, rfl, h1, h2, h3, h4, h5⟩ := h
    exact ⟨p, vs, rfl, e _ _ h1, key _ _ h1 h2, h3, h4, Dp.exAll g _ h5⟩
  | dct kvs =>
    obtain ⟨p, vs, rfl, h1, h2, h3, h4, h5, h6⟩ := h
    exact ⟨p, vs, rfl, e _ _ h1, key _ _ h1 h2, h3, h4, h5, Dp.exAll g _ h6⟩
  | dcg kvs =>
    obtain ⟨p, vs, rfl, h1, h2, h3, h4, h5⟩ := h
    exact ⟨p, vs, rfl, e _ _ h1, key _ _ h1 h2, h3, h4, h5.ex g⟩
  | dgf kvs =>
    obtain ⟨p, vs, rfl, h1, h2⟩ := h
    exact ⟨p, vs, rfl, g _ _ h1, h2.ex g⟩
  | abs _ => exact fun G9 e9 => h G9 (g.trans e9)
  | drw => exact h
  | val w => exact h
  | byr ds =>
    obtain ⟨p, vs, rfl, h1, h2, h3, h4, h5, h6⟩ := h
    exact ⟨p, vs, rfl, e _ _ h1, key _ _ h1 h2, h3, h4, Dp.exAll g _ h5, h6⟩
theorem VRs.mono {ps : List PV} {vs : List V} (h : VRs K f G H ps vs) (g : Ex G G') (n : ∀ a, G a = none → G' a ≠ none → H a = none) (e : Ex H H') : VRs K f G' H' ps vs := by
  unfold VRs at *
  induction h with
  | nil => exact .nil
  | cons h _ ih => exact .cons (h.mono g n e) ih
theorem Rel.grow (R : Rel K f G s σ H) (e : Ex H H') (g : Ex G G') (g2 : Ex G' H') (n : ∀ a, G a = none → G' a ≠ none → H a = none) : Rel K f G' s σ H' where
  gh := g2
  fh := fun a o m h => e _ _ (R.fh a o m h)
  go := fun a h => by
    cases q : G' a with
    | none => rfl
    | some u => exact absurd (n a (R.go a h) (by rw [q]; intro z; cases z)) (R.oh a h)
  oh := fun a h => by
    cases q : H a with
    | none => exact absurd q (R.oh a h)
    | some u => rw [e _ _ q]; intro z; cases z
  mh := fun a h => by
    cases q : H a with
    | none => exact absurd q (R.mh a h)
    | some u => rw [e _ _ q]; intro z; cases z
  mo := R.mo
  tm := R.tm
  tb := fun p hp => by
    obtain ⟨ps, h1, h2, h3⟩ := R.tb p hp
    exact ⟨ps, e _ _ h1, h2, fun pos cv hc => by obtain ⟨c, e1, e2⟩ := h3 pos cv hc; exact ⟨c, e1, g _ _ e2⟩⟩
  pk := fun en h => (R.pk en h).ex g
  dr := fun h => by
    obtain ⟨k, cs, ls, rest, h1, h2, h3, h4, h5, h6, h7, h8⟩ := R.dr h
    exact ⟨k, cs, ls, rest, e _ _ h1, h2, h3, e _ _ h4, h5, h6, e _ _ h7, h8⟩
  ln := R.ln
  sl := fun i p h => by
    obtain ⟨v, h1, h2⟩ := R.sl i p h
    exact ⟨v, h1, h2.mono g n e⟩
  ds := R.ds
theorem nomore : ∀ a, G a = none → G a ≠ none → H a = none := fun a h h2 => absurd h h2
theorem Rel.new {a : Addr} {o : HO} (R : Rel K f G s σ H) (h : H a = none) : Rel K f G s σ (upd H a o) := R.grow (Evl.Ex.new h) (Ex.refl G) (R.gh.trans (Evl.Ex.new h)) nomore
theorem Rel.gn {a : Addr} (R : Rel K f G s σ H) (h : H a = none) : G a = none := Evl.fresh_back R.gh h
theorem Rel.on' {a : Addr} (R : Rel K f G s σ H) (h : H a = none) : ¬ f.O a := fun z => R.oh a z h
theorem ex_upd {a : Addr} {o : HO} (e : Ex G H) : Ex (upd G a o) (upd H a o) := fun b u h => by
  by_cases q : b = a
  · subst q; rw [upd_same] at h ⊢; exact h
  · rw [upd_ne q] at h ⊢; exact e _ _ h
theorem new_upd {a : Addr} {o : HO} (h : H a = none) : ∀ b, G b = none → upd G a o b ≠ none → H b = none := fun b g n => by
  by_cases q : b = a
  · subst q; exact h
  · rw [upd_ne q] at n; exact absurd g n
theorem Rel.newG {a : Addr} {o : HO} (R : Rel K f G s σ H) (h : H a = none) : Rel K f (upd G a o) s σ (upd H a o) := R.grow (Evl.Ex.new h) (Evl.Ex.new (R.gn h)) (ex_upd R.gh) (new_upd h)
theorem Rel.fr_none {a : Addr} (R : Rel K f G s σ H) (h : H a = none) : f.F a = none ∨ f.M a := by
  cases q : f.F a with
  | none => exact Or.inl rfl
  | some o =>
    by_cases m : f.M a
    · exact Or.inr m
    · have := R.fh a o m q
      rw [h] at this; cases this
theorem Rel.own {a : Addr} {vs : List V} {ds : List PyData} (R : Rel K f G s σ H) (h : H a = none) (dv : DpAll K G vs ds) : VRf K f G (upd H a (.lst vs)) s σ (.own ds) (.ref a) := by
  refine ⟨⟨a, vs, rfl, upd_same, R.gn h, R.on' h, R.fr_none h, dv⟩, fun _ i q h1 h2 h3 => ?_⟩
  obtain ⟨v, h4, h5⟩ := R.sl i q h1
  rw [h3] at h4
  cases h4
  cases q with
  | dat d => cases h2
  | own ds => obtain ⟨p, _, e, h6, _⟩ := h5; cases e; rw [h] at h6; cases h6
  | byr ds => obtain ⟨p, _, e, h6, _⟩ := h5; cases e; rw [h] at h6; cases h6
  | dct ds => obtain ⟨p, _, e, h6, _⟩ := h5; cases e; rw [h] at h6; cases h6
  | dcg ds => obtain ⟨p, _, e, h6, _⟩ := h5; cases e; rw [h] at h6; cases h6
  | drw => cases h2
  | val _ => cases h2
  | dgf _ => cases h2
  | abs _ => cases h2
theorem vrf_dat (h : Dp K G v d) : VRf K f G H s σ (.dat d) v := ⟨h, fun z => by cases z⟩
theorem Rel.frz (R : Rel K f G s σ H) (h : VRf K f G H s σ p v) (e : p.frz = some d) : ∃ G', Ex G G' ∧ Rel K f G' s σ H ∧ Dp K G' v d := by
  cases p with
  | dat d' => cases e; exact ⟨G, Ex.refl G, R, h.1⟩
  | drw => cases e
  | val _ => cases e
  | dgf _ => cases e
  | abs _ => cases e
  | byr _ => cases e
  | dct kvs => cases e
  | dcg kvs => cases e
  | own ds =>
    cases e
    obtain ⟨⟨a, vs, rfl, h1, h2, h3, h4, h5⟩, hf⟩ := h
    have hg : Ex G (upd G a (.lst vs)) := Evl.Ex.new h2
    refine ⟨upd G a (.lst vs), hg, { gh := fun b o hb => ?_, fh := R.fh, go := fun b hb => ?_, oh := R.oh, mh := R.mh, mo := R.mo, tm := R.tm, tb := fun p hp => (R.tb p hp).keep (fun b o _ z => hg _ _ z) rfl, pk := fun en h => (R.pk en h).ex hg, dr := R.dr, ln := R.ln, sl := fun i q hq => ?_, ds := R.ds }, .lst (Or.inl (Or.inl upd_same)) (Dp.exAll hg _ h5)⟩
    · by_cases q : b = a
      · subst q; rw [upd_same] at hb; cases hb; exact h1
      · rw [upd_ne q] at hb; exact R.gh _ _ hb
    · have q : b ≠ a := fun z => h3 (z ▸ hb)
      rw [upd_ne q]; exact R.go b hb
    · obtain ⟨w, hw, hv⟩ := R.sl i q hq
      refine ⟨w, hw, ?_⟩
      have ne : q.mut = true → w ≠ .ref a := fun m z => hf rfl i q hq m (by rw [hw, z])
      cases q with
      | dat d => exact Dp.ex hg _ hv
      | drw => exact hv
      | val _ => exact hv
      | dgf _ => obtain ⟨p0, xs0, z1, z2, z3⟩ := hv; exact ⟨p0, xs0, z1, hg _ _ z2, z3.ex hg⟩
      | abs _ => exact fun G9 e9 => hv G9 (hg.trans e9)
      | byr es =>
        obtain ⟨b, ws, rfl, k1, k2, k3, k4, k5, k6⟩ := hv
        exact ⟨b, ws, rfl, k1, by rw [upd_ne (fun z => ne rfl (by rw [z]))]; exact k2, k3, k4, Dp.exAll hg _ k5, k6⟩
      | own es =>
        obtain ⟨b, ws, rfl, k1, k2, k3, k4, k5⟩ := hv
        exact ⟨b, ws, rfl, k1, by rw [upd_ne (fun z => ne rfl (by rw [z]))]; exact k2, k3, k4, Dp.exAll hg _ k5⟩
      | dct es =>
        obtain ⟨b, ws, rfl, k1, k2, k3, k4, k5, k6⟩ := hv
        exact ⟨b, ws, rfl, k1, by rw [upd_ne (fun z => ne rfl (by rw [z]))]; exact k2, k3, k4, k5, Dp.exAll hg _ k6⟩
      | dcg es =>
        obtain ⟨b, ws, rfl, k1, k2, k3, k4, k5⟩ := hv
        exact ⟨b, ws, rfl, k1, by rw [upd_ne (fun z => ne rfl (by rw [z]))]; exact k2, k3, k4, k5.ex hg⟩
theorem set_get {α : Type} {xs : List α} {i j : Nat} {x y : α} (h : (xs.set i x)[j]? = some y) : (i = j ∧ y = x ∧ j < xs.length) ∨ (i ≠ j ∧ xs[j]? = some y) := by
  by_cases e : i = j
  · subst e
    rw [List.getElem?_set] at h
    simp at h
    exact Or.inl ⟨rfl, h.2.symm, h.1⟩
  · rw [List.getElem?_set_ne e] at h
    exact Or.inr ⟨e, h⟩
theorem Rel.put {i : Nat} (R : Rel K f G s σ H) (h : VRf K f G H s σ p v) : Rel K f G (s.put i p) (σ.set i (some v)) H where
  gh := R.gh
  fh := R.fh
  go := R.go
  oh := R.oh
  mh := R.mh
  mo := R.mo
  tm := R.tm
  tb := R.tb
  pk := R.pk
  dr := R.dr
  ln := by simp only [Sg.put, List.length_set]; exact R.ln
  sl := fun j q hq => by
    rcases set_get hq with ⟨e, e2, hl⟩ | ⟨e, h2⟩
    · cases e2
      subst e
      exact ⟨v, by rw [List.getElem?_set_self (by rw [R.ln]; exact hl)], h.1⟩
    · obtain ⟨w, hw, hv⟩ := R.sl j q h2
      exact ⟨w, by rw [List.getElem?_set_ne e]; exact hw, hv⟩
  ds := fun a b pa pb w ne ha hb ma mb wa wb => by
    rcases set_get ha with ⟨e, e2, hl⟩ | ⟨e, h2⟩
    · cases e2
      subst e
      rcases set_get hb with ⟨e', e2', hl'⟩ | ⟨e', h2'⟩
      · exact ne e'
      · rw [List.getElem?_set_self (by rw [R.ln]; exact hl)] at wa
        cases wa
        rw [List.getElem?_set_ne e'] at wb
        exact h.2 ma b pb h2' mb wb
    · rw [List.getElem?_set_ne e] at wa
      rcases set_get hb with ⟨e', e2', hl'⟩ | ⟨e', h2'⟩
      · cases e2'
        subst e'
        rw [List.getElem?_set_self (by rw [R.ln]; exact hl')] at wb
        cases wb
        exact h.2 mb a pa h2 ma wa
      · rw [List.getElem?_set_ne e'] at wb
        exact R.ds a b pa pb w ne h2 h2' ma mb wa wb
theorem Rel.put_off {i : Nat} (R : Rel K f G s σ H) : Rel K f G (s.off i) σ H where
  gh := R.gh
  fh := R.fh
  go := R.go
  oh := R.oh
  mh := R.mh
  mo := R.mo
  tm := R.tm
  tb := R.tb
  pk := R.pk
  dr := R.dr
  ln := by simp only [Sg.off, List.length_set]; exact R.ln
  sl := fun j q hq => by
    rcases set_get hq with ⟨e, e2, hl⟩ | ⟨e, h2⟩
    · cases e2
    · exact R.sl j q h2
  ds := fun a b pa pb w ne ha hb ma mb wa wb => by
    rcases set_get ha with ⟨e, e2, hl⟩ | ⟨e, h2⟩
    · cases e2
    rcases set_get hb with ⟨e', e2', hl'⟩ | ⟨e', h2'⟩
    · cases e2'
    exact R.ds a b pa pb w ne h2 h2' ma mb wa wb
theorem Rel.away {i : Nat} (R : Rel K f G s σ H) (h : s.sl[i]? = some (some p)) : ∃ v, σ[i]? = some (some v) ∧ Rel K f G (s.off i) σ H ∧ VRf K f G H (s.off i) σ p v := by
  obtain ⟨v, h1, h2⟩ := R.sl i p h
  refine ⟨v, h1, R.put_off, h2, fun m j q hq mq => ?_⟩
  rcases set_get hq with ⟨e, e2, hl⟩ | ⟨e, h3⟩
  · cases e2
  · exact R.ds i j p q v e h h3 m mq h1
theorem Rel.more {n : Nat} (R : Rel K f G s σ H) (e : s.n ≤ n) : Rel K f G ⟨s.sl, n⟩ σ H := { gh := R.gh, fh := R.fh, go := R.go, oh := R.oh, mh := R.mh, mo := R.mo, tm := R.tm, tb := R.tb, pk := R.pk, dr := fun h => (R.dr h).more e, ln := R.ln, sl := R.sl, ds := R.ds }
end
abbrev HE := Sg → (PV → Sg → Prop) → Prop
abbrev HT := Sg → (Bool → Sg → Prop) → Prop
abbrev HA := Sg → (List PV → Sg → Prop) → Prop
structure HD where
  nx : Sg → Prop
  rt : PV → Sg → Prop
  bk : Sg → Prop := fun _ => False
  ct : Sg → Prop := fun _ => False
abbrev HS := HD → Sg → Prop
def fo (f : Fr) (F : Fr) (O : Addr → Prop) : Fr := ⟨F.on, F.m, F.l, F.c, F.F, O, F.M, F.r, f.w, f.T, f.e⟩
def f1 (w : World) (T : Tbs) (en : Option Ent) : Fr := ⟨false, 0, 0, 0, fun _ => none, fun _ => False, fun _ => False, 0, w, T, en⟩
abbrev f0 (w : World) (T : Tbs) : Fr := f1 w T none
def Fr.up (F : Fr) (D : Addr) (o : HO) : Fr := ⟨F.on, F.m, F.l, F.c, upd F.F D o, F.O, F.M, F.r, F.w, F.T, F.e⟩
def lf (K : PySem.W.Frag) (f : Fr) (t : HE) : TE := fun σ H Q => ∃ F O G s C, Rel K (fo f F O) G s σ H ∧ t s C ∧ ∀ p s' G' H' v, C p s' → Ex G G' → Rel K (fo f F O) G' s' σ H' → VRf K (fo f F O) G' H' s' σ p v → Q v H'
def lfT (K : PySem.W.Frag) (f : Fr) (t : HT) : TT := fun σ H Q => ∃ F O G s C, Rel K (fo f F O) G s σ H ∧ t s C ∧ ∀ b s' G' H', C b s' → Ex G G' → Rel K (fo f F O) G' s' σ H' → Q b H'
def lfA (K : PySem.W.Frag) (f : Fr) (t : HA) : TA := fun σ H Q => ∃ F O G s C, Rel K (fo f F O) G s σ H ∧ t s C ∧ ∀ ps s' G' H' vs, C ps s' → Ex G G' → Rel K (fo f F O) G' s' σ H' → VRs K (fo f F O) G' H' ps vs → Q vs H'
structure Imp (K : PySem.W.Frag) (f : Fr) (F : Fr) (O : Addr → Prop) (G0 : Hp) (D' : HD) (D : Ends) : Prop where
  nx : ∀ G s σ H, Ex G0 G → Rel K (fo f F O) G s σ H → D'.nx s → D.nx σ H
  rt : ∀ p G s σ H v, Ex G0 G → Rel K (fo f F O) G s σ H → VRf K (fo f F O) G H s σ p v → D'.rt p s → D.rt v H
  bk : ∀ G s σ H, Ex G0 G → Rel K (fo f F O) G s σ H → D'.bk s → D.bk σ H
  ct : ∀ G s σ H, Ex G0 G → Rel K (fo f F O) G s σ H → D'.ct s → D.ct σ H
theorem Imp.ex {K : PySem.W.Frag} {f : Fr} {F : Fr} {O : Addr → Prop} {G G' : Hp} {D' : HD} {D : Ends} (h : Imp K f F O G D' D) (e : Ex G G') : Imp K f F O G' D' D := ⟨fun G1 s σ H a => h.nx G1 s σ H (e.trans a), fun p G1 s σ H v a => h.rt p G1 s σ H v (e.trans a), fun G1 s σ H a => h.bk G1 s σ H (e.trans a), fun G1 s σ H a => h.ct G1 s σ H (e.trans a)⟩
def lfS (K : PySem.W.Frag) (f : Fr) (t : HS) : TS := fun D σ H => ∃ F O G s D', Rel K (fo f F O) G s σ H ∧ t D' s ∧ Imp K f F O G D' D
theorem _root_.L2.PE.mono {X : Cx} {e : Expr} {t t' : TE} (h : PE X e t) (m : ∀ σ H Q, t' σ H Q → t σ H Q) : PE X e t' := ⟨fun pins s σ H Q I q => h.run pins s σ H Q I (m σ H Q q)⟩
theorem _root_.L2.PT.mono {X : Cx} {e : Expr} {t t' : TT} (h : PT X e t) (m : ∀ σ H Q, t' σ H Q → t σ H Q) : PT X e t' := ⟨fun pins s σ H Q I q => h.run pins s σ H Q I (m σ H Q q)⟩
theorem _root_.L2.PW.mono {X : Cx} {e : Expr} {t t' : TT} (h : PW X e t) (m : ∀ σ H Q, t' σ H Q → t σ H Q) : PW X e t' := ⟨fun wh pins s σ H Q I q => h.run wh pins s σ H Q I (m σ H Q q)⟩
theorem _root_.L2.PA.mono {X : Cx} {es : List Expr} {t t' : TA} (h : PA X es t) (m : ∀ σ H Q, t' σ H Q → t σ H Q) : PA X es t' := ⟨fun pos pins s σ H Q I q => h.run pos pins s σ H Q I (m σ H Q q)⟩
theorem _root_.L2.PS.mono {X : Cx} {st : Stmt} {t t' : TS} (h : PS X st t) (m : ∀ D σ H, t' D σ H → t D σ H) : PS X st t' := ⟨fun pins s σ H D I q => h.run pins s σ H D I (m D σ H q)⟩
theorem _root_.L2.PSs.mono {X : Cx} {st : List Stmt} {t t' : TS} (h : PSs X st t) (m : ∀ D σ H, t' D σ H → t D σ H) : PSs X st t' := ⟨fun pins s σ H D I q => h.run pins s σ H D I (m D σ H q)⟩
@[simp] def hNil : HA := fun s C => C [] s
@[simp] def hL (j : Nat) (r : HA) : HA := fun s C => (∃ p, s.sl[j]? = some (some p)) ∧ r s fun ps s2 => ∃ p, s2.sl[j]? = some (some p) ∧ C (p :: ps) s2
@[simp] def hE (t : HE) (r : HA) : HA := fun s C => t s fun p s1 => ∃ d, p.frz = some d ∧ r s1 fun ps s2 => C (.dat d :: ps) s2
structure Opd (X : Cx) (f : Fr) (e : Expr) (o : HA → HA) : Prop where
  ex : ∃ t, PE X e t ∧ ∀ (tr : TA) (r : HA), (∀ σ H Q, lfA X.K f r σ H Q → tr σ H Q) → ∀ σ H Q, lfA X.K f (o r) σ H Q → tCons t tr σ H Q
section
variable {X : Cx} {f : Fr} {e a b c : Expr} {es : List Expr} {o oa ob oc : HA → HA} {t : HE} {r : HA} {pos : Pos}
theorem opd_e (h : PE X e (lf X.K f t)) : Opd X f e (hE t) := ⟨_, h, fun tr r m σ H Q q => by
  obtain ⟨F, O, G, s, C, R, ht, k⟩ := q
  refine ⟨F, O, G, s, _, R, ht, fun p s1 G1 H1 v c1 e1 R1 V1 => ?_⟩
  obtain ⟨d, hd, hr⟩ := c1
  obtain ⟨G2, e2, R2, V2⟩ := R1.frz V1 hd
  refine m _ _ _ ⟨F, O, G2, s1, _, R2, hr, fun ps s3 G3 H3 vs c3 e3 R3 V3 => ?_⟩
  exact k _ _ _ _ _ c3 ((e1.trans e2).trans e3) R3 (.cons (Dp.ex e3 _ V2) V3)⟩
theorem opd_v (j : Nat) (h : PE X e (tVar j)) : Opd X f e (hL j) := ⟨_, h, fun tr r m σ H Q q => by
  obtain ⟨F, O, G, s, C, R, ⟨⟨p, hp⟩, ht⟩, k⟩ := q
  obtain ⟨v, hv, _⟩ := R.sl j p hp
  refine ⟨v, hv, m _ _ _ ⟨F, O, G, s, _, R, ht, fun ps s3 G3 H3 vs c3 e3 R3 V3 => ?_⟩⟩
  obtain ⟨p2, hp2, c4⟩ := c3
  obtain ⟨v2, hv2, V2⟩ := R3.sl j p2 hp2
  rw [hv] at hv2
  cases hv2
  exact k _ _ _ _ _ c4 e3 R3 (.cons V2 V3)⟩
theorem hpa_nil : PA X [] (lfA X.K f hNil) := pa_nil.mono fun σ H Q q => by
  obtain ⟨F, O, G, s, C, R, ht, k⟩ := q
  exact k _ _ _ _ _ ht (Ex.refl G) R .nil
theorem hpa_cons (A : Opd X f e o) (h : PA X es (lfA X.K f r)) (hs : starEach (e :: es) X.env = (false, eval e X.env) :: starEach es X.env := by rfl) : PA X (e :: es) (lfA X.K f (o r)) := by
  obtain ⟨t, h1, h2⟩ := A.ex
  exact (pa_cons h1 h hs).mono fun σ H Q q => h2 _ _ (fun _ _ _ z => z) σ H Q q
def Op (K : PySem.W.Frag) (f : Fr) (r : List V → Hp → VK → Prop) (w : List PV → (PV → Prop) → Prop) : Prop :=
  ∀ F O G s σ H ps vs (C : PV → Prop) (Q : VK), Rel K (fo f F O) G s σ H → VRs K (fo f F O) G H ps vs → w ps C → (∀ p G' H' v, C p → Ex G G' → Rel K (fo f F O) G' s σ H' → VRf K (fo f F O) G' H' s σ p v → Q v H') → r vs H Q
@[simp] def hC (w : List PV → (PV → Prop) → Prop) (ta : HA) : HE := fun s C => ta s fun ps s' => w ps fun p => C p s'
theorem Op.lift {r : List V → Hp → VK → Prop} {w : List PV → (PV → Prop) → Prop} (h : Op X.K f r w) (ta : HA) : ∀ σ H Q, lf X.K f (hC w ta) σ H Q → lfA X.K f ta σ H fun vs H' => r vs H' Q := fun σ H Q q => by
  obtain ⟨F, O, G, s, C, R, ht, k⟩ := q
  refine ⟨F, O, G, s, _, R, ht, fun ps s1 G1 H1 vs c1 e1 R1 V1 => h F O G1 s1 σ H1 ps vs _ Q R1 V1 c1 fun p G2 H2 v c2 e2 R2 V2 => ?_⟩
  exact k p s1 G2 H2 v c2 (e1.trans e2) R2 V2
def op2 (r : R2) : List V → Hp → VK → Prop := fun vs H Q => match vs with
  | [x, y] => r x y H Q
  | _ => False
def op1 (r : V → Hp → VK → Prop) : List V → Hp → VK → Prop := fun vs H Q => match vs with
  | [x] => r x H Q
  | _ => False
theorem Opd.two {r : R2} {w : List PV → (PV → Prop) → Prop} (A : Opd X f a oa) (B : Opd X f b ob) (h : Op X.K f (op2 r) w) : ∃ ta tb, PE X a ta ∧ PE X b tb ∧ ∀ σ H Q, lf X.K f (hC w (oa (ob hNil))) σ H Q → tOp r ta tb σ H Q := by
  obtain ⟨ta, a1, a2⟩ := A.ex
  obtain ⟨tb, b1, b2⟩ := B.ex
  refine ⟨ta, tb, a1, b1, fun σ H Q q => ?_⟩
  have z := a2 (tCons tb tNil) (ob hNil) (fun σ H Q => b2 tNil hNil (fun σ H Q q => by
    obtain ⟨F, O, G, s, C, R, ht, k⟩ := q
    exact k _ _ _ _ _ ht (Ex.refl G) R .nil) σ H Q) σ H _ (h.lift _ σ H Q q)
  exact z
theorem hp_op {op : Operator} {r : R2} {w : List PV → (PV → Prop) → Prop} (hr : OpR X (binaryOp op) r) (A : Opd X f a oa) (B : Opd X f b ob) (h : Op X.K f (op2 r) w) : PE X (.BinOp a op b pos) (lf X.K f (hC w (oa (ob hNil)))) := by
  obtain ⟨ta, tb, h1, h2, h3⟩ := A.two B h
  exact (pe_op hr h1 h2).mono h3
theorem hp_cmp {op : CmpOp} {r : R2} {w : List PV → (PV → Prop) → Prop} (hr : OpR X (compareOp op) r) (A : Opd X f a oa) (B : Opd X f b ob) (h : Op X.K f (op2 r) w) (hm : behindInMarks op b = false) : PE X (.Compare a [op] [b] pos) (lf X.K f (hC w (oa (ob hNil)))) := by
  obtain ⟨ta, tb, h1, h2, h3⟩ := A.two B h
  exact (pe_cmpR hr h1 h2 hm).mono h3
@[simp] def hB (t : HE) : HT := fun s C => t s fun p s' => ∃ b, p = .dat (.bool b) ∧ C b s'
theorem lfT_B : ∀ σ H Q, lfT X.K f (hB t) σ H Q → lf X.K f t σ H fun x H1 => ∃ c, x = .bl c ∧ Q c H1 := fun σ H Q q => by
  obtain ⟨F, O, G, s, C, R, ht, k⟩ := q
  refine ⟨F, O, G, s, _, R, ht, fun p s1 G1 H1 v c1 e1 R1 V1 => ?_⟩
  obtain ⟨b, rfl, c2⟩ := c1
  have z : v = .bl b := by
    have := V1.1
    cases (show Dp X.K G1 v (.bool b) from this)
    rfl
  exact ⟨b, z, k _ _ _ _ c2 e1 R1⟩
theorem hp_test (h : PE X e (lf X.K f t)) (he : ∀ whole, isTrue e X.env whole = (do let v ← whole; standAt e.pos; holding [v] (truthy v)) := by intro _; rfl) : PT X e (lfT X.K f (hB t)) := (pt_val h he).mono lfT_B
theorem ht_cmp {op : CmpOp} {r : R2} {w : List PV → (PV → Prop) → Prop} (hr : OpR X (compareOp op) r) (A : Opd X f a oa) (B : Opd X f b ob) (h : Op X.K f (op2 r) w) (hm : behindInMarks op b = false) : PT X (.Compare a [op] [b] pos) (lfT X.K f (hB (hC w (oa (ob hNil))))) := by
  obtain ⟨ta, tb, h1, h2, h3⟩ := A.two B h
  exact (pt_cmpR hr h1 h2 hm).mono fun σ H Q q => h3 _ _ _ (lfT_B _ _ _ q)
theorem hp_ix {r : R2} {w : List PV → (PV → Prop) → Prop} (hr : IxR X r) (A : Opd X f a oa) (B : Opd X f b ob) (h : Op X.K f (op2 r) w) (hs : PlainIx b) : PE X (.Subscript a b pos) (lf X.K f (hC w (oa (ob hNil)))) := by
  obtain ⟨ta, tb, h1, h2, h3⟩ := A.two B h
  exact (pe_ix hr h1 h2 hs).mono h3
end
end Sk
set_option Elab.async false
set_option linter.all false
set_option maxRecDepth 100000
set_option maxHeartbeats 2000000
namespace Sk
open PySem PySem.Spec PyProof.Rows L2
open Evl (Ex)
@[simp] def hV (j : Nat) : HE := fun s C => match s.sl[j]? with
  | some (some (.dat d)) => C (.dat d) s
  | some (some (.own ds)) => C (.dat (.list ds)) (s.put j (.dat (.list ds)))
  | some (some .drw) => C .drw s
  | some (some (.abs R)) => C (.abs R) s
  | _ => False
@[simp] def hM (j : Nat) : HE := fun s C => match s.sl[j]? with
  | some (some p) => C p (s.off j)
  | _ => False
@[simp] def hK (d : PyData) : HE := fun s C => C (.dat d) s
@[simp] def dats : List PV → Option (List PyData)
  | [] => some []
  | .dat d :: r => (dats r).map (d :: ·)
  | _ => none
@[simp] def hTup (ta : HA) : HE := hC (fun ps C => ∃ ds, dats ps = some ds ∧ ds.length ≤ 100000 ∧ C (.dat (.tuple ds))) ta
@[simp] def hLst (ta : HA) : HE := hC (fun ps C => ∃ ds, dats ps = some ds ∧ ds.length ≤ 100000 ∧ C (.own ds)) ta
@[simp] def hAndV (t u : HE) : HE := fun s C => t s fun p s1 => ∃ b, p = .dat (.bool b) ∧ if b = true then u s1 C else C (.dat (.bool false)) s1
@[simp] def hOrV (t u : HE) : HE := fun s C => t s fun p s1 => ∃ b, p = .dat (.bool b) ∧ if b = true then C (.dat (.bool true)) s1 else u s1 C
@[simp] def hNotV (t : HE) : HE := fun s C => t s fun p s1 => ∃ b, p = .dat (.bool b) ∧ C (.dat (.bool (!b))) s1
@[simp] def hIf (c : HT) (t u : HE) : HE := fun s C => c s fun b s1 => if b = true then t s1 C else u s1 C
@[simp] def hAnd (t u : HT) : HT := fun s C => t s fun b s1 => if b = true then u s1 C else C false s1
@[simp] def hOr (t u : HT) : HT := fun s C => t s fun b s1 => if b = true then C true s1 else u s1 C
@[simp] def hNot (t : HT) : HT := fun s C => t s fun b s1 => C (!b) s1
section
variable {X : Cx} {f : Fr} {e a b c : Expr} {es : List Expr} {o oa ob oc : HA → HA} {t u : HE} {tt tu : HT} {r : HA} {pos : Pos}
theorem dats_all {K : PySem.W.Frag} {f : Fr} {G H : Hp} : ∀ {ps : List PV} {vs : List V} {ds : List PyData}, dats ps = some ds → VRs K f G H ps vs → DpAll K G vs ds
  | [], _, _, h, .nil => by cases h; exact .nil
  | .dat d :: r, _, _, h, .cons h1 h2 => by
    rw [dats] at h
    cases q : dats r with
    | none => rw [q] at h; cases h
    | some es => rw [q] at h; cases h; exact .cons h1 (dats_all q h2)
  | .own _ :: _, _, _, h, .cons _ _ => by cases h
  | .dct _ :: _, _, _, h, .cons _ _ => by cases h
  | .dcg _ :: _, _, _, h, .cons _ _ => by cases h
  | .drw :: _, _, _, h, .cons _ _ => by cases h
  | .val _ :: _, _, _, h, .cons _ _ => by cases h
  | .dgf _ :: _, _, _, h, .cons _ _ => by cases h
  | .abs _ :: _, _, _, h, .cons _ _ => by cases h
  | .byr _ :: _, _, _, h, .cons _ _ => by cases h
theorem hp_v (j : Nat) (h : PE X e (tVar j)) : PE X e (lf X.K f (hV j)) := h.mono fun σ H Q q => by
  obtain ⟨F, O, G, s, C, R, ht, k⟩ := q
  unfold hV at ht
  split at ht
  · rename_i d hd
    obtain ⟨v, hv, V⟩ := R.sl j _ hd
    exact ⟨v, hv, k _ _ _ _ _ ht (Ex.refl G) R (vrf_dat V)⟩
  · rename_i ds hd
    obtain ⟨v, hv, R1, V1⟩ := R.away hd
    obtain ⟨G2, e2, R2, V2⟩ := R1.frz V1 rfl
    refine ⟨v, hv, k _ _ _ _ _ ht e2 ?_ (vrf_dat V2)⟩
    have := R2.put (i := j) (vrf_dat (f := fo f F O) (H := H) (s := s.off j) (σ := σ) V2)
    have e1 : (s.off j).put j (.dat (.list ds)) = s.put j (.dat (.list ds)) := by simp [Sg.off, Sg.put, List.set_set]
    have e2 : σ.set j (some v) = σ := by
      apply List.ext_getElem?
      intro i
      by_cases z : j = i
      · subst z
        rw [List.getElem?_set_self (by exact (List.getElem?_eq_some_iff.mp hv).1), hv]
      · rw [List.getElem?_set_ne z]
    rw [e1, e2] at this
    exact this
  · rename_i hd
    obtain ⟨v, hv, V⟩ := R.sl j _ hd
    exact ⟨v, hv, k _ _ _ _ _ ht (Ex.refl G) R ⟨V, fun z => by cases z⟩⟩
  · rename_i hd
    obtain ⟨v, hv, V⟩ := R.sl j _ hd
    exact ⟨v, hv, k _ _ _ _ _ ht (Ex.refl G) R ⟨V, fun z => by cases z⟩⟩
  · exact ht.elim
theorem hp_m (j : Nat) (h : PE X e (tVar j)) : PE X e (lf X.K f (hM j)) := h.mono fun σ H Q q => by
  obtain ⟨F, O, G, s, C, R, ht, k⟩ := q
  unfold hM at ht
  split at ht
  · rename_i d hd
    obtain ⟨v, hv, R1, V1⟩ := R.away hd
    exact ⟨v, hv, k _ _ _ _ _ ht (Ex.refl G) R1 V1⟩
  · exact ht.elim
theorem hp_k {v : V} {d : PyData} (h : PE X e (tC v)) (hv : ∀ G, Dp X.K G v d) : PE X e (lf X.K f (hK d)) := h.mono fun σ H Q q => by
  obtain ⟨F, O, G, s, C, R, ht, k⟩ := q
  exact k _ _ _ _ _ ht (Ex.refl G) R (vrf_dat (hv G))
theorem opd_w {v : V} (h : PE X e (tC v)) : Opd X f e (fun r s C => r s fun ps s2 => C (.val v :: ps) s2) := ⟨_, h, fun tr r m σ H Q q => by
  obtain ⟨F, O, G, s, C, R, ht, k⟩ := q
  refine m _ _ _ ⟨F, O, G, s, _, R, ht, fun ps s3 G3 H3 vs c3 e3 R3 V3 => ?_⟩
  exact k _ _ _ _ _ c3 e3 R3 (.cons rfl V3)⟩
theorem op_tup : Op X.K f (fun vs H Q => vs.length ≤ sizeLine ∧ ∀ p, H p = none → Q (.ref p) (upd H p (.tup vs))) (fun ps C => ∃ ds, dats ps = some ds ∧ ds.length ≤ 100000 ∧ C (.dat (.tuple ds))) := fun F O G s σ H ps vs C Q R V w k => by
  obtain ⟨ds, h1, h2, h3⟩ := w
  have D := dats_all h1 V
  refine ⟨by rw [D.len]; exact Evl.sz_of h2, fun p hp => k _ _ _ _ h3 (Evl.Ex.new (R.gn hp)) (R.newG hp) (vrf_dat (.tup (Or.inl (Or.inl upd_same)) (Dp.exAll (Evl.Ex.new (R.gn hp)) _ D)))⟩
theorem op_lst : Op X.K f (fun vs H Q => vs.length ≤ sizeLine ∧ ∀ p, H p = none → Q (.ref p) (upd H p (.lst vs))) (fun ps C => ∃ ds, dats ps = some ds ∧ ds.length ≤ 100000 ∧ C (.own ds)) := fun F O G s σ H ps vs C Q R V w k => by
  obtain ⟨ds, h1, h2, h3⟩ := w
  have D := dats_all h1 V
  exact ⟨by rw [D.len]; exact Evl.sz_of h2, fun p hp => k _ _ _ _ h3 (Ex.refl G) (R.new hp) (R.own hp D)⟩
theorem hp_tup {x1} (h : PA X es (lfA X.K f r)) : PE X (.Tuple es x1 pos) (lf X.K f (hTup r)) := (pe_tup h).mono fun σ H Q q => op_tup.lift _ _ _ _ q
theorem hp_lst (h : PA X es (lfA X.K f r)) : PE X (.List es pos) (lf X.K f (hLst r)) := (pe_lst h).mono fun σ H Q q => op_lst.lift _ _ _ _ q
theorem vr_bool {K : PySem.W.Frag} {f : Fr} {G H : Hp} {s : Sg} {σ : L2.St} {b : Bool} {v : V} (h : VRf K f G H s σ (.dat (.bool b)) v) : v = .bl b := by
  cases (show Dp K G v (.bool b) from h.1)
  rfl
theorem hp_andV {rest : List Expr} (ha : PE X a (lf X.K f t)) (hb : PE X (.BoolOp .And (b :: rest) pos) (lf X.K f u)) : PE X (.BoolOp .And (a :: b :: rest) pos) (lf X.K f (hAndV t u)) := (pe_and ha hb).mono fun σ H Q q => by
  obtain ⟨F, O, G, s, C, R, ht, k⟩ := q
  refine ⟨F, O, G, s, _, R, ht, fun p s1 G1 H1 v c1 e1 R1 V1 => ?_⟩
  obtain ⟨b, rfl, c2⟩ := c1
  refine ⟨b, vr_bool V1, ?_⟩
  cases b with
  | true => exact ⟨F, O, G1, s1, _, R1, c2, fun p2 s2 G2 H2 v2 c3 e3 => k _ _ _ _ _ c3 (e1.trans e3)⟩
  | false => exact k _ _ _ _ _ c2 e1 R1 (vrf_dat (.bl false))
theorem hp_orV {rest : List Expr} (ha : PE X a (lf X.K f t)) (hb : PE X (.BoolOp .Or (b :: rest) pos) (lf X.K f u)) : PE X (.BoolOp .Or (a :: b :: rest) pos) (lf X.K f (hOrV t u)) := (pe_or ha hb).mono fun σ H Q q => by
  obtain ⟨F, O, G, s, C, R, ht, k⟩ := q
  refine ⟨F, O, G, s, _, R, ht, fun p s1 G1 H1 v c1 e1 R1 V1 => ?_⟩
  obtain ⟨b, rfl, c2⟩ := c1
  refine ⟨b, vr_bool V1, ?_⟩
  cases b with
  | false => exact ⟨F, O, G1, s1, _, R1, c2, fun p2 s2 G2 H2 v2 c3 e3 => k _ _ _ _ _ c3 (e1.trans e3)⟩
  | true => exact k _ _ _ _ _ c2 e1 R1 (vrf_dat (.bl true))
theorem hp_notV (ha : PE X a (lf X.K f t)) : PE X (.UnaryOp .Not a pos) (lf X.K f (hNotV t)) := (pe_not ha).mono fun σ H Q q => by
  obtain ⟨F, O, G, s, C, R, ht, k⟩ := q
  refine ⟨F, O, G, s, _, R, ht, fun p s1 G1 H1 v c1 e1 R1 V1 => ?_⟩
  obtain ⟨b, rfl, c2⟩ := c1
  exact ⟨b, vr_bool V1, k _ _ _ _ _ c2 e1 R1 (vrf_dat (.bl _))⟩
theorem hp_if (hc : PT X c (lfT X.K f tt)) (ha : PE X a (lf X.K f t)) (hb : PE X b (lf X.K f u)) : PE X (.IfExp c a b pos) (lf X.K f (hIf tt t u)) := (pe_ifExp hc ha hb).mono fun σ H Q q => by
  obtain ⟨F, O, G, s, C, R, ht, k⟩ := q
  refine ⟨F, O, G, s, _, R, ht, fun b s1 G1 H1 c1 e1 R1 => ?_⟩
  cases b with
  | true => exact ⟨F, O, G1, s1, _, R1, c1, fun p2 s2 G2 H2 v2 c3 e3 => k _ _ _ _ _ c3 (e1.trans e3)⟩
  | false => exact ⟨F, O, G1, s1, _, R1, c1, fun p2 s2 G2 H2 v2 c3 e3 => k _ _ _ _ _ c3 (e1.trans e3)⟩
theorem ht_and1 (ha : PT X a (lfT X.K f tt)) : PW X (.BoolOp .And [a] pos) (lfT X.K f tt) := pw_and1 ha
theorem ht_or1 (ha : PT X a (lfT X.K f tt)) : PW X (.BoolOp .Or [a] pos) (lfT X.K f tt) := pw_or1 ha
theorem ht_and {rest : List Expr} (ha : PT X a (lfT X.K f tt)) (hb : PW X (.BoolOp .And (b :: rest) pos) (lfT X.K f tu)) : PW X (.BoolOp .And (a :: b :: rest) pos) (lfT X.K f (hAnd tt tu)) := (pw_and ha hb).mono fun σ H Q q => by
  obtain ⟨F, O, G, s, C, R, ht, k⟩ := q
  refine ⟨F, O, G, s, _, R, ht, fun b s1 G1 H1 c1 e1 R1 => ?_⟩
  cases b with
  | true => exact ⟨F, O, G1, s1, _, R1, c1, fun p2 s2 G2 H2 c3 e3 => k _ _ _ _ c3 (e1.trans e3)⟩
  | false => exact k _ _ _ _ c1 e1 R1
theorem ht_or {rest : List Expr} (ha : PT X a (lfT X.K f tt)) (hb : PW X (.BoolOp .Or (b :: rest) pos) (lfT X.K f tu)) : PW X (.BoolOp .Or (a :: b :: rest) pos) (lfT X.K f (hOr tt tu)) := (pw_or ha hb).mono fun σ H Q q => by
  obtain ⟨F, O, G, s, C, R, ht, k⟩ := q
  refine ⟨F, O, G, s, _, R, ht, fun b s1 G1 H1 c1 e1 R1 => ?_⟩
  cases b with
  | false => exact ⟨F, O, G1, s1, _, R1, c1, fun p2 s2 G2 H2 c3 e3 => k _ _ _ _ c3 (e1.trans e3)⟩
  | true => exact k _ _ _ _ c1 e1 R1
theorem ht_not (ha : PT X a (lfT X.K f tt)) : PT X (.UnaryOp .Not a pos) (lfT X.K f (hNot tt)) := (pt_not ha).mono fun σ H Q q => by
  obtain ⟨F, O, G, s, C, R, ht, k⟩ := q
  exact ⟨F, O, G, s, _, R, ht, fun b s1 G1 H1 c1 e1 R1 => k _ _ _ _ c1 e1 R1⟩
@[simp] def hChain (w w' : List PV → (PV → Prop) → Prop) (oa ob oc : HA → HA) : HE := fun s C => oa (ob hNil) s fun ps s1 => match ps with
  | [x, y] => y.mut = false ∧ w [x, y] fun p => ∃ b, p = .dat (.bool b) ∧ if b = true then oc hNil s1 fun qs s2 => match qs with
      | [z] => w' [y, z] fun p2 => C p2 s2
      | _ => False
    else C (.dat (.bool false)) s1
  | _ => False
theorem VR.keepI {K : PySem.W.Frag} {f : Fr} {G G' H H' : Hp} {p : PV} {v : V} (h : VR K f G H p v) (m : p.mut = false) (e : Ex G G') : VR K f G' H' p v := by
  cases p with
  | dat d => exact Dp.ex e _ h
  | drw => exact h
  | val _ => exact h
  | dgf _ => obtain ⟨p0, xs0, z1, z2, z3⟩ := h; exact ⟨p0, xs0, z1, e _ _ z2, z3.ex e⟩
  | abs _ => exact fun G9 e9 => h G9 (e.trans e9)
  | own _ => cases m
  | byr _ => cases m
  | dct _ => cases m
  | dcg _ => cases m
theorem chain_conv {r r' : R2} {w w' : List PV → (PV → Prop) → Prop} (A : Opd X f a oa) (B : Opd X f b ob) (D : Opd X f c oc) (h : Op X.K f (op2 r) w) (h' : Op X.K f (op2 r') w') : ∃ ta tb tc, PE X a ta ∧ PE X b tb ∧ PE X c tc ∧ ∀ σ H Q, lf X.K f (hChain w w' oa ob oc) σ H Q → tChain r r' ta tb tc σ H Q := by
  obtain ⟨ta, a1, a2⟩ := A.ex
  obtain ⟨tb, b1, b2⟩ := B.ex
  obtain ⟨tc, c1, c2⟩ := D.ex
  have nil : ∀ (σ : L2.St) (H : Hp) (Q : List V → Hp → Prop), lfA X.K f hNil σ H Q → tNil σ H Q := fun σ H Q q => by
    obtain ⟨F, O, G, s, C, R, ht, k⟩ := q
    exact k _ _ _ _ _ ht (Ex.refl G) R .nil
  refine ⟨ta, tb, tc, a1, b1, c1, fun σ H Q q => ?_⟩
  obtain ⟨F, O, G, s, C, R, ht, k⟩ := q
  refine a2 (tCons tb tNil) (ob hNil) (fun σ H Q => b2 tNil hNil nil σ H Q) σ H (fun vs H2 => op2 r vs H2 fun z H3 => ∃ k, z = .bl k ∧ if k = true then tc σ H3 fun w H4 => op2 r' [(vs[1]?).getD .non, w] H4 Q else Q (.bl false) H3) ?_
  refine ⟨F, O, G, s, _, R, ht, fun ps s1 G1 H1 vs d1 e1 R1 V1 => ?_⟩
  split at d1
  case h_2 => exact d1.elim
  rename_i x y
  obtain ⟨my, d2⟩ := d1
  cases V1 with
  | cons vx V1 =>
    cases V1 with
    | cons vy V1 =>
      cases V1
      refine h F O G1 s1 σ H1 _ _ _ _ R1 (.cons vx (.cons vy .nil)) d2 fun p G2 H2 v d3 e2 R2 V2 => ?_
      obtain ⟨b, rfl, d4⟩ := d3
      refine ⟨b, vr_bool V2, ?_⟩
      cases b with
      | false => exact k _ _ _ _ _ d4 (e1.trans e2) R2 (vrf_dat (.bl false))
      | true =>
        refine c2 tNil hNil nil σ H2 (fun ws H4 => op2 r' ([(_ : List V)[1]?.getD .non] ++ ws) H4 Q) ⟨F, O, G2, s1, _, R2, d4, fun qs s2 G3 H3 ws d5 e3 R3 V3 => ?_⟩
        split at d5
        case h_2 => exact d5.elim
        have d6 := d5
        cases V3 with
        | cons vz V3 =>
          cases V3
          exact h' F O G3 s2 σ H3 _ _ _ _ R3 (.cons (vy.keepI my (e2.trans e3)) (.cons vz .nil)) d6 fun p G4 H4 v d7 e4 R4 V4 => k _ _ _ _ _ d7 (((e1.trans e2).trans e3).trans e4) R4 V4
theorem ht_chain {op op' : CmpOp} {r r' : R2} {w w' : List PV → (PV → Prop) → Prop} (hr : OpR X (compareOp op) r) (hr' : OpR X (compareOp op') r') (A : Opd X f a oa) (B : Opd X f b ob) (D : Opd X f c oc) (h : Op X.K f (op2 r) w) (h' : Op X.K f (op2 r') w')
    (hm : lastMarks [op, op'] [b, c] = false := by with_unfolding_all rfl) : PT X (.Compare a [op, op'] [b, c] pos) (lfT X.K f (hB (hChain w w' oa ob oc))) := by
  obtain ⟨ta, tb, tc, a1, b1, c1, h3⟩ := chain_conv A B D h h'
  exact (pt_chain hr hr' a1 b1 c1 hm).mono fun σ H Q q => h3 _ _ _ (lfT_B _ _ _ q)
variable {x id T : Str} {p : Pos}
theorem hp_callB {id : String} {x : Str} {rr : List V → Hp → VK → Prop} {w : List PV → (PV → Prop) → Prop} (hc : CallR X (.builtin id) rr) (hw : Op X.K f rr w) (hg : Gl X x) (hm : X.mg x = none) (hv : bootBuiltins x = some (.builtin id)) (ha : PA X (e :: es) (lfA X.K f r)) (hn : x ≠ "__name__" := by decide) (hdb : (x == ("__debug__" : Str)) = false := by decide)
    (he : starEach (e :: es) X.env = (false, eval e X.env) :: starEach es X.env := by rfl) (hpl : (backTo pos (starEach es X.env)).any (·.1) = false := by rfl) : PE X (.Call (.Name x p) (e :: es) [] pos) (lf X.K f (hC w r)) :=
  (pe_callB hc hg hm hv ha hn hdb he hpl).mono fun σ H Q q => hw.lift _ _ _ _ q
theorem hp_callTy {T : String} {x : Str} {rr : List V → Hp → VK → Prop} {w : List PV → (PV → Prop) → Prop} (hc : CallR X (.type T) rr) (hw : Op X.K f rr w) (hg : Gl X x) (hm : X.mg x = none) (hv : bootBuiltins x = some (.type T)) (ha : PA X (e :: es) (lfA X.K f r)) (hn : x ≠ "__name__" := by decide) (hdb : (x == ("__debug__" : Str)) = false := by decide)
    (he : starEach (e :: es) X.env = (false, eval e X.env) :: starEach es X.env := by rfl) (hpl : (backTo pos (starEach es X.env)).any (·.1) = false := by rfl) : PE X (.Call (.Name x p) (e :: es) [] pos) (lf X.K f (hC w r)) :=
  (pe_callTy hc hg hm hv ha hn hdb he hpl).mono fun σ H Q q => hw.lift _ _ _ _ q
end
@[simp] def hSeq (t u : HS) : HS := fun D s => t { D with nx := u D } s
@[simp] def hNext : HS := fun D s => D.nx s
@[simp] def hNever : HS := fun _ _ => False
@[simp] def hAsg (t : HE) (i : Nat) : HS := fun D s => t s fun p s' => D.nx (s'.put i p)
@[simp] def hRet (t : HE) : HS := fun D s => t s D.rt
@[simp] def hRetN : HS := fun D s => D.rt (.dat .none) s
@[simp] def hIfS (c : HT) (t u : HS) : HS := fun D s => c s fun b s1 => if b = true then t D s1 else u D s1
@[simp] def hDrop (t : HE) : HS := fun D s => t s fun _ s' => D.nx s'
@[simp] def hBrk : HS := fun D s => D.bk s
@[simp] def hCnt : HS := fun D s => D.ct s
@[simp] def hPar (i j : Nat) (ta : HA) : HS := fun D s => ta s fun ps s1 => ∃ p q, ps = [p, q] ∧ p.mut = false ∧ q.mut = false ∧ D.nx ((s1.put i p).put j q)
def hWhile (c : HT) (t : HS) : HS := fun D s => ∃ (I : Sg → Prop) (μ : Sg → Nat), I s ∧ ∀ s, I s → c s fun b s1 => if b = true then t { D with nx := fun s' => I s' ∧ μ s' < μ s, ct := fun s' => I s' ∧ μ s' < μ s, bk := D.nx } s1 else D.nx s1
abbrev HG := PyData → Sg → (Sg → Prop) → Prop
@[simp] def gN (i : Nat) : HG := fun d s C => C (s.put i (.dat d))
@[simp] def gP (i j : Nat) : HG := fun d s C => match d with
  | .tuple [a, b] => C ((s.put i (.dat a)).put j (.dat b))
  | _ => False
@[simp] def gT (i j k : Nat) : HG := fun d s C => match d with
  | .tuple [a, b, c] => C (((s.put i (.dat a)).put j (.dat b)).put k (.dat c))
  | _ => False
def lfG (K : PySem.W.Frag) (f : Fr) (g : HG) (ws : List Nat) : TG := fun v σ H Q => ∃ F O G s d C, Rel K (fo f F O) G s σ H ∧ Dp K G v d ∧ g d s C ∧ ∀ s' σ', C s' → (∀ i, i ∉ ws → σ'[i]? = σ[i]?) → Rel K (fo f F O) G s' σ' H → Q σ' H
abbrev HI := Sg → (List PyData → Sg → Prop) → Prop
def ItOk (K : PySem.W.Frag) (f : Fr) (G0 : Hp) (ds : List PyData) (J : It) : Prop := ∀ (i : Nat) F O G s σ H, Ex G0 G → Rel K (fo f F O) G s σ H → (ds.length ≤ i → J.stop i H) ∧ ∀ d, ds[i]? = some d → J.go i H ∧ ∀ x H', J.yld i H x H' → ∃ G', Ex G G' ∧ Ex H H' ∧ Rel K (fo f F O) G' s σ H' ∧ Dp K G' x d
def lfI (K : PySem.W.Frag) (f : Fr) (t : HI) : TI := fun σ H R => ∃ F O G s C, Rel K (fo f F O) G s σ H ∧ t s C ∧ ∀ ds s' G' H' J, C ds s' → Ex G G' → Rel K (fo f F O) G' s' σ H' → ItOk K f G' ds J → R J H'
@[simp] def each (g : HG) (t : HS) (D : HD) : List PyData → Sg → Prop
  | [], s => D.nx s
  | d :: ds, s => g d s fun s1 => t { D with nx := each g t D ds, ct := each g t D ds, bk := D.nx } s1
@[simp] def hFor (it : HI) (g : HG) (t : HS) : HS := fun D s => it s fun ds s1 => each g t D ds s1
theorem _root_.L2.PI.mono {X : Cx} {tg it : Expr} {t t' : TI} (h : PI X tg it t) (m : ∀ σ H R, t' σ H R → t σ H R) : PI X tg it t' := ⟨fun pins s σ H R I q => h.run pins s σ H R I (m σ H R q)⟩
theorem _root_.L2.PG.mono {X : Cx} {tg : Expr} {t t' : TG} (h : PG X tg t) (m : ∀ v σ H Q, t' v σ H Q → t v σ H Q) : PG X tg t' := ⟨fun pins s σ H v u Q I r q => h.run pins s σ H v u Q I r (m v σ H Q q)⟩
section
variable {X : Cx} {f : Fr} {e a b c : Expr} {es : List Expr} {st : Stmt} {sts rest : List Stmt} {t : HE} {tt : HT} {ts tu : HS} {r : HA} {g : HG} {ws : List Nat} {it : HI} {pos : Pos}
theorem hs_nil : PSs X [] (lfS X.K f hNext) := pss_nil.mono fun D σ H q => by
  obtain ⟨F, O, G, s, D', R, ht, k⟩ := q
  exact k.nx _ _ _ _ (Ex.refl G) R ht
theorem hs_one (h : PS X st (lfS X.K f ts)) : PSs X [st] (lfS X.K f ts) := pss_one h
theorem hs_cons (h1 : PS X st (lfS X.K f ts)) (h2 : PSs X rest (lfS X.K f tu)) : PSs X (st :: rest) (lfS X.K f (hSeq ts tu)) := (pss_cons h1 h2).mono fun D σ H q => by
  obtain ⟨F, O, G, s, D', R, ht, k⟩ := q
  exact ⟨F, O, G, s, _, R, ht, ⟨fun G1 s1 σ1 H1 e1 R1 d1 => ⟨F, O, G1, s1, D', R1, d1, k.ex e1⟩, k.rt, k.bk, k.ct⟩⟩
theorem hs_asg {te : TE} {i : Nat} (h : PS X st (tAsg te (gName i))) (m : ∀ σ H Q, lf X.K f t σ H Q → te σ H Q) : PS X st (lfS X.K f (hAsg t i)) := h.mono fun D σ H q => by
  obtain ⟨F, O, G, s, D', R, ht, k⟩ := q
  exact m _ _ _ ⟨F, O, G, s, _, R, ht, fun p s1 G1 H1 v c1 e1 R1 V1 => k.nx _ _ _ _ e1 (R1.put V1) c1⟩
theorem hs_set {i : Nat} {x : Str} {pos' : Pos} (hN : X.N.Nodup) (hi : X.N[i]? = some x) (hx : Loc X.env.scope x) (he : PE X e (lf X.K f t)) (hs : swapsWith e (some (.Name x pos')) pos.line X.env = pure false := by rfl) (hf : X.fn x = true ∨ X.env.scope.names.lookup x = some .local := by first | exact .inl rfl | exact .inr rfl | assumption) :
    PS X (.Assign [.Name x pos'] e pos) (lfS X.K f (hAsg t i)) := hs_asg (ps_set hN hi hx he hs hf) fun _ _ _ q => q
theorem hs_ret (he : PE X e (lf X.K f t)) : PS X (.Return (some e) pos) (lfS X.K f (hRet t)) := (ps_ret he).mono fun D σ H q => by
  obtain ⟨F, O, G, s, D', R, ht, k⟩ := q
  exact ⟨F, O, G, s, _, R, ht, fun p s1 G1 H1 v c1 e1 R1 V1 => k.rt _ _ _ _ _ _ e1 R1 V1 c1⟩
theorem hs_if (hc : PT X c (lfT X.K f tt)) (ha : PSs X sts (lfS X.K f ts)) (hb : PSs X rest (lfS X.K f tu)) : PS X (.If c sts rest pos) (lfS X.K f (hIfS tt ts tu)) := (ps_if hc ha hb).mono fun D σ H q => by
  obtain ⟨F, O, G, s, D', R, ht, k⟩ := q
  refine ⟨F, O, G, s, _, R, ht, fun b s1 G1 H1 c1 e1 R1 => ?_⟩
  cases b with
  | true => exact ⟨F, O, G1, s1, D', R1, c1, k.ex e1⟩
  | false => exact ⟨F, O, G1, s1, D', R1, c1, k.ex e1⟩
theorem hs_never : PS X st (lfS X.K f hNever) := ps_never.mono fun D σ H q => by
  obtain ⟨F, O, G, s, D', R, ht, k⟩ := q
  exact ht.elim
theorem hs_drop (he : PE X e (lf X.K f t)) (hs : swapsWith e none pos.line X.env = pure false := by rfl) : PS X (.Expr e pos) (lfS X.K f (hDrop t)) := (ps_expr he hs).mono fun D σ H q => by
  obtain ⟨F, O, G, s, D', R, ht, k⟩ := q
  exact ⟨F, O, G, s, _, R, ht, fun p s1 G1 H1 v c1 e1 R1 V1 => k.nx _ _ _ _ e1 R1 c1⟩
theorem hs_while (hp : PassesOwn (model X.prog X.w) X.A X.env X.xe) (hc : PT X c (lfT X.K f tt)) (hb : PSs X sts (lfS X.K f ts)) : PS X (.While c sts [] pos) (lfS X.K f (hWhile tt ts)) := (ps_while hp hc hb).mono fun D σ H q => by
  obtain ⟨F, O, G, s, D', R, ⟨I, μ, hI, turn⟩, k⟩ := q
  refine ⟨fun m σ H => ∃ G2 s2, Ex G G2 ∧ Rel X.K (fo f F O) G2 s2 σ H ∧ I s2 ∧ m = μ s2, ⟨_, G, s, Ex.refl G, R, hI, rfl⟩, ?_⟩
  rintro m σ2 H2 ⟨G2, s2, e2, R2, I2, rfl⟩
  refine ⟨F, O, G2, s2, _, R2, turn s2 I2, fun b s3 G3 H3 c3 e3 R3 => ?_⟩
  cases b with
  | false => exact k.nx _ _ _ _ (e2.trans e3) R3 c3
  | true =>
    refine ⟨fun σ' H' => ∃ G4 s4, Ex G G4 ∧ Rel X.K (fo f F O) G4 s4 σ' H' ∧ I s4 ∧ μ s4 < μ s2, fun σ' H' h => ?_, F, O, G3, s3, _, R3, c3, ⟨fun G4 s4 σ4 H4 e4 R4 d4 => ⟨G4, s4, (e2.trans e3).trans e4, R4, d4.1, d4.2⟩, fun p G4 s4 σ4 H4 v e4 => k.rt p G4 s4 σ4 H4 v ((e2.trans e3).trans e4), fun G4 s4 σ4 H4 e4 => k.nx G4 s4 σ4 H4 ((e2.trans e3).trans e4), fun G4 s4 σ4 H4 e4 R4 d4 => ⟨G4, s4, (e2.trans e3).trans e4, R4, d4.1, d4.2⟩⟩⟩
    obtain ⟨G4, s4, a1, a2, a3, a4⟩ := h
    exact ⟨_, a4, G4, s4, a1, a2, a3, rfl⟩
theorem hs_for (hp : PassesOwn (model X.prog X.w) X.A X.env X.xe) (hc : X.calm = true) (hi : PI X a e (lfI X.K f it)) (hg : PG X a (lfG X.K f g ws)) (hb : PSs X sts (lfS X.K f ts)) (hs : ∀ x, foldedSetIterable e X.env x = pure x := by intro _; rfl) :
    PS X (.For a e sts [] pos) (lfS X.K f (hFor it g ts)) := (ps_for hp hc hi hg hb hs).mono fun D σ H q => by
  obtain ⟨F, O, G, s, D', R, ht, k⟩ := q
  refine ⟨F, O, G, s, _, R, ht, fun ds s1 G1 H1 J c1 e1 R1 ok => ?_⟩
  refine ⟨fun i m σ2 H2 => ∃ G2 s2, Ex G1 G2 ∧ Rel X.K (fo f F O) G2 s2 σ2 H2 ∧ m = ds.length - i ∧ each g ts D' (ds.drop i) s2, ⟨_, G1, s1, Ex.refl G1, R1, rfl, c1⟩, ?_⟩
  rintro i m σ2 H2 ⟨G2, s2, e2, R2, rfl, w⟩
  obtain ⟨k1, k2⟩ := ok i F O G2 s2 σ2 H2 e2 R2
  by_cases hi : i < ds.length
  · have hd : ds[i]? = some ds[i] := List.getElem?_eq_getElem hi
    obtain ⟨go, yl⟩ := k2 _ hd
    rw [List.drop_eq_getElem_cons hi] at w
    refine Or.inr ⟨go, fun σ' H' => ∃ G3 s3, Ex G1 G3 ∧ Rel X.K (fo f F O) G3 s3 σ' H' ∧ each g ts D' (ds.drop (i + 1)) s3, fun σ' H' h => ?_, fun x H' y => ?_⟩
    · obtain ⟨G3, s3, b1, b2, b3⟩ := h
      exact ⟨_, by omega, G3, s3, b1, b2, rfl, b3⟩
    · obtain ⟨G3, e3, _, R3, V3⟩ := yl x H' y
      refine ⟨F, O, G3, s2, _, _, R3, V3, w, fun s4 σ4 c4 _ R4 => ?_⟩
      exact ⟨F, O, G3, s4, _, R4, c4, ⟨fun G5 s5 σ5 H5 e5 R5 d5 => ⟨G5, s5, (e2.trans e3).trans e5, R5, d5⟩, fun p G5 s5 σ5 H5 v e5 => k.rt p G5 s5 σ5 H5 v (((e1.trans e2).trans e3).trans e5), fun G5 s5 σ5 H5 e5 => k.nx G5 s5 σ5 H5 (((e1.trans e2).trans e3).trans e5), fun G5 s5 σ5 H5 e5 R5 d5 => ⟨G5, s5, (e2.trans e3).trans e5, R5, d5⟩⟩⟩
  · rw [List.drop_eq_nil_of_le (by omega)] at w
    exact Or.inl ⟨k1 (by omega), k.nx _ _ _ _ (e1.trans e2) R2 w⟩
theorem hg_name {i : Nat} (h : PG X a (gName i)) : PG X a (lfG X.K f (gN i) [i]) := h.mono fun v σ H Q q => by
  obtain ⟨F, O, G, s, d, C, R, V, hg, k⟩ := q
  exact k _ _ hg (fun z hz => List.getElem?_set_ne (fun e => hz (by simp [e]))) (R.put (vrf_dat V))
theorem hg_pair {i j : Nat} (h : PG X a (gTup X.K 2 (gCons (gName i) (gCons (gName j) gNil)))) : PG X a (lfG X.K f (gP i j) [i, j]) := h.mono fun v σ H Q q => by
  obtain ⟨F, O, G, s, d, C, R, V, hg, k⟩ := q
  unfold gP at hg
  split at hg
  · rename_i x y
    cases V with
    | tup hs ha =>
      cases ha with
      | cons h1 h2 =>
        cases h2 with
        | cons h2 h3 =>
          cases h3
          exact ⟨_, _, rfl, Evl.ex_t R.gh hs, rfl, _, _, rfl, _, _, rfl, rfl, k _ _ hg (fun z hz => by rw [List.getElem?_set_ne (fun e => hz (by simp [e])), List.getElem?_set_ne (fun e => hz (by simp [e]))]) ((R.put (vrf_dat h1)).put (vrf_dat h2))⟩
  · exact hg.elim
theorem hg_tri {i j l : Nat} (h : PG X a (gTup X.K 3 (gCons (gName i) (gCons (gName j) (gCons (gName l) gNil))))) : PG X a (lfG X.K f (gT i j l) [i, j, l]) := h.mono fun v σ H Q q => by
  obtain ⟨F, O, G, s, d, C, R, V, hg, k⟩ := q
  unfold gT at hg
  split at hg
  · rename_i x y z
    cases V with
    | tup hs ha =>
      cases ha with
      | cons h1 h2 =>
        cases h2 with
        | cons h2 h3 =>
          cases h3 with
          | cons h3 h4 =>
            cases h4
            exact ⟨_, _, rfl, Evl.ex_t R.gh hs, rfl, _, _, rfl, _, _, rfl, _, _, rfl, rfl, k _ _ hg (fun z hz => by rw [List.getElem?_set_ne (fun e => hz (by simp [e])), List.getElem?_set_ne (fun e => hz (by simp [e])), List.getElem?_set_ne (fun e => hz (by simp [e]))]) (((R.put (vrf_dat h1)).put (vrf_dat h2)).put (vrf_dat h3))⟩
  · exact hg.elim
theorem hs_unp (he : PE X e (lf X.K f t)) (hg : PG X a (lfG X.K f g ws)) (hs : swapsWithSole [a] e pos.line X.env = pure false := by rfl) (hw : swappedStores [a] e X.env = pure none := by rfl)
    (h1 : (assignEach [a] X.env).map (·.2) = [assign a X.env] := by rfl) : PS X (.Assign [a] e pos) (lfS X.K f fun D s => t s fun p s1 => ∃ d, p.frz = some d ∧ g d s1 D.nx) := (ps_asg he hg hs hw h1).mono fun D σ H q => by
  obtain ⟨F, O, G, s, D', R, ht, k⟩ := q
  refine ⟨F, O, G, s, _, R, ht, fun p s1 G1 H1 v c1 e1 R1 V1 => ?_⟩
  obtain ⟨d, hd, hg⟩ := c1
  obtain ⟨G2, e2, R2, V2⟩ := R1.frz V1 hd
  exact ⟨F, O, G2, s1, d, _, R2, V2, hg, fun s3 σ3 c3 _ R3 => k.nx _ _ _ _ (e1.trans e2) R3 c3⟩
end
end Sk
set_option Elab.async false
set_option linter.all false
set_option maxRecDepth 100000
set_option maxHeartbeats 2000000
namespace Sk
open PySem PySem.Spec PyProof.Rows L2
open Evl (Ex)
@[simp] def hiL (t : HE) : HI := fun s C => t s fun p s1 => match p.frz with
  | some (.list ds) => C ds s1
  | _ => False
@[simp] def hiT (t : HE) : HI := fun s C => t s fun p s1 => match p.frz with
  | some (.tuple ds) => C ds s1
  | _ => False
@[simp] def hiS (t : HE) : HI := fun s C => t s fun p s1 => match p with
  | .dat (.str x) => C (x.cps.toList.map fun c => .str ⟨#[c]⟩) s1
  | _ => False
def rngD (lo : Int) (n : Nat) : List PyData := (List.range n).map fun i => .int (lo + (i : Nat))
@[simp] def hiR1 (ta : HA) : HI := fun s C => ta s fun ps s1 => match ps with
  | [.dat (.int n)] => (-1000000 ≤ n ∧ n ≤ 1000000) ∧ C (rngD 0 n.toNat) s1
  | _ => False
@[simp] def hiR2 (ta : HA) : HI := fun s C => ta s fun ps s1 => match ps with
  | [.dat (.int a), .dat (.int b)] => (-1000000 ≤ a ∧ a ≤ 1000000 ∧ -1000000 ≤ b ∧ b ≤ 1000000) ∧ C (rngD a (b - a).toNat) s1
  | _ => False
def enumD : Nat → List PyData → List PyData
  | _, [] => []
  | i, d :: ds => .tuple [.int i, d] :: enumD (i + 1) ds
@[simp] def hiE (ta : HA) : HI := fun s C => ta s fun ps s1 => match ps with
  | [.dat (.list ds)] => C (enumD 0 ds) s1
  | _ => False
def zipD : List PyData → List PyData → List PyData
  | d :: ds, e :: es => .tuple [d, e] :: zipD ds es
  | _, _ => []
@[simp] def hiZ (ta : HA) : HI := fun s C => ta s fun ps s1 => match ps with
  | [.dat (.list ds), .dat (.list es)] => C (zipD ds es) s1
  | [.dat (.tuple ds), .dat (.tuple es)] => C (zipD ds es) s1
  | _ => False
theorem enumD_at : ∀ {ds : List PyData} {k i : Nat} {d : PyData}, (enumD k ds)[i]? = some d → ∃ e, ds[i]? = some e ∧ d = .tuple [.int (k + i : Nat), e]
  | [], _, _, _, h => by simp [enumD] at h
  | e :: ds, k, 0, d, h => by simp [enumD] at h; exact ⟨e, rfl, by simp [← h]⟩
  | e :: ds, k, i + 1, d, h => by
    obtain ⟨x, h1, h2⟩ := enumD_at (k := k + 1) (i := i) (d := d) (by simpa [enumD] using h)
    exact ⟨x, by simpa using h1, by rw [h2]; simp; omega⟩
theorem enumD_len : ∀ {ds : List PyData} {k : Nat}, (enumD k ds).length = ds.length
  | [], _ => rfl
  | e :: ds, k => by simp [enumD, enumD_len]
theorem zipD_at : ∀ {ds es : List PyData} {i : Nat} {d : PyData}, (zipD ds es)[i]? = some d → ∃ a b, ds[i]? = some a ∧ es[i]? = some b ∧ d = .tuple [a, b]
  | [], _, _, _, h => by simp [zipD] at h
  | _ :: _, [], _, _, h => by simp [zipD] at h
  | a :: ds, b :: es, 0, d, h => by simp [zipD] at h; exact ⟨a, b, rfl, rfl, h.symm⟩
  | a :: ds, b :: es, i + 1, d, h => by
    obtain ⟨x, y, h1, h2, h3⟩ := zipD_at (ds := ds) (es := es) (i := i) (d := d) (by simpa [zipD] using h)
    exact ⟨x, y, by simpa using h1, by simpa using h2, h3⟩
theorem zipD_len : ∀ {ds es : List PyData}, (zipD ds es).length = min ds.length es.length
  | [], _ => by simp [zipD]
  | _ :: _, [] => by simp [zipD]
  | a :: ds, b :: es => by simp [zipD, zipD_len, Nat.succ_min_succ]
section
variable {X : Cx} {f : Fr} {tg e a b c : Expr} {es : List Expr} {t : HE} {r : HA} {pos : Pos}
theorem itOk_list {K : PySem.W.Frag} {G : Hp} {a : Addr} {xs : List V} {ds : List PyData} (h : SqL K G a xs) (hd : DpAll K G xs ds) : ItOk K f G ds (Itl K a) := fun i F O G1 s σ H e R => by
  have hH := Evl.ex_l (e.trans R.gh) h
  refine ⟨fun hi => ⟨xs, hH, by rw [hd.len]; exact hi⟩, fun d hdi => ?_⟩
  obtain ⟨v, hv, V⟩ := hd.at hdi
  exact ⟨⟨xs, v, hH, hv⟩, fun x H' y => by
    obtain ⟨rfl, y⟩ := y
    have := y xs hH
    rw [hv] at this
    cases this
    exact ⟨G1, Ex.refl _, Ex.refl _, R, Dp.ex e _ V⟩⟩
theorem itOk_tup {K : PySem.W.Frag} {G : Hp} {a : Addr} {xs : List V} {ds : List PyData} (h : SqT K G a xs) (hd : DpAll K G xs ds) : ItOk K f G ds (Itt K a) := fun i F O G1 s σ H e R => by
  have hH := Evl.ex_t (e.trans R.gh) h
  refine ⟨fun hi => ⟨xs, hH, by rw [hd.len]; exact hi⟩, fun d hdi => ?_⟩
  obtain ⟨v, hv, V⟩ := hd.at hdi
  exact ⟨⟨xs, v, hH, hv⟩, fun x H' y => by
    obtain ⟨rfl, y⟩ := y
    have := y xs hH
    rw [hv] at this
    cases this
    exact ⟨G1, Ex.refl _, Ex.refl _, R, Dp.ex e _ V⟩⟩
theorem itOk_rng {K : PySem.W.Frag} {G : Hp} {lo : Int} {n : Nat} : ItOk K f G (rngD lo n) (Itr lo n) := fun i F O G1 s σ H e R => by
  refine ⟨fun hi => (show n ≤ i by simpa [rngD] using hi), fun d hdi => ?_⟩
  unfold rngD at hdi
  rw [List.getElem?_map] at hdi
  obtain ⟨k, hk, rfl⟩ := Option.map_eq_some_iff.mp hdi
  obtain ⟨hl, hk2⟩ := List.getElem?_eq_some_iff.mp hk
  simp at hk2 hl
  subst hk2
  exact ⟨hl, fun x H' y => by
    obtain ⟨rfl, rfl⟩ := y
    exact ⟨G1, Ex.refl _, Ex.refl _, R, .int _⟩⟩
theorem itOk_enum {K : PySem.W.Frag} {G : Hp} {a : Addr} {xs : List V} {ds : List PyData} (h : SqL K G a xs) (hd : DpAll K G xs ds) : ItOk K f G (enumD 0 ds) (Ite K a) := fun i F O G1 s σ H e R => by
  have hH := Evl.ex_l (e.trans R.gh) h
  refine ⟨fun hi => ⟨xs, hH, by rw [hd.len]; rw [enumD_len] at hi; exact hi⟩, fun d hdi => ?_⟩
  obtain ⟨x, hx, rfl⟩ := enumD_at hdi
  obtain ⟨v, hv, V⟩ := hd.at hx
  refine ⟨⟨xs, v, hH, hv⟩, fun y H' yl => ?_⟩
  obtain ⟨T, w, rfl, hT, rfl, q⟩ := yl
  have := q xs hH
  rw [hv] at this
  cases this
  have eg := Evl.Ex.new (o := .tup [.int (i : Nat), v]) (R.gn hT)
  exact ⟨_, eg, Evl.Ex.new hT, R.newG hT, .tup (Or.inl (Or.inl upd_same)) (.cons (by rw [Nat.zero_add]; exact .int _) (.cons (Dp.ex (e.trans eg) _ V) .nil))⟩
theorem itOk_zipL {K : PySem.W.Frag} {G : Hp} {a b : Addr} {xs ys : List V} {ds es : List PyData} (h : SqL K G a xs) (hd : DpAll K G xs ds) (h' : SqL K G b ys) (hd' : DpAll K G ys es) : ItOk K f G (zipD ds es) (Itz K a b) := fun i F O G1 s σ H e R => by
  have hH := Evl.ex_l (e.trans R.gh) h
  have hH' := Evl.ex_l (e.trans R.gh) h'
  refine ⟨fun hi => ⟨xs, ys, hH, hH', by rw [hd.len, hd'.len]; rw [zipD_len] at hi; omega⟩, fun d hdi => ?_⟩
  obtain ⟨x, y, hx, hy, rfl⟩ := zipD_at hdi
  obtain ⟨v, hv, V⟩ := hd.at hx
  obtain ⟨v', hv', V'⟩ := hd'.at hy
  refine ⟨⟨xs, ys, v, v', hH, hH', hv, hv'⟩, fun z H' yl => ?_⟩
  obtain ⟨T, w, w', rfl, hT, rfl, q, q'⟩ := yl
  have z1 := q xs hH
  rw [hv] at z1
  cases z1
  have z2 := q' ys hH'
  rw [hv'] at z2
  cases z2
  have eg := Evl.Ex.new (o := .tup [v, v']) (R.gn hT)
  exact ⟨_, eg, Evl.Ex.new hT, R.newG hT, .tup (Or.inl (Or.inl upd_same)) (.cons (Dp.ex (e.trans eg) _ V) (.cons (Dp.ex (e.trans eg) _ V') .nil))⟩
theorem itOk_zipT {K : PySem.W.Frag} {G : Hp} {a b : Addr} {xs ys : List V} {ds es : List PyData} (h : SqT K G a xs) (hd : DpAll K G xs ds) (h' : SqT K G b ys) (hd' : DpAll K G ys es) : ItOk K f G (zipD ds es) (RZ.ItzT K a b) := fun i F O G1 s σ H e R => by
  have hH := Evl.ex_t (e.trans R.gh) h
  have hH' := Evl.ex_t (e.trans R.gh) h'
  refine ⟨fun hi => ⟨xs, ys, hH, hH', by rw [hd.len, hd'.len]; rw [zipD_len] at hi; omega⟩, fun d hdi => ?_⟩
  obtain ⟨x, y, hx, hy, rfl⟩ := zipD_at hdi
  obtain ⟨v, hv, V⟩ := hd.at hx
  obtain ⟨v', hv', V'⟩ := hd'.at hy
  refine ⟨⟨xs, ys, v, v', hH, hH', hv, hv'⟩, fun z H' yl => ?_⟩
  obtain ⟨T, w, w', rfl, hT, rfl, q, q'⟩ := yl
  have z1 := q xs hH
  rw [hv] at z1
  cases z1
  have z2 := q' ys hH'
  rw [hv'] at z2
  cases z2
  have eg := Evl.Ex.new (o := .tup [v, v']) (R.gn hT)
  exact ⟨_, eg, Evl.Ex.new hT, R.newG hT, .tup (Or.inl (Or.inl upd_same)) (.cons (Dp.ex (e.trans eg) _ V) (.cons (Dp.ex (e.trans eg) _ V') .nil))⟩
theorem itOk_str {K : PySem.W.Frag} {G : Hp} {x : Str} : ItOk K f G (x.cps.toList.map fun c => .str ⟨#[c]⟩) (Its x) := fun i F O G1 s σ H e R => by
  refine ⟨fun hi => (show x.cps.size ≤ i by simpa using hi), fun d hdi => ?_⟩
  rw [List.getElem?_map] at hdi
  obtain ⟨k, hk, rfl⟩ := Option.map_eq_some_iff.mp hdi
  obtain ⟨hl, hk2⟩ := List.getElem?_eq_some_iff.mp hk
  refine ⟨(by have z : i < x.cps.size := by simpa using hl
              exact z), fun v H' y => ?_⟩
  obtain ⟨rfl, c, hc, rfl⟩ := y
  have : c = k := by
    rw [← Array.getElem?_toList, hk] at hc
    exact (Option.some.inj hc).symm
  subst this
  exact ⟨G1, Ex.refl _, Ex.refl _, R, .str _⟩
theorem hi_list (h : PE X e (lf X.K f t)) : PI X tg e (lfI X.K f (hiL t)) := (pi_list h).mono fun σ H Q q => by
  obtain ⟨F, O, G, s, C, R, ht, k⟩ := q
  refine ⟨F, O, G, s, _, R, ht, fun p s1 G1 H1 v c1 e1 R1 V1 => ?_⟩
  split at c1
  · rename_i ds hd
    obtain ⟨G2, e2, R2, V2⟩ := R1.frz V1 hd
    cases V2 with
    | lst hs ha => exact ⟨_, rfl, ⟨_, Evl.ex_l R2.gh hs⟩, k _ _ _ _ _ c1 (e1.trans e2) R2 (itOk_list hs ha)⟩
  · exact c1.elim
theorem hi_tup (h : PE X e (lf X.K f t)) : PI X tg e (lfI X.K f (hiT t)) := (pi_tup h).mono fun σ H Q q => by
  obtain ⟨F, O, G, s, C, R, ht, k⟩ := q
  refine ⟨F, O, G, s, _, R, ht, fun p s1 G1 H1 v c1 e1 R1 V1 => ?_⟩
  split at c1
  · rename_i ds hd
    obtain ⟨G2, e2, R2, V2⟩ := R1.frz V1 hd
    cases V2 with
    | tup hs ha => exact ⟨_, rfl, ⟨_, Evl.ex_t R2.gh hs⟩, k _ _ _ _ _ c1 (e1.trans e2) R2 (itOk_tup hs ha)⟩
  · exact c1.elim
theorem hi_str (h : PE X e (lf X.K f t)) : PI X tg e (lfI X.K f (hiS t)) := (pi_str h).mono fun σ H Q q => by
  obtain ⟨F, O, G, s, C, R, ht, k⟩ := q
  refine ⟨F, O, G, s, _, R, ht, fun p s1 G1 H1 v c1 e1 R1 V1 => ?_⟩
  split at c1
  · rename_i x
    have : v = .str x := by cases (show Dp X.K G1 v (.str x) from V1.1); rfl
    exact ⟨x, this, k _ _ _ _ _ c1 e1 R1 itOk_str⟩
  · exact c1.elim
theorem vr_int {K : PySem.W.Frag} {f : Fr} {G H : Hp} {i : Int} {v : V} (h : VR K f G H (.dat (.int i)) v) : v = .int i := by
  cases (show Dp K G v (.int i) from h)
  rfl
theorem vr_str {K : PySem.W.Frag} {f : Fr} {G H : Hp} {i : Str} {v : V} (h : VR K f G H (.dat (.str i)) v) : v = .str i := by
  cases (show Dp K G v (.str i) from h)
  rfl
theorem hi_rng1 {p : Pos} (hg : Gl X "range") (hm : X.mg "range" = none) (ha : PA X [a] (lfA X.K f r)) (hs : starEach [a] X.env = [(false, eval a X.env)] := by rfl) : PI X tg (.Call (.Name "range" p) [a] [] pos) (lfI X.K f (hiR1 r)) := (pi_range1 hg hm ha hs).mono fun σ H Q q => by
  obtain ⟨F, O, G, s, C, R, ht, k⟩ := q
  refine ⟨F, O, G, s, _, R, ht, fun ps s1 G1 H1 vs c1 e1 R1 V1 => ?_⟩
  split at c1
  · rename_i n
    cases V1 with
    | cons v1 V1 =>
      cases V1
      have := vr_int v1
      subst this
      exact ⟨n, rfl, by omega, by omega, k _ _ _ _ _ c1.2 e1 R1 itOk_rng⟩
  · exact c1.elim
theorem hi_rng2 {p : Pos} (hg : Gl X "range") (hm : X.mg "range" = none) (ha : PA X [a, b] (lfA X.K f r)) (hs : starEach [a, b] X.env = [(false, eval a X.env), (false, eval b X.env)] := by rfl) (hs2 : starEach [b] X.env = [(false, eval b X.env)] := by rfl) : PI X tg (.Call (.Name "range" p) [a, b] [] pos) (lfI X.K f (hiR2 r)) := (pi_range2 hg hm ha hs hs2).mono fun σ H Q q => by
  obtain ⟨F, O, G, s, C, R, ht, k⟩ := q
  refine ⟨F, O, G, s, _, R, ht, fun ps s1 G1 H1 vs c1 e1 R1 V1 => ?_⟩
  split at c1
  · rename_i n m
    cases V1 with
    | cons v1 V1 =>
      cases V1 with
      | cons v2 V1 =>
        cases V1
        have := vr_int v1
        subst this
        have := vr_int v2
        subst this
        exact ⟨n, m, rfl, by omega, k _ _ _ _ _ c1.2 e1 R1 itOk_rng⟩
  · exact c1.elim
theorem hi_enum {p : Pos} {elts : List Expr} {kk : Nat} {tpos : Pos} (hg : Gl X "enumerate") (hm : X.mg "enumerate" = none) (ha : PA X [a] (lfA X.K f r)) (hs : starEach [a] X.env = [(false, eval a X.env)] := by rfl) : PI X (.Tuple elts kk tpos) (.Call (.Name "enumerate" p) [a] [] pos) (lfI X.K f (hiE r)) := (pi_enum hg hm ha hs).mono fun σ H Q q => by
  obtain ⟨F, O, G, s, C, R, ht, k⟩ := q
  refine ⟨F, O, G, s, _, R, ht, fun ps s1 G1 H1 vs c1 e1 R1 V1 => ?_⟩
  split at c1
  · rename_i ds
    cases V1 with
    | cons v1 V1 =>
      cases V1
      have v1 : Dp X.K G1 _ (.list ds) := v1
      cases v1 with
      | lst hs ha => exact ⟨_, _, rfl, Evl.ex_l R1.gh hs, k _ _ _ _ _ c1 e1 R1 (itOk_enum hs ha)⟩
  · exact c1.elim
theorem hi_zip {p : Pos} {elts : List Expr} {kk : Nat} {tpos : Pos} (hg : Gl X "zip") (hm : X.mg "zip" = none) (ha : PA X [a, b] (lfA X.K f r)) (hs : starEach [a, b] X.env = (false, eval a X.env) :: starEach [b] X.env := by rfl) (hpl : (backTo pos (starEach [b] X.env)).any (·.1) = false := by rfl) : PI X (.Tuple elts kk tpos) (.Call (.Name "zip" p) [a, b] [] pos) (lfI X.K f (hiZ r)) := (RZ.pi_zipA hg hm ha hs hpl).mono fun σ H Q q => by
  obtain ⟨F, O, G, s, C, R, ht, k⟩ := q
  refine ⟨F, O, G, s, _, R, ht, fun ps s1 G1 H1 vs c1 e1 R1 V1 => ?_⟩
  split at c1
  · rename_i ds es
    cases V1 with
    | cons v1 V1 =>
      cases V1 with
      | cons v2 V1 =>
        cases V1
        have v1 : Dp X.K G1 _ (.list ds) := v1
        have v2 : Dp X.K G1 _ (.list es) := v2
        cases v1 with
        | lst hs ha =>
          cases v2 with
          | lst hs' ha' => exact ⟨_, _, _, _, rfl, Or.inl ⟨Evl.ex_l R1.gh hs, Evl.ex_l R1.gh hs', k _ _ _ _ _ c1 e1 R1 (itOk_zipL hs ha hs' ha')⟩⟩
  · rename_i ds es
    cases V1 with
    | cons v1 V1 =>
      cases V1 with
      | cons v2 V1 =>
        cases V1
        have v1 : Dp X.K G1 _ (.tuple ds) := v1
        have v2 : Dp X.K G1 _ (.tuple es) := v2
        cases v1 with
        | tup hs ha =>
          cases v2 with
          | tup hs' ha' => exact ⟨_, _, _, _, rfl, Or.inr ⟨Evl.ex_t R1.gh hs, Evl.ex_t R1.gh hs', k _ _ _ _ _ c1 e1 R1 (itOk_zipT hs ha hs' ha')⟩⟩
  · exact c1.elim
@[simp] def Sg.wipe (s : Sg) (vs : List Nat) : Sg := ⟨vs.foldr (fun i l => l.set i none) s.sl, s.n⟩
@[simp] def lcs (vs : List Nat) (g : HG) (tt : HT) (t : HE) : List PyData → List PyData → Sg → (PV → Sg → Prop) → Prop
  | [], acc, s, C => C (.own acc) s
  | d :: ds, acc, s, C => g d s fun s1 => tt s1 fun b s2 => if b = true then t s2 fun p s3 => ∃ x, p.frz = some x ∧ acc.length < 100000 ∧ lcs vs g tt t ds (acc ++ [x]) (s3.wipe vs) C else lcs vs g tt t ds acc (s2.wipe vs) C
@[simp] def hLc (it : HI) (g : HG) (tt : HT) (t : HE) (vs : List Nat) : HE := fun s C => it s fun ds s1 => lcs vs g tt t ds [] (s1.wipe vs) C
@[simp] def hYes : HT := fun s C => C true s
theorem wipe_get {σ : L2.St} {s : Sg} {vs : List Nat} : ∀ (i : Nat) (p : PV), (s.wipe vs).sl[i]? = some (some p) → s.sl[i]? = some (some p) ∧ i ∉ vs := by
  induction vs with
  | nil => intro i p h; exact ⟨h, by simp⟩
  | cons v vs ih =>
    intro i p h
    rcases set_get (show ((s.wipe vs).sl.set v none)[i]? = _ from h) with ⟨_, e, _⟩ | ⟨ne, h⟩
    · cases e
    · obtain ⟨h1, h2⟩ := ih i p h
      exact ⟨h1, by simp [h2]; exact fun z => ne z.symm⟩
theorem wipe_len {s : Sg} {vs : List Nat} : (s.wipe vs).sl.length = s.sl.length := by
  induction vs with
  | nil => rfl
  | cons v vs ih => show ((s.wipe vs).sl.set v none).length = _; rw [List.length_set, ih]
theorem Rel.wipe {K : PySem.W.Frag} {G H : Hp} {s : Sg} {σ : L2.St} (R : Rel K f G s σ H) (vs : List Nat) : Rel K f G (s.wipe vs) (L2.wipe σ vs) H where
  gh := R.gh
  fh := R.fh
  go := R.go
  oh := R.oh
  mh := R.mh
  mo := R.mo
  tm := R.tm
  tb := R.tb
  pk := R.pk
  dr := R.dr
  ln := by rw [wipe_length, wipe_len]; exact R.ln
  sl := fun i p h => by
    obtain ⟨h1, h2⟩ := wipe_get (σ := σ) i p h
    obtain ⟨v, h3, h4⟩ := R.sl i p h1
    exact ⟨v, by rw [wipe_out h2]; exact h3, h4⟩
  ds := fun i j p q v ne hi hj mp mq wi wj => by
    obtain ⟨a1, a2⟩ := wipe_get (σ := σ) i p hi
    obtain ⟨b1, b2⟩ := wipe_get (σ := σ) j q hj
    rw [wipe_out a2] at wi
    rw [wipe_out b2] at wj
    exact R.ds i j p q v ne a1 b1 mp mq wi wj
theorem Rel.outw {K : PySem.W.Frag} {G H : Hp} {s : Sg} {σ σ2 : L2.St} {vs : List Nat} (R : Rel K f G s σ2 H) (e : L2.wipe σ2 vs = L2.wipe σ vs) : Rel K f G (s.wipe vs) σ H where
  gh := R.gh
  fh := R.fh
  go := R.go
  oh := R.oh
  mh := R.mh
  mo := R.mo
  tm := R.tm
  tb := R.tb
  pk := R.pk
  dr := R.dr
  ln := by
    have := congrArg List.length e
    rw [wipe_length, wipe_length] at this
    rw [wipe_len, ← R.ln, this]
  sl := fun i p h => by
    obtain ⟨h1, h2⟩ := wipe_get (σ := σ) i p h
    obtain ⟨v, h3, h4⟩ := R.sl i p h1
    have z : σ2[i]? = σ[i]? := by rw [← wipe_out h2, e, wipe_out h2]
    exact ⟨v, by rw [← z]; exact h3, h4⟩
  ds := fun i j p q v ne hi hj mp mq wi wj => by
    obtain ⟨a1, a2⟩ := wipe_get (σ := σ) i p hi
    obtain ⟨b1, b2⟩ := wipe_get (σ := σ) j q hj
    have z1 : σ2[i]? = σ[i]? := by rw [← wipe_out a2, e, wipe_out a2]
    have z2 : σ2[j]? = σ[j]? := by rw [← wipe_out b2, e, wipe_out b2]
    exact R.ds i j p q v ne a1 b1 mp mq (by rw [z1]; exact wi) (by rw [z2]; exact wj)
theorem EntOk.up {en : Ent} {F : Fr} {O : Addr → Prop} {G : Hp} {D : Addr} {o : HO} (h : EntOk en (fo f F O) G) (hF : F.F D = none) : EntOk en (fo f (F.up D o) fun a => O a ∨ a = D) G := { h with
  F := fun a u e => by
    have e2 : F.F a = some u := h.F a u e
    show upd F.F D o a = some u
    rw [upd_ne (fun z => by rw [z, hF] at e2; cases e2)]
    exact e2
  O := fun a e => Or.inl (h.O a e) }
theorem Rel.beside {K : PySem.W.Frag} {F : Fr} {O : Addr → Prop} {G H : Hp} {s : Sg} {σ : L2.St} {D : Addr} {o : HO} (R : Rel K (fo f F O) G s σ H) (hD : H D = none) : Rel K (fo f (F.up D o) fun a => O a ∨ a = D) G s σ (upd H D o) := by
  have ne : ∀ {a : Addr} {u : HO}, H a = some u → a ≠ D := fun h z => by rw [z, hD] at h; cases h
  have no : ∀ {a : Addr}, H a ≠ none → a ≠ D := fun h z => h (by rw [z]; exact hD)
  exact {
    gh := R.gh.trans (Evl.Ex.new hD)
    fh := fun a u m h => by
      have h' : upd F.F D o a = some u := h
      by_cases q : a = D
      · subst q; rw [upd_same] at h' ⊢; exact h'
      · rw [upd_ne q] at h' ⊢; exact R.fh a u m h'
    go := fun a h => h.elim (fun h => R.go a h) fun h => by rw [h]; exact R.gn hD
    oh := fun a h => h.elim (fun h => by rw [upd_ne (no (R.oh a h))]; exact R.oh a h) fun h => by rw [h, upd_same]; intro z; cases z
    mh := fun a h => by rw [upd_ne (no (R.mh a h))]; exact R.mh a h
    mo := fun h => by obtain ⟨a, b, c, d, e⟩ := R.mo h; exact ⟨Or.inl a, Or.inl b, Or.inl c, d, e⟩
    tm := fun p hp => ⟨Or.inl (R.tm p hp).1, (R.tm p hp).2⟩
    tb := fun p hp => (R.tb p hp).keep (fun _ _ _ z => z) (upd_ne (no (R.oh _ (R.tm p hp).1)))
    pk := fun en h => (R.pk en h).up ((R.fr_none hD).elim id fun z => absurd hD (R.mh D z))
    dr := fun h => by
      obtain ⟨a, b, c, d, e⟩ := R.mo h
      exact (R.dr h).keep (upd_ne (no (R.oh _ a))) (upd_ne (no (R.oh _ b))) (upd_ne (no (R.oh _ c)))
    ln := R.ln
    sl := fun i p h => by
      obtain ⟨v, h1, h2⟩ := R.sl i p h
      refine ⟨v, h1, ?_⟩
      cases p with
      | dat d => exact h2
      | drw => exact h2
      | val _ => exact h2
      | dgf _ => exact h2
      | abs _ => exact h2
      | own ds =>
        obtain ⟨a, vs, rfl, k1, k2, k3, k4, k5⟩ := h2
        exact ⟨a, vs, rfl, by rw [upd_ne (ne k1)]; exact k1, k2, fun z => z.elim k3 (ne k1), k4.elim (fun z => Or.inl (by show upd F.F D o a = none; rw [upd_ne (ne k1)]; exact z)) Or.inr, k5⟩
      | byr ds =>
        obtain ⟨a, vs, rfl, k1, k2, k3, k4, k5, k6⟩ := h2
        exact ⟨a, vs, rfl, by rw [upd_ne (ne k1)]; exact k1, k2, fun z => z.elim k3 (ne k1), k4.elim (fun z => Or.inl (by show upd F.F D o a = none; rw [upd_ne (ne k1)]; exact z)) Or.inr, k5, k6⟩
      | dct ds =>
        obtain ⟨a, vs, rfl, k1, k2, k3, k4, k5, k6⟩ := h2
        exact ⟨a, vs, rfl, by rw [upd_ne (ne k1)]; exact k1, k2, fun z => z.elim k3 (ne k1), k4.elim (fun z => Or.inl (by show upd F.F D o a = none; rw [upd_ne (ne k1)]; exact z)) Or.inr, k5, k6⟩
      | dcg ds =>
        obtain ⟨a, vs, rfl, k1, k2, k3, k4, k5⟩ := h2
        exact ⟨a, vs, rfl, by rw [upd_ne (ne k1)]; exact k1, k2, fun z => z.elim k3 (ne k1), k4.elim (fun z => Or.inl (by show upd F.F D o a = none; rw [upd_ne (ne k1)]; exact z)) Or.inr, k5⟩
    ds := R.ds }
theorem Rel.beside2 {K : PySem.W.Frag} {F : Fr} {O : Addr → Prop} {G H : Hp} {s : Sg} {σ : L2.St} {D : Addr} {o o' : HO} (R : Rel K (fo f (F.up D o) fun a => O a ∨ a = D) G s σ H) (hF : F.F D = none) (hP : ∀ en, f.e = some en → EntOk en (fo f F O) G) (hM : ¬ F.M D) (hO : ¬ O D) (hd : F.on = true → D ≠ F.m ∧ D ≠ F.l ∧ D ≠ F.c) : Rel K (fo f (F.up D o') fun a => O a ∨ a = D) G s σ (upd H D o') := by
  have gD : G D = none := R.go D (Or.inr rfl)
  exact {
    gh := fun a u h => by rw [upd_ne (fun z => by rw [z, gD] at h; cases h)]; exact R.gh a u h
    fh := fun a u m h => by
      have h' : upd F.F D o' a = some u := h
      by_cases q : a = D
      · subst q; rw [upd_same] at h' ⊢; exact h'
      · rw [upd_ne q] at h' ⊢; exact R.fh a u m (show upd F.F D o a = some u by rw [upd_ne q]; exact h')
    go := R.go
    oh := fun a h => by
      by_cases q : a = D
      · subst q; rw [upd_same]; intro z; cases z
      · rw [upd_ne q]; exact R.oh a h
    mh := fun a h => by
      by_cases q : a = D
      · subst q; rw [upd_same]; intro z; cases z
      · rw [upd_ne q]; exact R.mh a h
    mo := R.mo
    tm := R.tm
    tb := fun p hp => (R.tb p hp).keep (fun _ _ _ z => z) (upd_ne fun z => hM (z ▸ (R.tm p hp).2))
    pk := fun en h => (hP en h).up hF
    dr := fun h => by
      obtain ⟨a, b, c⟩ := hd h
      exact (R.dr h).keep (upd_ne a.symm) (upd_ne b.symm) (upd_ne c.symm)
    ln := R.ln
    sl := fun i p h => by
      obtain ⟨v, h1, h2⟩ := R.sl i p h
      refine ⟨v, h1, ?_⟩
      cases p with
      | dat d => exact h2
      | drw => exact h2
      | val _ => exact h2
      | dgf _ => exact h2
      | abs _ => exact h2
      | own ds =>
        obtain ⟨a, vs, rfl, k1, k2, k3, k4, k5⟩ := h2
        have ne : a ≠ D := fun z => k3 (Or.inr z)
        exact ⟨a, vs, rfl, by rw [upd_ne ne]; exact k1, k2, k3, k4.elim (fun z => Or.inl (by show upd F.F D o' a = none; rw [upd_ne ne]; have z' : upd F.F D o a = none := z; rw [upd_ne ne] at z'; exact z')) Or.inr, k5⟩
      | byr ds =>
        obtain ⟨a, vs, rfl, k1, k2, k3, k4, k5, k6⟩ := h2
        have ne : a ≠ D := fun z => k3 (Or.inr z)
        exact ⟨a, vs, rfl, by rw [upd_ne ne]; exact k1, k2, k3, k4.elim (fun z => Or.inl (by show upd F.F D o' a = none; rw [upd_ne ne]; have z' : upd F.F D o a = none := z; rw [upd_ne ne] at z'; exact z')) Or.inr, k5, k6⟩
      | dct ds =>
        obtain ⟨a, vs, rfl, k1, k2, k3, k4, k5, k6⟩ := h2
        have ne : a ≠ D := fun z => k3 (Or.inr z)
        exact ⟨a, vs, rfl, by rw [upd_ne ne]; exact k1, k2, k3, k4.elim (fun z => Or.inl (by show upd F.F D o' a = none; rw [upd_ne ne]; have z' : upd F.F D o a = none := z; rw [upd_ne ne] at z'; exact z')) Or.inr, k5, k6⟩
      | dcg ds =>
        obtain ⟨a, vs, rfl, k1, k2, k3, k4, k5⟩ := h2
        have ne : a ≠ D := fun z => k3 (Or.inr z)
        exact ⟨a, vs, rfl, by rw [upd_ne ne]; exact k1, k2, k3, k4.elim (fun z => Or.inl (by show upd F.F D o' a = none; rw [upd_ne ne]; have z' : upd F.F D o a = none := z; rw [upd_ne ne] at z'; exact z')) Or.inr, k5⟩
    ds := R.ds }
theorem Rel.beside3 {K : PySem.W.Frag} {F : Fr} {O : Addr → Prop} {G H : Hp} {s : Sg} {σ : L2.St} {D : Addr} {vs : List V} {ds : List PyData} (R : Rel K (fo f (F.up D (.lst vs)) fun a => O a ∨ a = D) G s σ H) (hP : ∀ en, f.e = some en → EntOk en (fo f F O) G) (hM : ¬ F.M D) (hO : ¬ O D) (hF : F.F D = none) (hc : F.on = true → D ≠ F.c) (dv : DpAll K G vs ds) : Rel K (fo f F O) G s σ H ∧ VRf K (fo f F O) G H s σ (.own ds) (.ref D) := by
  have hD : H D = some (.lst vs) := R.fh D _ hM (show upd F.F D (.lst vs) D = _ by rw [upd_same])
  have gD : G D = none := R.go D (Or.inr rfl)
  have sl' : ∀ (i : Nat) (p : PV), s.sl[i]? = some (some p) → ∃ v : V, σ[i]? = some (some v) ∧ VR K (fo f F O) G H p v := fun i p h => by
    obtain ⟨v, h1, h2⟩ := R.sl i p h
    refine ⟨v, h1, ?_⟩
    cases p with
    | dat d => exact h2
    | drw => exact h2
    | val _ => exact h2
    | dgf _ => exact h2
    | abs _ => exact h2
    | own ds =>
      obtain ⟨a, vs, rfl, k1, k2, k3, k4, k5⟩ := h2
      have ne : a ≠ D := fun z => k3 (Or.inr z)
      exact ⟨a, vs, rfl, k1, k2, fun z => k3 (Or.inl z), k4.elim (fun z => Or.inl (by have z' : upd F.F D (.lst _) a = none := z; rw [upd_ne ne] at z'; exact z')) Or.inr, k5⟩
    | byr ds =>
      obtain ⟨a, vs, rfl, k1, k2, k3, k4, k5, k6⟩ := h2
      have ne : a ≠ D := fun z => k3 (Or.inr z)
      exact ⟨a, vs, rfl, k1, k2, fun z => k3 (Or.inl z), k4.elim (fun z => Or.inl (by have z' : upd F.F D (.lst _) a = none := z; rw [upd_ne ne] at z'; exact z')) Or.inr, k5, k6⟩
    | dct ds =>
      obtain ⟨a, vs, rfl, k1, k2, k3, k4, k5, k6⟩ := h2
      have ne : a ≠ D := fun z => k3 (Or.inr z)
      exact ⟨a, vs, rfl, k1, k2, fun z => k3 (Or.inl z), k4.elim (fun z => Or.inl (by have z' : upd F.F D (.lst _) a = none := z; rw [upd_ne ne] at z'; exact z')) Or.inr, k5, k6⟩
    | dcg ds =>
      obtain ⟨a, vs, rfl, k1, k2, k3, k4, k5⟩ := h2
      have ne : a ≠ D := fun z => k3 (Or.inr z)
      exact ⟨a, vs, rfl, k1, k2, fun z => k3 (Or.inl z), k4.elim (fun z => Or.inl (by have z' : upd F.F D (.lst _) a = none := z; rw [upd_ne ne] at z'; exact z')) Or.inr, k5⟩
  refine ⟨{ gh := R.gh, fh := fun a u m h => R.fh a u m (show upd F.F D (.lst vs) a = some u from ?_), go := fun a h => R.go a (Or.inl h), oh := fun a h => R.oh a (Or.inl h), mh := R.mh, mo := fun h => ?_, tm := fun p hp => ⟨(R.tm p hp).1.elim id fun z => absurd (z ▸ (R.tm p hp).2) hM, (R.tm p hp).2⟩, tb := R.tb, pk := hP, dr := R.dr, ln := R.ln, sl := sl', ds := R.ds }, ⟨D, vs, rfl, hD, gD, hO, Or.inl hF, dv⟩, fun _ i q h1 h2 h3 => ?_⟩
  · have h' : F.F a = some u := h
    rw [upd_ne (fun z => by rw [z, hF] at h'; cases h')]; exact h'
  · obtain ⟨a, b, c, d, e⟩ := R.mo h
    have nn : ∀ {x : Addr}, (O x ∨ x = D) → F.M x → O x := fun z m => z.elim id fun z => absurd (z ▸ m) hM
    exact ⟨nn a d, nn b e, c.elim id fun z => absurd z.symm (hc h), d, e⟩
  · obtain ⟨v, h4, h5⟩ := R.sl i q h1
    rw [h3] at h4
    cases h4
    cases q with
    | dat d => cases h2
    | drw => cases h2
    | val _ => cases h2
    | dgf _ => cases h2
    | abs _ => cases h2
    | own ds => obtain ⟨p, _, e, _, _, h6, _⟩ := h5; cases e; exact h6 (Or.inr rfl)
    | byr ds => obtain ⟨p, _, e, _, _, h6, _⟩ := h5; cases e; exact h6 (Or.inr rfl)
    | dct ds => obtain ⟨p, _, e, _, _, h6, _⟩ := h5; cases e; exact h6 (Or.inr rfl)
    | dcg ds => obtain ⟨p, _, e, _, _, h6, _⟩ := h5; cases e; exact h6 (Or.inr rfl)
end
end Sk
set_option Elab.async false
set_option linter.all false
set_option maxRecDepth 100000
set_option maxHeartbeats 2000000
namespace Sk
open PySem PySem.Spec PyProof.Rows L2
open Evl (Ex)
theorem _root_.L2.PTs.mono {X : Cx} {es : List Expr} {t t' : TT} (h : PTs X es t) (m : ∀ σ H Q, t' σ H Q → t σ H Q) : PTs X es t' := ⟨fun pins s σ H Q I q => h.run pins s σ H Q I (m σ H Q q)⟩
theorem pts_yes {X : Cx} {f : Fr} : PTs X [] (lfT X.K f hYes) := pts_nil.mono fun σ H Q q => by
  obtain ⟨F, O, G, s, C, R, ht, k⟩ := q
  exact k _ _ _ _ ht (Ex.refl G) R
theorem wipe_cong {σ σ2 : L2.St} : ∀ {vs : List Nat}, σ2.length = σ.length → (∀ i, i ∉ vs → σ2[i]? = σ[i]?) → L2.wipe σ2 vs = L2.wipe σ vs := fun {vs} hl h => by
  apply List.ext_getElem?
  intro i
  by_cases hi : i ∈ vs
  · have key : ∀ (τ : L2.St) (ws : List Nat), i ∈ ws → (L2.wipe τ ws)[i]? = if i < τ.length then some none else none := fun τ ws => by
      induction ws with
      | nil => intro h; cases h
      | cons w ws ih =>
        intro h
        show ((L2.wipe τ ws).set w none)[i]? = _
        by_cases q : w = i
        · subst q
          rw [List.getElem?_set]
          simp [wipe_length]
        · rw [List.getElem?_set_ne q]
          exact ih (by cases h with
            | head => exact absurd rfl q
            | tail _ h => exact h)
    rw [key _ _ hi, key _ _ hi, hl]
  · rw [wipe_out hi, wipe_out hi]
    exact h i hi
theorem wipe_idem {σ : L2.St} {vs : List Nat} : L2.wipe (L2.wipe σ vs) vs = L2.wipe σ vs := wipe_cong (by rw [wipe_length]) fun i hi => wipe_out hi
theorem Rel.inw {K : PySem.W.Frag} {f : Fr} {G H : Hp} {s0 : Sg} {σ : L2.St} {vs : List Nat} (R : Rel K f G (s0.wipe vs) σ H) : Rel K f G (s0.wipe vs) (L2.wipe σ vs) H where
  gh := R.gh
  fh := R.fh
  go := R.go
  oh := R.oh
  mh := R.mh
  mo := R.mo
  tm := R.tm
  tb := R.tb
  pk := R.pk
  dr := R.dr
  ln := by rw [wipe_length]; exact R.ln
  sl := fun i p h => by
    obtain ⟨v, h3, h4⟩ := R.sl i p h
    exact ⟨v, by rw [wipe_out (wipe_get (σ := σ) i p h).2]; exact h3, h4⟩
  ds := fun i j p q v ne hi hj mp mq wi wj => by
    rw [wipe_out (wipe_get (σ := σ) i p hi).2] at wi
    rw [wipe_out (wipe_get (σ := σ) j q hj).2] at wj
    exact R.ds i j p q v ne hi hj mp mq wi wj
section
variable {X : Cx} {f : Fr} {e : Expr} {t : HE} {tt : HT} {g : HG} {ws : List Nat} {it : HI}
theorem lc_conv {vs : List Nat} (hw : ∀ i, i ∈ ws → i ∈ vs) (hgl : ∀ d s C, g d s C → ∃ C', g d s C' ∧ ∀ s', C' s' → C s' ∧ s'.sl.length = s.sl.length) : ∀ σ H Q, lf X.K f (hLc it g tt t vs) σ H Q → tLc (lfI X.K f it) (lfG X.K f g ws) (lfT X.K f tt) (lf X.K f t) vs σ H Q := fun σ H Q q => by
  obtain ⟨F, O, G, s, C, R, ht, k⟩ := q
  refine ⟨F, O, G, s, _, R, ht, fun ds s1 G1 H1 J c1 e1 R1 ok D hD => ?_⟩
  have hM : ¬ F.M D := fun z => R1.mh D z hD
  have hO : ¬ O D := fun z => R1.oh D z hD
  have hF : F.F D = none := (R1.fr_none hD).elim id fun z => absurd z hM
  have hd : F.on = true → D ≠ F.m ∧ D ≠ F.l ∧ D ≠ F.c := fun h => by
    obtain ⟨a, b, c, _⟩ := R1.mo h
    have nn : ∀ {x : Addr}, O x → D ≠ x := fun z q => hO (by rw [q]; exact z)
    exact ⟨nn a, nn b, nn c⟩
  refine ⟨fun i m H2 => ∃ (G2 : Hp) (s0 : Sg) (acc : List PyData) (vs' : List V), Ex G1 G2 ∧ Rel X.K (fo f (F.up D (.lst vs')) fun a => O a ∨ a = D) G2 (s0.wipe vs) σ H2 ∧ DpAll X.K G2 vs' acc ∧ m = ds.length - i ∧ lcs vs g tt t (ds.drop i) acc (s0.wipe vs) C, ⟨_, G1, s1, [], [], Ex.refl G1, (R1.beside hD).outw rfl, .nil, rfl, c1⟩, ?_⟩
  rintro i m H2 ⟨G2, s0, acc, vs', e2, R2, V2, rfl, w⟩
  obtain ⟨k1, k2⟩ := ok i _ _ G2 _ σ H2 e2 R2
  by_cases hi : i < ds.length
  · have hdi : ds[i]? = some ds[i] := List.getElem?_eq_getElem hi
    obtain ⟨go, yl⟩ := k2 _ hdi
    rw [List.drop_eq_getElem_cons hi] at w
    refine Or.inr ⟨go, fun H' => ∃ (G3 : Hp) (s0 : Sg) (acc : List PyData) (vs' : List V), Ex G1 G3 ∧ Rel X.K (fo f (F.up D (.lst vs')) fun a => O a ∨ a = D) G3 (s0.wipe vs) σ H' ∧ DpAll X.K G3 vs' acc ∧ lcs vs g tt t (ds.drop (i + 1)) acc (s0.wipe vs) C, fun H' h => ?_, fun x H' y => ?_⟩
    · obtain ⟨G3, s3, acc', vs3, b1, b2, b3, b4⟩ := h
      exact ⟨_, by omega, G3, s3, acc', vs3, b1, b2, b3, rfl, b4⟩
    · obtain ⟨G3, e3, _, R3, V3⟩ := yl x H' y
      obtain ⟨C', w', hC'⟩ := hgl _ _ _ w
      refine ⟨_, _, G3, s0.wipe vs, _, C', R3.inw, V3, w', fun s4 σ4 c4 hs R4 => ?_⟩
      obtain ⟨c4, hlen⟩ := hC' s4 c4
      have we : L2.wipe σ4 vs = L2.wipe σ vs := by
        rw [← wipe_idem (σ := σ)]
        refine wipe_cong ?_ fun i hi => hs i fun z => hi (hw i z)
        rw [R4.ln, hlen, wipe_length, ← R3.ln]
      refine ⟨we, _, _, G3, s4, _, R4, c4, fun b s5 G5 H5 c5 e5 R5 => ?_⟩
      cases b with
      | false => exact ⟨G5, s5, acc, vs', (e2.trans e3).trans e5, R5.outw we, Dp.exAll (e3.trans e5) _ V2, c5⟩
      | true =>
        refine ⟨_, _, G5, s5, _, R5, c5, fun p s6 G6 H6 v c6 e6 R6 V6 => ?_⟩
        obtain ⟨x', hx, hlen, hl⟩ := c6
        obtain ⟨G7, e7, R7, V7⟩ := R6.frz V6 hx
        have V2' := Dp.exAll (((e3.trans e5).trans e6).trans e7) _ V2
        refine ⟨vs', R6.fh D _ hM (show upd F.F D (.lst vs') D = _ by rw [upd_same]), by rw [V2.len]; exact Evl.sz_lt hlen, G7, s6, acc ++ [x'], vs' ++ [v], (((e2.trans e3).trans e5).trans e6).trans e7, (R7.beside2 hF (fun en h => (R1.pk en h).ex ((((e2.trans e3).trans e5).trans e6).trans e7)) hM hO hd).outw we, V2'.append (.cons V7 .nil), hl⟩
  · rw [List.drop_eq_nil_of_le (by omega)] at w
    obtain ⟨R5, V5⟩ := R2.beside3 (fun en h => (R1.pk en h).ex e2) hM hO hF (fun h => (hd h).2.2) V2
    exact Or.inl ⟨k1 (by omega), k _ _ _ _ _ w (e1.trans e2) R5 V5⟩
theorem hp_lc {vs : List Nat} (h : PE X e (tLc (lfI X.K f it) (lfG X.K f g ws) (lfT X.K f tt) (lf X.K f t) vs)) (hw : ∀ i, i ∈ ws → i ∈ vs) (hgl : ∀ d s C, g d s C → ∃ C', g d s C' ∧ ∀ s', C' s' → C s' ∧ s'.sl.length = s.sl.length) : PE X e (lf X.K f (hLc it g tt t vs)) := h.mono (lc_conv hw hgl)
theorem hs_setLc {st : Stmt} {i : Nat} {vs : List Nat} (h : PS X st (tAsg (tLc (lfI X.K f it) (lfG X.K f g ws) (lfT X.K f tt) (lf X.K f t) vs) (gName i))) (hw : ∀ i, i ∈ ws → i ∈ vs) (hgl : ∀ d s C, g d s C → ∃ C', g d s C' ∧ ∀ s', C' s' → C s' ∧ s'.sl.length = s.sl.length) : PS X st (lfS X.K f (hAsg (hLc it g tt t vs) i)) := hs_asg h (lc_conv hw hgl)
theorem gl_name {i : Nat} : ∀ d s C, gN i d s C → ∃ C', gN i d s C' ∧ ∀ s', C' s' → C s' ∧ s'.sl.length = s.sl.length := fun d s C h => ⟨fun s' => s' = s.put i (.dat d), rfl, fun s' e => by subst e; exact ⟨h, by simp [Sg.put]⟩⟩
theorem gl_pair {i j : Nat} : ∀ d s C, gP i j d s C → ∃ C', gP i j d s C' ∧ ∀ s', C' s' → C s' ∧ s'.sl.length = s.sl.length := fun d s C h => by
  unfold gP at h ⊢
  split at h
  · exact ⟨fun s' => s' = (s.put i (.dat _)).put j (.dat _), rfl, fun s' e => by subst e; exact ⟨h, by simp [Sg.put]⟩⟩
  · exact h.elim
end
abbrev HSp := List PV → Nat → (PV → Nat → Prop) → Prop
def PV.imm : PV → Bool
  | .dat d => Sk.imm d
  | .own ds => immAll ds
  | .dct kvs => immAll (kvs.map (·.2))
  | .dcg _ => false
  | .byr _ => false
  | .drw => true
  | .val _ => true
  | .dgf _ => false
  | .abs _ => false
def PV.isD : PV → Bool
  | .dct _ => true
  | .byr _ => true
  | _ => false
def PV.arg : PV → PV
  | .own ds => .dat (.list ds)
  | .dcg kvs => .dgf kvs
  | p => p
def SpH (K : PySem.W.Frag) (w : World) (T : Tbs) (k : Nat) (sp : HSp) : Sp := fun vs H Q _ => ∃ f G n ps C, f.w = w ∧ f.T = T ∧ f.e = none ∧ f.F = H ∧ (∀ a, f.M a → (f.on = true ∧ (a = f.m ∨ a = f.l)) ∨ f.tab a) ∧ Rel K f G ⟨ps.map some, n⟩ (vs.map some) H ∧ (∀ p ∈ ps, p.mut = false) ∧ ps.length = k ∧ sp ps n C ∧
  ∀ p n' G' H' v, C p n' → Ex G G' → Rel K f G' ⟨[], n'⟩ [] H' → VR K f G' H' p v → Q v H'
@[simp] def hCall (sp : HSp) (k : Nat) (ta : HA) : HE := fun s C => ta s fun ps s' => ps.length = k ∧ (∀ p ∈ ps, p.isD = false) ∧ sp (ps.map PV.arg) s'.n fun p n' => (ps.any PV.mut = true → p.imm = true) ∧ C p ⟨s'.sl, n'⟩
theorem Rel.bare {K : PySem.W.Frag} {f : Fr} {G H : Hp} {s : Sg} {σ : L2.St} (R : Rel K f G s σ H) : Rel K f G ⟨[], s.n⟩ [] H where
  gh := R.gh
  fh := R.fh
  go := R.go
  oh := R.oh
  mh := R.mh
  mo := R.mo
  tm := R.tm
  tb := R.tb
  pk := R.pk
  dr := R.dr
  ln := rfl
  sl := fun i p h => by simp at h
  ds := fun i j p q v _ h => by simp at h
theorem pair_at {K : PySem.W.Frag} {f : Fr} {G H : Hp} : ∀ {ps : List PV} {vs : List V} {i : Nat} {p : PV}, VRs K f G H ps vs → ps[i]? = some p → ∃ v, vs[i]? = some v ∧ VR K f G H p v
  | _, _, i, p, .nil, h => by simp at h
  | _, _, 0, p, .cons h1 h2, h => by simp at h; subst h; exact ⟨_, rfl, h1⟩
  | _, _, i + 1, p, .cons h1 h2, h => by
    obtain ⟨v, a, b⟩ := pair_at (i := i) (p := p) h2 (by simpa using h)
    exact ⟨v, by simpa using a, b⟩
theorem spH_core {K : PySem.W.Frag} {f : Fr} {F : Fr} {O : Addr → Prop} {G H : Hp} {s : Sg} {σ : L2.St} {ps : List PV} {vs : List V} {k : Nat} (R : Rel K (fo f F O) G s σ H) (W : VRs K (fo f F O) G H ps vs) (hk : ps.length = k) (hD : ∀ p ∈ ps, p.isD = false) :
    ∃ (f' : Fr) (Gc : Hp), f'.w = f.w ∧ f'.T = f.T ∧ f'.e = none ∧ f'.F = H ∧ (∀ a, f'.M a → (f'.on = true ∧ (a = f'.m ∨ a = f'.l)) ∨ f'.tab a) ∧ Rel K f' Gc ⟨(ps.map PV.arg).map some, s.n⟩ (vs.map some) H ∧ (∀ p ∈ ps.map PV.arg, p.mut = false) ∧ (ps.map PV.arg).length = k ∧ Ex G Gc ∧
      ∀ (p : PV) (n' : Nat) (G' H' : Hp) (v : V), (ps.any PV.mut = true → p.imm = true) → Ex Gc G' → Rel K f' G' ⟨[], n'⟩ [] H' → VR K f' G' H' p v → ∃ G2, Ex G G2 ∧ Rel K (fo f F O) G2 ⟨s.sl, n'⟩ σ H' ∧ VRf K (fo f F O) G2 H' s σ p v := by
  classical
  let A : Addr → Prop := fun a => ∃ (i : Nat) (p : PV), ps[i]? = some p ∧ ((∃ ds, p = .own ds) ∨ ∃ kvs, p = .dcg kvs) ∧ vs[i]? = some (.ref a)
  let S : Addr → Prop := fun a => ∃ (i : Nat) (q : PV), s.sl[i]? = some (some q) ∧ q.mut = true ∧ σ[i]? = some (some (.ref a))
  have hA : ∀ a, A a → ∃ u, H a = some u ∧ G a = none ∧ ¬ O a ∧ ((∃ ws, u = .lst ws) ∨ ∃ w g, u = GDo w a g) := fun a ⟨i, p0, h1, hp0, h2⟩ => by
    obtain ⟨v, h3, h4⟩ := pair_at W h1
    rw [h2] at h3
    cases h3
    rcases hp0 with ⟨ds, rfl⟩ | ⟨kvs, rfl⟩
    · obtain ⟨p, ws, e, k1, k2, k3, _⟩ := h4
      cases e
      exact ⟨_, k1, k2, k3, Or.inl ⟨ws, rfl⟩⟩
    · obtain ⟨p, ws, e, k1, k2, k3, _⟩ := h4
      cases e
      exact ⟨_, k1, k2, k3, Or.inr ⟨_, ws, rfl⟩⟩
  have hS : ∀ a, S a → H a ≠ none ∧ G a = none ∧ ¬ O a := fun a ⟨i, q, h1, h2, h3⟩ => by
    obtain ⟨v, h4, h5⟩ := R.sl i q h1
    rw [h3] at h4
    cases h4
    cases q with
    | dat d => cases h2
    | drw => cases h2
    | val _ => cases h2
    | dgf _ => cases h2
    | abs _ => cases h2
    | own ds => obtain ⟨p, ws, e, k1, k2, k3, _⟩ := h5; cases e; exact ⟨(by rw [k1]; intro z; cases z), k2, k3⟩
    | byr ds => obtain ⟨p, ws, e, k1, k2, k3, _⟩ := h5; cases e; exact ⟨(by rw [k1]; intro z; cases z), k2, k3⟩
    | dct ds => obtain ⟨p, ws, e, k1, k2, k3, _⟩ := h5; cases e; exact ⟨(by rw [k1]; intro z; cases z), k2, k3⟩
    | dcg ds => obtain ⟨p, ws, e, k1, k2, k3, _⟩ := h5; cases e; exact ⟨(by rw [k1]; intro z; cases z), k2, k3⟩
  let Gc : Hp := fun a => if A a then H a else G a
  let O' : Addr → Prop := fun a => (O a ∨ S a) ∧ ¬ A a
  let f' : Fr := ⟨F.on, F.m, F.l, F.c, H, O', fun a => (F.on = true ∧ (a = F.m ∨ a = F.l)) ∨ (fo f F O).tab a, F.r, f.w, f.T, none⟩
  have gc : Ex G Gc := fun a o h => by
    show (if A a then H a else G a) = some o
    split
    · rename_i ha
      obtain ⟨_, _, h2, _⟩ := hA a ha
      rw [h2] at h; cases h
    · exact h
  have oo : ∀ a, O a → O' a := fun a h => ⟨Or.inl h, fun z => by obtain ⟨_, _, _, n, _⟩ := hA a z; exact n h⟩
  have lenv : vs.length = ps.length := by
    have := Paired.length W
    omega
  have Mo : ∀ a, f'.M a → O a := fun a h0 => by
    rcases h0 with ⟨h1, h2⟩ | ⟨q, hq⟩
    case inr => exact (R.tm _ hq).1
    obtain ⟨a1, a2, _⟩ := R.mo h1
    rcases h2 with h2 | h2
    · rw [h2]; exact a1
    · rw [h2]; exact a2
  have R' : Rel K f' Gc ⟨(ps.map PV.arg).map some, s.n⟩ (vs.map some) H := {
    gh := fun a o h => by
      have h' : (if A a then H a else G a) = some o := h
      split at h'
      · exact h'
      · exact R.gh _ _ h'
    fh := fun a o _ h => h
    go := fun a h => by
      show (if A a then H a else G a) = none
      rw [if_neg h.2]
      exact h.1.elim (fun z => R.go a z) fun z => (hS a z).2.1
    oh := fun a h => h.1.elim (fun z => R.oh a z) fun z => (hS a z).1
    mh := fun a h => R.oh a (Mo a h)
    mo := fun h => by
      obtain ⟨a1, a2, a3, _⟩ := R.mo h
      exact ⟨oo _ a1, oo _ a2, oo _ a3, Or.inl ⟨h, Or.inl rfl⟩, Or.inl ⟨h, Or.inr rfl⟩⟩
    tm := fun p hp => ⟨oo _ (R.tm p hp).1, Or.inr ⟨p.2, hp⟩⟩
    tb := fun p hp => (R.tb p hp).keep (fun _ _ _ z => gc _ _ z) rfl
    pk := fun _ h => by cases h
    dr := R.dr
    ln := by simp [lenv]
    sl := fun i p h => by
      rw [List.getElem?_map] at h
      obtain ⟨p0, h1, e⟩ := Option.map_eq_some_iff.mp h
      cases e
      rw [List.getElem?_map] at h1
      obtain ⟨p1, h2, rfl⟩ := Option.map_eq_some_iff.mp h1
      obtain ⟨v, h3, h4⟩ := pair_at W h2
      refine ⟨v, by rw [List.getElem?_map, h3]; rfl, ?_⟩
      cases p1 with
      | dat d => exact Dp.ex gc _ h4
      | drw => exact h4
      | val _ => exact h4
      | dgf _ => obtain ⟨p0, xs0, z1, z2, z3⟩ := h4; exact ⟨p0, xs0, z1, gc _ _ z2, z3.ex gc⟩
      | abs _ => exact fun G9 e9 => h4 G9 (gc.trans e9)
      | dct kvs => have := hD _ (List.mem_of_getElem? h2); cases this
      | dcg kvs =>
        obtain ⟨a, ws, rfl, k1, k2, k3, k4, k5⟩ := h4
        have ha : A a := ⟨i, _, h2, Or.inr ⟨kvs, rfl⟩, h3⟩
        exact ⟨a, ws, rfl, by show (if A a then H a else G a) = _; rw [if_pos ha]; exact k1, k5.ex gc⟩
      | byr kvs => have := hD _ (List.mem_of_getElem? h2); cases this
      | own ds =>
        obtain ⟨a, ws, rfl, k1, k2, k3, k4, k5⟩ := h4
        have ha : A a := ⟨i, _, h2, Or.inl ⟨ds, rfl⟩, h3⟩
        exact .lst (Or.inl (Or.inl (by show (if A a then H a else G a) = _; rw [if_pos ha]; exact k1))) (Dp.exAll gc _ k5)
    ds := fun i j p q v _ h _ mp => by
      rw [List.getElem?_map] at h
      obtain ⟨p0, h1, e⟩ := Option.map_eq_some_iff.mp h
      cases e
      rw [List.getElem?_map] at h1
      obtain ⟨p1, h2, rfl⟩ := Option.map_eq_some_iff.mp h1
      cases p1 with
      | dat d => cases mp
      | drw => cases mp
      | val _ => cases mp
      | dgf _ => cases mp
      | abs _ => cases mp
      | own ds => cases mp
      | dct kvs => have := hD _ (List.mem_of_getElem? h2); cases this
      | dcg kvs => cases mp
      | byr kvs => have := hD _ (List.mem_of_getElem? h2); cases this }
  refine ⟨f', Gc, rfl, rfl, rfl, rfl, fun a h => h, R', fun p hp => ?_, by simp [hk], gc, fun p n' G' H' v ci e R2 V2 => ?_⟩
  · obtain ⟨p0, h1, rfl⟩ := List.mem_map.mp hp
    cases p0 with
    | dct kvs => have := hD _ h1; cases this
    | byr kvs => have := hD _ h1; cases this
    | _ => rfl
  let G2 : Hp := fun a => if A a then none else G' a
  have e2 : Ex G G2 := fun a o h => by
    have n : ¬ A a := fun z => by obtain ⟨_, _, h2, _⟩ := hA a z; rw [h2] at h; cases h
    show (if A a then none else G' a) = some o
    rw [if_neg n]
    exact e _ _ (gc _ _ h)
  have hk2 : ∀ a u, H a = some u → ¬ O a → H' a = some u := fun a u h n => R2.fh a u (fun z => n (Mo a z)) h
  have key : ∀ a, H a ≠ none → ¬ O a → S a → G2 a = none := fun a h n hs => by
    show (if A a then none else G' a) = none
    split
    · rfl
    · rename_i na
      exact R2.go a ⟨Or.inr hs, na⟩
  have slk : ∀ (i : Nat) (p : PV), s.sl[i]? = some (some p) → ∃ v : V, σ[i]? = some (some v) ∧ VR K (fo f F O) G2 H' p v := fun i p h => by
    obtain ⟨w, h1, h2⟩ := R.sl i p h
    refine ⟨w, h1, ?_⟩
    cases p with
    | dat d => exact Dp.ex e2 _ h2
    | drw => exact h2
    | val _ => exact h2
    | dgf _ => obtain ⟨p0, xs0, z1, z2, z3⟩ := h2; exact ⟨p0, xs0, z1, e2 _ _ z2, z3.ex e2⟩
    | abs _ => exact fun G9 e9 => h2 G9 (e2.trans e9)
    | own ds =>
      obtain ⟨a, ws, rfl, k1, k2, k3, k4, k5⟩ := h2
      exact ⟨a, ws, rfl, hk2 a _ k1 k3, key a (by rw [k1]; intro z; cases z) k3 ⟨i, _, h, rfl, h1⟩, k3, k4, Dp.exAll e2 _ k5⟩
    | byr ds =>
      obtain ⟨a, ws, rfl, k1, k2, k3, k4, k5, k6⟩ := h2
      exact ⟨a, ws, rfl, hk2 a _ k1 k3, key a (by rw [k1]; intro z; cases z) k3 ⟨i, _, h, rfl, h1⟩, k3, k4, Dp.exAll e2 _ k5, k6⟩
    | dct ds =>
      obtain ⟨a, ws, rfl, k1, k2, k3, k4, k5, k6⟩ := h2
      exact ⟨a, ws, rfl, hk2 a _ k1 k3, key a (by rw [k1]; intro z; cases z) k3 ⟨i, _, h, rfl, h1⟩, k3, k4, k5, Dp.exAll e2 _ k6⟩
    | dcg ds =>
      obtain ⟨a, ws, rfl, k1, k2, k3, k4, k5⟩ := h2
      exact ⟨a, ws, rfl, hk2 a _ k1 k3, key a (by rw [k1]; intro z; cases z) k3 ⟨i, _, h, rfl, h1⟩, k3, k4, k5.ex e2⟩
  have R3 : Rel K (fo f F O) G2 ⟨s.sl, n'⟩ σ H' := {
    gh := fun a o h => by
      have h' : (if A a then none else G' a) = some o := h
      split at h'
      · cases h'
      · exact R2.gh _ _ h'
    fh := fun a o m h => R2.fh a o (fun z => by
      rcases z with ⟨h1, h2⟩ | ⟨q, hq⟩
      case inr => exact m (R.tm _ hq).2
      obtain ⟨_, _, _, a4, a5⟩ := R.mo h1
      rcases h2 with h2 | h2
      · exact m (by rw [h2]; exact a4)
      · exact m (by rw [h2]; exact a5)) (R.fh a o m h)
    go := fun a h => by
      show (if A a then none else G' a) = none
      rw [if_neg (oo a h).2]
      exact R2.go a (oo a h)
    oh := fun a h => R2.oh a (oo a h)
    mh := fun a h => by
      by_cases z : f'.M a
      · exact R2.mh a z
      · cases w : H a with
        | none => exact absurd w (R.mh a h)
        | some u => rw [R2.fh a u z w]; intro z; cases z
    mo := R.mo
    tm := R.tm
    tb := fun p hp => (R2.tb p hp).keep2 (fun b o hn hn2 z => by
      show (if A b then none else G' b) = some o
      split
      · rename_i ha
        obtain ⟨u, k1, _, _, k4⟩ := hA b ha
        have q1 : Gc b = some u := by show (if A b then H b else G b) = _; rw [if_pos ha]; exact k1
        rw [e _ _ q1] at z
        cases z
        rcases k4 with ⟨ws, rfl⟩ | ⟨w, g, rfl⟩
        · exact absurd rfl (hn ws)
        · exact absurd rfl (hn2 w g)
      · exact z) rfl
    pk := fun en h => (R.pk en h).ex fun a o h => by
      show (if A a then none else G' a) = some o
      split
      · rename_i ha
        obtain ⟨_, _, h2, _⟩ := hA a ha
        rw [h2] at h; cases h
      · exact e _ _ (gc _ _ h)
    dr := R2.dr
    ln := R.ln
    sl := slk
    ds := R.ds }
  have noA : ps.any PV.mut = false → ∀ a, ¬ A a := fun h a ⟨i, p0, h1, hp0, _⟩ => by
    have := List.any_eq_false.mp h _ (List.mem_of_getElem? h1)
    rcases hp0 with ⟨ds, rfl⟩ | ⟨kvs, rfl⟩ <;> exact this rfl
  have gg : ps.any PV.mut = false → Ex G' G2 := fun h a o ho => by
    show (if A a then none else G' a) = some o
    rw [if_neg (noA h a)]
    exact ho
  have gr : Gr G' G2 := fun a xs r => by
    have n : ∀ o, G' a = some o → (∀ ws, o ≠ .lst ws) → (∀ w g, o ≠ GDo w a g) → G2 a = some o := fun o ho hn hn2 => by
      show (if A a then none else G' a) = some o
      split
      · rename_i ha
        obtain ⟨u, h1, _, _, k4⟩ := hA a ha
        have : Gc a = some u := by show (if A a then H a else G a) = _; rw [if_pos ha]; exact h1
        rw [e _ _ this] at ho
        cases ho
        rcases k4 with ⟨ws, rfl⟩ | ⟨w, g, rfl⟩
        · exact absurd rfl (hn ws)
        · exact absurd rfl (hn2 w g)
      · exact ho
    rcases r with r | ⟨ob, r⟩
    · exact Or.inl (n _ r (fun ws z => by cases z) fun w g z => by unfold GDo at z; cases z)
    · exact Or.inr ⟨ob, n _ r (fun ws z => by cases z) fun w g z => by unfold GDo at z; cases z⟩
  have dpk : ∀ (d : PyData) (w : V), (ps.any PV.mut = true → Sk.imm d = true) → Dp K G' w d → Dp K G2 w d := fun d w hi hd => by
    cases hm : ps.any PV.mut with
    | false => exact Dp.ex (gg hm) _ hd
    | true => exact Dp.gr gr _ (hi hm) hd
  have dpa : ∀ (ds : List PyData) (ws : List V), (ps.any PV.mut = true → immAll ds = true) → DpAll K G' ws ds → DpAll K G2 ws ds := fun d w hi hd => by
    cases hm : ps.any PV.mut with
    | false => exact Dp.exAll (gg hm) _ hd
    | true => exact Dp.grAll gr _ (hi hm) hd
  have newp : ∀ a, G' a = none → ¬ O' a → (H a = none ∨ f'.M a) → G2 a = none ∧ ¬ O a ∧ (F.F a = none ∨ F.M a) ∧ H a = none := fun a h1 h2 h3 => by
    have ha : H a = none := h3.elim id fun z => absurd (oo a (Mo a z)) h2
    refine ⟨?_, fun z => h2 (oo a z), R.fr_none ha, ha⟩
    show (if A a then none else G' a) = none
    split
    · rfl
    · exact h1
  refine ⟨G2, e2, R3, ?_⟩
  cases p with
  | dat d => exact vrf_dat (dpk d v ci V2)
  | drw => exact ⟨V2, fun z => by cases z⟩
  | val _ => exact ⟨V2, fun z => by cases z⟩
  | dgf ds =>
    obtain ⟨p0, xs0, z1, z2, z3⟩ := V2
    cases hm : ps.any PV.mut with
    | false => exact ⟨⟨p0, xs0, z1, gg hm _ _ z2, z3.ex (gg hm)⟩, fun z => by cases z⟩
    | true => have z := ci hm; cases z
  | abs _ =>
    cases hm : ps.any PV.mut with
    | false => exact ⟨fun G9 e9 => V2 G9 ((gg hm).trans e9), fun z => by cases z⟩
    | true => have z := ci hm; cases z
  | own ds =>
    obtain ⟨a, ws, rfl, k1, k2, k3, k4, k5⟩ := V2
    obtain ⟨b1, b2, b3, b4⟩ := newp a k2 k3 k4
    refine ⟨⟨a, ws, rfl, k1, b1, b2, b3, dpa ds ws ci k5⟩, fun _ i q h1 h2 h3 => ?_⟩
    exact (hS a ⟨i, q, h1, h2, h3⟩).1 b4
  | byr ds =>
    obtain ⟨a, ws, rfl, k1, k2, k3, k4, k5, k6⟩ := V2
    obtain ⟨b1, b2, b3, b4⟩ := newp a k2 k3 k4
    refine ⟨⟨a, ws, rfl, k1, b1, b2, b3, dpa ds ws (fun h => by have z := ci h; cases z) k5, k6⟩, fun _ i q h1 h2 h3 => ?_⟩
    exact (hS a ⟨i, q, h1, h2, h3⟩).1 b4
  | dct ds =>
    obtain ⟨a, ws, rfl, k1, k2, k3, k4, k5, k6⟩ := V2
    obtain ⟨b1, b2, b3, b4⟩ := newp a k2 k3 k4
    refine ⟨⟨a, ws, rfl, k1, b1, b2, b3, k5, dpa _ _ ci k6⟩, fun _ i q h1 h2 h3 => ?_⟩
    exact (hS a ⟨i, q, h1, h2, h3⟩).1 b4
  | dcg ds =>
    obtain ⟨a, ws, rfl, k1, k2, k3, k4, k5⟩ := V2
    obtain ⟨b1, b2, b3, b4⟩ := newp a k2 k3 k4
    have k6 : GRel K G2 ws.2 ds := by
      cases hm : ps.any PV.mut with
      | false => exact k5.ex (gg hm)
      | true => have z := ci hm; cases z
    refine ⟨⟨a, ws, rfl, k1, b1, b2, b3, k6⟩, fun _ i q h1 h2 h3 => ?_⟩
    exact (hS a ⟨i, q, h1, h2, h3⟩).1 b4
theorem spH_call {K : PySem.W.Frag} {f : Fr} {F : Fr} {O : Addr → Prop} {G H : Hp} {s : Sg} {σ : L2.St} {ps : List PV} {vs : List V} {k : Nat} {sp : HSp} {Q : VK} {E : XK} {C : PV → Nat → Prop} (R : Rel K (fo f F O) G s σ H) (W : VRs K (fo f F O) G H ps vs) (hk : ps.length = k) (hD : ∀ p ∈ ps, p.isD = false)
    (h : sp (ps.map PV.arg) s.n fun p n' => (ps.any PV.mut = true → p.imm = true) ∧ C p n')
    (q : ∀ p n' G' H' v, C p n' → Ex G G' → Rel K (fo f F O) G' ⟨s.sl, n'⟩ σ H' → VRf K (fo f F O) G' H' s σ p v → Q v H') : SpH K f.w f.T k sp vs H Q E := by
  obtain ⟨f', Gc, x1, x2, x3, x4, x5, R', x6, x7, _, back⟩ := spH_core (k := k) R W hk hD
  refine ⟨f', Gc, s.n, ps.map PV.arg, _, x1, x2, x3, x4, x5, R', x6, x7, h, fun p n' G' H' v c e R2 V2 => ?_⟩
  obtain ⟨G2, e2, R3, V3⟩ := back p n' G' H' v c.1 e R2 V2
  exact q p n' G2 H' v c.2 e2 R3 V3
section
variable {X : Cx} {f : Fr} {e : Expr} {es : List Expr} {ta : HA} {sp : HSp} {E : XK}
theorem hp_call {k : Nat} (h : ∀ {t : TA}, PA X es t → PE X e (tCall (SpH X.K f.w f.T k sp) [] E t)) (ha : PA X es (lfA X.K f ta)) : PE X e (lf X.K f (hCall sp k ta)) := (h ha).mono fun σ H Q q => by
  obtain ⟨F, O, G, s, C, R, ht, kk⟩ := q
  refine ⟨F, O, G, s, _, R, ht, fun ps s1 G1 H1 vs c1 e1 R1 V1 => ?_⟩
  obtain ⟨c2, c3, c4⟩ := c1
  rw [List.append_nil]
  exact spH_call R1 V1 c2 c3 c4 fun p n' G' H' v c e2 R2 V2 => kk p ⟨s1.sl, n'⟩ G' H' v c (e1.trans e2) R2 V2
theorem vals_len {k : Nat} {K : PySem.W.Frag} {w : World} {T : Tbs} : ∀ vs H Q E, SpH K w T k sp vs H Q E → vs.length = k := fun vs H Q E h => by
  obtain ⟨f, G, n, ps, C, _, _, _, _, _, R, _, hk, _⟩ := h
  have := R.ln
  simp at this
  omega
theorem gnH {P : Program} {w : World} {T : Tbs} {K : PySem.W.Frag} {mg : Str → Option Value} {base : Heap} {k : Nat} {fa : Addr} {fd : FuncData} {x qual : Str} {st : Stmt} {N ps : List Str} {hs : HS} (Fn : Fun K x qual st fa fd) (S : FnScope N ps (defScope st))
    (body : ∀ (cdv : Value), fd.code = cdv → ∀ (A : Around) (outer : List Env) (s : Shared) (H : Hp) (E : XK), (A.deeper (envOfC qual (defScope st) s.heap.objs.size fa cdv)).guards = some [] → Room k (A.deeper (envOfC qual (defScope st) s.heap.objs.size fa cdv)) → PSs (cxOf CX0 P w K mg base N qual (defScope st) fa cdv A outer s H E).nox (defBody st) (lfS K (f0 w T) hs))
    (rd : ∀ pvs n C, pvs.length = ps.length → sp pvs n C → hs ⟨fun s => C (.dat .none) s.n, fun p s => C p s.n, fun _ => False, fun _ => False⟩ ⟨pvs.map some ++ List.replicate (N.length - pvs.length) none, n⟩) :
    GnOk P w K mg base CX0 (k + 1) fa fd ps (SpH K w T ps.length sp) := by
  refine gn_ok Fn S vals_len fun cdv ecd A outer s H vs Q E hgd hr h => ?_
  obtain ⟨⟨on, m, l, c, fF, fO, fM, r, fw, fT, fe⟩, G, n, pvs, C, hw, hT, he, hF, hM, R, hm, hk, hsp, kk⟩ := h
  have hw : fw = w := hw
  have hT : fT = T := hT
  have he : fe = none := he
  subst hw hT he
  let f : Fr := ⟨on, m, l, c, fF, fO, fM, r, fw, fT, none⟩
  have lnv : vs.length = pvs.length := by
    have := R.ln
    simpa using this
  refine ⟨_, body cdv ecd A outer s H E hgd hr, ⟨on, m, l, c, fF, fO, fM, r, fw, fT, none⟩, fO, G, _, _, ?_, rd pvs n C hk hsp, ⟨fun G1 s1 σ1 H1 e1 R1 c => kk _ _ _ _ _ c e1 R1.bare .non, fun p G1 s1 σ1 H1 v e1 R1 V1 c => kk _ _ _ _ _ c e1 R1.bare V1.1, fun _ _ _ _ _ _ z => z.elim, fun _ _ _ _ _ _ z => z.elim⟩⟩
  have ap : ∀ {α : Type} (xs : List α) (m i : Nat) (y : α), (xs.map some ++ List.replicate m none)[i]? = some (some y) → (xs.map some)[i]? = some (some y) := fun xs m i y h => by
    by_cases hi : i < xs.length
    · rw [List.getElem?_append_left (by simpa using hi)] at h; exact h
    · rw [List.getElem?_append_right (by simpa using hi)] at h
      rw [List.getElem?_replicate] at h
      split at h <;> cases h
  have ap2 : ∀ {α : Type} (xs : List α) (m i : Nat) (y : α), (xs.map some)[i]? = some (some y) → (xs.map some ++ List.replicate m none)[i]? = some (some y) := fun xs m i y h => by
    have hi : i < (xs.map some).length := (List.getElem?_eq_some_iff.mp h).1
    rw [List.getElem?_append_left hi]; exact h
  show Rel K f G ⟨_, n⟩ (L2.start N vs) H
  exact { R with
    ln := by simp [L2.start, lnv]
    sl := fun i p h => by
      obtain ⟨v, h1, h2⟩ := R.sl i p (ap _ _ _ _ h)
      exact ⟨v, ap2 _ _ _ _ h1, h2⟩
    ds := fun i j p q v ne hi _ mp => by
      have h1 := ap _ _ _ _ hi
      rw [List.getElem?_map] at h1
      obtain ⟨p0, h2, e⟩ := Option.map_eq_some_iff.mp h1
      cases e
      have := hm _ (List.mem_of_getElem? h2)
      rw [this] at mp
      cases mp }
end
end Sk
set_option Elab.async false
set_option linter.all false
set_option maxRecDepth 100000
set_option maxHeartbeats 2000000
namespace Sk
open PySem PySem.Spec PyProof.Rows L2
open PySem.W (Datum DatumOrd Tup T3 T4)
open Evl (Ex)
def tyD : PyData → String
  | .none => "NoneType"
  | .bool _ => "bool"
  | .int _ => "int"
  | .str _ => "str"
  | .list _ => "list"
  | .tuple _ => "tuple"
  | .dict _ => "dict"
section
variable {X : Cx} {f : Fr}
theorem kit_dp {pins : List (Addr × Obj)} {σ : L2.St} {H : Hp} {s : Shared} {x : V} {u : Value} {d : PyData} (I : Inv X pins σ H s) (h : Dp X.K H x d) (rx : RelV x u) : ∃ P : Heap → Prop, PySem.W.KitX X.K u (.type (tyD d)) P ∧ P s.heap ∧ u ≠ .builtin "__main__.__loader__#opaque" := by
  cases h with
  | non => exact kit_of I rx (.base .non)
  | bl b => exact kit_of I rx (.base (.bl b))
  | int i => exact kit_of I rx (.base (.int i))
  | str i => exact kit_of I rx (.base (.str i))
  | @lst a xs ds hs ha =>
    cases (show u = Value.ref a from rx)
    obtain ⟨its, _, ⟨o, n, h1, h2, _⟩, _⟩ := I.list hs
    exact ⟨_, PySem.W.kitx_list, ⟨o, h1, h2⟩, fun z => nomatch z⟩
  | @tup a xs ds hs ha =>
    cases (show u = Value.ref a from rx)
    obtain ⟨its, _, ⟨o, h1, h2, _⟩, _⟩ := I.tuple hs
    exact ⟨_, PySem.W.kitx_tuple, ⟨o, h1, h2⟩, fun z => nomatch z⟩
  | @emp a hz =>
    cases (show u = Value.ref a from rx)
    obtain ⟨_, _, _, _, o, _, _, h1, h2, _⟩ := (show ObjOk X.prog X.w H s.heap a (.dK []) from I.hok a _ hz)
    exact ⟨_, PySem.W.kitx_dict, ⟨o, h1, h2.1⟩, fun z => nomatch z⟩
def rIsiD (K : PySem.W.Frag) : List V → Hp → VK → Prop := fun xs H Q => ∃ (x : V) (n : String) (d : PyData) (b : Bool), xs = [x, .ty n] ∧ Dp K H x d ∧ kitB (tyD d) n = some b ∧ Q (.bl b) H
theorem call_isiD : CallR X (.builtin "isinstance") (rIsiD X.K) := by
  intro pins s σ H xs us Q I r h
  obtain ⟨x, n, d, b, rfl, k, e, q⟩ := h
  obtain ⟨u1, u2, rfl, r1, r2⟩ := vals2 r
  cases (show u2 = Value.type n from r2)
  obtain ⟨P, Z, p, hx⟩ := kit_dp I k r1
  exact PySem.W.kia_one Z I.kIn p (kit_ty e) hx fun tk => ⟨.bl b, H, I.tok tk, rfl, q⟩
theorem VR.dp {K : PySem.W.Frag} {G H : Hp} {p : PV} {v : V} {d : PyData} (h : VR K f G H p v) (g : Ex G H) (e : p.frz = some d) : Dp K H v d := by
  cases p with
  | dat d' => cases e; exact Dp.ex g _ h
  | own ds =>
    cases e
    obtain ⟨a, vs, rfl, h1, _, _, _, h5⟩ := h
    exact .lst (Or.inl (Or.inl h1)) (Dp.exAll g _ h5)
  | dct _ => cases e
  | dcg _ => cases e
  | drw => cases e
  | val _ => cases e
  | dgf _ => cases e
  | abs _ => cases e
  | byr _ => cases e
def isiW : List PV → (PV → Prop) → Prop := fun ps C => match ps with
  | [p, .val (.ty n)] => ∃ d b, p.frz = some d ∧ kitB (tyD d) n = some b ∧ C (.dat (.bool b))
  | _ => False
theorem op_isi : Op X.K f (rIsiD X.K) isiW := fun F O G s σ H ps vs C Q R V w k => by
  unfold isiW at w
  split at w
  · rename_i p n
    obtain ⟨d, b, h1, h2, h3⟩ := w
    cases V with
    | cons v1 V =>
      cases V with
      | cons v2 V =>
        cases V
        cases (show _ = V.ty n from v2)
        exact ⟨_, n, d, b, rfl, v1.dp R.gh h1, h2, k _ _ _ _ h3 (Ex.refl G) R (vrf_dat (.bl b))⟩
  · exact w.elim
@[simp] def i2 (C : Int → Int → Prop) (g : Int → Int → PyData) : List PV → (PV → Prop) → Prop := fun ps K => match ps with
  | [.dat (.int i), .dat (.int j)] => C i j ∧ K (.dat (g i j))
  | _ => False
theorem op_i2 {Cd : Int → Int → Prop} {g : Int → Int → V} {g' : Int → Int → PyData} (hg : ∀ i j G, Dp X.K G (g i j) (g' i j)) : Op X.K f (op2 (rI Cd g)) (i2 Cd g') := fun F O G s σ H ps vs C Q R V w k => by
  unfold i2 at w
  split at w
  · rename_i i j
    cases V with
    | cons v1 V =>
      cases V with
      | cons v2 V =>
        cases V
        cases vr_int v1
        cases vr_int v2
        exact ⟨i, j, rfl, rfl, w.1, k _ _ _ _ w.2 (Ex.refl G) R (vrf_dat (hg i j G))⟩
  · exact w.elim
@[simp] def i2' (g : Int → Int → PyData) : List PV → (PV → Prop) → Prop := fun ps K => match ps with
  | [.dat (.int i), .dat (.int j)] => K (.dat (g i j))
  | _ => False
theorem op_i2' {g : Int → Int → V} {g' : Int → Int → PyData} (hg : ∀ i j G, Dp X.K G (g i j) (g' i j)) : Op X.K f (op2 (rI0 g)) (i2' g') := fun F O G s σ H ps vs C Q R V w k => by
  unfold i2' at w
  split at w
  · rename_i i j
    cases V with
    | cons v1 V =>
      cases V with
      | cons v2 V =>
        cases V
        cases vr_int v1
        cases vr_int v2
        exact ⟨i, j, rfl, rfl, k _ _ _ _ w (Ex.refl G) R (vrf_dat (hg i j G))⟩
  · exact w.elim
abbrev subW := i2' fun i j => .int (i - j)
abbrev fdivW := i2 CDivW fun i j => .int (i / j)
abbrev modW := i2 (fun _ j => 0 < j) fun i j => .int (i % j)
abbrev powW := i2 CPow fun i j => .int (i ^ j.toNat)
abbrev ltW := i2' fun i j => .bool (decide (i < j))
abbrev leW := i2' fun i j => .bool (decide (i ≤ j))
abbrev gtW := i2' fun i j => .bool (decide (j < i))
abbrev geW := i2' fun i j => .bool (decide (j ≤ i))
theorem op_subW : Op X.K f (op2 (rI0 fun i j => .int (i - j))) subW := op_i2' fun _ _ _ => .int _
theorem op_fdivWW : Op X.K f (op2 (rI CDivW fun i j => .int (i / j))) fdivW := op_i2 fun _ _ _ => .int _
theorem op_modWW : Op X.K f (op2 (rI (fun _ j => 0 < j) fun i j => .int (i % j))) modW := op_i2 fun _ _ _ => .int _
theorem op_powW : Op X.K f (op2 (rI CPow fun i j => .int (i ^ j.toNat))) powW := op_i2 fun _ _ _ => .int _
theorem op_ltW : Op X.K f (op2 (rI0 fun i j => .bl (decide (i < j)))) ltW := op_i2' fun _ _ _ => .bl _
theorem op_leW : Op X.K f (op2 (rI0 fun i j => .bl (decide (i ≤ j)))) leW := op_i2' fun _ _ _ => .bl _
theorem op_gtW : Op X.K f (op2 (rI0 fun i j => .bl (decide (j < i)))) gtW := op_i2' fun _ _ _ => .bl _
theorem op_geW : Op X.K f (op2 (rI0 fun i j => .bl (decide (j ≤ i)))) geW := op_i2' fun _ _ _ => .bl _
def dd (sh : PyData → PyData → Prop) (g : PyData → PyData → Bool) : List PV → (PV → Prop) → Prop := fun ps K => match ps with
  | [p, q] => ∃ d e, p.frz = some d ∧ q.frz = some e ∧ sh d e ∧ K (.dat (.bool (g d e)))
  | _ => False
def ltA (α : Type) [DecidableEq α] [DatumOrd α] : List PV → (PV → Prop) → Prop := fun ps K => match ps with
  | [p, q] => ∃ a b : α, p.frz = some (Datum.toD a) ∧ q.frz = some (Datum.toD b) ∧ K (.dat (.bool (DatumOrd.lt a b)))
  | _ => False
theorem op_ltAW {α : Type} [DecidableEq α] [DatumOrd α] : Op X.K f (op2 (rLtA α X.K)) (ltA α) := fun F O G s σ H ps vs C Q R V w k => by
  unfold ltA at w
  split at w
  · obtain ⟨a, b, h1, h2, h5⟩ := w
    cases V with
    | cons v1 V =>
      cases V with
      | cons v2 V =>
        cases V
        exact ⟨a, b, v1.dp R.gh h1, v2.dp R.gh h2, k _ _ _ _ h5 (Ex.refl G) R (vrf_dat (.bl _))⟩
  · exact w.elim
def inS : List PV → (PV → Prop) → Prop := fun ps K => match ps with
  | [.dat (.str c), .dat (.str z)] => ∃ n, c = ⟨#[n]⟩ ∧ K (.dat (.bool (decide (n ∈ z.cps.toList))))
  | _ => False
theorem op_inS : Op X.K f (op2 fun x y H Q => ∃ (c : Nat) (z : Str), x = .str ⟨#[c]⟩ ∧ y = .str z ∧ Q (.bl (decide (c ∈ z.cps.toList))) H) inS := fun F O G s σ H ps vs C Q R V w k => by
  unfold inS at w
  split at w
  · obtain ⟨n, rfl, h5⟩ := w
    cases V with
    | cons v1 V =>
      cases V with
      | cons v2 V =>
        cases V
        cases vr_str v1
        cases vr_str v2
        exact ⟨n, _, rfl, rfl, k _ _ _ _ h5 (Ex.refl G) R (vrf_dat (.bl _))⟩
  · exact w.elim
def isN (neg : Bool) : List PV → (PV → Prop) → Prop := fun ps K => match ps with
  | [.dat d, .dat .none] => K (.dat (.bool (if neg then !(match d with | .none => true | _ => false) else match d with | .none => true | _ => false)))
  | _ => False
theorem op_isNW : Op X.K f (op2 fun x y H Q => y = .non ∧ Q (.bl (decide (x = .non))) H) (isN false) := fun F O G s σ H ps vs C Q R V w k => by
  unfold isN at w
  split at w
  · cases V with
    | cons v1 V =>
      cases V with
      | cons v2 V =>
        cases V
        cases (show Dp X.K G _ .none from v2)
        refine ⟨rfl, k _ _ _ _ w (Ex.refl G) R (vrf_dat ?_)⟩
        have v1 : Dp X.K G _ _ := v1
        cases v1 <;> exact .bl _
  · exact w.elim
theorem op_notNW : Op X.K f (op2 fun x y H Q => y = .non ∧ Q (.bl (!decide (x = .non))) H) (isN true) := fun F O G s σ H ps vs C Q R V w k => by
  unfold isN at w
  split at w
  · cases V with
    | cons v1 V =>
      cases V with
      | cons v2 V =>
        cases V
        cases (show Dp X.K G _ .none from v2)
        refine ⟨rfl, k _ _ _ _ w (Ex.refl G) R (vrf_dat ?_)⟩
        have v1 : Dp X.K G _ _ := v1
        cases v1 <;> exact .bl _
  · exact w.elim
end
end Sk
set_option Elab.async false
set_option linter.all false
set_option maxRecDepth 100000
set_option maxHeartbeats 2000000
namespace Sk
open PySem PySem.Spec PyProof.Rows L2
open PySem.W (Datum DatumOrd Tup T3 T4)
open Evl (Ex)
section
variable {X : Cx} {f : Fr}
def rCatL (K : PySem.W.Frag) : R2 := fun x y H Q => ∃ l b xs zs, x = .ref l ∧ y = .ref b ∧ SqL K H l xs ∧ SqL K H b zs ∧ xs.length + zs.length ≤ sizeLine ∧ ∀ p, H p = none → Q (.ref p) (upd H p (.lst (xs ++ zs)))
theorem op_catL : OpR X (binaryOp .Add) (rCatL X.K) := by
  intro pins s σ H x y v u Q I rx ry h
  obtain ⟨l, b, xs, zs, rfl, rfl, hx, hy, hz, q⟩ := h
  cases (show v = Value.ref l from rx)
  cases (show u = Value.ref b from ry)
  obtain ⟨its, r, pl, _⟩ := I.list hx
  obtain ⟨jts, r2, pk, _⟩ := I.list hy
  have l1 := r.length
  have l2 := r2.length
  obtain ⟨⟨c1, d1, t1, z1⟩, g1, q1, m1, y1⟩ := pl.isList
  obtain ⟨⟨c2, d2, t2, z2⟩, g2, q2, m2, y2⟩ := pk.isList
  simp only at q1 y1 q2 y2
  subst q1 y1 q2 y2
  have small : its.toArray.size + jts.toArray.size ≤ sizeLine := by
    simp only [List.size_toArray]
    omega
  have add := list_addW l b its.toArray jts.toArray m1 m2 d1 d2 z1 z2 small
  refine PySem.concat_meets ⟨_, g1, rfl⟩ ⟨_, g2, rfl⟩ noFill_list_add seq_list_add
    PySem.F.slot_list_add PySem.F.entry_list_add
    (PySem.F.args_list_add_2 _ _) add ⟨g1, g2, ?_⟩
  have ea : its.toArray ++ jts.toArray = (its ++ jts).toArray := by simp
  rw [ea]
  exact ⟨V.ref s.heap.objs.size, _, I.lnew (t' := s.toks) (Vals.append r r2) (by rw [List.length_append]; exact hz), rfl, q _ I.fresh⟩
def PV.seq : PV → Option (List PyData)
  | .dat (.list ds) => some ds
  | .dat (.tuple ds) => some ds
  | .own ds => some ds
  | _ => none
theorem VR.sq {K : PySem.W.Frag} {G H : Hp} {p : PV} {v : V} {ds : List PyData} (h : VR K f G H p v) (g : Ex G H) (e : p.seq = some ds) : ∃ a vs, v = .ref a ∧ (SqL K H a vs ∨ SqT K H a vs) ∧ DpAll K G vs ds := by
  cases p with
  | own es =>
    cases e
    obtain ⟨a, vs, rfl, h1, _, _, _, h5⟩ := h
    exact ⟨a, vs, rfl, Or.inl (Or.inl (Or.inl h1)), h5⟩
  | dat d =>
    have h : Dp K G v d := h
    cases h with
    | lst hs ha => cases e; exact ⟨_, _, rfl, Or.inl (Evl.ex_l g hs), ha⟩
    | tup hs ha => cases e; exact ⟨_, _, rfl, Or.inr (Evl.ex_t g hs), ha⟩
    | _ => cases e
  | dct _ => cases e
  | dcg _ => cases e
  | drw => cases e
  | val _ => cases e
  | dgf _ => cases e
  | abs _ => cases e
  | byr _ => cases e
def PV.lst : PV → Option (List PyData)
  | .dat (.list ds) => some ds
  | .own ds => some ds
  | _ => none
theorem VR.sl {K : PySem.W.Frag} {G H : Hp} {p : PV} {v : V} {ds : List PyData} (h : VR K f G H p v) (g : Ex G H) (e : p.lst = some ds) : ∃ a vs, v = .ref a ∧ SqL K H a vs ∧ DpAll K G vs ds := by
  cases p with
  | own es =>
    cases e
    obtain ⟨a, vs, rfl, h1, _, _, _, h5⟩ := h
    exact ⟨a, vs, rfl, Or.inl (Or.inl h1), h5⟩
  | dat d =>
    have h : Dp K G v d := h
    cases h with
    | lst hs ha => cases e; exact ⟨_, _, rfl, Evl.ex_l g hs, ha⟩
    | tup hs ha => cases e
    | _ => cases e
  | dct _ => cases e
  | dcg _ => cases e
  | drw => cases e
  | val _ => cases e
  | dgf _ => cases e
  | abs _ => cases e
  | byr _ => cases e
def ixW : List PV → (PV → Prop) → Prop := fun ps C => match ps with
  | [p, .dat (.int i)] => (∃ ds d, p.seq = some ds ∧ atI ds i = some d ∧ C (.dat d)) ∨ ∃ z c, p = .dat (.str z) ∧ z.length ≤ 100000 ∧ atI z.cps.toList i = some c ∧ C (.dat (.str ⟨#[c]⟩))
  | _ => False
theorem atI_dp {K : PySem.W.Frag} {G : Hp} {vs : List V} {ds : List PyData} {i : Int} {d : PyData} (h : DpAll K G vs ds) (e : atI ds i = some d) : ∃ v, atI vs i = some v ∧ Dp K G v d := by
  unfold atI at e ⊢
  rw [h.len]
  cases q : ixN ds.length i with
  | none => rw [q] at e; cases e
  | some j =>
    rw [q] at e
    exact h.at e
theorem op_ixW : Op X.K f (op2 (rIx X.K)) ixW := fun F O G s σ H ps vs C Q R V w k => by
  unfold ixW at w
  split at w
  · rename_i p i
    cases V with
    | cons v1 V =>
      cases V with
      | cons v2 V =>
        cases V
        cases vr_int v2
        rcases w with ⟨ds, d, h1, h2, h3⟩ | ⟨z, c, rfl, h1, h2, h3⟩
        · obtain ⟨a, ws, rfl, hs, ha⟩ := v1.sq R.gh h1
          obtain ⟨x, hx, dx⟩ := atI_dp ha h2
          rcases hs with hs | hs
          · exact Or.inl ⟨a, ws, i, x, rfl, rfl, hs, hx, k _ _ _ _ h3 (Ex.refl G) R (vrf_dat dx)⟩
          · exact Or.inr (Or.inl ⟨a, ws, i, x, rfl, rfl, hs, hx, k _ _ _ _ h3 (Ex.refl G) R (vrf_dat dx)⟩)
        · cases vr_str v1
          exact Or.inr (Or.inr ⟨z, i, c, rfl, rfl, Evl.sz_of h1, h2, k _ _ _ _ h3 (Ex.refl G) R (vrf_dat (.str _))⟩)
  · exact w.elim
def lenW : List PV → (PV → Prop) → Prop := fun ps C => match ps with
  | [p] => (∃ ds, p.seq = some ds ∧ C (.dat (.int ds.length))) ∨ (∃ z, p = .dat (.str z) ∧ z.length ≤ sizeLine ∧ C (.dat (.int z.length))) ∨ ∃ kvs, p = .dct kvs ∧ C (.dat (.int kvs.length))
  | _ => False
def rLen (K : PySem.W.Frag) : List V → Hp → VK → Prop := fun xs H Q => (∃ p ys, xs = [.ref p] ∧ (SqL K H p ys ∨ SqT K H p ys) ∧ Q (.int ys.length) H) ∨ (∃ z, xs = [.str z] ∧ z.length ≤ sizeLine ∧ Q (.int z.length) H) ∨ ∃ a kvs, xs = [V.ref a] ∧ H a = some (.dK kvs) ∧ Q (.int kvs.length) H
theorem call_lenAll : CallR X (.builtin "len") (rLen X.K) := call_len_seq.or (call_len_str.or call_lenD)
theorem op_lenW : Op X.K f (rLen X.K) lenW := fun F O G s σ H ps vs C Q R V w k => by
  unfold lenW at w
  split at w
  · cases V with
    | cons v1 V =>
      cases V
      rcases w with ⟨ds, h1, h2⟩ | ⟨z, rfl, h1, h2⟩ | ⟨kvs, rfl, h1⟩
      · obtain ⟨a, ws, rfl, hs, ha⟩ := v1.sq R.gh h1
        exact Or.inl ⟨a, ws, rfl, hs, by rw [ha.len]; exact k _ _ _ _ h2 (Ex.refl G) R (vrf_dat (.int _))⟩
      · cases vr_str v1
        exact Or.inr (Or.inl ⟨z, rfl, h1, k _ _ _ _ h2 (Ex.refl G) R (vrf_dat (.int _))⟩)
      · obtain ⟨a, ws, rfl, b1, b2, b3, b4, b5, b6⟩ := v1
        have : ws.length = kvs.length := by simpa using congrArg List.length b5
        exact Or.inr (Or.inr ⟨a, ws, rfl, b1, by rw [this]; exact k _ _ _ _ h1 (Ex.refl G) R (vrf_dat (.int _))⟩)
  · exact w.elim
def listW : List PV → (PV → Prop) → Prop := fun ps C => match ps with
  | [p] => ∃ ds, p.seq = some ds ∧ C (.own ds)
  | _ => False
def tupW : List PV → (PV → Prop) → Prop := fun ps C => match ps with
  | [p] => ∃ ds, p.seq = some ds ∧ C (.dat (.tuple ds))
  | _ => False
theorem op_tupW : Op X.K f (fun xs H Q => ∃ p ys, xs = [.ref p] ∧ ((SqL X.K H p ys ∧ ∀ l, H l = none → Q (.ref l) (upd H l (.tup ys))) ∨ (SqT X.K H p ys ∧ Q (.ref p) H))) tupW := fun F O G s σ H ps vs C Q R V w k => by
  unfold tupW at w
  split at w
  · rename_i p
    cases V with
    | cons v1 V =>
      cases V
      obtain ⟨ds, h1, h2⟩ := w
      have new : ∀ ws, DpAll X.K G ws ds → ∀ l, H l = none → Q (.ref l) (upd H l (.tup ws)) := fun ws ha l hl => k _ _ _ _ h2 (Evl.Ex.new (R.gn hl)) (R.newG hl) (vrf_dat (.tup (Or.inl (Or.inl upd_same)) (Dp.exAll (Evl.Ex.new (R.gn hl)) _ ha)))
      cases p with
      | own es =>
        cases h1
        obtain ⟨a, ws, rfl, b1, _, _, _, b5⟩ := v1
        exact ⟨a, ws, rfl, Or.inl ⟨Or.inl (Or.inl b1), new ws b5⟩⟩
      | dat d =>
        have v1 : Dp X.K G _ d := v1
        cases v1 with
        | lst hs ha => cases h1; exact ⟨_, _, rfl, Or.inl ⟨Evl.ex_l R.gh hs, new _ ha⟩⟩
        | tup hs ha => cases h1; exact ⟨_, _, rfl, Or.inr ⟨Evl.ex_t R.gh hs, k _ _ _ _ h2 (Ex.refl G) R (vrf_dat (.tup hs ha))⟩⟩
        | _ => cases h1
      | dct _ => cases h1
      | dcg _ => cases h1
      | drw => cases h1
      | val _ => cases h1
      | dgf _ => cases h1
      | abs _ => cases h1
      | byr _ => cases h1
  · exact w.elim
def allW (g : List Bool → Bool) : List PV → (PV → Prop) → Prop := fun ps C => match ps with
  | [p] => ∃ bs : List Bool, p.lst = some (bs.map .bool) ∧ C (.dat (.bool (g bs)))
  | _ => False
theorem bools_dp {K : PySem.W.Frag} {G : Hp} : ∀ {bs : List Bool} {vs : List V}, DpAll K G vs (bs.map .bool) → vs = bs.map V.bl
  | [], _, h => by cases h; rfl
  | b :: bs, _, h => by
    cases h with
    | cons h1 h2 =>
      cases h1
      rw [bools_dp h2]
      rfl
theorem op_allW : Op X.K f (rAll X.K) (allW fun bs => bs.all id) := fun F O G s σ H ps vs C Q R V w k => by
  unfold allW at w
  split at w
  · cases V with
    | cons v1 V =>
      cases V
      obtain ⟨bs, h1, h2⟩ := w
      obtain ⟨a, ws, rfl, hs, ha⟩ := v1.sl R.gh h1
      exact ⟨a, bs, rfl, by rw [← bools_dp ha]; exact hs, k _ _ _ _ h2 (Ex.refl G) R (vrf_dat (.bl _))⟩
  · exact w.elim
def reprW : List PV → (PV → Prop) → Prop := fun ps C => match ps with
  | [p] => ∃ d, p.frz = some d ∧ d.showable = true ∧ (d.hasDict = false ∨ d = .dict []) ∧ d.depth ≤ 100 ∧ d.shown.length ≤ sizeLine ∧ C (.dat (.str d.shown))
  | _ => False
theorem op_reprW : Op X.K f (rRepr X.K) reprW := fun F O G s σ H ps vs C Q R V w k => by
  unfold reprW at w
  split at w
  · cases V with
    | cons v1 V =>
      cases V
      obtain ⟨d, h1, h2, h3, h4, h5, h6⟩ := w
      exact ⟨_, d, rfl, v1.dp R.gh h1, h2, h3, h4, h5, k _ _ _ _ h6 (Ex.refl G) R (vrf_dat (.str _))⟩
  · exact w.elim
end
end Sk
set_option Elab.async false
set_option linter.all false
set_option maxRecDepth 100000
set_option maxHeartbeats 2000000
namespace Sk
open PySem PySem.Spec PyProof.Rows L2
open PySem.W (Datum DatumOrd Tup T3 T4)
open Evl (Ex)
section
variable {X : Cx} {f : Fr}
def rRepL (K : PySem.W.Frag) : R2 := fun x y H Q => ∃ l k xs, x = .ref l ∧ y = .int k ∧ SqL K H l xs ∧ -(2 ^ 63) ≤ k ∧ k < 2 ^ 63 ∧ xs.length * k.toNat ≤ sizeLine ∧ ∀ p, H p = none → Q (.ref p) (upd H p (.lst (List.replicate k.toNat xs).flatten))
theorem op_repL : OpR X (binaryOp .Mult) (rRepL X.K) := by
  intro pins s σ H x y v u Q I rx ry h
  obtain ⟨l, k, xs, rfl, rfl, hx, b1, b2, hz, q⟩ := h
  cases (show v = Value.ref l from rx)
  obtain ⟨t, rfl⟩ := (show ∃ t, u = Value.int k t from ry)
  obtain ⟨its, r, pl, _⟩ := I.list hx
  have l1 := r.length
  obtain ⟨⟨c1, d1, t1, z1⟩, g1, q1, m1, y1⟩ := pl.isList
  simp only at q1 y1
  subst q1 y1
  have sz : its.toArray.size * k.toNat ≤ 2 ^ 24 := by
    simp only [List.size_toArray]
    rw [← l1]
    exact hz
  have fit : ¬ (!Builtin.List.listFitsIndex k) = true := by simp [Builtin.List.listFitsIndex]; omega
  have lng : ¬ Builtin.List.listTooLong (its.toArray.size * k.toNat) = true := by simp [Builtin.List.listTooLong, sizeLine]; simpa using sz
  have inner := lm_list_mul_any l its.toArray m1 d1 z1 k t fit (by omega) lng
  have outer := lm_int_rmul_list_any k t l its.toArray m1 d1 z1
  refine wpAny_binaryOp_repeat_ref (T := "list") (U := "int") (by decide) ⟨_, g1, rfl⟩ (fun s' => typeIs_int s' k t)
    noFill_list_mul PySem.F.fills_int_mul PySem.F.slot_int_rmul
    repeat_list PySem.F.slot_int_index.lookup ?_
  refine call_meets PySem.F.slot_int_rmul (typeIs_int s k t) PySem.F.entry_int_rmul
    (PySem.F.args_int_rmul_2 _ _) outer ⟨g1, rfl, ⟨_, g1, rfl⟩, ?_⟩
  refine call_meets PySem.F.slot_list_mul ⟨_, g1, rfl⟩ PySem.F.entry_list_mul
    (PySem.F.args_list_mul_2 _ _) inner ⟨g1, ?_⟩
  have ea : List.foldl (fun x1 x2 => x1 ++ x2) #[] (List.replicate (if its.toArray.isEmpty = true then 0 else k.toNat) its.toArray) = (List.replicate k.toNat its).flatten.toArray := listMul_foldl_if ..
  rw [ea]
  exact ⟨V.ref s.heap.objs.size, _, I.lnew (t' := s.toks) (r.rep k.toNat) (by rw [PyProof.Rows.lm_len_rep_flat, Nat.mul_comm]; exact hz), rfl, q _ I.fresh⟩
def rAddAll (K : PySem.W.Frag) : R2 := fun x y H Q => (rI0 (fun i j => .int (i + j)) x y H Q) ∨ (∃ i j, x = .str i ∧ y = .str j ∧ i.length + j.length ≤ sizeLine ∧ Q (.str (i ++ j)) H) ∨ rCatL K x y H Q
theorem op_addAll : OpR X (binaryOp .Add) (rAddAll X.K) := by
  intro pins s σ H x y v u Q I rx ry h
  rcases h with h | h | h
  · exact op_add pins s σ H x y v u Q I rx ry h
  · exact op_add_str pins s σ H x y v u Q I rx ry h
  · exact op_catL pins s σ H x y v u Q I rx ry h
def addW : List PV → (PV → Prop) → Prop := fun ps C => match ps with
  | [.dat (.int i), .dat (.int j)] => C (.dat (.int (i + j)))
  | [.dat (.str a), .dat (.str b)] => a.length + b.length ≤ 100000 ∧ C (.dat (.str (a ++ b)))
  | [p, q] => ∃ ds es, p.lst = some ds ∧ q.lst = some es ∧ ds.length + es.length ≤ 100000 ∧ C (.own (ds ++ es))
  | _ => False
theorem op_addW : Op X.K f (op2 (rAddAll X.K)) addW := fun F O G s σ H ps vs C Q R V w k => by
  unfold addW at w
  split at w
  · cases V with
    | cons v1 V =>
      cases V with
      | cons v2 V =>
        cases V
        cases vr_int v1
        cases vr_int v2
        exact Or.inl ⟨_, _, rfl, rfl, k _ _ _ _ w (Ex.refl G) R (vrf_dat (.int _))⟩
  · cases V with
    | cons v1 V =>
      cases V with
      | cons v2 V =>
        cases V
        cases vr_str v1
        cases vr_str v2
        exact Or.inr (Or.inl ⟨_, _, rfl, rfl, Evl.sz_of w.1, k _ _ _ _ w.2 (Ex.refl G) R (vrf_dat (.str _))⟩)
  · cases V with
    | cons v1 V =>
      cases V with
      | cons v2 V =>
        cases V
        obtain ⟨ds, es, h1, h2, h3, h4⟩ := w
        obtain ⟨a, xs, rfl, s1, d1⟩ := v1.sl R.gh h1
        obtain ⟨b, ys, rfl, s2, d2⟩ := v2.sl R.gh h2
        exact Or.inr (Or.inr ⟨a, b, xs, ys, rfl, rfl, s1, s2, by rw [d1.len, d2.len]; exact Evl.sz_of h3, fun p hp => k _ _ _ _ h4 (Ex.refl G) (R.new hp) (R.own hp (d1.append d2))⟩)
  · exact w.elim
def rMulAll (K : PySem.W.Frag) : R2 := fun x y H Q => (rI CMulW (fun i j => .int (i * j)) x y H Q) ∨ rRepL K x y H Q
theorem op_mulAll : OpR X (binaryOp .Mult) (rMulAll X.K) := by
  intro pins s σ H x y v u Q I rx ry h
  rcases h with h | h
  · exact op_mulW pins s σ H x y v u Q I rx ry h
  · exact op_repL pins s σ H x y v u Q I rx ry h
def mulW' : List PV → (PV → Prop) → Prop := fun ps C => match ps with
  | [.dat (.int i), .dat (.int j)] => CMulW i j ∧ C (.dat (.int (i * j)))
  | [p, .dat (.int k)] => ∃ ds, p.lst = some ds ∧ k ≤ 100000 ∧ -100000 ≤ k ∧ ds.length * k.toNat ≤ 100000 ∧ C (.own (List.replicate k.toNat ds).flatten)
  | _ => False
theorem dpAll_rep {K : PySem.W.Frag} {G : Hp} {vs : List V} {ds : List PyData} (h : DpAll K G vs ds) : ∀ n, DpAll K G (List.replicate n vs).flatten (List.replicate n ds).flatten
  | 0 => .nil
  | n + 1 => by
    rw [List.replicate_succ, List.replicate_succ, List.flatten_cons, List.flatten_cons]
    exact h.append (dpAll_rep h n)
theorem op_mulW' : Op X.K f (op2 (rMulAll X.K)) mulW' := fun F O G s σ H ps vs C Q R V w k => by
  unfold mulW' at w
  split at w
  · cases V with
    | cons v1 V =>
      cases V with
      | cons v2 V =>
        cases V
        cases vr_int v1
        cases vr_int v2
        exact Or.inl ⟨_, _, rfl, rfl, w.1, k _ _ _ _ w.2 (Ex.refl G) R (vrf_dat (.int _))⟩
  · cases V with
    | cons v1 V =>
      cases V with
      | cons v2 V =>
        cases V
        cases vr_int v2
        obtain ⟨ds, h1, h2, h3, h4, h5⟩ := w
        obtain ⟨a, xs, rfl, s1, d1⟩ := v1.sl R.gh h1
        exact Or.inr ⟨a, _, xs, rfl, rfl, s1, by omega, by omega, by rw [d1.len]; exact Evl.sz_of h4, fun p hp => k _ _ _ _ h5 (Ex.refl G) (R.new hp) (R.own hp (dpAll_rep d1 _))⟩
  · exact w.elim
def cutD (ds : List PyData) (lo hi : Option Int) : List PyData := (ds.drop (HT.sIx ds.length 0 lo)).take (HT.sIx ds.length ds.length hi - HT.sIx ds.length 0 lo)
theorem cut_dp {K : PySem.W.Frag} {G : Hp} {vs : List V} {ds : List PyData} {lo hi : Option Int} (h : DpAll K G vs ds) : DpAll K G (cutV vs lo hi) (cutD ds lo hi) := by
  unfold cutV cutD
  rw [h.len]
  exact (h.drop _).take _
def rSlAll (K : PySem.W.Frag) : V → Option Int → Option Int → Hp → VK → Prop := fun x lo hi H Q => rSlS x lo hi H Q ∨ rSlA K x lo hi H Q ∨ rSlL K x lo hi H Q
theorem sl_all : SlR X (rSlAll X.K) := by
  intro pins s σ H x v vl vu lo hi sl Q I rx hs pl pu h
  rcases h with h | h | h
  · exact sl_str pins s σ H x v vl vu lo hi sl Q I rx hs pl pu h
  · exact sl_tupA pins s σ H x v vl vu lo hi sl Q I rx hs pl pu h
  · exact sl_list pins s σ H x v vl vu lo hi sl Q I rx hs pl pu h
@[simp] def slW (p : PV) (lo hi : Option Int) (C : PV → Prop) : Prop := match p with
  | .dat (.str z) => z.length ≤ sizeLine ∧ C (.dat (.str (cutS z lo hi)))
  | .dat (.tuple ds) => C (.dat (.tuple (cutD ds lo hi)))
  | .dat (.list ds) => C (.own (cutD ds lo hi))
  | .own ds => C (.own (cutD ds lo hi))
  | _ => False
abbrev HOp := Sg → (Option Int → Sg → Prop) → Prop
@[simp] def hNo : HOp := fun s C => C none s
@[simp] def hPt (t : HE) : HOp := fun s C => t s fun p s1 => ∃ i, p = .dat (.int i) ∧ C (some i) s1
def lfO (K : PySem.W.Frag) (f : Fr) (t : HOp) : TO := fun σ H Q => ∃ F O G s C, Rel K (fo f F O) G s σ H ∧ t s C ∧ ∀ o s' G' H', C o s' → Ex G G' → Rel K (fo f F O) G' s' σ H' → Q o H'
theorem _root_.L2.PO.mono {e : Option Expr} {t t' : TO} (h : PO X e t) (m : ∀ σ H Q, t' σ H Q → t σ H Q) : PO X e t' := ⟨fun pins s σ H Q I q => h.run pins s σ H Q I (m σ H Q q)⟩
theorem ho_none : PO X none (lfO X.K f hNo) := po_none.mono fun σ H Q q => by
  obtain ⟨F, O, G, s, C, R, ht, k⟩ := q
  exact k _ _ _ _ ht (Ex.refl G) R
theorem ho_some {e : Expr} {t : HE} (h : PE X e (lf X.K f t)) : PO X (some e) (lfO X.K f (hPt t)) := (po_some h).mono fun σ H Q q => by
  obtain ⟨F, O, G, s, C, R, ht, k⟩ := q
  refine ⟨F, O, G, s, _, R, ht, fun p s1 G1 H1 v c1 e1 R1 V1 => ?_⟩
  obtain ⟨i, rfl, c2⟩ := c1
  exact ⟨i, vr_int V1.1, k _ _ _ _ c2 e1 R1⟩
@[simp] def hSl (j : Nat) (tl th : HOp) : HE := fun s C => (∃ p, s.sl[j]? = some (some p)) ∧ tl s fun lo s1 => th s1 fun hi s2 => ∃ p, s2.sl[j]? = some (some p) ∧ slW p lo hi fun q => C q s2
theorem op_slW {F : Fr} {O : Addr → Prop} {G H : Hp} {s : Sg} {σ : L2.St} {p : PV} {v : V} {lo hi : Option Int} {C : PV → Prop} {Q : VK} (R : Rel X.K (fo f F O) G s σ H) (V : VR X.K (fo f F O) G H p v) (w : slW p lo hi C)
    (k : ∀ p G' H' v, C p → Ex G G' → Rel X.K (fo f F O) G' s σ H' → VRf X.K (fo f F O) G' H' s σ p v → Q v H') : rSlAll X.K v lo hi H Q := by
  unfold slW at w
  split at w
  · cases vr_str V
    exact Or.inl ⟨_, rfl, w.1, k _ _ _ _ w.2 (Ex.refl G) R (vrf_dat (.str _))⟩
  · rename_i ds
    have V : Dp X.K G v (.tuple ds) := V
    cases V with
    | tup hs ha =>
      refine Or.inr (Or.inl ⟨_, _, rfl, Evl.ex_t R.gh hs, fun e => ?_, fun e p hp => k _ _ _ _ w (Evl.Ex.new (R.gn hp)) (R.newG hp) (vrf_dat (.tup (Or.inl (Or.inl upd_same)) (Dp.exAll (Evl.Ex.new (R.gn hp)) _ (cut_dp ha))))⟩)
      have : cutD ds lo hi = ds := by
        unfold cutD
        rw [← ha.len, e.1, e.2]
        simp [ha.len]
      rw [this] at w
      exact k _ _ _ _ w (Ex.refl G) R (vrf_dat (.tup hs ha))
  · rename_i ds
    have V : Dp X.K G v (.list ds) := V
    cases V with
    | lst hs ha => exact Or.inr (Or.inr ⟨_, _, rfl, Evl.ex_l R.gh hs, fun p hp => k _ _ _ _ w (Ex.refl G) (R.new hp) (R.own hp (cut_dp ha))⟩)
  · obtain ⟨a, vs, rfl, h1, h2, h3, h4, h5⟩ := V
    exact Or.inr (Or.inr ⟨_, _, rfl, Or.inl (Or.inl h1), fun p hp => k _ _ _ _ w (Ex.refl G) (R.new hp) (R.own hp (cut_dp h5))⟩)
  · exact w.elim
theorem hp_sl {e : Expr} {j : Nat} {lo hi : Option Expr} {tl th : HOp} {p2 pos : Pos} (h : PE X e (tVar j)) (hl : PO X lo (lfO X.K f tl)) (hh : PO X hi (lfO X.K f th)) : PE X (.Subscript e (.Slice lo hi none p2) pos) (lf X.K f (hSl j tl th)) := (pe_slice sl_all h hl hh).mono fun σ H Q q => by
  obtain ⟨F, O, G, s, C, R, ⟨⟨p, hp⟩, ht⟩, k⟩ := q
  obtain ⟨v, hv, _⟩ := R.sl j p hp
  refine ⟨v, hv, F, O, G, s, _, R, ht, fun lo s1 G1 H1 c1 e1 R1 => ⟨F, O, G1, s1, _, R1, c1, fun hi s2 G2 H2 c2 e2 R2 => ?_⟩⟩
  obtain ⟨p2, hp2, c3⟩ := c2
  obtain ⟨v2, hv2, V2⟩ := R2.sl j p2 hp2
  rw [hv] at hv2
  cases hv2
  exact op_slW R2 V2 c3 fun p G3 H3 v c e3 R3 V3 => k _ _ _ _ _ c ((e1.trans e2).trans e3) R3 V3
end
end Sk
set_option Elab.async false
set_option linter.all false
set_option maxRecDepth 100000
set_option maxHeartbeats 2000000
namespace Sk
open PySem PySem.Spec PyProof.Rows L2
open PySem.W (Datum DatumOrd Tup T3 T4)
open Evl (Ex)
class Srt (α : Type) [DecidableEq α] [DatumOrd α] : Prop extends OrdL α where
  kind : (∀ a : α, ∃ x r, (Datum.toD a) = PyData.tuple (x :: r)) ∨ ∀ a : α, (Datum.toD a) ≠ PyData.none ∧ ∀ xs, (Datum.toD a) ≠ PyData.tuple xs
instance : Srt Int where
  kind := Or.inr fun a => ⟨fun z => (by cases z), fun xs (z : PyData.int a = _) => (by cases z)⟩
instance : Srt Str where
  kind := Or.inr fun a => ⟨fun z => (by cases z), fun xs (z : PyData.str a = _) => (by cases z)⟩
instance {α β : Type} [DecidableEq α] [DatumOrd α] [DecidableEq β] [DatumOrd β] [OrdL α] [OrdL β] : Srt (α × β) where
  kind := Or.inl fun a => ⟨_, _, rfl⟩
section
variable {X : Cx} {f : Fr}
theorem each_of {K : PySem.W.Frag} {H : Hp} {α : Type} [DecidableEq α] [Datum α] : ∀ {ws : List V} {xs : List α} {us : List Value}, DpAll K H ws (xs.map Datum.toD) → Vals ws us → PySem.W.EachIs (fun v b => ∃ x : V, RelV x v ∧ Dp K H x (Datum.toD b)) us xs
  | _, [], _, h, r => by cases h; cases r; exact .nil
  | _, x :: xs, _, h, r => by
    cases h with
    | cons h1 h2 =>
      cases r with
      | cons r1 r2 => exact .cons ⟨_, r1, h1⟩ (each_of h2 r2)
theorem of_each {K : PySem.W.Frag} {H : Hp} {α : Type} [DecidableEq α] [Datum α] : ∀ {us : List Value} {xs : List α}, PySem.W.EachIs (fun v b => ∃ x : V, RelV x v ∧ Dp K H x (Datum.toD b)) us xs → ∃ ws, Vals ws us ∧ DpAll K H ws (xs.map Datum.toD)
  | _, _, .nil => ⟨[], .nil, .nil⟩
  | _, _, .cons ⟨x, r, h⟩ t => by
    obtain ⟨ws, h1, h2⟩ := of_each t
    exact ⟨x :: ws, .cons r h1, .cons h h2⟩
def sortA (α : Type) [DecidableEq α] [DatumOrd α] : List PV → (PV → Prop) → Prop := fun ps C => match ps with
  | [p] => ∃ xs : List α, p.lst = some (xs.map Datum.toD) ∧ C (.own ((sortL xs).map Datum.toD))
  | _ => False
def rSortG (α : Type) [DecidableEq α] [DatumOrd α] (K : PySem.W.Frag) : List V → Hp → VK → Prop := fun vs H Q => ∃ (G : Hp) (a : Addr) (ws : List V) (xs : List α), Ex G H ∧ vs = [.ref a] ∧ SqL K H a ws ∧ DpAll K G ws (xs.map Datum.toD) ∧ ∀ ys p, DpAll K G ys ((sortL xs).map Datum.toD) → H p = none → Q (.ref p) (upd H p (.lst ys))
theorem cr_sortG {α : Type} [DecidableEq α] [DatumOrd α] [Srt α] (hu : X.A.units + 64 < cLine) (hd : Datum.depth α ≤ 50) : CallR X (.builtin "sorted") (rSortG α X.K) := by
  intro pins s σ H vs us Q I r h
  obtain ⟨G, a, ws, xs, gh, rfl, hs, hv, q⟩ := h
  obtain ⟨its, rv, hl, hz⟩ := I.list hs
  rw [Vals.ref1 r]
  have e := each_of hv rv
  have er : PySem.W.EachIs (fun v (b : α) => ∃ as, Reads s.heap v (Datum.toD b) as) its xs := e.mono fun v b ⟨x, r1, d1⟩ => Dp.reads I _ _ _ (Dp.ex gh _ d1) r1
  have lx : xs.length = its.length := by
    have := hv.len
    have := rv.length
    simp at *
    omega
  have big : xs.length ≤ sizeLine := by
    have := rv.length
    omega
  refine PySem.W.sorted_data hl.isList e er (PySem.W.AllAlike.of fun a b => DatumOrd.alike a b) ?_ big (fun b _ => ?_) fun out h1 h2 => ?_
  · rcases (Srt.kind (α := α)) with k | k
    · exact PySem.W.Sortable.tuples k
    · exact PySem.W.Sortable.others k
  · have := Datum.depth_le b
    omega
  · obtain ⟨ys, v2, d2⟩ := of_each h2
    obtain ⟨ep, he⟩ := PyProof.Rows.sortedAll_at s.heap its out.toArray
    have same : (PySem.W.dataLe false (Datum.toD : α → PyData)) = leD := by
      funext a b
      rw [PySem.W.dataLe_eq]
      show (!PySem.W.dataLt (Datum.toD b) (Datum.toD a)) = !DatumOrd.lt b a
      rw [DatumOrd.lt_eq]
    rw [same] at d2
    have l2 : ys.length ≤ sizeLine := by
      have := v2.length
      omega
    exact ⟨.ref _, upd H (s.heap.objs.size + 1) (.lst ys), I.laid (t' := s.toks) (fun _ _ => PyProof.Rows.sortedAll_old) (Nat.le_succ _) ⟨l2, out, ep, v2, he⟩, rfl, q ys _ d2 (I.hok.fresh (Nat.le_succ _))⟩
theorem op_sortA {α : Type} [DecidableEq α] [DatumOrd α] : Op X.K f (rSortG α X.K) (sortA α) := fun F O G s σ H ps vs C Q R V w k => by
  unfold sortA at w
  split at w
  · cases V with
    | cons v1 V =>
      cases V
      obtain ⟨xs, h1, h2⟩ := w
      obtain ⟨a, ws, rfl, hs, ha⟩ := v1.sl R.gh h1
      exact ⟨G, a, ws, xs, R.gh, rfl, hs, ha, fun ys p dy hp => k _ _ _ _ h2 (Ex.refl G) (R.new hp) (R.own hp dy)⟩
  · exact w.elim
end
class FK (α : Type) [DecidableEq α] [DatumOrd α] where
  key : α → Key
  rt : Bool
  inj : ∀ a b, key a = key b → a = b
  isR : ∀ a, (key a).isRight = rt
  toV : ∀ (K : PySem.W.Frag) (G : Hp) (v : V) (a : α), Dp K G v (Datum.toD a) → v = kV (key a)
  ofV : ∀ (K : PySem.W.Frag) (G : Hp) (a : α), Dp K G (kV (key a)) (Datum.toD a)
  ltk : ∀ a b : α, PyProof.Rows.lexLt itemOrd [kc (key a)] [kc (key b)] = DatumOrd.lt a b
instance : FK Int where
  key := .inl
  rt := false
  inj := fun a b h => Sum.inl.inj h
  isR := fun _ => rfl
  toV := fun K G v a h => by cases (show Dp K G v (.int a) from h); rfl
  ofV := fun K G a => .int a
  ltk := fun a b => by rw [← DatumOrd.lt_eq]; show _ = PySem.W.dataLt (.int a) (.int b); simp only [PySem.W.dataLt, PySem.W.keyToks, kc]
instance : FK Str where
  key := .inr
  rt := true
  inj := fun a b h => Sum.inr.inj h
  isR := fun _ => rfl
  toV := fun K G v a h => by cases (show Dp K G v (.str a) from h); rfl
  ofV := fun K G a => .str a
  ltk := fun a b => by rw [← DatumOrd.lt_eq]; show _ = PySem.W.dataLt (.str a) (.str b); simp only [PySem.W.dataLt, PySem.W.keyToks, kc]
section
variable {X : Cx} {f : Fr} {α β : Type} [DecidableEq α] [DatumOrd α] [DecidableEq β] [DatumOrd β] [FK α] [FK β] [OrdL α] [OrdL β]
def pk (p : α × β) : List Key := [FK.key p.1, FK.key p.2]
end
section
variable {X : Cx} {f : Fr}
end
end Sk
set_option Elab.async false
set_option linter.all false
set_option maxRecDepth 100000
set_option maxHeartbeats 2000000
namespace Sk
open PySem PySem.Spec PyProof.Rows L2
open PySem.W (Datum DatumOrd Tup T3 T4)
open Evl (Ex)
section
variable {K : PySem.W.Frag} {f : Fr} {F : Fr} {O : Addr → Prop} {G H : Hp} {s : Sg} {σ : L2.St}
theorem Rel.poke {j : Nat} {q p : PV} {a : Addr} {u o : HO} (R : Rel K (fo f F O) G s σ H) (hj : s.sl[j]? = some (some q)) (hm : q.mut = true) (hs : σ[j]? = some (some (.ref a))) (ha : H a = some u) (ga : G a = none) (oa : ¬ O a) (fa : F.F a = none ∨ F.M a)
    (V : VR K (fo f F O) G (upd H a o) p (.ref a)) : Rel K (fo f F O) G (s.put j p) σ (upd H a o) := by
  have jl : j < s.sl.length := (List.getElem?_eq_some_iff.mp hj).1
  exact {
    gh := fun b u h => by rw [upd_ne (fun z => by rw [z, ga] at h; cases h)]; exact R.gh b u h
    fh := fun b u m h => by
      have ne : b ≠ a := fun z => by
        subst z
        rcases fa with fa | fa
        · rw [show F.F b = some u from h] at fa; cases fa
        · exact m fa
      rw [upd_ne ne]; exact R.fh b u m h
    go := R.go
    oh := fun b h => by
      have ne : b ≠ a := fun z => oa (by rw [← z]; exact h)
      rw [upd_ne ne]; exact R.oh b h
    mh := fun b h => by
      by_cases e : b = a
      · subst e; rw [upd_same]; intro z; cases z
      · rw [upd_ne e]; exact R.mh b h
    mo := R.mo
    tm := R.tm
    tb := fun p hp => (R.tb p hp).keep (fun _ _ _ z => z) (upd_ne fun e => oa (e ▸ (R.tm p hp).1))
    pk := R.pk
    dr := fun h => by
      obtain ⟨x, y, z, _⟩ := R.mo h
      exact (R.dr h).keep (upd_ne fun e => oa (e ▸ x)) (upd_ne fun e => oa (e ▸ y)) (upd_ne fun e => oa (e ▸ z))
    ln := by simp only [Sg.put, List.length_set]; exact R.ln
    sl := fun i r hr => by
      rcases set_get hr with ⟨e, e2, hl⟩ | ⟨e, h2⟩
      · cases e2
        subst e
        exact ⟨_, hs, V⟩
      · obtain ⟨w, hw, hv⟩ := R.sl i r h2
        refine ⟨w, hw, ?_⟩
        cases r with
        | dat d => exact hv
        | drw => exact hv
        | val _ => exact hv
        | dgf _ => exact hv
        | abs _ => exact hv
        | own ds =>
          obtain ⟨b, ws, rfl, k1, k2, k3, k4, k5⟩ := hv
          have ne : b ≠ a := fun z => R.ds j i q _ _ e hj h2 hm rfl hs (by rw [hw, z])
          exact ⟨b, ws, rfl, by rw [upd_ne ne]; exact k1, k2, k3, k4, k5⟩
        | byr ds =>
          obtain ⟨b, ws, rfl, k1, k2, k3, k4, k5, k6⟩ := hv
          have ne : b ≠ a := fun z => R.ds j i q _ _ e hj h2 hm rfl hs (by rw [hw, z])
          exact ⟨b, ws, rfl, by rw [upd_ne ne]; exact k1, k2, k3, k4, k5, k6⟩
        | dcg ds =>
          obtain ⟨b, ws, rfl, k1, k2, k3, k4, k5⟩ := hv
          have ne : b ≠ a := fun z => R.ds j i q _ _ e hj h2 hm rfl hs (by rw [hw, z])
          exact ⟨b, ws, rfl, by rw [upd_ne ne]; exact k1, k2, k3, k4, k5⟩
        | dct ds =>
          obtain ⟨b, ws, rfl, k1, k2, k3, k4, k5, k6⟩ := hv
          have ne : b ≠ a := fun z => R.ds j i q _ _ e hj h2 hm rfl hs (by rw [hw, z])
          exact ⟨b, ws, rfl, by rw [upd_ne ne]; exact k1, k2, k3, k4, k5, k6⟩
    ds := fun x y pa pb w ne hx hy mx my wx wy => by
      rcases set_get hx with ⟨e, e2, hl⟩ | ⟨e, h2⟩
      · cases e2
        subst e
        rcases set_get hy with ⟨e', e2', _⟩ | ⟨e', h2'⟩
        · exact ne e'
        · exact R.ds _ y q pb w ne hj h2' hm my wx wy
      · rcases set_get hy with ⟨e', e2', _⟩ | ⟨e', h2'⟩
        · cases e2'
          subst e'
          exact R.ds x _ pa q w ne h2 hj mx hm wx wy
        · exact R.ds x y pa pb w ne h2 h2' mx my wx wy }
end
@[simp] def hApp (j : Nat) (t : HE) : HE := fun s C => (∃ ds, s.sl[j]? = some (some (.own ds))) ∧ t s fun p s1 => ∃ x ds, p.frz = some x ∧ s1.sl[j]? = some (some (.own ds)) ∧ ds.length < 100000 ∧ C (.dat .none) (s1.put j (.own (ds ++ [x])))
@[simp] def hPop (j : Nat) : HE := fun s C => ∃ ds d, s.sl[j]? = some (some (.own ds)) ∧ ds[ds.length - 1]? = some d ∧ C (.dat d) (s.put j (.own ds.dropLast))
@[simp] def hSetL (j : Nat) (t ti : HE) : HS := fun D s => t s fun p s1 => ∃ x, p.frz = some x ∧ (∃ ds, s1.sl[j]? = some (some (.own ds))) ∧ ti s1 fun q s2 => ∃ k n ds, q = .dat (.int k) ∧ s2.sl[j]? = some (some (.own ds)) ∧ ixN ds.length k = some n ∧ D.nx (s2.put j (.own (ds.set n x)))
@[simp] def keyD : PyData → Option Key
  | .int i => some (.inl i)
  | .str x => some (.inr x)
  | _ => none
def putD (kvs : List (Key × PyData)) (k : Key) (d : PyData) : List (Key × PyData) := if (kvs.any fun kv => decide (kv.1 = k)) = true then kvs.map (fun kv => if kv.1 = k then (kv.1, d) else kv) else kvs ++ [(k, d)]
def mergeD (kvs more : List (Key × PyData)) : List (Key × PyData) := more.foldl (fun acc kv => putD acc kv.1 kv.2) kvs
def getD' (kvs : List (Key × PyData)) (k : Key) : Option PyData := (kvs.find? fun kv => decide (kv.1 = k)).map (·.2)
@[simp] def hDnew : HE := fun s C => C (.dct []) s
@[simp] def hDput (j : Nat) (t ti : HE) : HS := fun D s => t s fun p s1 => ∃ x, p.frz = some x ∧ (∃ kvs, s1.sl[j]? = some (some (.dct kvs))) ∧ ti s1 fun q s2 => ∃ d k kvs, q = .dat d ∧ keyD d = some k ∧ s2.sl[j]? = some (some (.dct kvs)) ∧ kvs.length < 100000 ∧ D.nx (s2.put j (.dct (putD kvs k x)))
section
variable {K : PySem.W.Frag} {G : Hp}
def KVD (K : PySem.W.Frag) (G : Hp) (ws : List (Key × V)) (kvs : List (Key × PyData)) : Prop := ws.map (·.1) = kvs.map (·.1) ∧ DpAll K G (ws.map (·.2)) (kvs.map (·.2))
theorem KVD.nil : KVD K G [] [] := ⟨rfl, .nil⟩
theorem KVD.cons_inv {ws : List (Key × V)} {k : Key} {d : PyData} {kvs : List (Key × PyData)} (h : KVD K G ws ((k, d) :: kvs)) : ∃ v r, ws = (k, v) :: r ∧ Dp K G v d ∧ KVD K G r kvs := by
  obtain ⟨h1, h2⟩ := h
  match ws, h1, h2 with
  | (k', v) :: r, h1, h2 =>
    simp only [List.map_cons, List.cons.injEq] at h1
    obtain ⟨e1, e2⟩ := h1
    subst e1
    cases h2 with
    | cons a b => exact ⟨v, r, rfl, a, e2, b⟩
theorem KVD.cons {v : V} {k : Key} {d : PyData} {r : List (Key × V)} {kvs : List (Key × PyData)} (h : Dp K G v d) (t : KVD K G r kvs) : KVD K G ((k, v) :: r) ((k, d) :: kvs) := ⟨by simp [t.1], .cons h t.2⟩
theorem KVD.any {k : Key} : ∀ {kvs : List (Key × PyData)} {ws : List (Key × V)}, KVD K G ws kvs → (ws.any fun kv => decide (kv.1 = k)) = (kvs.any fun kv => decide (kv.1 = k))
  | [], ws, h => by
    have : ws = [] := by
      have := congrArg List.length h.1
      simpa using this
    subst this; rfl
  | (k', d) :: kvs, ws, h => by
    obtain ⟨v, r, rfl, _, t⟩ := h.cons_inv
    simp [KVD.any t]
theorem KVD.map {k : Key} {v : V} {d : PyData} (hd : Dp K G v d) : ∀ {kvs : List (Key × PyData)} {ws : List (Key × V)}, KVD K G ws kvs → KVD K G (ws.map fun kv => if kv.1 = k then (kv.1, v) else kv) (kvs.map fun kv => if kv.1 = k then (kv.1, d) else kv)
  | [], ws, h => by
    have : ws = [] := by
      have := congrArg List.length h.1
      simpa using this
    subst this; exact .nil
  | (k', d') :: kvs, ws, h => by
    obtain ⟨v', r, rfl, h1, t⟩ := h.cons_inv
    by_cases e : k' = k
    · simp only [List.map_cons, e, if_true]
      exact .cons hd (KVD.map hd t)
    · simp only [List.map_cons, e, if_false]
      exact .cons h1 (KVD.map hd t)
theorem KVD.snoc {k : Key} {v : V} {d : PyData} (hd : Dp K G v d) {kvs : List (Key × PyData)} {ws : List (Key × V)} (h : KVD K G ws kvs) : KVD K G (ws ++ [(k, v)]) (kvs ++ [(k, d)]) := ⟨by simp [h.1], by simp only [List.map_append]; exact h.2.append (.cons hd .nil)⟩
theorem KVD.put {k : Key} {v : V} {d : PyData} (hd : Dp K G v d) {kvs : List (Key × PyData)} {ws : List (Key × V)} (h : KVD K G ws kvs) : KVD K G (putK ws k v) (putD kvs k d) := by
  unfold putK putD
  rw [KVD.any h]
  split
  · exact h.map hd
  · exact h.snoc hd
theorem KVD.get {k : Key} : ∀ {kvs : List (Key × PyData)} {ws : List (Key × V)}, KVD K G ws kvs → (valV ws k).isSome = (getD' kvs k).isSome ∧ ∀ d, getD' kvs k = some d → ∃ v, valV ws k = some v ∧ Dp K G v d
  | [], ws, h => by
    have : ws = [] := by
      have := congrArg List.length h.1
      simpa using this
    subst this; exact ⟨rfl, fun d z => by cases z⟩
  | (k', d') :: kvs, ws, h => by
    obtain ⟨v', r, rfl, h1, t⟩ := h.cons_inv
    obtain ⟨i1, i2⟩ := KVD.get (k := k) t
    by_cases e : k' = k
    · rw [valV_pos e]
      unfold getD'
      simp only [List.find?_cons, e, decide_true]
      exact ⟨rfl, fun d z => by cases z; exact ⟨v', rfl, h1⟩⟩
    · rw [valV_neg e]
      unfold getD' at i1 i2 ⊢
      simp only [List.find?_cons, e, decide_false]
      exact ⟨i1, i2⟩
end
section
variable {X : Cx} {f : Fr} {e o a : Expr} {t ti : HE} {x : Str} {apos cpos pos p : Pos}
theorem hp_app {j : Nat} (he : PE X e (lf X.K f t)) (h : ∀ {ta : TA}, PA X [e] ta → PE X a (tBM X.K "list" rAppend (tVar j) ta)) (hs : starEach [e] X.env = (false, eval e X.env) :: starEach [] X.env := by rfl) : PE X a (lf X.K f (hApp j t)) := (h (pa_cons he pa_nil hs)).mono fun σ H Q q => by
  obtain ⟨F, O, G, s, C, R, ⟨⟨ds0, hj⟩, ht⟩, k⟩ := q
  obtain ⟨v, hv, V⟩ := R.sl j _ hj
  obtain ⟨b, ws, rfl, k1, k2, k3, k4, k5⟩ := V
  refine ⟨_, hv, Or.inl ⟨rfl, ws, Or.inl (Or.inl k1)⟩, F, O, G, s, _, R, ht, fun p s1 G1 H1 y c1 e1 R1 V1 => ?_⟩
  obtain ⟨x, ds, hx, hj1, hl, c2⟩ := c1
  obtain ⟨G2, e2, R2, V2⟩ := R1.frz V1 hx
  obtain ⟨v', hv', V'⟩ := R2.sl j _ hj1
  rw [hv] at hv'
  cases hv'
  obtain ⟨b', ws', eb, m1, m2, m3, m4, m5⟩ := V'
  cases eb
  refine ⟨_, ws', y, rfl, rfl, m1, by rw [m5.len]; exact Evl.sz_lt hl, k _ _ _ _ _ c2 (e1.trans e2) ?_ (vrf_dat .non)⟩
  exact R2.poke hj1 rfl hv m1 m2 m3 m4 ⟨_, _, rfl, upd_same, m2, m3, m4, m5.append (.cons V2 .nil)⟩
theorem hp_pop {j : Nat} (h : PE X a (tBM0 X.K "list" rPop (tVar j))) : PE X a (lf X.K f (hPop j)) := h.mono fun σ H Q q => by
  obtain ⟨F, O, G, s, C, R, ⟨ds, d, hj, hd, c⟩, k⟩ := q
  obtain ⟨v, hv, V⟩ := R.sl j _ hj
  obtain ⟨b, ws, rfl, k1, k2, k3, k4, k5⟩ := V
  obtain ⟨y, hy, dy⟩ := k5.at hd
  refine ⟨_, hv, Or.inl ⟨rfl, ws, Or.inl (Or.inl k1)⟩, b, ws, y, rfl, rfl, k1, by rw [k5.len]; exact hy, k _ _ _ _ _ c (Ex.refl G) ?_ (vrf_dat dy)⟩
  refine R.poke hj rfl hv k1 k2 k3 k4 ⟨_, _, rfl, upd_same, k2, k3, k4, ?_⟩
  rw [List.dropLast_eq_take, List.dropLast_eq_take, k5.len]
  exact k5.take _
theorem hs_setL {j : Nat} {st : Stmt} (h : PS X st (tAsg (lf X.K f t) (gSub (tVar j) (lf X.K f ti) rSetL))) : PS X st (lfS X.K f (hSetL j t ti)) := h.mono fun D σ H q => by
  obtain ⟨F, O, G, s, D', R, ht, k⟩ := q
  refine ⟨F, O, G, s, _, R, ht, fun p s1 G1 H1 y c1 e1 R1 V1 => ?_⟩
  obtain ⟨x, hx, ⟨ds0, hj0⟩, c2⟩ := c1
  obtain ⟨G2, e2, R2, V2⟩ := R1.frz V1 hx
  obtain ⟨v, hv, _⟩ := R2.sl j _ hj0
  refine ⟨v, hv, F, O, G2, s1, _, R2, c2, fun q s3 G3 H3 z c3 e3 R3 V3 => ?_⟩
  obtain ⟨i, n, ds, rfl, hj1, hn, c4⟩ := c3
  obtain ⟨v', hv', V'⟩ := R3.sl j _ hj1
  rw [hv] at hv'
  cases hv'
  obtain ⟨b, ws, eb, m1, m2, m3, m4, m5⟩ := V'
  subst eb
  cases vr_int V3.1
  refine ⟨b, ws, i, n, rfl, rfl, m1, by rw [m5.len]; exact hn, k.nx _ _ _ _ ((e1.trans e2).trans e3) ?_ c4⟩
  exact R3.poke hj1 rfl hv m1 m2 m3 m4 ⟨_, _, rfl, upd_same, m2, m3, m4, m5.set (Dp.ex e3 _ V2)⟩
end
end Sk
set_option Elab.async false
set_option linter.all false
set_option maxRecDepth 100000
set_option maxHeartbeats 2000000
namespace Sk
open PySem PySem.Spec PyProof.Rows L2
open PySem.W (Datum DatumOrd Tup T3 T4)
open Evl (Ex)
def joinW (a : Str) : List PV → (PV → Prop) → Prop := fun ps C => match ps with
  | [p] => ∃ ys : List Str, p.seq = some (ys.map .str) ∧ (ys.map (·.length)).sum + ys.length * a.length ≤ 16777216 ∧ C (.dat (.str (Txt.join a ys)))
  | _ => False
def pairsD : List PyData → Option (List (Key × PyData))
  | [] => some []
  | .tuple [d, e] :: r => match keyD d, pairsD r with
    | some k, some t => some ((k, e) :: t)
    | _, _ => none
  | _ => none
@[simp] def hUpd (j : Nat) (t : HE) : HE := fun s C => (∃ kvs, s.sl[j]? = some (some (.dct kvs))) ∧ t s fun p s1 => ∃ more kvs, p = .dct more ∧ s1.sl[j]? = some (some (.dct kvs)) ∧ kvs.length + more.length ≤ 100000 ∧ C (.dat .none) (s1.put j (.dct (mergeD kvs more)))
section
variable {X : Cx} {f : Fr}
theorem op_joinW {a : Str} : Op X.K f (op1 fun x H Q => ∃ b p, ∃ ys : List Str, V.str a = .str b ∧ [x] = [V.ref p] ∧ (SqL X.K H p (ys.map V.str) ∨ SqT X.K H p (ys.map V.str)) ∧ (ys.map (·.length)).sum + ys.length * b.length ≤ 16777216 ∧ Q (.str (Txt.join b ys)) H) (joinW a) := fun F O G s σ H ps vs C Q R V w k => by
  unfold joinW at w
  split at w
  · cases V with
    | cons v2 V =>
      cases V
      obtain ⟨ys, h1, h2, h3⟩ := w
      obtain ⟨b, ws, rfl, hs, ha⟩ := v2.sq R.gh h1
      have e : ws = ys.map V.str := strs_dpAll ha
      subst e
      exact ⟨_, b, ys, rfl, rfl, hs, h2, k _ _ _ _ h3 (Ex.refl G) R (vrf_dat (.str _))⟩
  · exact w.elim
theorem hp_join {o e : Expr} {a : Str} {ob : HA → HA} {apos pos : Pos} (A : PE X o (tC (.str a))) (B : Opd X f e ob) (hs : starEach [e] X.env = [(false, eval e X.env)] := by rfl) (hbase : attributeBase o "join" X.env (eval o X.env) = eval o X.env := by rfl) (hline : (apos.endLine == pos.line) = true := by rfl) :
    PE X (.Call (.Attribute o "join" apos) [e] [] pos) (lf X.K f (hC (joinW a) (ob hNil))) := by
  obtain ⟨tb, b1, b2⟩ := B.ex
  refine (pe_m1 PySem.F.slot_str_join PySem.F.type_str_join mt_join A b1 hs hbase hline).mono fun σ H Q q => ?_
  have z := b2 tNil hNil (fun σ H Q q => by
    obtain ⟨F, O, G, s, C, R, ht, k⟩ := q
    exact k _ _ _ _ _ ht (Ex.refl G) R .nil) σ H _ ((op_joinW (X := X) (f := f) (a := a)).lift _ σ H Q q)
  exact ⟨⟨a, rfl⟩, z⟩
class SK (α : Type) [DecidableEq α] [DatumOrd α] [FK α] [OrdL α] : Prop where
  run : ∀ (P : Program) (w : World) (h : Heap), ∃ (good : Value → Prop) (S : SrtK P w h good), (∀ (k : α) v, keyIs (FK.key k) v = true → good v) ∧
    ∀ (ms : List α) (us : List Value), Paired (fun k v => keyIs k v = true) (ms.map FK.key) us → us.Pairwise (Upto S.κ) → (ms.map FK.key).Nodup → Rising ms
instance : SK Int where
  run := fun P w h => ⟨_, srtI P w h, (fun k v hv => by
    rcases keyIs_shape hv with ⟨i, u, e, rfl⟩ | ⟨i, u, e, rfl⟩ <;> first | exact ⟨i, u, rfl⟩ | cases e), fun ms us h1 h2 h3 => List.Pairwise.imp (fun {a b} (z : a < b) => decide_eq_true z) (lt_of_upto h1 h2 h3)⟩
instance : SK Str where
  run := fun P w h => ⟨_, srtS P w h, (fun k v hv => by
    rcases keyIs_shape hv with ⟨i, u, e, rfl⟩ | ⟨i, u, e, rfl⟩ <;> first | exact ⟨i, u, rfl⟩ | cases e), fun ms us h1 h2 h3 => List.Pairwise.imp (fun {a b} (z : a.cps.toList < b.cps.toList) => (show decide (a.cps.toList < b.cps.toList) = true from decide_eq_true z)) (slt_of_upto h1 h2 h3)⟩
end
end Sk
set_option Elab.async false
set_option linter.all false
set_option maxRecDepth 100000
set_option maxHeartbeats 2000000
namespace Sk
open PySem PySem.Spec PyProof.Rows L2
open PySem.W (Datum DatumOrd Tup T3 T4)
open Evl (Ex)
def rEqP (K : PySem.W.Frag) (neg : Bool) : R2 := fun x y H Q => ∃ d e, Dp K H x d ∧ Dp K H y e ∧ d.plain = true ∧ e.plain = true ∧ min d.depth e.depth ≤ 60 ∧ Q (.bl (if neg then !PyData.eqv d e else PyData.eqv d e)) H
def rInP (K : PySem.W.Frag) (neg : Bool) : R2 := fun x y H Q => ∃ d ds, Dp K H x d ∧ (Dp K H y (.list ds) ∨ Dp K H y (.tuple ds)) ∧ d.plain = true ∧ PyData.plainAll ds = true ∧ min (PyData.depthAll ds) d.depth ≤ 60 ∧ Q (.bl (if neg then !ds.any fun z => PyData.eqv z d else ds.any fun z => PyData.eqv z d)) H
def eqP (neg : Bool) : List PV → (PV → Prop) → Prop := fun ps C => match ps with
  | [p, q] => ∃ d e, p.frz = some d ∧ q.frz = some e ∧ d.plain = true ∧ e.plain = true ∧ min d.depth e.depth ≤ 60 ∧ C (.dat (.bool (if neg then !PyData.eqv d e else PyData.eqv d e)))
  | _ => False
def inP (neg : Bool) : List PV → (PV → Prop) → Prop := fun ps C => match ps with
  | [p, q] => ∃ d ds, p.frz = some d ∧ q.seq = some ds ∧ d.plain = true ∧ PyData.plainAll ds = true ∧ min (PyData.depthAll ds) d.depth ≤ 60 ∧ C (.dat (.bool (if neg then !ds.any fun z => PyData.eqv z d else ds.any fun z => PyData.eqv z d)))
  | _ => False
section
variable {X : Cx} {f : Fr}
theorem op_eqP (hu : X.A.units + 64 < cLine) : OpR X (compareOp .Eq) (rEqP X.K false) := by
  intro pins s σ H x y v u Q I rx ry h
  obtain ⟨d, e, hd, he, sd, se, hm, q⟩ := h
  obtain ⟨as, r1⟩ := Dp.reads I d x v hd rx
  obtain ⟨bs, r2⟩ := Dp.reads I e y u he ry
  exact SeqAt.eq_plain r1 r2 sd se (by omega) ⟨.bl _, H, I, rfl, q⟩
theorem op_neP (hu : X.A.units + 64 < cLine) : OpR X (compareOp .NotEq) (rEqP X.K true) := by
  intro pins s σ H x y v u Q I rx ry h
  obtain ⟨d, e, hd, he, sd, se, hm, q⟩ := h
  obtain ⟨as, r1⟩ := Dp.reads I d x v hd rx
  obtain ⟨bs, r2⟩ := Dp.reads I e y u he ry
  exact SeqAt.ne_plain r1 r2 sd se (by omega) ⟨.bl _, H, I, rfl, q⟩
theorem op_inP (hu : X.A.units + 64 < cLine) : OpR X (compareOp .In) (rInP X.K false) := by
  intro pins s σ H x y v u Q I rx ry h
  obtain ⟨d, ds, hd, he, sd, se, hm, q⟩ := h
  obtain ⟨as, r1⟩ := Dp.reads I d x v hd rx
  rcases he with he | he
  · obtain ⟨bs, r2⟩ := Dp.reads I _ y u he ry
    exact SeqAt.in_list_data r2 r1 se sd (by omega) ⟨.bl _, H, I, rfl, q⟩
  · obtain ⟨bs, r2⟩ := Dp.reads I _ y u he ry
    exact SeqAt.in_tuple_data r2 r1 se sd (by omega) ⟨.bl _, H, I, rfl, q⟩
theorem op_ninP (hu : X.A.units + 64 < cLine) : OpR X (compareOp .NotIn) (rInP X.K true) := by
  intro pins s σ H x y v u Q I rx ry h
  obtain ⟨d, ds, hd, he, sd, se, hm, q⟩ := h
  obtain ⟨as, r1⟩ := Dp.reads I d x v hd rx
  rcases he with he | he
  · obtain ⟨bs, r2⟩ := Dp.reads I _ y u he ry
    exact SeqAt.notIn_list_data r2 r1 se sd (by omega) ⟨.bl _, H, I, rfl, q⟩
  · obtain ⟨bs, r2⟩ := Dp.reads I _ y u he ry
    exact SeqAt.notIn_tuple_data r2 r1 se sd (by omega) ⟨.bl _, H, I, rfl, q⟩
theorem op_eqPW {neg : Bool} : Op X.K f (op2 (rEqP X.K neg)) (eqP neg) := fun F O G s σ H ps vs C Q R V w k => by
  unfold eqP at w
  split at w
  · obtain ⟨d, e, h1, h2, h3, h4, h6, h5⟩ := w
    cases V with
    | cons v1 V =>
      cases V with
      | cons v2 V =>
        cases V
        exact ⟨d, e, v1.dp R.gh h1, v2.dp R.gh h2, h3, h4, h6, k _ _ _ _ h5 (Ex.refl G) R (vrf_dat (.bl _))⟩
  · exact w.elim
theorem op_inPW {neg : Bool} : Op X.K f (op2 (rInP X.K neg)) (inP neg) := fun F O G s σ H ps vs C Q R V w k => by
  unfold inP at w
  split at w
  · rename_i p q
    obtain ⟨d, ds, h1, h2, h3, h4, h6, h5⟩ := w
    cases V with
    | cons v1 V =>
      cases V with
      | cons v2 V =>
        cases V
        refine ⟨d, ds, v1.dp R.gh h1, ?_, h3, h4, h6, k _ _ _ _ h5 (Ex.refl G) R (vrf_dat (.bl _))⟩
        cases q with
        | own es => cases h2; exact Or.inl (v2.dp R.gh rfl)
        | dat e =>
          cases e with
          | list es => cases h2; exact Or.inl (v2.dp R.gh rfl)
          | tuple es => cases h2; exact Or.inr (v2.dp R.gh rfl)
          | _ => cases h2
        | _ => cases h2
  · exact w.elim
theorem plainAll_D {α : Type} [DecidableEq α] [Datum α] : ∀ xs : List α, PyData.plainAll (xs.map Datum.toD) = true
  | [] => rfl
  | x :: xs => by rw [List.map_cons, PyData.plainAll, Datum.plain, plainAll_D xs]; rfl
theorem any_D {α : Type} [DecidableEq α] [Datum α] (a : α) : ∀ xs : List α, ((xs.map Datum.toD).any fun z => PyData.eqv z (Datum.toD a)) = decide (a ∈ xs)
  | [] => by simp
  | x :: xs => by
    rw [List.map_cons, List.any_cons, Datum.eqv, any_D a xs, ← Bool.decide_or]
    exact decide_eq_decide.mpr ⟨fun h => h.elim (fun z => by rw [z]; exact List.mem_cons_self) (List.mem_cons_of_mem _), fun h => by
      rcases List.mem_cons.mp h with h | h
      · exact Or.inl h.symm
      · exact Or.inr h⟩
end
theorem Rel.drawn {K : PySem.W.Frag} {f : Fr} {G H H' : Hp} {s : Sg} {σ : L2.St} {n' : Nat} (R : Rel K f G s σ H) (on : f.on = true) (d : DrwOk f.m f.l f.c n' H') (k : ∀ a o, a ≠ f.m → a ≠ f.l → H a = some o → H' a = some o) : Rel K f G ⟨[], n'⟩ [] H' := by
  obtain ⟨o1, o2, o3, m1, m2⟩ := R.mo on
  have h1 : H' f.m ≠ none := by obtain ⟨_, _, _, _, h, _⟩ := d; rw [h]; intro z; cases z
  have h2 : H' f.l ≠ none := by obtain ⟨_, _, _, _, _, _, _, _, _, _, h, _⟩ := d; rw [h]; intro z; cases z
  have some : ∀ a, H a ≠ none → H' a ≠ none := fun a h => by
    by_cases e1 : a = f.m
    · rw [e1]; exact h1
    by_cases e2 : a = f.l
    · rw [e2]; exact h2
    cases q : H a with
    | none => exact absurd q h
    | some u => rw [k a u e1 e2 q]; intro z; cases z
  obtain ⟨_, _, _, _, hm0, _, _, _, _, _, hl0, _⟩ := R.dr on
  exact {
    gh := fun a o h => k a o (fun z => by rw [z, R.go _ o1] at h; cases h) (fun z => by rw [z, R.go _ o2] at h; cases h) (R.gh _ _ h)
    fh := fun a o m h => k a o (fun z => m (by rw [z]; exact m1)) (fun z => m (by rw [z]; exact m2)) (R.fh a o m h)
    go := R.go
    oh := fun a h => some a (R.oh a h)
    mh := fun a h => some a (R.mh a h)
    mo := R.mo
    tm := R.tm
    tb := fun p hp => by
      obtain ⟨ps, q1, q2, q3⟩ := R.tb p hp
      exact ⟨ps, k _ _ (fun z => by rw [z, hm0] at q1; cases q1) (fun z => by rw [z, hl0] at q1; cases q1) q1, q2, q3⟩
    pk := R.pk
    dr := fun _ => d
    ln := rfl
    sl := fun i p h => by simp at h
    ds := fun i j p q v _ h => by simp at h }
def spMixed : HSp := fun ps n C => ∃ c k : Int, ps = [.dat (.int c), .dat (.int k)] ∧ 0 ≤ c ∧ c < 4294967296 ∧ 0 ≤ k ∧ k < 536870912 ∧ ∀ i : Int, 0 ≤ i → i < 2147483647 → C (.dat (.int i)) n
def spDraw : HSp := fun ps n C => ∃ k : Int, ps = [.drw, .dat (.int k)] ∧ 0 < k ∧ k ≤ 1000000 ∧ n < 268435456 ∧ ∀ i : Int, 0 ≤ i → i < k → C (.dat (.int i)) (n + 1)
end Sk
set_option Elab.async false
set_option linter.all false
set_option maxRecDepth 100000
set_option maxHeartbeats 2000000
namespace Sk
open PySem PySem.Spec PyProof.Rows L2
open PySem.W (Datum DatumOrd Tup T3 T4)
open Evl (Ex)
structure Has (P : Program) (w : World) (T : Tbs) (K : PySem.W.Frag) (mg : Str → Option Value) (base : Heap) (k : Nat) (x : Str) (n : Nat) (sp : HSp) : Prop where
  ex : ∃ fa fd ps, ps.length = n ∧ GnOk P w K mg base CX0 k fa fd ps (SpH K w T n sp) ∧ mg x = some (.ref fa) ∧ PySem.W.keepIn K (.ref fa) = true ∧ Binds K fd ps []
structure Cst (K : PySem.W.Frag) (mg : Str → Option Value) (x : Str) (d : PyData) : Prop where
  ex : ∃ v u, mg x = some u ∧ RelV v u ∧ ∀ G, Dp K G v d
theorem u64 {k : Nat} {A : Around} (r : Room k A) : A.units + 64 < cLine := by have := r.un; omega
theorem u1 {k : Nat} {A : Around} (r : Room k A) : A.units + 1 < cLine := by have := r.un; omega
theorem u150 {k : Nat} {A : Around} (r : Room k A) : A.units + 150 < cLine := by have := r.un; omega
theorem uD {k n : Nat} {A : Around} (r : Room k A) (h : n ≤ 60) : A.units + n < cLine := by have := r.un; omega
section
variable {X : Cx} {T : Tbs} {en : Option Ent} {e a o : Expr} {es : List Expr} {ta : HA} {sp : HSp} {x : Str} {p pos : Pos} {k n : Nat} {d : PyData}
theorem hp_callH (h : Has X.prog X.w T X.K X.mg X.base k x n sp) (hgd : X.A.guards = some []) (hr : Room k X.A) (hg : Gl X x) (ha : PA X (e :: es) (lfA X.K (f1 X.w T en) ta))
    (hdb : (x == ("__debug__" : Str)) = false := by decide) (he : starEach (e :: es) X.env = (false, eval e X.env) :: starEach es X.env := by rfl) (hpl : (backTo pos (starEach es X.env)).any (·.1) = false := by rfl) : PE X (.Call (.Name x p) (e :: es) [] pos) (lf X.K (f1 X.w T en) (hCall sp n ta)) := by
  obtain ⟨fa, fd, ps, _, G, hm, kp, b⟩ := h.ex
  exact hp_call (f := f1 X.w T en) (E := E0) (fun z => pe_callG G hgd hr hg hm kp b pass0 z hdb he hpl) ha
theorem hp_c (h : Cst X.K X.mg x d) (hg : Gl X x) (hdb : (x == ("__debug__" : Str)) = false := by decide) : PE X (.Name x pos) (lf X.K (f1 X.w T en) (hK d)) := by
  obtain ⟨v, u, hm, r, hd⟩ := h.ex
  exact hp_k (pe_glob hg hm r hdb) hd
end
@[simp] def hD1 (k : Key) (d : PyData) : HE := fun s C => C (.dct [(k, d)]) s
theorem Has.mk' {P : Program} {w : World} {T : Tbs} {K : PySem.W.Frag} {mg : Str → Option Value} {base : Heap} {k : Nat} {fa : Addr} {fd : FuncData} {x : Str} {st : Stmt} {N ps : List Str} {hs : HS} {sp : HSp} (Fn : Fun K x x st fa fd) (hm : mg x = some (.ref fa)) (b : Binds K fd ps []) (S : FnScope N ps (defScope st))
    (body : ∀ (cdv : Value), fd.code = cdv → ∀ (A : Around) (outer : List Env) (s : Shared) (H : Hp) (E : XK), (A.deeper (envOfC x (defScope st) s.heap.objs.size fa cdv)).guards = some [] → Room k (A.deeper (envOfC x (defScope st) s.heap.objs.size fa cdv)) → PSs (cxOf CX0 P w K mg base N x (defScope st) fa cdv A outer s H E).nox (defBody st) (lfS K (f0 w T) hs))
    (rd : ∀ pvs n C, pvs.length = ps.length → sp pvs n C → hs ⟨fun s => C (.dat .none) s.n, fun p s => C p s.n, fun _ => False, fun _ => False⟩ ⟨pvs.map some ++ List.replicate (N.length - pvs.length) none, n⟩) : Has P w T K mg base (k + 1) x ps.length sp :=
  ⟨fa, fd, ps, rfl, gnH Fn S body rd, hm, Fn.kp, b⟩
end Sk
set_option Elab.async false
set_option linter.all false
set_option maxRecDepth 100000
set_option maxHeartbeats 2000000
namespace Sk
open PySem PySem.Spec PyProof.Rows L2
open PySem.W (Datum DatumOrd Tup T3 T4)
open Evl (Ex)
mutual
theorem reads_imm {h : Heap} : ∀ {v : Value} {d : PyData} {as : List Addr}, imm d = true → Reads h v d as → as = []
  | _, _, _, _, .none => rfl
  | _, _, _, _, .bool _ => rfl
  | _, _, _, _, .int _ _ => rfl
  | _, _, _, _, .str _ _ => rfl
  | _, _, _, e, .list _ _ _ _ => nomatch e
  | _, _, _, e, .tuple _ _ _ h => reads_immAll e h
  | _, _, _, e, .dict _ _ _ _ _ => nomatch e
theorem reads_immAll {h : Heap} : ∀ {vs : List Value} {ds : List PyData} {as : List Addr}, immAll ds = true → ReadsAll h vs ds as → as = []
  | _, _, _, _, .nil => rfl
  | _, _, _, e, .cons h1 h2 => by
    unfold immAll at e
    rw [Bool.and_eq_true] at e
    rw [reads_imm e.1 h1, reads_immAll e.2 h2]
    rfl
end
end Sk
set_option Elab.async false
set_option linter.all false
set_option maxRecDepth 100000
set_option maxHeartbeats 2000000
namespace Sk
open PySem PySem.Spec PyProof.Rows L2
open PySem.W (Datum DatumOrd Tup T3 T4)
open Evl (Ex)
def LamStep (P : Addr) (q : Str) (G H G1 H1 : Hp) : Prop :=
  (G1 = G ∧ H1 = H) ∨ ∃ (ps more : Array Value) (c' : Addr), H P = some (.tbl ps) ∧ H c' = none ∧ H1 = upd (upd H P (.tbl (ps ++ more))) c' (LamX.CodeO c' q) ∧ G1 = upd G c' (LamX.CodeO c' q) ∧ TabOk G1 H1 P q
section
variable {K : PySem.W.Frag} {f : Fr} {G G1 H H1 : Hp} {s : Sg} {σ : L2.St} {P : Addr} {q : Str}
theorem LamStep.keep (h : LamStep P q G H G1 H1) {b : Addr} {o : HO} (e : H b = some o) (n : ∀ ps, o ≠ .tbl ps) : H1 b = some o := by
  rcases h with ⟨_, rfl⟩ | ⟨ps, more, c', h1, h2, rfl, rfl, h5⟩
  · exact e
  · rw [upd_ne (ne_of_none e h2), upd_ne (fun z => n ps (Option.some.inj (e.symm.trans (by rw [z]; exact h1))))]
    exact e
theorem LamStep.noB (h : LamStep P q G H G1 H1) {b : Addr} (e : H1 b = none) : H b = none := by
  rcases h with ⟨_, rfl⟩ | ⟨ps, more, c', h1, h2, rfl, rfl, h5⟩
  · exact e
  · by_cases z : b = c'
    · rw [z]; exact h2
    · rw [upd_ne z] at e
      by_cases z2 : b = P
      · rw [z2, upd_same] at e; cases e
      · rw [upd_ne z2] at e; exact e
theorem LamStep.g (h : LamStep P q G H G1 H1) (gh : Ex G H) : Ex G G1 := by
  rcases h with ⟨rfl, _⟩ | ⟨ps, more, c', h1, h2, rfl, rfl, h5⟩
  · exact Ex.refl _
  · exact Evl.Ex.new (Evl.fresh_back gh h2)
theorem VR.tab {p : PV} {v : V} (h : VR K f G H p v) (st : LamStep P q G H G1 H1) (gh : Ex G H) : VR K f G1 H1 p v := by
  have g := st.g gh
  have gn : ∀ a o, H a = some o → G a = none → G1 a = none := fun a o h1 h2 => by
    rcases st with ⟨rfl, _⟩ | ⟨ps, more, c', e1, e2, rfl, rfl, e5⟩
    · exact h2
    · rw [upd_ne (ne_of_none h1 e2)]; exact h2
  cases p with
  | dat d => exact Dp.ex g _ h
  | own ds =>
    obtain ⟨p, vs, rfl, h1, h2, h3, h4, h5⟩ := h
    exact ⟨p, vs, rfl, st.keep h1 (fun _ z => by cases z), gn _ _ h1 h2, h3, h4, Dp.exAll g _ h5⟩
  | dct kvs =>
    obtain ⟨p, vs, rfl, h1, h2, h3, h4, h5, h6⟩ := h
    exact ⟨p, vs, rfl, st.keep h1 (fun _ z => by cases z), gn _ _ h1 h2, h3, h4, h5, Dp.exAll g _ h6⟩
  | dcg kvs =>
    obtain ⟨p, vs, rfl, h1, h2, h3, h4, h5⟩ := h
    exact ⟨p, vs, rfl, st.keep h1 (fun _ z => by unfold GDo at z; cases z), gn _ _ h1 h2, h3, h4, h5.ex g⟩
  | dgf kvs =>
    obtain ⟨p, vs, rfl, h1, h2⟩ := h
    exact ⟨p, vs, rfl, g _ _ h1, h2.ex g⟩
  | abs _ => exact fun G9 e9 => h G9 (g.trans e9)
  | drw => exact h
  | val w => exact h
  | byr ds =>
    obtain ⟨p, vs, rfl, h1, h2, h3, h4, h5, h6⟩ := h
    exact ⟨p, vs, rfl, st.keep h1 (fun _ z => by cases z), gn _ _ h1 h2, h3, h4, Dp.exAll g _ h5, h6⟩
theorem Rel.lam (R : Rel K f G s σ H) (hm : (P, q) ∈ f.T) (hu : ∀ p ∈ f.T, p.1 = P → p.2 = q) (st : LamStep P q G H G1 H1) : Rel K f G1 s σ H1 := by
  have st0 := st
  have g := st.g R.gh
  rcases st with ⟨rfl, rfl⟩ | ⟨ps, more, c', h1, h2, rfl, rfl, h5⟩
  · exact R
  have gP : G P = none := R.go P (R.tm _ hm).1
  have mP : f.M P := (R.tm _ hm).2
  have some' : ∀ a, H a ≠ none → upd (upd H P (.tbl (ps ++ more))) c' (LamX.CodeO c' q) a ≠ none := fun a h z => h (st0.noB z)
  refine { gh := fun b o hb => ?_, fh := fun a o m h => ?_, go := fun a h => ?_, oh := fun a h => some' a (R.oh a h), mh := fun a h => some' a (R.mh a h), mo := R.mo, tm := R.tm, tb := fun p hp => ?_, pk := fun en h => (R.pk en h).ex g, dr := fun h => ?_, ln := R.ln, sl := fun i p h => ?_, ds := R.ds }
  · by_cases z : b = c'
    · rw [z, upd_same] at hb ⊢; exact hb
    · rw [upd_ne z] at hb ⊢
      rw [upd_ne (fun z2 => by rw [z2, gP] at hb; cases hb)]
      exact R.gh _ _ hb
  · have e := R.fh a o m h
    rw [upd_ne (ne_of_none e h2), upd_ne (fun z => m (by rw [z]; exact mP))]
    exact e
  · rw [upd_ne (fun z => R.oh a h (by rw [z]; exact h2))]
    exact R.go a h
  · by_cases z : p.1 = P
    · rw [z, hu p hp z]; exact h5
    · obtain ⟨ps', a1, a2, a3⟩ := R.tb p hp
      refine ⟨ps', ?_, a2, fun pos cv hc => ?_⟩
      · rw [upd_ne (ne_of_none a1 h2), upd_ne z]; exact a1
      · obtain ⟨c, e1, e2⟩ := a3 pos cv hc
        exact ⟨c, e1, g _ _ e2⟩
  · obtain ⟨k, cs, ls, rest, k1, k2, k3, k4, k5, k6, k7, k8⟩ := R.dr h
    exact ⟨k, cs, ls, rest, st0.keep k1 (fun _ z => by cases z), k2, k3, st0.keep k4 (fun _ z => by cases z), k5, k6, st0.keep k7 (fun _ z => by cases z), k8⟩
  · obtain ⟨v, e1, e2⟩ := R.sl i p h
    exact ⟨v, e1, e2.tab st0 R.gh⟩
end
structure Mkr (X : Cx) (P : Addr) (q : Str) : Prop where
  ex : ∃ c, LamX.TabB X.base X.mg c P ∧ X.env.code = .ref c
  qu : X.env.qual ++ "<lambda>" = q
section
variable {X : Cx} {pins : List (Addr × Obj)} {σ : L2.St} {H G : Hp} {s : Shared} {E : Value → Shared → Prop}
end
end Sk
set_option Elab.async false
set_option linter.all false
set_option maxRecDepth 100000
set_option maxHeartbeats 2000000
namespace Sk
open PySem PySem.Spec PyProof.Rows L2
open PySem.W (Datum DatumOrd Tup T3 T4)
open Evl (Ex)
def sortK {α κ : Type} [DecidableEq κ] [DatumOrd κ] (k : α → κ) (xs : List α) : List α := xs.mergeSort fun a b => leD (k a) (k b)
theorem LamStep.gh {P : Addr} {q : Str} {G H G1 H1 : Hp} (st : LamStep P q G H G1 H1) (gh : Ex G H) (gP : G P = none) : Ex G1 H1 := by
  rcases st with ⟨rfl, rfl⟩ | ⟨ps, more, c', h1, h2, rfl, rfl, h5⟩
  · exact gh
  · intro b o hb
    by_cases z : b = c'
    · rw [z, upd_same] at hb ⊢; exact hb
    · rw [upd_ne z] at hb ⊢
      rw [upd_ne (fun z2 => by rw [z2, gP] at hb; cases hb)]
      exact gh _ _ hb
theorem LamStep.sl {P : Addr} {q : Str} {G H G1 H1 : Hp} {K : PySem.W.Frag} {a : Addr} {ws : List V} (st : LamStep P q G H G1 H1) (h : SqL K H a ws) : SqL K H1 a ws := by
  rcases h with (h | ⟨o, h⟩) | h
  · exact Or.inl (Or.inl (st.keep h fun _ z => by cases z))
  · exact Or.inl (Or.inr ⟨o, st.keep h fun _ z => by cases z⟩)
  · exact Or.inr h
section
variable {X : Cx} {pins : List (Addr × Obj)} {σ : L2.St} {H : Hp} {s : Shared}
structure KSc (x : Str) (params : Arguments) (sc : Scope) : Prop where
  kind : sc.kind = .function
  co : sc.isCoroutine = false
  gen : sc.isGenerator = false
  par : sc.names.lookup x = some .local
  cell : ∀ y ∈ sc.names, y.2 ≠ .cell
  free : ∀ y ∈ sc.names, y.2 ≠ .free
  dflt : ∀ env : Env, defaultsOf params env = ([], [])
  bind : ∀ (body : Expr) (q : Str) (cl : List (Str × Addr)) (pm cv ctv v : Value), bindArgs (PySem.W.kla_fn "<lambda>" q params body sc cl pm cv ctv) ⟨[v], []⟩ = pure [(x, v)]
end
end Sk
set_option Elab.async false
set_option linter.all false
set_option maxRecDepth 100000
set_option maxHeartbeats 2000000
namespace Sk
open PySem PySem.Spec PyProof.Rows L2
open PySem.W (Datum DatumOrd Tup T3 T4)
open Evl (Ex)
section
variable {X : Cx} {f : Fr} {α κ : Type} [DecidableEq α] [Datum α] [Im α] [DecidableEq κ] [DatumOrd κ] [Srt κ] {k : α → κ} {P : Addr} {q : Str}
end
section
variable {α κ : Type} [DecidableEq κ] [DatumOrd κ] [OrdL κ] {k : α → κ}
theorem sortK_perm (xs : List α) : (sortK k xs).Perm xs := List.mergeSort_perm _ _
@[simp] theorem sortK_len (xs : List α) : (sortK k xs).length = xs.length := (sortK_perm xs).length_eq
end
end Sk
set_option Elab.async false
set_option linter.all false
set_option maxRecDepth 100000
set_option maxHeartbeats 2000000
namespace Sk
open PySem PySem.Spec PyProof.Rows L2
open Evl (Ex)
abbrev HSpR := List PV → List PyData → Nat → (PV → List PyData → Nat → Prop) → Prop
def SpHR (K : PySem.W.Frag) (w : World) (T : Tbs) (k : Nat) (sp : HSpR) : Sp := fun vs H Q _ => ∃ f G n ps ds C, f.w = w ∧ f.T = T ∧ f.e = none ∧ f.F = H ∧ (∀ a, f.M a → ((f.on = true ∧ (a = f.m ∨ a = f.l)) ∨ f.tab a) ∨ a = f.r) ∧ Rel K f G ⟨(ps ++ [.byr ds]).map some, n⟩ (vs.map some) H ∧ (∀ p ∈ ps, p.mut = false) ∧ ps.length = k ∧ sp ps ds n C ∧
  ∀ p es n' G' H' v, C p es n' → Ex G G' → Rel K f G' ⟨[some (.byr es)], n'⟩ [some (.ref f.r)] H' → VRf K f G' H' ⟨[some (.byr es)], n'⟩ [some (.ref f.r)] p v → Q v H'
section
variable {X : Cx} {T : Tbs} {e x a : Expr} {oa : HA → HA} {sp : HSpR} {E : XK}
theorem valsR_len {k : Nat} {K : PySem.W.Frag} {w : World} {T : Tbs} : ∀ vs H Q E, SpHR K w T k sp vs H Q E → vs.length = k + 1 := fun vs H Q E h => by
  obtain ⟨f, G, n, ps, ds, C, _, _, _, _, _, R, _, hk, _⟩ := h
  have := R.ln
  simp at this
  omega
theorem gnHR {P : Program} {w : World} {T : Tbs} {K : PySem.W.Frag} {mg : Str → Option Value} {base : Heap} {k kk : Nat} {fa : Addr} {fd : FuncData} {x qual : Str} {st : Stmt} {N ps : List Str} {hs : HS} (Fn : Fun K x qual st fa fd) (S : FnScope N ps (defScope st)) (hps : ps.length = kk + 1)
    (body : ∀ (cdv : Value), fd.code = cdv → ∀ (A : Around) (outer : List Env) (s : Shared) (H : Hp) (E : XK), (A.deeper (envOfC qual (defScope st) s.heap.objs.size fa cdv)).guards = some [] → Room k (A.deeper (envOfC qual (defScope st) s.heap.objs.size fa cdv)) → PSs (cxOf CX0 P w K mg base N qual (defScope st) fa cdv A outer s H E).nox (defBody st) (lfS K (f0 w T) hs))
    (rd : ∀ pvs ds n C, pvs.length = kk → sp pvs ds n C → hs ⟨fun s => ∃ es, s.sl[kk]? = some (some (.byr es)) ∧ C (.dat .none) es s.n, fun p s => ∃ es, s.sl[kk]? = some (some (.byr es)) ∧ C p es s.n, fun _ => False, fun _ => False⟩ ⟨(pvs ++ [PV.byr ds]).map some ++ List.replicate (N.length - (pvs.length + 1)) none, n⟩) :
    GnOk P w K mg base CX0 (k + 1) fa fd ps (SpHR K w T kk sp) := by
  refine gn_ok Fn S (fun vs H Q E h => by rw [hps]; exact valsR_len vs H Q E h) fun cdv ecd A outer s H vs Q E hgd hr h => ?_
  obtain ⟨⟨on, m, l, c, fF, fO, fM, r, fw, fT, fe⟩, G, n, pvs, ds, C, hw, hT, he, hF, hM, R, hm, hk, hsp, fin⟩ := h
  have hw : fw = w := hw
  have hT : fT = T := hT
  have he : fe = none := he
  subst hw hT he
  let f : Fr := ⟨on, m, l, c, fF, fO, fM, r, fw, fT, none⟩
  have lnv : vs.length = pvs.length + 1 := by
    have := R.ln
    simpa using this
  have endR : ∀ {G1 H1 : Hp} {s1 : Sg} {σ1 : L2.St} {es : List PyData}, Rel K f G1 s1 σ1 H1 → s1.sl[kk]? = some (some (.byr es)) → Rel K f G1 ⟨[some (.byr es)], s1.n⟩ [some (.ref f.r)] H1 ∧ σ1[kk]? = some (some (.ref f.r)) := fun {G1 H1 s1 σ1 es} R1 h1 => by
    obtain ⟨w1, h2, h3⟩ := R1.sl kk _ h1
    obtain ⟨b, ws, rfl, k1, k2, k3, k4, k5, rfl⟩ := h3
    refine ⟨{ gh := R1.gh, fh := R1.fh, go := R1.go, oh := R1.oh, mh := R1.mh, mo := R1.mo, tm := R1.tm, tb := R1.tb, pk := R1.pk, dr := R1.dr, ln := rfl, sl := fun i p h => ?_, ds := fun i j p q v ne hi hj _ _ _ => ?_ }, h2⟩
    · match i, h with
      | 0, h => simp at h; subst h; exact ⟨_, rfl, _, ws, rfl, k1, k2, k3, k4, k5, rfl⟩
      | i + 1, h => simp at h
    · match i, j, hi, hj, ne with
      | 0, 0, _, _, ne => exact absurd rfl ne
      | 0, j + 1, _, hj, _ => simp at hj
      | i + 1, _, hi, _, _ => simp at hi
  refine ⟨_, body cdv ecd A outer s H E hgd hr, f, f.O, G, _, _, ?_, rd pvs ds n C hk hsp, ⟨fun G1 s1 σ1 H1 e1 R1 c => ?_, fun p G1 s1 σ1 H1 v e1 R1 V1 c => ?_, fun _ _ _ _ _ _ z => z.elim, fun _ _ _ _ _ _ z => z.elim⟩⟩
  · have ap : ∀ {α : Type} (xs : List α) (m i : Nat) (y : α), (xs.map some ++ List.replicate m none)[i]? = some (some y) → (xs.map some)[i]? = some (some y) := fun xs m i y h => by
      by_cases hi : i < xs.length
      · rw [List.getElem?_append_left (by simpa using hi)] at h; exact h
      · rw [List.getElem?_append_right (by simpa using hi)] at h
        rw [List.getElem?_replicate] at h
        split at h <;> cases h
    have ap2 : ∀ {α : Type} (xs : List α) (m i : Nat) (y : α), (xs.map some)[i]? = some (some y) → (xs.map some ++ List.replicate m none)[i]? = some (some y) := fun xs m i y h => by
      have hi : i < (xs.map some).length := (List.getElem?_eq_some_iff.mp h).1
      rw [List.getElem?_append_left hi]; exact h
    show Rel K f G ⟨_, n⟩ (L2.start N vs) H
    exact { R with
      ln := by simp [L2.start, lnv]; omega
      sl := fun i p h => by
        obtain ⟨v, h1, h2⟩ := R.sl i p (ap _ _ _ _ h)
        exact ⟨v, ap2 _ _ _ _ h1, h2⟩
      ds := fun i j p q v ne hi hj mp mq wi wj => by
        obtain ⟨v1, h1, _⟩ := R.sl i p (ap _ _ _ _ hi)
        obtain ⟨v2, h2, _⟩ := R.sl j q (ap _ _ _ _ hj)
        have e1 := ap2 _ (N.length - vs.length) _ _ h1
        have e2 := ap2 _ (N.length - vs.length) _ _ h2
        have f1 : v1 = v := by
          have : (L2.start N vs)[i]? = some (some v1) := e1
          rw [this] at wi
          exact Option.some.inj (Option.some.inj wi)
        have f2 : v2 = v := by
          have : (L2.start N vs)[j]? = some (some v2) := e2
          rw [this] at wj
          exact Option.some.inj (Option.some.inj wj)
        subst f1
        rw [f2] at h2
        exact R.ds i j p q _ ne (ap _ _ _ _ hi) (ap _ _ _ _ hj) mp mq h1 h2 }
  · obtain ⟨es, h1, c⟩ := c
    obtain ⟨R2, _⟩ := endR R1 h1
    exact fin _ _ _ _ _ _ c e1 R2 (vrf_dat .non)
  · obtain ⟨es, h1, c⟩ := c
    obtain ⟨R2, h2⟩ := endR R1 h1
    refine fin _ _ _ _ _ _ c e1 R2 ⟨V1.1, fun m i q hi hq => ?_⟩
    match i, hi with
    | 0, hi => 
      intro z
      exact V1.2 m kk _ h1 rfl (by rw [h2]; exact z)
    | i + 1, hi => simp at hi
end
structure HasR (P : Program) (w : World) (T : Tbs) (K : PySem.W.Frag) (mg : Str → Option Value) (base : Heap) (k : Nat) (x : Str) (n : Nat) (sp : HSpR) : Prop where
  ex : ∃ fa fd ps, ps.length = n + 1 ∧ GnOk P w K mg base CX0 k fa fd ps (SpHR K w T n sp) ∧ mg x = some (.ref fa) ∧ PySem.W.keepIn K (.ref fa) = true ∧ Binds K fd ps []
section
variable {X : Cx} {T : Tbs} {e a o : Expr} {y : Expr} {oa : HA → HA} {sp : HSpR} {x : Str} {p pos : Pos} {k n j : Nat}
end
theorem HasR.mk' {P : Program} {w : World} {T : Tbs} {K : PySem.W.Frag} {mg : Str → Option Value} {base : Heap} {k n : Nat} {fa : Addr} {fd : FuncData} {x : Str} {st : Stmt} {N ps : List Str} {hs : HS} {sp : HSpR} (hn : ps.length = n + 1) (Fn : Fun K x x st fa fd) (hm : mg x = some (.ref fa)) (b : Binds K fd ps []) (S : FnScope N ps (defScope st))
    (body : ∀ (cdv : Value), fd.code = cdv → ∀ (A : Around) (outer : List Env) (s : Shared) (H : Hp) (E : XK), (A.deeper (envOfC x (defScope st) s.heap.objs.size fa cdv)).guards = some [] → Room k (A.deeper (envOfC x (defScope st) s.heap.objs.size fa cdv)) → PSs (cxOf CX0 P w K mg base N x (defScope st) fa cdv A outer s H E).nox (defBody st) (lfS K (f0 w T) hs))
    (rd : ∀ pvs ds n' C, pvs.length = n → sp pvs ds n' C → hs ⟨fun s => ∃ es, s.sl[n]? = some (some (.byr es)) ∧ C (.dat .none) es s.n, fun p s => ∃ es, s.sl[n]? = some (some (.byr es)) ∧ C p es s.n, fun _ => False, fun _ => False⟩ ⟨(pvs ++ [PV.byr ds]).map some ++ List.replicate (N.length - (pvs.length + 1)) none, n'⟩) : HasR P w T K mg base (k + 1) x n sp :=
  ⟨fa, fd, ps, hn, gnHR Fn S hn body rd, hm, Fn.kp, b⟩
@[simp] def hAppR (j : Nat) (t : HE) : HE := fun s C => (∃ ds, s.sl[j]? = some (some (.byr ds))) ∧ t s fun p s1 => ∃ x ds, p.frz = some x ∧ s1.sl[j]? = some (some (.byr ds)) ∧ ds.length < 100000 ∧ C (.dat .none) (s1.put j (.byr (ds ++ [x])))
section
variable {X : Cx} {f : Fr} {e a : Expr} {t : HE}
end
end Sk
set_option Elab.async false
set_option linter.all false
set_option maxRecDepth 100000
set_option maxHeartbeats 4000000
namespace Sk
open PySem PySem.Spec PyProof.Rows L2
open Evl (Ex)
def t_draw (K : PySem.W.Frag) (w : World) (T : Tbs) : TS :=
  tSeq (tAsg (tDGet (tVar 0) (tC (.str "at"))) (gName 2))
  (tSeq (sDPut (tVar 0) (tC (.str "at")) (tOp (rI0 fun i j => .int (i + j)) (tVar 2) (tC (.int 1))))
  (tSeq (tIfS (tTest (tOp (rEqP K true) (tDGet (tVar 0) (tC (.str "left"))) (tLst tNil)))
      (tSeq (tAsg (tOp (rI (fun _ j => 0 < j) fun i j => .int (i % j)) (tVar 2) (tCB (fun xs H Q => ∃ p ys, xs = [.ref p] ∧ (SqL K H p ys ∨ SqT K H p ys) ∧ Q (.int ys.length) H) (tCons (tDGet (tVar 0) (tC (.str "left"))) tNil))) (gName 3))
      (tSeq (tAsg (tOp (rIxL K) (tDGet (tVar 0) (tC (.str "left"))) (tVar 3)) (gName 4))
        (tIfS (tTest (tOp (rI0 fun i j => .bl (decide (j < i))) (tVar 4) (tC (.int 0))))
          (tSeq (tAsg (tOp (rI CDivW fun i j => .int (i / j)) (tVar 4) (tVar 1)) (gSub (tDGet (tVar 0) (tC (.str "left"))) (tVar 3) rSetL))
            (tRet (tOp (rI (fun _ j => 0 < j) fun i j => .int (i % j)) (tVar 4) (tVar 1)))) tNext))) tNext)
  (tRet (tOp (rI (fun _ j => 0 < j) fun i j => .int (i % j))
    (tCall (SpH K w T 2 spMixed) [] E0 (tCons (tCall (SpH K w T 2 spMixed) [] E0 (tCons (tOp (rI0 fun i j => .int (i + j)) (tOp (rIxL K) (tDGet (tVar 0) (tC (.str "cells"))) (tOp (rI (fun _ j => 0 < j) fun i j => .int (i % j)) (tVar 2) (tC (.int 64)))) (tOp (rI CMulW fun i j => .int (i * j)) (tC (.int 31)) (tOp (rI CDivW fun i j => .int (i / j)) (tVar 2) (tC (.int 64))))) (tCons (tVar 2) tNil)))
      (tCons (tOp (rI0 fun i j => .int (i + j)) (tVar 2) (tC (.int 7))) tNil))) (tVar 1)))))
section
variable {K : PySem.W.Frag}
theorem plain_ints (ls : List Int) : PyData.plainAll (ls.map PyData.int) = true := plainAll_D (α := Int) ls
theorem eqv_nil (ds : List PyData) : PyData.eqv (.list ds) (.list []) = ds.isEmpty := by
  cases ds <;> simp [PyData.eqv, PyData.eqvAll]
abbrev dkv (c l : Addr) (k : Int) (rest : List (Key × V)) : List (Key × V) := (.inr "cells", .ref c) :: (.inr "left", .ref l) :: (.inr "at", .int k) :: rest
theorem k_cl : ¬ ((Sum.inr ("cells" : Str) : Key) = Sum.inr ("left" : Str)) := by decide
theorem k_ca : ¬ ((Sum.inr ("cells" : Str) : Key) = Sum.inr ("at" : Str)) := by decide
theorem k_la : ¬ ((Sum.inr ("left" : Str) : Key) = Sum.inr ("at" : Str)) := by decide
theorem k_al : ¬ ((Sum.inr ("at" : Str) : Key) = Sum.inr ("left" : Str)) := by decide
theorem v_cells {c l : Addr} {k : Int} {rest : List (Key × V)} : valV (dkv c l k rest) (.inr "cells") = some (.ref c) := valV_pos rfl
theorem v_left {c l : Addr} {k : Int} {rest : List (Key × V)} : valV (dkv c l k rest) (.inr "left") = some (.ref l) := by rw [valV_neg k_cl, valV_pos rfl]
theorem v_at {c l : Addr} {k : Int} {rest : List (Key × V)} : valV (dkv c l k rest) (.inr "at") = some (.int k) := by rw [valV_neg k_ca, valV_neg k_la, valV_pos rfl]
abbrev rmL (r : Int) : List (Key × V) := [((.inr "room" : Key), V.int r)]
theorem put_at {c l : Addr} {k i r : Int} : putK (dkv c l k (rmL r)) (.inr "at") (.int i) = dkv c l i (rmL r) := by
  have e1 := k_ca
  have e2 := k_la
  have e3 : ¬ ((Sum.inr ("room" : Str) : Key) = Sum.inr ("at" : Str)) := by decide
  unfold putK
  rw [if_pos (by simp [dkv])]
  simp [dkv, rmL, e1, e2, e3]
theorem put_left {c l l' : Addr} {k r : Int} : putK (dkv c l k (rmL r)) (.inr "left") (.ref l') = dkv c l' k (rmL r) := by
  have e1 := k_cl
  have e2 := k_al
  have e3 : ¬ ((Sum.inr ("room" : Str) : Key) = Sum.inr ("left" : Str)) := by decide
  unfold putK
  rw [if_pos (by simp [dkv])]
  simp [dkv, rmL, e1, e2, e3]
theorem put_room {c l : Addr} {k r i : Int} : putK (dkv c l k (rmL r)) (.inr "room") (.int i) = dkv c l k (rmL i) := by
  have e1 : ¬ ((Sum.inr ("cells" : Str) : Key) = Sum.inr ("room" : Str)) := by decide
  have e2 : ¬ ((Sum.inr ("left" : Str) : Key) = Sum.inr ("room" : Str)) := by decide
  have e3 : ¬ ((Sum.inr ("at" : Str) : Key) = Sum.inr ("room" : Str)) := by decide
  unfold putK
  rw [if_pos (by simp [dkv])]
  simp [dkv, rmL, e1, e2, e3]
theorem v_room {c l : Addr} {k r : Int} : valV (dkv c l k (rmL r)) (.inr "room") = some (.int r) := by
  have e1 : ¬ ((Sum.inr ("cells" : Str) : Key) = Sum.inr ("room" : Str)) := by decide
  have e2 : ¬ ((Sum.inr ("left" : Str) : Key) = Sum.inr ("room" : Str)) := by decide
  have e3 : ¬ ((Sum.inr ("at" : Str) : Key) = Sum.inr ("room" : Str)) := by decide
  rw [valV_neg e1, valV_neg e2, valV_neg e3, valV_pos rfl]
theorem dget_of {H : Hp} {a : Addr} {kvs : List (Key × V)} {x : Str} {v : V} (h : H a = some (.dK kvs)) (e : valV kvs (.inr x) = some v) : DGet H a (.str x) (some v) := .inl ⟨kvs, .inr x, .inl h, rfl, e.symm⟩
theorem big_dkv {c l : Addr} {k : Int} {rest : List (Key × V)} (h : rest.length ≤ 100) : (dkv c l k rest).length < sizeLine := by
  show rest.length + 3 < sizeLine
  rw [sizeLine_eq]; omega
theorem mod_at {ls : List Int} {k : Int} (h0 : 0 ≤ k) (hl : ls ≠ []) : ∃ j x, ixN (ls.map V.int).length (k % (ls.map V.int).length) = some j ∧ ls[j]? = some x := by
  have hp : 0 < ls.length := List.length_pos_iff.mpr hl
  have h1 : 0 ≤ k % (ls.length : Int) := Int.emod_nonneg _ (by omega)
  have h2 : k % (ls.length : Int) < ls.length := Int.emod_lt_of_pos _ (by omega)
  have hj : (k % (ls.length : Int)).toNat < ls.length := by omega
  refine ⟨(k % (ls.length : Int)).toNat, ls[(k % (ls.length : Int)).toNat], ?_, List.getElem?_eq_getElem hj⟩
  unfold ixN
  rw [List.length_map, if_pos h1, if_pos h2]
theorem rd_draw {w : World} {T : Tbs} {vs : List V} {H : Hp} {Q : VK} {E : XK} (h : SpH K w T 2 spDraw vs H Q E) : t_draw K w T ⟨fun _ H' => Q .non H', Q, fun _ _ => False, fun _ _ => False⟩ (L2.start ["_law_m", "_law_many", "_law_k", "_law_at", "_law_cell"] vs) H := by
  obtain ⟨f, G, n, ps, C, hw, hT, he, hF, hM, R, hm, hk, ⟨k, rfl, k0, k1, hn, hC⟩, kk⟩ := h
  subst hw hT
  obtain ⟨v0, e0, on, rfl⟩ := R.sl 0 _ rfl
  obtain ⟨v1, e1, V1⟩ := R.sl 1 _ rfl
  cases vr_int V1
  have hv : vs = [.ref f.m, .int k] := by
    have ln := R.ln
    match vs, e0, e1, ln with
    | [a, b], e0, e1, _ =>
      simp at e0 e1
      rw [e0, e1]
  subst hv
  obtain ⟨at', cs, ls, rest, hmm, a0, an, hc, hcl, hcb, hl, hll, hlb, ⟨rr, rfl⟩, hcn⟩ := R.dr on
  have hmm : H f.m = some (.dK (dkv f.c f.l at' (rmL rr))) := hmm
  have ml : f.m ≠ f.l := fun z => by rw [z, hl] at hmm; cases hmm
  have mc : f.m ≠ f.c := fun z => by rw [z, hc] at hmm; cases hmm
  -- k = m["at"]; m["at"] = k + 1
  refine ⟨.ref f.m, rfl, f.m, .int at', rfl, dget_of hmm v_at, ?_⟩
  refine ⟨_, rfl, at', 1, rfl, rfl, .ref f.m, rfl, f.m, _, rfl, DPut.k (k := .inr "at") hmm (big_dkv (by simp)), ?_⟩
  rw [put_at]
  -- what holds from now on
  have keep : ∀ (H' : Hp), (∀ a o, a ≠ f.m → a ≠ f.l → H a = some o → H' a = some o) → H' f.m = some (.dK (dkv f.c f.l (at' + 1) (rmL rr))) → ∀ ls' : List Int, H' f.l = some (.lst (ls'.map V.int)) → ls'.length ≤ 63 → (∀ x ∈ ls', 0 ≤ x) → Rel K f G ⟨[], n + 1⟩ [] H' := fun H' hk' h1 ls' h2 h3 h4 =>
    R.drawn on ⟨at' + 1, cs, ls', rmL rr, h1, by omega, by show at' + 1 ≤ ((n + 1 : Nat) : Int); have : at' ≤ ((n : Nat) : Int) := an; omega, hk' _ _ mc.symm hcn hc, hcl, hcb, h2, h3, h4, ⟨rr, rfl⟩, hcn⟩ hk'
  -- the last row
  have last : ∀ (σ : L2.St) (H' : Hp), σ[0]? = some (some (.ref f.m)) → σ[1]? = some (some (.int k)) → σ[2]? = some (some (.int at')) → (∀ a o, a ≠ f.m → a ≠ f.l → H a = some o → H' a = some o) → H' f.m = some (.dK (dkv f.c f.l (at' + 1) (rmL rr))) → H' f.l = some (.lst (ls.map V.int)) →
      (tRet (tOp (rI (fun _ j => 0 < j) fun i j => .int (i % j))
        (tCall (SpH K f.w f.T 2 spMixed) [] E0 (tCons (tCall (SpH K f.w f.T 2 spMixed) [] E0 (tCons (tOp (rI0 fun i j => .int (i + j)) (tOp (rIxL K) (tDGet (tVar 0) (tC (.str "cells"))) (tOp (rI (fun _ j => 0 < j) fun i j => .int (i % j)) (tVar 2) (tC (.int 64)))) (tOp (rI CMulW fun i j => .int (i * j)) (tC (.int 31)) (tOp (rI CDivW fun i j => .int (i / j)) (tVar 2) (tC (.int 64))))) (tCons (tVar 2) tNil)))
          (tCons (tOp (rI0 fun i j => .int (i + j)) (tVar 2) (tC (.int 7))) tNil))) (tVar 1))) ⟨fun _ H' => Q .non H', Q, fun _ _ => False, fun _ _ => False⟩ σ H' := by
    intro σ H' s0 s1 s2 hk' h1 h2
    have R' := keep H' hk' h1 ls h2 hll hlb
    have hc' := hk' _ _ mc.symm hcn hc
    have b : at' ≤ ((n : Nat) : Int) := an
    have m0 : 0 ≤ at' % 64 := Int.emod_nonneg _ (by decide)
    have m1 : at' % 64 < 64 := Int.emod_lt_of_pos _ (by decide)
    have hj : (at' % 64).toNat < cs.length := by omega
    have hx := List.getElem_mem hj
    obtain ⟨x0, x1⟩ := hcb _ hx
    have d0 : 0 ≤ at' / 64 := Int.ediv_nonneg a0 (by decide)
    have d1 : at' / 64 ≤ at' := Int.ediv_le_self _ a0
    have d2 : at' / 64 < 4194305 := by omega
    have hat : atI (cs.map V.int) (at' % 64) = some (.int cs[(at' % 64).toNat]) := by
      unfold atI ixN
      rw [List.length_map, if_pos m0, if_pos (by omega)]
      show (cs.map V.int)[(at' % 64).toNat]? = _
      rw [List.getElem?_map, List.getElem?_eq_getElem hj]; rfl
    refine ⟨.ref f.m, s0, f.m, .ref f.c, rfl, dget_of h1 v_cells, .int at', s2, at', 64, rfl, rfl, (by show (0 : Int) < 64; decide), f.c, _, at' % 64, _, rfl, rfl, Or.inl (Or.inl hc'), hat, ?_⟩
    refine ⟨.int at', s2, at', 64, rfl, rfl, wide_div (b := 7) (by decide) (by decide) (by decide) (by decide), 31, at' / 64, rfl, rfl, wide_mul (a := 6) (b := 40) (by decide) (by omega) (by decide) (by decide) (by decide), _, 31 * (at' / 64), rfl, rfl, .int at', s2, ?_⟩
    have call : ∀ (p q : Int) (H2 : Hp) (n2 : Nat) (G2 : Hp) (Q2 : VK), Rel K f G2 ⟨[], n2⟩ [] H2 → 0 ≤ p → p < 4294967296 → 0 ≤ q → q < 536870912 → (∀ (i : Int) H3 G3, 0 ≤ i → i < 2147483647 → Ex G2 G3 → Rel K f G3 ⟨[], n2⟩ [] H3 → Q2 (.int i) H3) → SpH K f.w f.T 2 spMixed ([.int p, .int q] ++ []) H2 Q2 E0 := by
      intro p q H2 n2 G2 Q2 R2 p0 p1 q0 q1 kq
      refine spH_call (f := f) (F := f) (O := f.O) (s := ⟨[], n2⟩) (σ := []) (ps := [.dat (.int p), .dat (.int q)]) (C := fun pv n' => n' = n2 ∧ ∃ i : Int, pv = .dat (.int i) ∧ 0 ≤ i ∧ i < 2147483647) R2 (.cons (.int p) (.cons (.int q) .nil)) rfl (fun a ha => by
        rcases List.mem_cons.mp ha with rfl | ha
        · rfl
        · rcases List.mem_cons.mp ha with rfl | ha
          · rfl
          · cases ha) ⟨p, q, rfl, p0, p1, q0, q1, fun i i0 i1 => ⟨(fun z => by cases z), rfl, i, rfl, i0, i1⟩⟩ fun pv n' G3 H3 v c e3 R3 V3 => ?_
      obtain ⟨rfl, i, rfl, i0, i1⟩ := c
      cases vr_int V3.1
      exact kq i H3 G3 i0 i1 e3 R3
    refine call _ _ _ _ _ _ R' (by omega) (by omega) a0 (by omega) fun i H3 G3 i0 i1 e3 R3 => ?_
    refine ⟨.int at', s2, at', 7, rfl, rfl, ?_⟩
    refine call _ _ _ _ _ _ R3 i0 (by omega) (by omega) (by omega) fun i2 H4 G4 j0 j1 e4 R4 => ?_
    refine ⟨.int k, s1, i2, k, rfl, rfl, k0, ?_⟩
    exact kk _ _ _ _ _ (hC _ (Int.emod_nonneg _ (by omega)) (Int.emod_lt_of_pos _ k0)) (e3.trans e4) R4 (.int _)
  generalize hH1 : upd H f.m (.dK (dkv f.c f.l (at' + 1) (rmL rr))) = H1
  have h1m : H1 f.m = some (.dK (dkv f.c f.l (at' + 1) (rmL rr))) := by rw [← hH1, upd_same]
  have h1o : ∀ a o, a ≠ f.m → H a = some o → H1 a = some o := fun a o ne h => by rw [← hH1, upd_ne ne]; exact h
  have h1l := h1o _ _ ml.symm hl
  -- if m["left"] != []
  refine ⟨.ref f.m, rfl, f.m, .ref f.l, rfl, dget_of h1m v_left, Nat.zero_le _, fun p hp => ?_⟩
  have pm : f.m ≠ p := fun z => by rw [← z, h1m] at hp; cases hp
  have pl : f.l ≠ p := fun z => by rw [← z, h1l] at hp; cases hp
  have h2m : upd H1 p (.lst []) f.m = some (.dK (dkv f.c f.l (at' + 1) (rmL rr))) := by rw [upd_ne pm]; exact h1m
  have h2l : upd H1 p (.lst []) f.l = some (.lst (ls.map V.int)) := by rw [upd_ne pl]; exact h1l
  have h2o : ∀ a o, a ≠ f.m → a ≠ f.l → H a = some o → upd H1 p (.lst []) a = some o := fun a o n1 n2 h => by
    have z := h1o a o n1 h
    rw [upd_ne (fun e => by rw [e, hp] at z; cases z)]; exact z
  refine ⟨.list (ls.map .int), .list [], .lst (Or.inl (Or.inl h2l)) (dpAll_ints _), .lst (Or.inl (Or.inl upd_same)) .nil, plain_ints ls, rfl, (by
    have : PyData.depth (.list []) ≤ 60 := by simp [PyData.depth, PyData.depthAll]
    omega), _, rfl, ?_⟩
  rw [eqv_nil]
  cases hls : ls with
  | nil =>
    refine iteF ?_
    exact last _ _ rfl rfl rfl h2o h2m h2l
  | cons y r =>
    refine iteT ?_
    have ne : ls ≠ [] := by rw [hls]; intro z; cases z
    have hp2 : 0 < ls.length := List.length_pos_iff.mpr ne
    obtain ⟨j, x, hj, hx⟩ := mod_at a0 ne
    have x0 : 0 ≤ x := hlb x (List.mem_of_getElem? hx)
    have jl : j < ls.length := (List.getElem?_eq_some_iff.mp hx).1
    refine ⟨.int at', rfl, .ref f.m, rfl, f.m, .ref f.l, rfl, dget_of h2m v_left, f.l, _, rfl, Or.inl (Or.inl (Or.inl h2l)), at', _, rfl, rfl, (by show (0 : Int) < ((ls.map V.int).length : Nat); rw [List.length_map]; omega), ?_⟩
    refine ⟨.ref f.m, rfl, f.m, .ref f.l, rfl, dget_of h2m v_left, _, rfl, f.l, _, _, .int x, rfl, rfl, Or.inl (Or.inl h2l), (by unfold atI; rw [hj]; show (ls.map V.int)[j]? = _; rw [List.getElem?_map, hx]; rfl), ?_⟩
    refine ⟨_, rfl, x, 0, rfl, rfl, _, rfl, ?_⟩
    by_cases hx0 : 0 < x
    · rw [decide_eq_true hx0]
      refine iteT ?_
      refine ⟨_, rfl, _, rfl, x, k, rfl, rfl, wide_div (b := 30) k0 (by omega) (by decide) (by decide), .ref f.m, rfl, f.m, .ref f.l, rfl, dget_of h2m v_left, _, rfl, f.l, _, _, j, rfl, rfl, h2l, hj, ?_⟩
      refine ⟨_, rfl, _, rfl, x, k, rfl, rfl, k0, ?_⟩
      have q0 : 0 ≤ x / k := Int.ediv_nonneg x0 (by omega)
      have hset : (ls.map V.int).set j (.int (x / k)) = (ls.set j (x / k)).map V.int := by rw [List.map_set]
      rw [hset]
      refine kk _ (n + 1) G _ _ (hC _ (Int.emod_nonneg _ (by omega)) (Int.emod_lt_of_pos _ k0)) (Ex.refl G) (keep _ (fun a o n1 n2 h => by rw [upd_ne n2]; exact h2o a o n1 n2 h) (by rw [upd_ne ml]; exact h2m) _ upd_same (by rw [List.length_set]; exact hll) fun z hz => ?_) (.int _)
      rcases List.mem_or_eq_of_mem_set hz with hz | rfl
      · exact hlb z hz
      · exact q0
    · rw [decide_eq_false hx0]
      exact iteF (last _ _ rfl rfl rfl h2o h2m h2l)
end
end Sk
set_option Elab.async false
set_option linter.all false
set_option maxRecDepth 100000
set_option maxHeartbeats 4000000
namespace Sk
open PySem PySem.Spec PyProof.Rows L2
open Evl (Ex)
def spFolded : HSp := fun ps n C => ∃ ns : List Int, ps = [.dat (.list (ns.map .int))] ∧ ns.length ≤ 63 ∧ ∀ cs : List Int, cs.length = 64 → (∀ x ∈ cs, 0 ≤ x ∧ x < 2147483647) → C (.own (cs.map .int)) n
def h_lefts : HE := hLc (hiL (hV 0)) (gN 2) hYes (hIf (hB (hC geW (hL 2 (hE (hC powW (hE (hK (.int 10)) (hE (hK (.int 18)) hNil))) hNil)))) (hV 2) (hK (.int 0))) [2]
def t_begun (K : PySem.W.Frag) (w : World) (more : List (TE × TE)) : TS :=
  tSeq (tAsg (tDisp ((tC (.str "cells"), tCall (SpH K w [] 1 spFolded) [] E0 (tCons (tVar 0) tNil)) :: (tC (.str "left"), tLst tNil) :: (tC (.str "at"), tC (.int 0)) :: more)) (gName 1))
  (tSeq (sDPut (tVar 1) (tC (.str "left")) (lf K (f0 w []) h_lefts)) (tRet (tVar 1)))
def spBegun (K : PySem.W.Frag) : Sp := fun vs H Q _ => ∃ (a : Addr) (ns : List Int), vs = [.ref a] ∧ SqL K H a (ns.map V.int) ∧ ns.length ≤ 63 ∧ ∀ m l c H', Ex H H' → H m = none → H l = none → H c = none → DrwOk m l c 0 H' → Q (.ref m) H'
def mores (kv : List (Str × Int)) : List (TE × TE) := kv.map fun p => (tC (.str p.1), tC (.int p.2))
theorem tp_mores {σ : L2.St} : ∀ (kv : List (Str × Int)) (H : Hp) (Q : List (V × V) → Hp → Prop), Q (kv.map fun p => (V.str p.1, V.int p.2)) H → tPairs (mores kv) σ H Q
  | [], _, _, h => h
  | p :: kv, H, Q, h => tp_mores kv H _ h
theorem lefts_ok (ds : List Int) : ∀ (acc : List Int) (p0 : Option PV), acc.length + ds.length ≤ 63 → (∀ x ∈ acc, 0 ≤ x) →
    lcs [2] (gN 2) hYes (hIf (hB (hC geW (hL 2 (hE (hC powW (hE (hK (.int 10)) (hE (hK (.int 18)) hNil))) hNil)))) (hV 2) (hK (.int 0))) (ds.map .int) (acc.map .int) ⟨[p0, none, none], 0⟩ (fun p s' => ∃ ls : List Int, p = .own (ls.map .int) ∧ ls.length ≤ 63 ∧ ∀ x ∈ ls, 0 ≤ x) := by
  induction ds with
  | nil => intro acc p0 h h2; exact ⟨acc, rfl, by simpa using h, h2⟩
  | cons d ds ih =>
    intro acc p0 h h2
    have hp : CPow 10 18 := by unfold CPow; decide
    have step : ∀ x : Int, 0 ≤ x → lcs [2] (gN 2) hYes (hIf (hB (hC geW (hL 2 (hE (hC powW (hE (hK (.int 10)) (hE (hK (.int 18)) hNil))) hNil)))) (hV 2) (hK (.int 0))) (ds.map .int) ((acc.map PyData.int) ++ [.int x]) ⟨[p0, none, none], 0⟩ (fun p s' => ∃ ls : List Int, p = .own (ls.map .int) ∧ ls.length ≤ 63 ∧ ∀ x ∈ ls, 0 ≤ x) := fun x hx => by
      have e : (acc.map PyData.int) ++ [.int x] = (acc ++ [x]).map .int := by simp
      rw [e]
      refine ih _ _ (by simp at h ⊢; omega) fun y hy => ?_
      rcases List.mem_append.mp hy with hy | hy
      · exact h2 y hy
      · rw [List.mem_singleton.mp hy]; exact hx
    have al : (acc.map PyData.int).length < 100000 := by simp at h ⊢; omega
    simp only [List.map_cons, lcs, gN, hYes, hIf, hB, hC, hL, hE, hNil, hK, hV, i2, i2', Sg.put, List.set_cons_succ, List.set_cons_zero, List.getElem?_cons_succ, List.getElem?_cons_zero, PV.frz, if_true, Option.some.injEq, exists_eq_left', PV.dat.injEq]
    refine ⟨⟨_, rfl⟩, hp, _, rfl, ?_⟩
    by_cases hd : (10 : Int) ^ Int.toNat 18 ≤ d
    · rw [decide_eq_true hd]
      have d0 : 0 ≤ d := by
        have : (0 : Int) ≤ 10 ^ Int.toNat 18 := by decide
        omega
      exact ⟨al, step d d0⟩
    · rw [decide_eq_false hd]
      exact ⟨al, step 0 (Int.le_refl _)⟩
theorem rd_begun {w : World} {K : PySem.W.Frag} {kv : List (Str × Int)} {vs : List V} {H : Hp} {Q : VK} {E : XK} (hkv : ∃ r : Int, kv = [(("room" : Str), r)]) (hmer : ∀ c l, mergeK [] ((Sum.inr ("cells" : Str), V.ref c) :: (Sum.inr ("left" : Str), V.ref l) :: (Sum.inr ("at" : Str), V.int 0) :: kv.map fun p => ((Sum.inr p.1 : Key), V.int p.2)) = dkv c l 0 (kv.map fun p => ((Sum.inr p.1 : Key), V.int p.2)))
    (h : spBegun K vs H Q E) : t_begun K w (mores kv) ⟨fun _ H' => Q .non H', Q, fun _ _ => False, fun _ _ => False⟩ (L2.start ["_law_script", "_law_m", "_law_cell"] vs) H := by
  obtain ⟨a, ns, rfl, hs, hn, k⟩ := h
  intro m0 hm0
  have e1 : Ex H (upd H m0 (.dK [])) := Evl.Ex.new hm0
  have hs1 := Evl.ex_l e1 hs
  -- folded(script)
  refine ⟨.ref a, rfl, ?_⟩
  refine ⟨⟨false, 0, 0, 0, upd H m0 (.dK []), fun _ => False, fun _ => False, 0, w, [], none⟩, upd H m0 (.dK []), 0, [.dat (.list (ns.map .int))], fun p n' => ∃ cs : List Int, p = .own (cs.map .int) ∧ cs.length = 64 ∧ ∀ x ∈ cs, 0 ≤ x ∧ x < 2147483647, rfl, rfl, rfl, rfl, (fun _ z => z.elim), ?_, ?_, rfl, ⟨ns, rfl, hn, fun cs h1 h2 => ⟨cs, rfl, h1, h2⟩⟩, ?_⟩
  · exact {
      gh := Ex.refl _
      fh := fun _ _ _ h => h
      go := fun _ z => z.elim
      oh := fun _ z => z.elim
      mh := fun _ z => z.elim
      mo := fun z => by cases z
      tm := fun _ h => by cases h
      tb := fun _ h => by cases h
      pk := fun _ h => by cases h
      dr := fun z => by cases z
      ln := rfl
      sl := fun i p h => by
        match i, h with
        | 0, h =>
          simp at h; subst h
          exact ⟨.ref a, rfl, .lst hs1 (dpAll_ints ns)⟩
        | i + 1, h => simp at h
      ds := fun i j p q v _ h _ mp => by
        match i, h with
        | 0, h => simp at h; subst h; cases mp
        | i + 1, h => simp at h }
  · intro p hp
    rcases List.mem_cons.mp hp with rfl | hp
    · rfl
    · cases hp
  intro p n' G' H1 v c eG R V
  obtain ⟨cs, rfl, hcl, hcb⟩ := c
  obtain ⟨c, ws, rfl, hc, _, _, hcF, hcd⟩ := V
  have hws := ints_dpAll hcd
  subst hws
  have e2 : Ex (upd H m0 (.dK [])) H1 := fun b o hb => R.fh b o (fun z => z) hb
  have hc0 : upd H m0 (.dK []) c = none := hcF.elim id fun z => z.elim
  have hcm : c ≠ m0 := fun z => by rw [z, upd_same] at hc0; cases hc0
  have hcH : H c = none := by rw [upd_ne hcm] at hc0; exact hc0
  have hm1 : H1 m0 = some (.dK []) := e2 _ _ upd_same
  -- []
  refine ⟨Nat.zero_le _, fun l0 hl0 => ?_⟩
  have e3 : Ex H1 (upd H1 l0 (.lst [])) := Evl.Ex.new hl0
  have hm2 := e3 _ _ hm1
  refine tp_mores kv _ _ ⟨hm2, (Sum.inr ("cells" : Str), V.ref c) :: (Sum.inr ("left" : Str), V.ref l0) :: (Sum.inr ("at" : Str), V.int 0) :: kv.map (fun p => ((Sum.inr p.1 : Key), V.int p.2)), ?_, ?_, ?_⟩
  · simp only [List.map_cons, List.map_map, kV, List.cons.injEq, true_and]
    rfl
  · obtain ⟨rr, rfl⟩ := hkv; simp only [List.length_cons, List.length_map, List.length_nil]; omega
  rw [hmer]
  generalize hr : (kv.map fun p => ((Sum.inr p.1 : Key), V.int p.2)) = rest
  obtain ⟨rr, rfl⟩ := hkv
  have hr : rest = rmL rr := hr.symm
  subst hr
  -- m["left"] = [..]
  generalize hH2 : upd (upd H1 l0 (.lst [])) m0 (.dK (dkv c l0 0 (rmL rr))) = H2
  have m2 : H2 m0 = some (.dK (dkv c l0 0 (rmL rr))) := by rw [← hH2, upd_same]
  have o2 : ∀ b o, b ≠ m0 → H1 b = some o → H2 b = some o := fun b o ne h => by rw [← hH2, upd_ne ne]; exact e3 _ _ h
  have s2 : SqL K H2 a (ns.map V.int) := by
    rcases hs with (hs | ⟨ob, hs⟩) | hs
    · exact Or.inl (Or.inl (o2 _ _ (ne_of_none hs hm0) (e2 _ _ (e1 _ _ hs))))
    · exact Or.inl (Or.inr ⟨ob, o2 _ _ (ne_of_none hs hm0) (e2 _ _ (e1 _ _ hs))⟩)
    · exact Or.inr hs
  refine ⟨⟨false, 0, 0, 0, H2, fun _ => False, fun _ => False, 0, w, [], none⟩, fun _ => False, H2, ⟨[some (.dat (.list (ns.map .int))), none, none], 0⟩, fun p s' => ∃ ls : List Int, p = .own (ls.map .int) ∧ ls.length ≤ 63 ∧ ∀ x ∈ ls, 0 ≤ x, ?_, ?_, ?_⟩
  · exact {
      gh := Ex.refl _
      fh := fun _ _ _ h => h
      go := fun _ z => z.elim
      oh := fun _ z => z.elim
      mh := fun _ z => z.elim
      mo := fun z => by cases z
      tm := fun _ h => by cases h
      tb := fun _ h => by cases h
      pk := fun _ h => by cases h
      dr := fun z => by cases z
      ln := rfl
      sl := fun i p h => by
        match i, h with
        | 0, h =>
          simp at h; subst h
          exact ⟨.ref a, rfl, .lst s2 (dpAll_ints ns)⟩
        | 1, h => simp at h
        | 2, h => simp at h
        | i + 3, h => simp at h
      ds := fun i j p q v _ h _ mp => by
        match i, h with
        | 0, h => simp at h; subst h; cases mp
        | 1, h => simp at h
        | 2, h => simp at h
        | i + 3, h => simp at h }
  · exact lefts_ok ns [] _ (by simpa using hn) (fun x hx => by cases hx)
  intro p s' G3 H3 v c3 e3' R3 V3
  obtain ⟨ls, rfl, hll, hlb⟩ := c3
  obtain ⟨⟨l1, ws, rfl, hl1, _, _, hF1, hd1⟩, _⟩ := V3
  have hws := ints_dpAll hd1
  subst hws
  have n2 : H2 l1 = none := hF1.elim id fun z => z.elim
  have e4 : Ex H2 H3 := fun b o hb => R3.fh b o (fun z => z) hb
  refine ⟨.ref m0, rfl, m0, _, rfl, DPut.k (k := .inr "left") (e4 _ _ m2) (big_dkv (by simp)), ?_⟩
  rw [put_left]
  refine ⟨.ref m0, rfl, ?_⟩
  have c2 : H2 c = some (.lst (cs.map V.int)) := o2 _ _ hcm hc
  have lm : l1 ≠ m0 := fun z => by rw [z, m2] at n2; cases n2
  have all : ∀ b o, H b = some o → H3 b = some o := fun b o hb => e4 _ _ (o2 _ _ (ne_of_none hb hm0) (e2 _ _ (e1 _ _ hb)))
  refine k m0 l1 c _ (fun b o hb => by rw [upd_ne (ne_of_none hb hm0)]; exact all b o hb) hm0 ?_ hcH ⟨0, cs, ls, rmL rr, upd_same, Int.le_refl _, Int.le_refl _, by rw [upd_ne hcm]; exact e4 _ _ c2, hcl, hcb, by rw [upd_ne lm]; exact hl1, hll, hlb, ⟨rr, rfl⟩, fun z => by rw [z, n2] at c2; cases c2⟩
  cases q : H l1 with
  | none => rfl
  | some o => rw [o2 _ _ lm (e2 _ _ (e1 _ _ q))] at n2; cases n2
end Sk
set_option Elab.async false
set_option linter.all false
set_option maxRecDepth 100000
set_option maxHeartbeats 4000000
namespace Sk
open PySem PySem.Spec PyProof.Rows L2
open Evl (Ex)
def spLaw (K : PySem.W.Frag) (T : Tbs) : Sp := fun vs H Q _ => (∀ p ∈ T, H p.1 = some (.tbl #[])) ∧ ∃ (a : Addr) (ns : List Int), vs = [.ref a] ∧ SqL K H a (ns.map V.int) ∧ ns.length ≤ 63 ∧ ∀ H', Q (.bl true) H'
abbrev lawD : HD := ⟨fun _ => False, fun p _ => p = .dat (.bool true), fun _ => False, fun _ => False⟩
theorem law_begin {w : World} {T : Tbs} {K : PySem.W.Frag} {N : List Str} {n : Nat} {t : HS} {a : Addr} {ns : List Int} {H : Hp} {Q : VK} (hN : N.length = n + 2) (hT : ∀ p ∈ T, H p.1 = some (.tbl #[])) (hS : SqL K H a (ns.map V.int)) (hl : ns.length ≤ 63) (q : ∀ H', Q (.bl true) H')
    (rd : t lawD ⟨some (.dat (.list (ns.map .int))) :: some .drw :: List.replicate n none, 0⟩) :
    (tSeq (tAsg (tCall (spBegun K) [] E0 (tCons (tVar 0) tNil)) (gName 1)) (lfS K (f0 w T) t)) ⟨fun _ H' => Q .non H', Q, fun _ _ => False, fun _ _ => False⟩ (L2.start N [.ref a]) H := by
  have e : L2.start N [.ref a] = some (.ref a) :: none :: List.replicate n none := by
    unfold L2.start
    rw [hN]
    rfl
  rw [e]
  refine ⟨.ref a, rfl, a, ns, rfl, hS, hl, fun m l c H' ex hm hlx hc dr => ?_⟩
  obtain ⟨k, cs, ls, rest, h1, h2, h3, h4, h5, h6, h7, h8⟩ := id dr
  classical
  show lfS K (f0 w T) t _ (some (.ref a) :: some (.ref m) :: List.replicate n none) H'
  let tb : Addr → Prop := fun b => ∃ q, (b, q) ∈ T
  have ht : ∀ b, tb b → H b = some (.tbl #[]) := fun b ⟨q, hq⟩ => hT _ hq
  let G : Hp := fun b => if tb b then none else H b
  have hG : Ex G H := fun b o h => by
    have h : (if tb b then none else H b) = some o := h
    split at h
    · cases h
    · exact h
  have hS' : SqL K G a (ns.map V.int) := by
    have up : ∀ o, H a = some o → (∀ xs, o ≠ .tbl xs) → G a = some o := fun o h hn => by
      show (if tb a then none else H a) = some o
      rw [if_neg fun z => by rw [ht _ z] at h; cases h; exact hn _ rfl]
      exact h
    rcases hS with (h | ⟨ob, h⟩) | h
    · exact Or.inl (Or.inl (up _ h fun xs z => by cases z))
    · exact Or.inl (Or.inr ⟨ob, up _ h fun xs z => by cases z⟩)
    · exact Or.inr h
  refine ⟨⟨true, m, l, c, H', fun b => (b = m ∨ b = l ∨ b = c) ∨ tb b, fun b => (b = m ∨ b = l) ∨ tb b, 0, w, T, none⟩, fun b => (b = m ∨ b = l ∨ b = c) ∨ tb b, G, ⟨some (.dat (.list (ns.map .int))) :: some .drw :: List.replicate n none, 0⟩, lawD, ?_, rd, ?_⟩
  · exact {
      gh := hG.trans ex
      fh := fun _ _ _ h => h
      go := fun b hb => by
        show (if tb b then none else H b) = none
        split
        · rfl
        · rename_i nt
          rcases hb with (rfl | rfl | rfl) | hb
          · exact hm
          · exact hlx
          · exact hc
          · exact absurd hb nt
      oh := fun b hb => by
        rcases hb with (rfl | rfl | rfl) | hb
        · rw [h1]; intro z; cases z
        · rw [h7]; intro z; cases z
        · rw [h4]; intro z; cases z
        · rw [ex _ _ (ht _ hb)]; intro z; cases z
      mh := fun b hb => by
        rcases hb with (rfl | rfl) | hb
        · rw [h1]; intro z; cases z
        · rw [h7]; intro z; cases z
        · rw [ex _ _ (ht _ hb)]; intro z; cases z
      mo := fun _ => ⟨Or.inl (Or.inl rfl), Or.inl (Or.inr (Or.inl rfl)), Or.inl (Or.inr (Or.inr rfl)), Or.inl (Or.inl rfl), Or.inl (Or.inr rfl)⟩
      tm := fun p hp => ⟨Or.inr ⟨p.2, hp⟩, Or.inr ⟨p.2, hp⟩⟩
      tb := fun p hp => ⟨#[], ex _ _ (hT p hp), True.intro, fun pos cv hc => by
        have z : codeAmong pos [] = some cv := hc
        simp [codeAmong] at z⟩
      pk := fun _ h => by cases h
      dr := fun _ => dr
      ln := by simp
      sl := fun i p h => by
        match i, h with
        | 0, h =>
          simp at h; subst h
          exact ⟨.ref a, rfl, .lst hS' (dpAll_ints ns)⟩
        | 1, h =>
          simp at h; subst h
          exact ⟨.ref m, rfl, rfl, rfl⟩
        | i + 2, h =>
          simp only [List.getElem?_cons_succ] at h
          rw [List.getElem?_replicate] at h
          split at h <;> cases h
      ds := fun i j p q v _ h _ mp => by
        match i, h with
        | 0, h => simp at h; subst h; cases mp
        | 1, h => simp at h; subst h; cases mp
        | i + 2, h =>
          simp only [List.getElem?_cons_succ] at h
          rw [List.getElem?_replicate] at h
          split at h <;> cases h }
  · exact {
      nx := fun _ _ _ _ _ _ z => z.elim
      rt := fun p G s σ H2 v _ R V z => by
        have z : p = .dat (.bool true) := z
        subst z
        have e := vr_bool V
        subst e
        exact q H2
      bk := fun _ _ _ _ _ _ z => z.elim
      ct := fun _ _ _ _ _ _ z => z.elim }
section
variable {P : Program} {w : World} {K : PySem.W.Frag} {mg : Str → Option Value} {base h : Heap} {fa : Addr} {fd : FuncData}
theorem ok_law {T : Tbs} {k n : Nat} {st : Stmt} {N : List Str} {hs : HS} (Fn : Fun K "law" "law" st fa fd) (S : FnScope N ["_law_script"] (defScope st)) (hN : N.length = n + 2)
    (body : ∀ (cdv : Value), fd.code = cdv → ∀ (A : Around) (outer : List Env) (s : Shared) (H : Hp) (E : XK), (A.deeper (envOfC "law" (defScope st) s.heap.objs.size fa cdv)).guards = some [] → Room k (A.deeper (envOfC "law" (defScope st) s.heap.objs.size fa cdv)) →
      PSs (cxOf CX0 P w K mg base N "law" (defScope st) fa cdv A outer s H E).nox (defBody st) (tSeq (tAsg (tCall (spBegun K) [] E0 (tCons (tVar 0) tNil)) (gName 1)) (lfS K (f0 w T) hs)))
    (rd : ∀ ns : List Int, ns.length ≤ 63 → hs lawD ⟨some (.dat (.list (ns.map .int))) :: some .drw :: List.replicate n none, 0⟩) : GnOk P w K mg base CX0 (k + 1) fa fd ["_law_script"] (spLaw K T) := by
  refine gn_ok Fn S (fun vs H Q E h => by obtain ⟨_, a, ns, rfl, _⟩ := h; rfl) fun cdv ecd A outer s H vs Q E hgd hr h => ?_
  obtain ⟨hT, a, ns, rfl, hS, hl, q⟩ := h
  exact ⟨_, body cdv ecd A outer s H E hgd hr, law_begin hN hT hS hl q (rd ns hl)⟩
theorem has_draw {T : Tbs} {x : Str} {st : Stmt} {k : Nat} (hk : 1 ≤ k) (Fn : Fun K x x st fa fd) (hm : mg x = some (.ref fa)) {ps : List Str} (hp : ps.length = 2) (b : Binds K fd ps []) {t : TS} {N : List Str} (S : FnScope N ps (defScope st))
    (body : ∀ (cdv : Value), fd.code = cdv → ∀ (A : Around) (outer : List Env) (s : Shared) (H : Hp) (E : XK), (A.deeper (envOfC x (defScope st) s.heap.objs.size fa cdv)).guards = some [] → Room 1 (A.deeper (envOfC x (defScope st) s.heap.objs.size fa cdv)) →
      PSs (cxOf CX0 P w K mg base N x (defScope st) fa cdv A outer s H E).nox (defBody st) t)
    (rd : ∀ vs H Q (E : XK), SpH K w T 2 spDraw vs H Q E → t ⟨fun _ H' => Q .non H', Q, fun _ _ => False, fun _ _ => False⟩ (L2.start N vs) H) : Has P w T K mg base 2 x 2 spDraw :=
  ⟨fa, fd, ps, hp, gn_ok Fn S (fun vs H Q E h => by rw [hp]; exact vals_len vs H Q E h) fun cdv ecd A outer s H vs Q E hgd hr h => ⟨t, body cdv ecd A outer s H E hgd hr, rd vs H Q E h⟩, hm, Fn.kp, b⟩
theorem begun_ok {st : Stmt} {N : List Str} {t : TS} (Fn : Fun K "_law_begun" "_law_begun" st fa fd) (S : FnScope N ["_law_script"] (defScope st))
    (body : ∀ (cdv : Value), fd.code = cdv → ∀ (A : Around) (outer : List Env) (s : Shared) (H : Hp) (E : XK), (A.deeper (envOfC "_law_begun" (defScope st) s.heap.objs.size fa cdv)).guards = some [] → Room 1 (A.deeper (envOfC "_law_begun" (defScope st) s.heap.objs.size fa cdv)) →
      PSs (cxOf CX0 P w K mg base N "_law_begun" (defScope st) fa cdv A outer s H E).nox (defBody st) t)
    (rd : ∀ vs H Q (E : XK), spBegun K vs H Q E → t ⟨fun _ H' => Q .non H', Q, fun _ _ => False, fun _ _ => False⟩ (L2.start N vs) H) : GnOk P w K mg base CX0 2 fa fd ["_law_script"] (spBegun K) :=
  gn_ok Fn S (fun vs H Q E h => by obtain ⟨a, ns, rfl, _⟩ := h; rfl) fun cdv ecd A outer s H vs Q E hgd hr h => ⟨t, body cdv ecd A outer s H E hgd hr, rd vs H Q E h⟩
theorem cst_v {x : Str} {v : V} {u : Value} {d : PyData} (X : K.In h) (G : h.Ns mainGlobals mg) (a : PySem.W.nsIn K mainGlobals x = some (some u)) (r : RelV v u) (hd : ∀ G, Dp K G v d) : Cst K mg x d := ⟨v, u, PySem.W.mg_of X G a, r, hd⟩
def TupK (o : Obj) (vs : List V) : Prop := ∃ (its : Array Value) (n : Nat), o.cls = .type "tuple" ∧ o.data = .seq its n ∧ its.size ≤ sizeLine ∧ Vals vs its.toList
theorem cst_t {x : Str} {b : Addr} {o : Obj} {vs : List V} {ds : List PyData} (X : K.In h) (G : h.Ns mainGlobals mg) (a : PySem.W.nsIn K mainGlobals x = some (some (.ref b))) (l : K.lookup b = some o) (t : TupK o vs) (hd : ∀ G, DpAll K G vs ds) : Cst K mg x (.tuple ds) := by
  obtain ⟨its, n, h1, h2, h3, h4⟩ := t
  exact ⟨.ref b, _, PySem.W.mg_of X G a, rfl, fun G => .tup (Or.inr ⟨o, its, n, l, h1, h2, h3, h4⟩) (hd G)⟩
end
end Sk
set_option Elab.async false
set_option linter.all false
set_option maxRecDepth 100000
set_option maxHeartbeats 2000000
namespace Sk
open PySem PySem.Spec PyProof.Rows L2
section
variable {P : Program} {w : World} {K : PySem.W.Frag} {mg mb : Str → Option Value} {k : Nat} {fa a : Addr} {fd : FuncData} {x : Str} {sp : Sp} {s1 : Shared} {vs : List Value} {ns : List Int} {cs : List (Addr × Addr)}
end
end Sk
namespace Sk
open PySem PySem.Spec PyProof.Rows L2
open Evl (Ex)
def ClsN (K : PySem.W.Frag) (x : Str) (C : Addr) : Prop := PySem.W.nsIn K mainGlobals x = some (some (.ref C))
theorem ClsN.inj {K : PySem.W.Frag} {x : Str} {C D : Addr} (h : ClsN K x C) (g : ClsN K x D) : C = D := by
  unfold ClsN at h g
  rw [h] at g
  cases g
  rfl
abbrev HX := Str → Sg → Prop
abbrev HSpX := List PV → Nat → (PV → Nat → Prop) → (Str → Nat → Prop) → Prop
def SpHX (K : PySem.W.Frag) (w : World) (T : Tbs) (k : Nat) (sp : HSpX) : Sp := fun vs H Q E => ∃ (f : Fr) (G : Hp) (n : Nat) (ps : List PV) (C : PV → Nat → Prop) (Z : Str → Nat → Prop), f.w = w ∧ f.T = T ∧ f.e = none ∧ f.F = H ∧ (∀ a, f.M a → (f.on = true ∧ (a = f.m ∨ a = f.l)) ∨ f.tab a) ∧ Rel K f G ⟨ps.map some, n⟩ (vs.map some) H ∧ (∀ p ∈ ps, p.mut = false) ∧ ps.length = k ∧ sp ps n C Z ∧
  (∀ p n' G' H' v, C p n' → Ex G G' → Rel K f G' ⟨[], n'⟩ [] H' → VR K f G' H' p v → Q v H') ∧
  (∀ x a n' G' H', Z x n' → ClsN K x a → Ex G G' → Rel K f G' ⟨[], n'⟩ [] H' → E (.ref a) none H')
def Lk (K : PySem.W.Frag) (W : WX) (w : World) (T : Tbs) (en : Ent) (Z : HX) : Prop := ∀ (x : Str) (a : Addr) (s : Sg) (σ : L2.St) (G H : Hp) (F : Fr) (O : Addr → Prop), ClsN K x a → Rel K (fo (f1 w T (some en)) F O) G s σ H → Z x s → W (.ref a) none σ H
def Ent.fr (en : Ent) (w : World) (T : Tbs) : Fr := ⟨en.on, en.m, en.l, en.c, en.F, en.O, en.M, en.r, w, T, none⟩
theorem Rel.ent {K : PySem.W.Frag} {w : World} {T : Tbs} {en : Ent} {F : Fr} {O : Addr → Prop} {G H : Hp} {s : Sg} {σ : L2.St} (R : Rel K (fo (f1 w T (some en)) F O) G s σ H) : Rel K (en.fr w T) G ⟨[], s.n⟩ [] H ∧ Ex en.G G := by
  have p := R.pk en rfl
  have eM : F.M = en.M := p.M
  have eO : ∀ a, en.O a → O a := p.O
  have eF : Ex en.F F.F := p.F
  have eon : F.on = en.on := p.on
  have em : F.m = en.m := p.m
  have el : F.l = en.l := p.l
  have ec : F.c = en.c := p.c
  refine ⟨?_, p.G⟩
  exact {
    gh := R.gh
    fh := fun a o m h => R.fh a o (fun z => m (by have z : F.M a := z; rw [eM] at z; exact z)) (eF a o h)
    go := fun a h => R.go a (eO a h)
    oh := fun a h => R.oh a (eO a h)
    mh := fun a h => R.mh a (by show F.M a; rw [eM]; exact h)
    mo := p.mo
    tm := p.tm
    tb := fun q hq => R.tb q hq
    pk := fun _ h => by cases h
    dr := fun h => by
      have := R.dr (by show F.on = true; rw [eon]; exact h)
      have e2 : DrwOk F.m F.l F.c s.n H := this
      rw [em, el, ec] at e2
      exact e2
    ln := rfl
    sl := fun i p h => by simp at h
    ds := fun i j p q v _ h => by simp at h }
def entOf (f : Fr) (G : Hp) : Ent := ⟨f.on, f.m, f.l, f.c, f.F, f.O, f.M, f.r, G⟩
theorem entOf_ok {K : PySem.W.Frag} {f : Fr} {G H : Hp} {s : Sg} {σ : L2.St} (R : Rel K f G s σ H) : EntOk (entOf f G) f G := ⟨rfl, rfl, rfl, rfl, Ex.refl _, fun _ h => h, rfl, rfl, Ex.refl _, R.mo, R.tm⟩
theorem Rel.re {K : PySem.W.Frag} {f : Fr} {G H : Hp} {s : Sg} {σ : L2.St} (R : Rel K f G s σ H) (e : Option Ent) (h : ∀ en, e = some en → EntOk en f G) : Rel K { f with e := e } G s σ H := {
  gh := R.gh
  fh := R.fh
  go := R.go
  oh := R.oh
  mh := R.mh
  mo := R.mo
  tm := R.tm
  tb := R.tb
  pk := fun en q => { (h en q) with }
  dr := R.dr
  ln := R.ln
  sl := fun i p q => by
    obtain ⟨v, h1, h2⟩ := R.sl i p q
    exact ⟨v, h1, by cases p <;> exact h2⟩
  ds := R.ds }
section
variable {P : Program} {w : World} {K : PySem.W.Frag} {mg : Str → Option Value} {base : Heap} {CX : CXT} {k : Nat} {f : Addr} {fd : FuncData} {ps : List Str} {sp : Sp}
theorem gn_okX {x qual : Str} {st : Stmt} {N : List Str} (F : Fun K x qual st f fd) (S : FnScope N ps (defScope st)) (len : ∀ vs H Q E, sp vs H Q E → vs.length = ps.length)
    (body : ∀ (cdv : Value), fd.code = cdv → ∀ (A : Around) (outer : List Env) (s : Shared) (H : Hp) (vs : List V) (Q : VK) (E : XK),
      (A.deeper (envOfC qual (defScope st) s.heap.objs.size f cdv)).guards = some [] → Room k (A.deeper (envOfC qual (defScope st) s.heap.objs.size f cdv)) → sp vs H Q E →
      ∃ t, PSs (cxOf CX P w K mg base N qual (defScope st) f cdv A outer s H E) (defBody st) t ∧ t { nx := fun _ H' => Q .non H', rt := Q } (start N vs) H) :
    GnOk P w K mg base CX (k + 1) f fd ps sp := by
  obtain ⟨oc, od, kV, doc, pm, an, cdv, ct, osl, efd, lk, hcd⟩ := F.ex
  subst efd
  refine ⟨len, fun {A outer s H args us vs Q E} hgd hr e0 hb r hsp => ?_⟩
  have hl := len _ _ _ _ hsp
  have hin : K.In s.heap := e0.mod.kin.keeps fun b o e => (e0.bs b o e).1
  have hlim : s.heap.NoLimit := e0.mod.nolimit.keeps fun b o e => (e0.bs b o e).1
  refine codeAny_call_function hr.depth (hin _ _ lk) rfl S.co S.gen rfl (PySem.W.codeRec_of hin hcd) (hb _ _ _ _ ?_)
  refine wpAny_newFunctionEnv_cells S.kind (fun y hy => ?_) fun env he s1 hx => ?_
  · rcases S.par y.1 (List.of_mem_zip (show (y.1, y.2) ∈ ps.zip us from hy)).1 with q | q
    · exact Or.inl q
    · exact Or.inr ⟨q, PySem.W.cellsFrom_some _ _ _ (Or.inl q)⟩
  subst he
  refine ⟨hlim.keeps hx.toInCall.keep, codeAny_func ?_⟩
  obtain ⟨t, ht, hq⟩ := body cdv rfl A outer s H vs Q E (guards_deeper A _ hgd) (hr.deeper _) hsp
  have I := inv_start (CX := CX) (E := E) (qual := qual) (f := f) (cd := cdv) S hr.hd e0 hl r hx
  have ret : ∀ {σ' : L2.St} {H' : Hp} {v : V} {u : Value} {s' : Shared}, Inv (cxOf CX P w K mg base N qual (defScope st) f cdv A outer s H E) [] σ' H' s' → RelV v u → Q v H' → CE outer P w H s Q u s' :=
    fun J rv q => ⟨_, _, J.os, J.bare, J.base, J.hok, rv, q⟩
  refine wpAny_mono (ht.run [] s1 (start N vs) H _ I hq) (fun fl s' hs => ?_) fun e s' hs => hs
  cases fl with
  | ret u => obtain ⟨v, σ', H', J, rv, q⟩ := hs; exact ret J rv q
  | next => obtain ⟨σ', H', J, q⟩ := hs; exact ret (v := V.non) (u := Value.none) J rfl q
  | brk => obtain ⟨_, _, _, q⟩ := hs; exact q.elim
  | cont => obtain ⟨_, _, _, q⟩ := hs; exact q.elim
end
section
variable {X : Cx} {CX : CXT} {k : Nat} {f : Addr} {fd : FuncData} {ps : List Str} {sp : Sp} {E : L2.St → XK} {x : Str} {p pos : Pos} {e : Expr} {es : List Expr} {t : TA}
theorem run_gnS {pins : List (Addr × Obj)} {σ : L2.St} {H : Hp} {s : Shared} {Q : VK} {us : List Value} {vs : List V} (F : GnOk X.prog X.w X.K X.mg X.base CX k f fd ps sp) (hgd : X.A.guards = some []) (hr : Room k X.A) (hb : Binds X.K fd ps [])
    (hx : PassesAt CX X σ (E σ)) (I : Inv X pins σ H s) (r : Vals vs us) (h : sp vs H Q (E σ)) : wpAny (model X.prog X.w) X.A (call (.ref f) us) (EP X pins σ Q) X.xe s := by
  have hlu : (us ++ []).length = ps.length := by
    rw [List.append_nil, ← r.length]
    exact F.len _ _ _ _ h
  have bb := hb s us I.kIn hlu
  rw [List.append_nil] at bb
  refine wpAny_call (codeAny_mono (F.go hgd hr I.env0 bb r h) fun res s' hq => ?_)
  match res, hq with
  | .error e, hq => exact hx pins H s e s' I hq
  | .ok (.ret u), hq => exact I.after hq
theorem pe_callGS (F : GnOk X.prog X.w X.K X.mg X.base CX k f fd ps sp) (hgd : X.A.guards = some []) (hr : Room k X.A) (hg : Gl X x) (hm : X.mg x = some (.ref f)) (hk : PySem.W.keepIn X.K (.ref f) = true) (hb : Binds X.K fd ps []) (hx : ∀ σ, PassesAt CX X σ (E σ))
    (ha : PA X (e :: es) t) (hdb : (x == ("__debug__" : Str)) = false := by decide) (he : starEach (e :: es) X.env = (false, eval e X.env) :: starEach es X.env := by rfl) (hpl : (backTo pos (starEach es X.env)).any (·.1) = false := by rfl) :
    PE X (.Call (.Name x p) (e :: es) [] pos) (tCallS sp E t) := ⟨fun pins s σ H Q I h =>
  wpAny_Call_Name_kw (ld_glob I hg hm (PySem.W.callWith_K (h₀ := X.base) I.ok.mod.kin hk (thn (ha.run pos pins s σ H _ I h) fun us s1 hz => by
    obtain ⟨vs, H1, I1, r, q⟩ := hz
    exact ⟨I1.kIn, run_gnS F hgd hr hb (hx σ) I1 r q⟩) he hpl) hdb)⟩
end
@[simp] def hCallX (sp : HSpX) (k : Nat) (Z : HX) (ta : HA) : HE := fun s C => ta s fun ps s' => ps.length = k ∧ (∀ p ∈ ps, p.isD = false) ∧ sp (ps.map PV.arg) s'.n (fun p n' => (ps.any PV.mut = true → p.imm = true) ∧ C p ⟨s'.sl, n'⟩) (fun x n' => Z x ⟨s'.sl, n'⟩)
@[simp] def hRaise (x : Str) (Z : HX) : HS := fun _ s => Z x s
section
variable {X : Cx} {T : Tbs} {en : Ent} {W : WX} {Z : HX} {e : Expr} {es : List Expr} {ta : HA} {sp : HSpX} {x : Str} {p pos : Pos} {k n : Nat}
theorem hp_callX {k : Nat} (lk : Lk X.K W X.w T en Z) (h : ∀ {t : TA}, PA X es t → PE X e (tCallS (SpHX X.K X.w T k sp) (WE W) t)) (ha : PA X es (lfA X.K (f1 X.w T (some en)) ta)) : PE X e (lf X.K (f1 X.w T (some en)) (hCallX sp k Z ta)) := (h ha).mono fun σ H Q q => by
  obtain ⟨F, O, G, s, C, R, ht, kk⟩ := q
  refine ⟨F, O, G, s, _, R, ht, fun ps s1 G1 H1 vs c1 e1 R1 V1 => ?_⟩
  obtain ⟨c2, c3, c4⟩ := c1
  obtain ⟨f', Gc, x1, x2, x3, x4, x5, R', x6, x7, _, back⟩ := spH_core (k := k) R1 V1 c2 c3
  refine ⟨f', Gc, s1.n, ps.map PV.arg, _, _, x1, x2, x3, x4, x5, R', x6, x7, c4, fun p n' G' H' v c e R2 V2 => ?_, fun x a n' G' H' z hc e R2 => ?_⟩
  · obtain ⟨G2, e2, R3, V3⟩ := back p n' G' H' v c.1 e R2 V2
    exact kk p ⟨s1.sl, n'⟩ G2 H' v c.2 (e1.trans e2) R3 V3
  · obtain ⟨G2, e2, R3, _⟩ := back (.dat .none) n' G' H' .non (fun _ => rfl) e R2 .non
    exact lk x a _ σ G2 H' F O hc R3 z
theorem hs_raise {a : Addr} (tk : Takes X W) (lk : Lk X.K W X.w T en Z) (hc : X.calm = true) (hn : ClsN X.K x a) (pm : PMk X e (fun _ H Q => Q (.ref a) none H)) : PS X (.Raise (some e) none pos) (lfS X.K (f1 X.w T (some en)) (hRaise x Z)) := (ps_raise hc tk pm).mono fun D σ H q => by
  obtain ⟨F, O, G, s, D', R, ht, _⟩ := q
  exact lk x a s σ G H F O hn R ht
end
structure HasX (P : Program) (w : World) (T : Tbs) (K : PySem.W.Frag) (mg : Str → Option Value) (base : Heap) (k : Nat) (x : Str) (n : Nat) (sp : HSpX) : Prop where
  ex : ∃ fa fd ps, ps.length = n ∧ GnOk P w K mg base (L2.CX P w) k fa fd ps (SpHX K w T n sp) ∧ mg x = some (.ref fa) ∧ PySem.W.keepIn K (.ref fa) = true ∧ Binds K fd ps []
section
variable {X : Cx} {T : Tbs} {en : Ent} {W : WX} {Z : HX} {e : Expr} {es : List Expr} {ta : HA} {sp : HSpX} {x : Str} {p pos : Pos} {k n : Nat}
theorem hp_callHX (h : HasX X.prog X.w T X.K X.mg X.base k x n sp) (tk : Takes X W) (lk : Lk X.K W X.w T en Z) (hgd : X.A.guards = some []) (hr : Room k X.A) (hg : Gl X x) (ha : PA X (e :: es) (lfA X.K (f1 X.w T (some en)) ta))
    (hdb : (x == ("__debug__" : Str)) = false := by decide) (he : starEach (e :: es) X.env = (false, eval e X.env) :: starEach es X.env := by rfl) (hpl : (backTo pos (starEach es X.env)).any (·.1) = false := by rfl) : PE X (.Call (.Name x p) (e :: es) [] pos) (lf X.K (f1 X.w T (some en)) (hCallX sp n Z ta)) := by
  obtain ⟨fa, fd, ps, _, G, hm, kp, b⟩ := h.ex
  exact hp_callX lk (fun z => pe_callGS (E := WE W) G hgd hr hg hm kp b (fun σ => passAt tk σ) z hdb he hpl) ha
end
theorem valsX_len {k : Nat} {K : PySem.W.Frag} {w : World} {T : Tbs} {sp : HSpX} : ∀ vs H Q E, SpHX K w T k sp vs H Q E → vs.length = k := fun vs H Q E h => by
  obtain ⟨f, G, n, ps, C, Z, _, _, _, _, _, R, _, hk, _⟩ := h
  have := R.ln
  simp at this
  omega
theorem start_at {α : Type} (xs : List α) (m i : Nat) (y : α) (h : (xs.map some ++ List.replicate m none)[i]? = some (some y)) : (xs.map some)[i]? = some (some y) := by
  by_cases hi : i < xs.length
  · rw [List.getElem?_append_left (by simpa using hi)] at h; exact h
  · rw [List.getElem?_append_right (by simpa using hi), List.getElem?_replicate] at h
    split at h <;> cases h
theorem start_up {α : Type} (xs : List α) (m i : Nat) (y : α) (h : (xs.map some)[i]? = some (some y)) : (xs.map some ++ List.replicate m none)[i]? = some (some y) := by
  have hi : i < (xs.map some).length := (List.getElem?_eq_some_iff.mp h).1
  rw [List.getElem?_append_left hi]
  exact h
theorem HasX.mk' {P : Program} {w : World} {T : Tbs} {K : PySem.W.Frag} {mg : Str → Option Value} {base : Heap} {k : Nat} {fa : Addr} {fd : FuncData} {x : Str} {st : Stmt} {N ps : List Str} {hs : HX → HS} {sp : HSpX} (Fn : Fun K x x st fa fd) (hm : mg x = some (.ref fa)) (b : Binds K fd ps []) (S : FnScope N ps (defScope st))
    (body : ∀ (cdv : Value), fd.code = cdv → ∀ (A : Around) (outer : List Env) (s : Shared) (H : Hp) (E : XK) (en : Ent) (Z : HX), (A.deeper (envOfC x (defScope st) s.heap.objs.size fa cdv)).guards = some [] → Room k (A.deeper (envOfC x (defScope st) s.heap.objs.size fa cdv)) →
      Takes (cxOf (L2.CX P w) P w K mg base N x (defScope st) fa cdv A outer s H E) (fun cls d _ H => E cls d H) → Lk K (fun cls d _ H => E cls d H) w T en Z → PSs (cxOf (L2.CX P w) P w K mg base N x (defScope st) fa cdv A outer s H E) (defBody st) (lfS K (f1 w T (some en)) (hs Z)))
    (rd : ∀ pvs n C Z, pvs.length = ps.length → sp pvs n C Z → hs (fun x s => Z x s.n) ⟨fun s => C (.dat .none) s.n, fun p s => C p s.n, fun _ => False, fun _ => False⟩ ⟨pvs.map some ++ List.replicate (N.length - pvs.length) none, n⟩) : HasX P w T K mg base (k + 1) x ps.length sp := by
  refine ⟨fa, fd, ps, rfl, gn_okX Fn S valsX_len fun cdv ecd A outer s H vs Q E hgd hr h => ?_, hm, Fn.kp, b⟩
  obtain ⟨⟨on, m, l, c, fF, fO, fM, r, fw, fT, fe⟩, G, n, pvs, C, Z, hw, hT, he, hF, hM, R, hmu, hk, hsp, kn, kx⟩ := h
  have hw : fw = w := hw
  have hT : fT = T := hT
  have he : fe = none := he
  subst hw hT he
  let f : Fr := ⟨on, m, l, c, fF, fO, fM, r, fw, fT, none⟩
  have R : Rel K f G ⟨pvs.map some, n⟩ (vs.map some) H := R
  have lnv : vs.length = pvs.length := by
    have := R.ln
    simpa using this
  have lk : Lk K (fun cls d _ H => E cls d H) fw fT (entOf f G) (fun x s => Z x s.n) := fun x a s1 σ1 G1 H1 F O hc R1 z => by
    obtain ⟨R2, e2⟩ := R1.ent
    exact kx x a _ G1 H1 z hc e2 R2
  refine ⟨_, body cdv ecd A outer s H E (entOf f G) (fun x s => Z x s.n) hgd hr (takes_of rfl rfl rfl rfl) lk, f, fO, G, ⟨pvs.map some ++ List.replicate (N.length - pvs.length) none, n⟩, _, ?_, rd pvs n C Z hk hsp, ⟨fun G1 s1 σ1 H1 e1 R1 c => ?_, fun p G1 s1 σ1 H1 v e1 R1 V1 c => ?_, fun _ _ _ _ _ _ z => z.elim, fun _ _ _ _ _ _ z => z.elim⟩⟩
  · have R5 := R.re (some (entOf f G)) fun en q => by
      cases q
      exact entOf_ok R
    show Rel K { f with e := some (entOf f G) } G ⟨_, n⟩ (L2.start N vs) H
    exact { R5 with
      ln := by simp [L2.start, lnv]
      sl := fun i p h => by
        obtain ⟨v, h1, h2⟩ := R5.sl i p (start_at _ _ _ _ h)
        exact ⟨v, start_up _ _ _ _ h1, h2⟩
      ds := fun i j p q v ne hi _ mp => by
        have h1 := start_at _ _ _ _ hi
        rw [List.getElem?_map] at h1
        obtain ⟨p0, h2, e⟩ := Option.map_eq_some_iff.mp h1
        cases e
        have := hmu _ (List.mem_of_getElem? h2)
        rw [this] at mp
        cases mp }
  · exact kn _ _ _ _ _ c e1 R1.ent.1 .non
  · exact kn _ _ _ _ _ c e1 R1.ent.1 (by cases p <;> exact V1.1)
end Sk
set_option Elab.async false
set_option linter.all false
set_option maxRecDepth 100000
set_option maxHeartbeats 2000000
namespace Sk
open PySem PySem.Spec PyProof.Rows L2
open Evl (Ex)
def ExH (cls : Value) (a : Addr) : HO := .ext fun h => ∃ (o : Obj) (fs : Array Value), h.get? a = some o ∧ Zc cls none o ∧ o.data = .fields fs
section
variable {X : Cx} {pins : List (Addr × Obj)} {σ : L2.St} {H : Hp} {s : Shared} {a : Addr} {o : Obj} {fs : Array Value} {cls : Value}
theorem exH_ok {P : Program} {w : World} {h : Heap} (e : h.get? a = some o) (z : Zc cls none o) (d : o.data = .fields fs) : ObjOk P w H h a (ExH cls a) :=
  ⟨⟨o, fs, e, z, d⟩, ⟨o, e⟩, fun _ _ ⟨o1, f1, q1, q2, q3⟩ k => ⟨o1, f1, k _ q1, q2, q3⟩⟩
theorem Inv.hold (I : Inv X pins σ H s) (ha : s.heap.get? a = some o) (hz : Zc cls none o) (hd : o.data = .fields fs) (na : H a = none) (nL : a ≠ X.env.locals) (n0 : X.s_0.heap.get? a = none) (np : ∀ p ∈ X.pn ++ pins, p.1 ≠ a) :
    Inv (X.suite a (X.pn ++ pins)) [] σ (upd H a (ExH cls a)) s where
  ok := I.ok.suite a _
  os := I.os
  bare := I.bare
  base := {
    keep := I.base.keep
    slot := I.base.slot
    free := fun b u e n hx => by
      rw [upd_ne (fun z => by rw [z, n0] at e; cases e)]
      exact I.base.free b u e n hx
    there := I.base.there
    tups := fun b xs e => by
      have e2 := I.base.tups b xs e
      rw [upd_ne (ne_of_none e2 na)]; exact e2
    frzs := fun b u v e => by
      have e2 := I.base.frzs b u v e
      rw [upd_ne (ne_of_none e2 na)]; exact e2
    tbls := fun b ps e => by
      obtain ⟨more, e2⟩ := I.base.tbls b ps e
      exact ⟨more, by rw [upd_ne (ne_of_none e2 na)]; exact e2⟩ }
  loc := I.loc
  cell := I.cell
  free := by rw [upd_ne nL.symm]; exact I.free
  freeC := fun y c e => by
    obtain ⟨v, sl⟩ := I.cell y c e
    have ne : c ≠ a := fun z => by
      rw [z] at sl
      obtain ⟨ob, e1, e2⟩ := sl
      rw [ha] at e1
      cases e1
      rw [hd] at e2
      cases e2
    rw [upd_ne ne]
    exact I.freeC y c e
  pin := fun p hp => by
    rw [List.append_nil] at hp
    obtain ⟨q1, q2, q3⟩ := I.pin p hp
    exact ⟨q1, by rw [upd_ne (np p hp)]; exact q2, q3⟩
  hok := fun b u e => by
    by_cases z : b = a
    · subst z
      rw [upd_same] at e
      cases e
      exact exH_ok ha hz hd
    · rw [upd_ne z] at e
      exact (I.hok b u e).stay (fun c v _ q => q) (fun c q => by rw [upd_ne (ne_of_none q na)]; exact q) fun c xs q => by rw [upd_ne (ne_of_none q na)]; exact q
  len := I.len
theorem Inv.unhold {pn : List (Addr × Obj)} (I : Inv (X.suite a (X.pn ++ pins)) pn σ H s) (ok : X.Ok) : Inv X pins σ H s :=
  ⟨ok, I.os, I.bare, I.base, I.loc, I.cell, I.free, I.freeC, fun p hp => I.pin p (List.mem_append_left _ hp), I.hok, I.len⟩
end
def offEnds (i : Nat) (D : Ends) : Ends := { nx := fun σ H => D.nx (σ.set i none) H, rt := D.rt, bk := fun σ H => D.bk (σ.set i none) H, ct := fun σ H => D.ct (σ.set i none) H }
def wHold (K : PySem.W.Frag) (c : Value) (i : Nat) (ts : Addr → Value → TS) (Wout : WX) (D : Ends) : WX := fun cls d σ H =>
  d = none ∧ ∃ b, PySem.W.exmOne K cls c = some b ∧ (b = true → ∀ a, H a = none → ts a cls (offEnds i D) (σ.set i (some (.ref a))) (upd H a (ExH cls a))) ∧ (b = false → Wout cls none σ H)
section
variable {X : Cx} {x n : Str} {c : Value} {i : Nat} {body suite : List Stmt} {b₀ : Stmt} {np pos pos' : Pos} {tb : WX → TS} {ts : Addr → Value → TS} {Wout : WX}
theorem ps_try_hold (hst : X.stack = X.env :: X.outer) (hfr : X.env.frame = some X.env.locals) (hN : X.N.Nodup) (hi : X.N[i]? = some n) (hln : X.env.kindOf n = some .local) (hex : X.ex = []) (hc : Names X x c) (tk : Takes X Wout)
    (hb : ∀ (W : WX) (pn : List (Addr × Obj)) (xe : Value → Shared → Prop), Takes (X.tr pn xe) W → PassesOwn (model X.prog X.w) X.A X.env xe → PSs (X.tr pn xe) body (tb W))
    (hsu : ∀ (a : Addr) (cls : Value) (pn : List (Addr × Obj)), PSs (X.suite a pn) (b₀ :: suite) (ts a cls)) :
    PS X (.Try body [.ExceptHandler (some (.Name x np)) (some n) (b₀ :: suite) pos'] [] [] pos) (fun D σ H => tb (wHold X.K c i ts Wout D) D σ H) := by
  constructor
  intro pins s σ H D I h
  have outs : X.A.frames = some (X.env :: X.outer) := I.ok.frames.trans (by rw [hst])
  let clause : List ExceptHandler := [.ExceptHandler (some (.Name x np)) (some n) (b₀ :: suite) pos']
  let look : Value → Shared → Prop := fun u s1 => wpAny (model X.prog X.w) X.A (noteFrame u X.env) (fun _ s2 => wpAny (model X.prog X.w) X.A (setFlight u none) (fun _ s3 => wpAny (model X.prog X.w) X.A (handleBy u X.env clause) (SP X pins D) X.xe s3) X.xe s2) X.xe s1
  have take : Takes (X.tr (X.pn ++ pins) look) (wHold X.K c i ts Wout D) := by
    rintro u s1 ⟨a, B, sI, pins2, σ1, H1, cls, d, rfl, I0, nb, up, sky, na, os, ag, ed, b, eb, yes, no⟩
    subst ed
    have I1 : Inv X pins σ1 H1 sI := I0.ofTry I.ok
    rw [show (X.tr (X.pn ++ pins) look).stack = X.env :: X.outer from hst] at sky
    show look (.ref a) s1
    refine Sky.land Zc.steady outs hfr sky fun h2 fl up2 => ?_
    have I2 : Inv X pins σ1 H1 { s1 with heap := h2 } := I1.landed nb fl.1 (up.trans up2) os ag
    -- the exception's object is none of ours
    have apart : ∀ {hh : Heap}, HandSPX.FlyingZ B (X.env :: X.outer) a (Zc cls none) hh → a ∉ frs (X.env :: X.outer) := fun {hh} q hm => by
      obtain ⟨_, _, ff, _⟩ := id q
      obtain ⟨oq, fq, eq, _, dq⟩ := q.there
      obtain ⟨_, o2, e2, nf⟩ := ff.mem hm
      rw [eq] at e2
      cases e2
      exact nf _ dq
    have na2 : a ∉ frs (X.env :: X.outer) := apart fl
    have nL : a ≠ X.env.locals := fun z => na2 (List.mem_filterMap.mpr ⟨X.env, List.mem_cons_self, by rw [hfr, z]⟩)
    have nI : sI.heap.get? a = none := by
      cases q : sI.heap.get? a with
      | none => rfl
      | some ob =>
        have := nb a ob q (by rw [show (X.tr (X.pn ++ pins) look).stack = X.env :: X.outer from hst]; exact na2)
        rw [fl.2.1] at this
        cases this
    have n0 : X.s_0.heap.get? a = none := by
      cases q : X.s_0.heap.get? a with
      | none => rfl
      | some ob =>
        obtain ⟨o2, e2⟩ := I1.base.there a ob q (by rw [hex]; exact List.not_mem_nil)
        rw [nI] at e2
        cases e2
    have np2 : ∀ p ∈ X.pn ++ pins, p.1 ≠ a := fun p hp z => by
      have := (I1.pin p hp).1
      rw [z, nI] at this
      cases this
    obtain ⟨o2, f2, e2, z2, d2⟩ := fl.there
    have S2 := Inv.hold I2 e2 z2 d2 na nL n0 np2
    refine wpAny_handleBy_cons (codeAny_handlers_test ?_) (by intro q; cases q)
    have ty : PySem.W.Looks (model X.prog X.w) h2 (typeOf (.ref a)) cls := fun A Q E s0 k q => wpAny_typeOf_ref (k _ _ e2) (by rw [z2.1]; exact q)
    have ex := PySem.W.exm_one (M := model X.prog X.w) I2.kIn ty eb
    have name : ∀ {Q E : Value → Shared → Prop}, Q c { s1 with heap := h2 } → wpAny (model X.prog X.w) (X.A.mark (some (.ref a))) (eval (.Name x np) X.env) Q E { s1 with heap := h2 } := fun {Q E} q => by
      obtain ⟨hg, hdb, w⟩ := hc
      rcases w with w | ⟨w1, w2, w3⟩
      · exact ld_glob (X := X.suite a (X.pn ++ pins)) S2 hg w q hdb
      · exact ld_blt (X := X.suite a (X.pn ++ pins)) S2 hg w1 w2 q w3 hdb
    refine name (ex.here ?_)
    cases b with
    | false =>
      show wpAny _ X.A (handleBy (.ref a) X.env []) _ _ _
      refine wpAny_handleBy_nil ?_
      obtain ⟨_, _, _, o3, f3, T, oT, gT, w1, _, w2, w3, _⟩ := id fl
      have fin : wpAny (model X.prog X.w) X.A (setFlight (.ref a) X.env.frame) (fun _ s4 => wpAny (model X.prog X.w) X.A (throw (.ref a) : Sem Flow) (SP X pins D) X.xe s4) X.xe { s1 with heap := h2 } := by
        rw [hfr]
        exact HandSPX.setFlight_upZ fl fun h4 q4 up4 => wpAny_throw (tk _ _ ⟨a, B, sI, pins, σ1, H1, cls, none, rfl, I1, nb, (up.trans up2).trans up4, .inr (.inr (by rw [hst]; exact q4)), na, os, ag, no rfl⟩)
      unfold PySem.passOn
      refine wpAny_bind (wpAny_field w1 w2 w3 ?_)
      rw [if_neg (by simp)]
      first
        | exact wpAny_bind (wpAny_pure (wpAny_bind fin))
        | exact wpAny_bind fin
    | true =>
      refine codeAny_handlers_suite_as (HandSPX.lands_againZ fl fun h4 fl4 up4 => ?_)
      have I4 : Inv X pins σ1 H1 { s1 with heap := h4 } := I1.landed nb fl4.1 ((up.trans up2).trans up4) os ag
      obtain ⟨o4, f4, e4, z4, d4⟩ := fl4.there
      have S4 := Inv.hold I4 e4 z4 d4 na nL n0 np2
      refine store_ok (X := X.suite a (X.pn ++ pins)) (v := .ref a) S4 hN hi (.inl hln) rfl (fun s5 S5 => ?_) (.inr hln)
      have run := (hsu a cls (X.pn ++ pins)).run [] s5 _ _ (offEnds i D) S5 (yes rfl a na)
      have leave : ∀ {s6 : Shared} {σ6 : L2.St} {H6 : Hp} {Q : Shared → Prop}, Inv (X.suite a (X.pn ++ pins)) [] σ6 H6 s6 → (∀ s7, Inv X pins (σ6.set i none) H6 s7 → Q s7) → wpAny (model X.prog X.w) X.A (do bindName X.env n .none; unbindBehindTheSuite X.env n pos') (fun _ s7 => Q s7) X.xe s6 :=
        fun {s6 σ6 H6 Q} q1 q2 => gone_ok (Inv.unhold q1 I.ok) hN hi hln q2
      refine wpAny_mono run (fun fl6 s6 w => ?_) fun _ _ w => w.elim
      match fl6, w with
      | .next, ⟨σ6, H6, J, q⟩ => exact leave J fun s7 J7 => ⟨_, _, J7, q⟩
      | .brk, ⟨σ6, H6, J, q⟩ => exact leave J fun s7 J7 => ⟨_, _, J7, q⟩
      | .cont, ⟨σ6, H6, J, q⟩ => exact leave J fun s7 J7 => ⟨_, _, J7, q⟩
      | .ret u6, ⟨v6, σ6, H6, J, r6, q⟩ => exact leave J fun s7 J7 => ⟨_, _, _, J7, r6, q⟩
  have go := (hb (wHold X.K c i ts Wout D) (X.pn ++ pins) look take PassesOwn.looking).run [] s σ H D (I.toTry _) h
  refine wpAny_Try_except (wpAny_mono go (fun fl s1 w => ?_) fun u s1 w => w)
  match fl, w with
  | .next, ⟨σ1, H1, J, q⟩ => exact wpAny_execs_nil ⟨σ1, H1, J.ofTry I.ok, q⟩
  | .brk, ⟨σ1, H1, J, q⟩ => exact ⟨σ1, H1, J.ofTry I.ok, q⟩
  | .cont, ⟨σ1, H1, J, q⟩ => exact ⟨σ1, H1, J.ofTry I.ok, q⟩
  | .ret u1, ⟨v1, σ1, H1, J, r1, q⟩ => exact ⟨v1, σ1, H1, J.ofTry I.ok, r1, q⟩
end
end Sk
set_option Elab.async false
set_option linter.all false
set_option maxRecDepth 100000
set_option maxHeartbeats 2000000
namespace Sk
open PySem PySem.Spec PyProof.Rows L2
open Evl (Ex)
def exNames : List Str := ["BadDeeds", "BadHand", "BadHouse", "BadMachine", "BadNode", "BadRow", "BadWay", "BadPaper", "NoName", "TooGreat"]
def exAll : List Str := "HandError" :: "BadText" :: exNames
def exSub (x y : Str) : Bool := decide (x = y) || decide (y = ("HandError" : Str))
def exAt (K : PySem.W.Frag) (x : Str) : Option Addr := match PySem.W.nsIn K mainGlobals x with
  | some (some (.ref C)) => some C
  | _ => none
theorem exAt_of {K : PySem.W.Frag} {x : Str} {C : Addr} (h : ClsN K x C) : exAt K x = some C := by
  unfold ClsN at h
  unfold exAt
  rw [h]
def exOne (K : PySem.W.Frag) (C : Addr) : Bool :=
  (PySem.W.findIn K (.ref C) "__getattribute__" == some (some (.builtin "BaseException.__getattribute__"))) && ((PySem.W.findIn K (.ref C) "__getattr__" == some none) && ((PySem.W.subIn K (.ref C) (.type "BaseException") == some true) && ((PySem.W.hasDictIn K C) &&
  ((PySem.W.findIn K (.ref C) "__class__" == some (some (.builtin "object.__class__"))) && ((PySem.W.specialIn K (.builtin "object.__class__") "__get__" == some (some (.builtin "getset_descriptor.__get__"))) && ((PySem.W.takesIn K (.builtin "object.__class__") == some true) && ((PySem.W.mroIn K C (.type "object") == some true) &&
  ((PySem.W.excIn K C [.type "ValueError", .type "Exception", .type "BaseException", .type "object"] "ValueError.__new__") && ((PySem.W.keepIn K (.ref C)) && ((PySem.W.typeIn K (.ref C) == some (.type "type")) && (PySem.W.kitOne K (.ref C) (.type "ValueError") == some true)))))))))))
def exPair (K : PySem.W.Frag) (x : Str) (C : Addr) (y : Str) : Bool := match exAt K y with
  | none => true
  | some D => (PySem.W.kitOne K (.ref C) (.ref D) == some (exSub x y)) && (PySem.W.exmOne K (.ref C) (.ref D) == some (exSub x y))
def exOk (K : PySem.W.Frag) (x : Str) : Bool := match exAt K x with
  | none => true
  | some C => exOne K C && exAll.all (exPair K x C)
def exNon (K : PySem.W.Frag) : Bool := exAll.all fun y => match exAt K y with
  | none => true
  | some D => PySem.W.kitOne K (.type "NoneType") (.ref D) == some false
structure ExF (K : PySem.W.Frag) (C : Addr) : Prop where
  e : ExcC K C
  x : PySem.W.excIn K C [.type "ValueError", .type "Exception", .type "BaseException", .type "object"] "ValueError.__new__" = true
  k : PySem.W.keepIn K (.ref C) = true
  t : PySem.W.typeIn K (.ref C) = some (.type "type")
  v : PySem.W.kitOne K (.ref C) (.type "ValueError") = some true
structure ExT (K : PySem.W.Frag) : Prop where
  ok : ∀ x ∈ exNames, exOk K x = true
  no : exNon K = true
section
variable {K : PySem.W.Frag} {x y : Str} {C D : Addr}
theorem exOne_of (h : exOne K C = true) : ExF K C := by
  unfold exOne at h
  simp only [Bool.and_eq_true, beq_iff_eq] at h
  obtain ⟨h1, h2, h3, h4, h5, h6, h7, h8, h9, ha, hb, hc⟩ := h
  exact ⟨⟨h1, h2, h3, h4, h5, h6, h7, h8⟩, h9, ha, hb, hc⟩
theorem ExT.one (T : ExT K) (hx : x ∈ exNames) (h : ClsN K x C) : ExF K C := by
  have := T.ok x hx
  unfold exOk at this
  rw [exAt_of h] at this
  simp only [Bool.and_eq_true] at this
  exact exOne_of this.1
theorem ExT.two (T : ExT K) (hx : x ∈ exNames) (hy : y ∈ exAll) (h : ClsN K x C) (g : ClsN K y D) : PySem.W.kitOne K (.ref C) (.ref D) = some (exSub x y) ∧ PySem.W.exmOne K (.ref C) (.ref D) = some (exSub x y) := by
  have := T.ok x hx
  unfold exOk at this
  rw [exAt_of h] at this
  simp only [Bool.and_eq_true, List.all_eq_true] at this
  have := this.2 y hy
  unfold exPair at this
  rw [exAt_of g] at this
  simp only [Bool.and_eq_true, beq_iff_eq] at this
  exact this
theorem ExT.non (T : ExT K) (hy : y ∈ exAll) (g : ClsN K y D) : PySem.W.kitOne K (.type "NoneType") (.ref D) = some false := by
  have := T.no
  unfold exNon at this
  rw [List.all_eq_true] at this
  have := this y hy
  rw [exAt_of g] at this
  exact eq_of_beq this
end
def excR (x : Str) : PySem.W.Frag → Hp → V → Prop := fun K G v => ∃ a C, v = .ref a ∧ ClsN K x C ∧ G a = some (ExH (.ref C) a)
abbrev excPV (x : Str) : PV := .abs (excR x)
theorem vr_exc {K : PySem.W.Frag} {f : Fr} {G H : Hp} {x : Str} {a C : Addr} (hc : ClsN K x C) (h : G a = some (ExH (.ref C) a)) : VR K f G H (excPV x) (.ref a) := fun G2 e => ⟨a, C, rfl, hc, e _ _ h⟩
theorem excPV_at {K : PySem.W.Frag} {f : Fr} {G H : Hp} {x : Str} {v : V} (h : VR K f G H (excPV x) v) : ∃ a C, v = .ref a ∧ ClsN K x C ∧ G a = some (ExH (.ref C) a) := h G (Ex.refl G)
def TyE (K : PySem.W.Frag) (H : Hp) (x : V) (t : Value) : Prop := (∃ a C, x = .ref a ∧ H a = some (ExH (.ref C) a) ∧ ExcC K C ∧ t = .ref C) ∨ (x = .non ∧ t = .type "NoneType")
theorem TyE.ex {K : PySem.W.Frag} {H H' : Hp} {x : V} {t : Value} (e : Ex H H') (h : TyE K H x t) : TyE K H' x t := h.imp (fun ⟨a, C, h1, h2, h3⟩ => ⟨a, C, h1, e _ _ h2, h3⟩) id
def rIsX (K : PySem.W.Frag) : List V → Hp → VK → Prop := fun xs H Q => ∃ (x c : V) (t u : Value) (b : Bool), xs = [x, c] ∧ TyE K H x t ∧ ClsV c u ∧ PySem.W.kitOne K t u = some b ∧ Q (.bl b) H
def rIsXT (K : PySem.W.Frag) : List V → Hp → VK → Prop := fun xs H Q => ∃ (x : V) (t : Value) (tp : Addr) (cs : List V) (us : List Value) (b : Bool), xs = [x, .ref tp] ∧ TyE K H x t ∧ H tp = some (.tup cs) ∧ Paired ClsV cs us ∧ PySem.W.kitAny K t us = some b ∧ Q (.bl b) H
section
variable {X : Cx}
theorem kit_x {σ : L2.St} {H : Hp} {pins : List (Addr × Obj)} {s : Shared} {x : V} {t u : Value} (I : Inv X pins σ H s) (r : RelV x u) (h : TyE X.K H x t) : ∃ P, PySem.W.KitX X.K u t P ∧ P s.heap ∧ u ≠ .builtin "__main__.__loader__#opaque" := by
  rcases h with ⟨a, C, rfl, h, ec, rfl⟩ | ⟨rfl, rfl⟩
  · cases (show u = Value.ref a from r)
    obtain ⟨⟨o, fs, e1, z, e2⟩, _⟩ := (show ObjOk X.prog X.w H s.heap a (ExH (.ref C) a) from I.hok a _ h)
    obtain ⟨oc, od, oda, osl⟩ := o
    obtain ⟨z1, z2⟩ := z
    dsimp only at z1 z2 e2
    subst z1 z2 e2
    exact ⟨_, PySem.W.handS_kitx_exc ec.hg ec.hk ec.hs ec.hd ec.ha ec.hn ec.ht ec.hm, ⟨e1, rfl, rfl, trivial⟩, fun z => nomatch z⟩
  · exact kit_dp (d := .none) I .non r
theorem call_isX : CallR X (.builtin "isinstance") (rIsX X.K) := by
  intro pins s σ H xs us Q I r h
  obtain ⟨x, c, t, u, b, rfl, ht, k, e, q⟩ := h
  obtain ⟨u1, u2, rfl, r1, r2⟩ := vals2 r
  have := k.eq r2
  subst this
  obtain ⟨P, Z, p, hx⟩ := kit_x I r1 ht
  exact PySem.W.kia_one Z I.kIn p e hx fun tk => ⟨.bl b, H, I.tok tk, rfl, q⟩
theorem call_isXT : CallR X (.builtin "isinstance") (rIsXT X.K) := by
  intro pins s σ H xs us Q I r h
  obtain ⟨x, t, tp, cs, ws, b, rfl, ht, hT, k, e, q⟩ := h
  obtain ⟨u1, u2, rfl, r1, r2⟩ := vals2 r
  cases (show u2 = Value.ref tp from r2)
  obtain ⟨P, Z, p, hx⟩ := kit_x I r1 ht
  obtain ⟨_, its, rv, ob, h1, h2, n, h3⟩ := (show ObjOk X.prog X.w H s.heap tp (.tup cs) from I.hok tp _ hT)
  have e3 := ClsV.all k rv
  subst e3
  obtain ⟨oc, od, dt, sl⟩ := ob
  simp only at h2 h3
  subst h2 h3
  exact PySem.W.kia_tup Z I.kIn p h1 e hx fun tk => ⟨.bl b, H, I.tok tk, rfl, q⟩
end
structure NmC (X : Cx) (e : Expr) (y : Str) : Prop where
  ex : ∃ C, ClsN X.K y C ∧ PE X e (tC (.ref C))
  al : y ∈ exAll
def isXW (ys : List Str) : List PV → (PV → Prop) → Prop := fun ps C => match ps with
  | [p] => (∃ x, x ∈ exNames ∧ p = excPV x ∧ C (.dat (.bool (ys.any fun y => exSub x y)))) ∨ (p = .dat .none ∧ C (.dat (.bool false)))
  | _ => False
theorem isXW_exc {x : Str} {ys : List Str} {C : PV → Prop} (hx : x ∈ exNames) (c : C (.dat (.bool (ys.any fun y => exSub x y)))) : isXW ys [excPV x] C := Or.inl ⟨x, hx, rfl, c⟩
section
variable {X : Cx} {f : Fr} {a : Expr} {oa : HA → HA} {p q pos : Pos} {e1 : Expr} {es : List Expr} {y1 : Str} {ys : List Str}
theorem tyE_of {K : PySem.W.Frag} {G H : Hp} {f : Fr} {p : PV} {v : V} (T : ExT K) (g : Ex G H) (V1 : VR K f G H p v) : (∀ x, x ∈ exNames → p = excPV x → ∃ t, TyE K H v t ∧ ∀ y D, y ∈ exAll → ClsN K y D → PySem.W.kitOne K t (.ref D) = some (exSub x y)) ∧
    (p = .dat .none → ∃ t, TyE K H v t ∧ ∀ y D, y ∈ exAll → ClsN K y D → PySem.W.kitOne K t (.ref D) = some false) := by
  refine ⟨fun x hx e => ?_, fun e => ?_⟩
  · subst e
    obtain ⟨b, C, rfl, hc, hg⟩ := excPV_at V1
    exact ⟨.ref C, Or.inl ⟨b, C, rfl, g _ _ hg, (T.one hx hc).e, rfl⟩, fun y D hy hd => (T.two hx hy hc hd).1⟩
  · subst e
    cases (show Dp K G v .none from V1)
    exact ⟨_, Or.inr ⟨rfl, rfl⟩, fun y D hy hd => T.non hy hd⟩
theorem hp_isX (T : ExT X.K) (hg : Gl X "isinstance") (hm : X.mg "isinstance" = none) (c1 : NmC X e1 y1) (A : Opd X f a oa)
    (hs : starEach [a, e1] X.env = (false, eval a X.env) :: starEach [e1] X.env := by rfl) (hs2 : starEach [e1] X.env = (false, eval e1 X.env) :: starEach [] X.env := by rfl)
    (hpl : (backTo pos (starEach [e1] X.env)).any (·.1) = false := by rfl) :
    PE X (.Call (.Name "isinstance" p) [a, e1] [] pos) (lf X.K f (hC (isXW [y1]) (oa hNil))) := by
  obtain ⟨ta, a1, a2⟩ := A.ex
  obtain ⟨D, hD, pD⟩ := c1.ex
  have al := c1.al
  refine (pe_callB (r := rIsX X.K) call_isX hg hm (by decide +kernel) (pa_cons a1 (pa_cons pD pa_nil hs2) hs) (by decide +kernel) (by decide +kernel) hs hpl).mono fun σ H Q w => ?_
  have op : Op X.K f (fun vs H Q => match vs with | [x] => rIsX X.K [x, .ref D] H Q | _ => False) (isXW [y1]) := fun F O G s σ H ps vs C Q R VV w k => by
    unfold isXW at w
    split at w
    · cases VV with
      | cons v1 VV =>
        cases VV
        obtain ⟨t1, t2⟩ := tyE_of T R.gh v1
        rcases w with ⟨x, hx, e, c⟩ | ⟨e, c⟩
        · obtain ⟨t, h1, h2⟩ := t1 x hx e
          refine ⟨_, _, t, _, exSub x y1, rfl, h1, .own D, h2 _ _ al hD, k _ _ _ _ ?_ (Ex.refl G) R (vrf_dat (.bl _))⟩
          simpa using c
        · obtain ⟨t, h1, h2⟩ := t2 e
          exact ⟨_, _, t, _, false, rfl, h1, .own D, h2 _ _ al hD, k _ _ _ _ c (Ex.refl G) R (vrf_dat (.bl _))⟩
    · exact w.elim
  have z := a2 tNil hNil (fun σ H Q q => by
    obtain ⟨F, O, G, s, C, R, ht, k⟩ := q
    exact k _ _ _ _ _ ht (Ex.refl G) R .nil) σ H _ (op.lift _ σ H Q w)
  exact z
inductive NmL (X : Cx) : List Expr → List Str → Prop
  | nil : NmL X [] []
  | cons {x y : Str} {q : Pos} {es : List Expr} {ys : List Str} (h : NmC X (.Name x q) y) (t : NmL X es ys) : NmL X (.Name x q :: es) (y :: ys)
theorem NmL.pa {es : List Expr} {ys : List Str} (h : NmL X es ys) : ∃ Cs : List Addr, PA X es (fun σ H Q => Q (Cs.map V.ref) H) ∧ Paired (fun y C => y ∈ exAll ∧ ClsN X.K y C) ys Cs := by
  induction h with
  | nil => exact ⟨[], pa_nil.mono fun σ H Q q => q, .nil⟩
  | @cons x y q es ys h t ih =>
    obtain ⟨Cs, h1, h3⟩ := ih
    obtain ⟨D, hD, pD⟩ := h.ex
    exact ⟨D :: Cs, (pa_cons pD h1 rfl).mono fun σ H Q q => q, .cons ⟨h.al, hD⟩ h3⟩
theorem kit_any {K : PySem.W.Frag} {t : Value} {g : Str → Bool} (h : ∀ y D, y ∈ exAll → ClsN K y D → PySem.W.kitOne K t (.ref D) = some (g y)) : ∀ {ys : List Str} {Cs : List Addr}, Paired (fun y C => y ∈ exAll ∧ ClsN K y C) ys Cs → PySem.W.kitAny K t (Cs.map Value.ref) = some (ys.any g)
  | _, _, .nil => rfl
  | y :: ys, _, .cons ⟨h1, h2⟩ q => by
    have ih := kit_any h q
    rw [List.map_cons, List.any_cons]
    unfold PySem.W.kitAny
    rw [h _ _ h1 h2]
    cases g y with
    | true => rfl
    | false => rw [Bool.false_or]; exact ih
theorem cls_refs : ∀ (Cs : List Addr), Paired ClsV (Cs.map V.ref) (Cs.map Value.ref)
  | [] => .nil
  | C :: Cs => .cons (.own C) (cls_refs Cs)
theorem hp_isXT {k : Nat} (T : ExT X.K) (hg : Gl X "isinstance") (hm : X.mg "isinstance" = none) (N : NmL X es ys) (hl : ys.length ≤ 1000) (A : Opd X f a oa)
    (hs : starEach [a, .Tuple es k q] X.env = (false, eval a X.env) :: starEach [.Tuple es k q] X.env := by rfl)
    (hs2 : starEach [.Tuple es k q] X.env = (false, eval (.Tuple es k q) X.env) :: starEach [] X.env := by rfl)
    (hpl : (backTo pos (starEach [.Tuple es k q] X.env)).any (·.1) = false := by rfl) :
    PE X (.Call (.Name "isinstance" p) [a, .Tuple es k q] [] pos) (lf X.K f (hC (isXW ys) (oa hNil))) := by
  obtain ⟨ta, a1, a2⟩ := A.ex
  obtain ⟨Cs, pt0, pr⟩ := N.pa
  have lc : Cs.length = ys.length := (Paired.length pr).symm
  have pt := pe_tup (pos := q) (x1 := k) pt0
  refine (pe_callB (r := rIsXT X.K) call_isXT hg hm (by decide +kernel) (pa_cons a1 (pa_cons pt pa_nil hs2) hs) (by decide +kernel) (by decide +kernel) hs hpl).mono fun σ H Q w => ?_
  have op : Op X.K f (fun vs H Q => match vs with | [x] => (Cs.map V.ref).length ≤ sizeLine ∧ ∀ p, H p = none → rIsXT X.K [x, .ref p] (upd H p (.tup (Cs.map V.ref))) Q | _ => False) (isXW ys) := fun F O G s σ H ps vs C Q R VV w k => by
    unfold isXW at w
    split at w
    · cases VV with
      | cons v1 VV =>
        cases VV
        obtain ⟨t1, t2⟩ := tyE_of T R.gh v1
        refine ⟨by rw [List.length_map, lc]; exact Nat.le_trans hl (by decide), fun p hp => ?_⟩
        rcases w with ⟨x, hx, e, c⟩ | ⟨e, c⟩
        · obtain ⟨t, h1, h2⟩ := t1 x hx e
          exact ⟨_, t, p, _, _, _, rfl, h1.ex (Evl.Ex.new hp), upd_same, cls_refs Cs, kit_any (g := fun y => exSub x y) h2 pr, k _ _ _ _ c (Ex.refl G) (R.new hp) (vrf_dat (.bl _))⟩
        · obtain ⟨t, h1, h2⟩ := t2 e
          refine ⟨_, t, p, _, _, _, rfl, h1.ex (Evl.Ex.new hp), upd_same, cls_refs Cs, kit_any (g := fun _ => false) h2 pr, k _ _ _ _ ?_ (Ex.refl G) (R.new hp) (vrf_dat (.bl _))⟩
          have : ys.any (fun _ => false) = false := by simp
          rw [this]; exact c
    · exact w.elim
  have z := a2 tNil hNil (fun σ H Q q => by
    obtain ⟨F, O, G, s, C, R, ht, k⟩ := q
    exact k _ _ _ _ _ ht (Ex.refl G) R .nil) σ H _ (op.lift _ σ H Q w)
  exact z
end
end Sk
set_option Elab.async false
set_option linter.all false
set_option maxRecDepth 100000
set_option maxHeartbeats 2000000
namespace Sk
open PySem PySem.Spec PyProof.Rows L2
open PySem.W (Datum DatumOrd Tup T3 T4)
open Evl (Ex)
theorem lcs_map {α : Type} {vs : List Nat} {g : HG} {t : HE} {s : Sg} {xs : List α} (e f : α → PyData)
    (h : ∀ a ∈ xs, ∀ K : PV → Sg → Prop, (∀ s3, s3.wipe vs = s → K (.dat (f a)) s3) → g (e a) s fun s1 => t s1 K) :
    ∀ (acc : List PyData) (C : PV → Sg → Prop), acc.length + xs.length ≤ 100000 → C (.own (acc ++ xs.map f)) s → lcs vs g hYes t (xs.map e) acc s C := by
  induction xs with
  | nil => intro acc C _ c; simpa using c
  | cons a xs ih =>
    intro acc C hl c
    have hl' : acc.length + (xs.length + 1) ≤ 100000 := by simpa using hl
    show g (e a) s fun s1 => hYes s1 fun b s2 => if b = true then t s2 fun p s3 => ∃ x, p.frz = some x ∧ acc.length < 100000 ∧ lcs vs g hYes t (xs.map e) (acc ++ [x]) (s3.wipe vs) C else lcs vs g hYes t (xs.map e) acc (s2.wipe vs) C
    refine h a List.mem_cons_self _ fun s3 hs3 => ⟨f a, rfl, by omega, ?_⟩
    rw [hs3]
    refine ih (fun b hb => h b (List.mem_cons_of_mem _ hb)) _ C (by simp; omega) ?_
    simpa using c
theorem allW_b {g : List Bool → Bool} {bs : List Bool} {p : PV} {C : PV → Prop} (h : p.lst = some (bs.map .bool)) (c : C (.dat (.bool (g bs)))) : allW g [p] C := ⟨bs, h, c⟩
theorem inP_D {α : Type} [DecidableEq α] [Datum α] {neg : Bool} {p q : PV} {C : PV → Prop} (a : α) (xs : List α) (hp : p.frz = some (Datum.toD a)) (hq : q.seq = some (xs.map Datum.toD)) (hd : Datum.depth α ≤ 60) (c : C (.dat (.bool (if neg then !decide (a ∈ xs) else decide (a ∈ xs))))) : inP neg [p, q] C := by
  refine ⟨_, _, hp, hq, Datum.plain a, plainAll_D xs, ?_, ?_⟩
  · have := Datum.depth_le a
    omega
  · rw [any_D]; exact c
@[simp] def ty_str : PyData → Bool
  | .none => false
  | .bool _ => false
  | .int _ => false
  | .str _ => true
  | .list _ => false
  | .tuple _ => false
  | .dict _ => false
theorem kit_str (d : PyData) : kitB (tyD d) "str" = some (ty_str d) := by cases d <;> rfl
@[simp] def ty_int : PyData → Bool
  | .none => false
  | .bool _ => true
  | .int _ => true
  | .str _ => false
  | .list _ => false
  | .tuple _ => false
  | .dict _ => false
theorem kit_int (d : PyData) : kitB (tyD d) "int" = some (ty_int d) := by cases d <;> rfl
@[simp] def ty_bool : PyData → Bool
  | .none => false
  | .bool _ => true
  | .int _ => false
  | .str _ => false
  | .list _ => false
  | .tuple _ => false
  | .dict _ => false
theorem kit_bool (d : PyData) : kitB (tyD d) "bool" = some (ty_bool d) := by cases d <;> rfl
@[simp] def ty_tuple : PyData → Bool
  | .none => false
  | .bool _ => false
  | .int _ => false
  | .str _ => false
  | .list _ => false
  | .tuple _ => true
  | .dict _ => false
theorem kit_tuple (d : PyData) : kitB (tyD d) "tuple" = some (ty_tuple d) := by cases d <;> rfl
@[simp] def ty_list : PyData → Bool
  | .none => false
  | .bool _ => false
  | .int _ => false
  | .str _ => false
  | .list _ => true
  | .tuple _ => false
  | .dict _ => false
theorem kit_list (d : PyData) : kitB (tyD d) "list" = some (ty_list d) := by cases d <;> rfl
@[simp] theorem frz_dat {d : PyData} : (PV.dat d).frz = some d := rfl
@[simp] theorem frz_own {d : List PyData} : (PV.own d).frz = some (.list d) := rfl
@[simp] theorem lst_dat {d : List PyData} : (PV.dat (.list d)).lst = some d := rfl
@[simp] theorem lst_own' {d : List PyData} : (PV.own d).lst = some d := rfl
@[simp] theorem seq_lst {d : List PyData} : (PV.dat (.list d)).seq = some d := rfl
@[simp] theorem seq_tup {d : List PyData} : (PV.dat (.tuple d)).seq = some d := rfl
@[simp] theorem seq_str {z : Str} : (PV.dat (.str z)).seq = none := rfl
@[simp] theorem lst_str {z : Str} : (PV.dat (.str z)).lst = none := rfl
@[simp] theorem lst_tp {d : List PyData} : (PV.dat (.tuple d)).lst = none := rfl
@[simp] theorem seq_own {d : List PyData} : (PV.own d).seq = some d := rfl
@[simp] theorem arg_dat {d : PyData} : (PV.dat d).arg = .dat d := rfl
@[simp] theorem arg_own {d : List PyData} : (PV.own d).arg = .dat (.list d) := rfl
@[simp] theorem arg_drw : PV.drw.arg = .drw := rfl
@[simp] theorem mut_dat {d : PyData} : (PV.dat d).mut = false := rfl
@[simp] theorem mut_own {d : List PyData} : (PV.own d).mut = true := rfl
@[simp] theorem mut_drw : PV.drw.mut = false := rfl
@[simp] theorem isD_dat {d : PyData} : (PV.dat d).isD = false := rfl
@[simp] theorem isD_own {d : List PyData} : (PV.own d).isD = false := rfl
@[simp] theorem isD_drw : PV.drw.isD = false := rfl
@[simp] theorem isi_str {d : PyData} {C : PV → Prop} : isiW [.dat d, .val (.ty "str")] C ↔ C (.dat (.bool (ty_str d))) := by simp [isiW, kit_str]
@[simp] theorem isi_int {d : PyData} {C : PV → Prop} : isiW [.dat d, .val (.ty "int")] C ↔ C (.dat (.bool (ty_int d))) := by simp [isiW, kit_int]
@[simp] theorem isi_bool {d : PyData} {C : PV → Prop} : isiW [.dat d, .val (.ty "bool")] C ↔ C (.dat (.bool (ty_bool d))) := by simp [isiW, kit_bool]
@[simp] theorem isi_tuple {d : PyData} {C : PV → Prop} : isiW [.dat d, .val (.ty "tuple")] C ↔ C (.dat (.bool (ty_tuple d))) := by simp [isiW, kit_tuple]
@[simp] theorem isi_list {d : PyData} {C : PV → Prop} : isiW [.dat d, .val (.ty "list")] C ↔ C (.dat (.bool (ty_list d))) := by simp [isiW, kit_list]
@[simp] theorem isi_own {ds : List PyData} {C : PV → Prop} : isiW [.own ds, .val (.ty "list")] C ↔ C (.dat (.bool true)) := by simp [isiW, kit_list]
@[simp] theorem len_str {z : Str} {C : PV → Prop} : lenW [.dat (.str z)] C ↔ z.length ≤ sizeLine ∧ C (.dat (.int z.length)) := by simp [lenW]
@[simp] theorem len_tup {ds : List PyData} {C : PV → Prop} : lenW [.dat (.tuple ds)] C ↔ C (.dat (.int ds.length)) := by simp [lenW]
@[simp] theorem len_lst {ds : List PyData} {C : PV → Prop} : lenW [.dat (.list ds)] C ↔ C (.dat (.int ds.length)) := by simp [lenW]
@[simp] theorem len_own {ds : List PyData} {C : PV → Prop} : lenW [.own ds] C ↔ C (.dat (.int ds.length)) := by simp [lenW]
@[simp] theorem ix_tup {ds : List PyData} {i : Int} {C : PV → Prop} : ixW [.dat (.tuple ds), .dat (.int i)] C ↔ ∃ d, atI ds i = some d ∧ C (.dat d) := by simp [ixW]
@[simp] theorem ix_lst {ds : List PyData} {i : Int} {C : PV → Prop} : ixW [.dat (.list ds), .dat (.int i)] C ↔ ∃ d, atI ds i = some d ∧ C (.dat d) := by simp [ixW]
@[simp] theorem ix_own {ds : List PyData} {i : Int} {C : PV → Prop} : ixW [.own ds, .dat (.int i)] C ↔ ∃ d, atI ds i = some d ∧ C (.dat d) := by simp [ixW]
@[simp] theorem ix_st {z : Str} {i : Int} {C : PV → Prop} : ixW [.dat (.str z), .dat (.int i)] C ↔ z.length ≤ 100000 ∧ ∃ c, atI z.cps.toList i = some c ∧ C (.dat (.str ⟨#[c]⟩)) := by simp [ixW]
@[simp] theorem add_ii {i j : Int} {C : PV → Prop} : addW [.dat (.int i), .dat (.int j)] C ↔ C (.dat (.int (i + j))) := Iff.rfl
@[simp] theorem add_ss {i j : Str} {C : PV → Prop} : addW [.dat (.str i), .dat (.str j)] C ↔ i.length + j.length ≤ 100000 ∧ C (.dat (.str (i ++ j))) := Iff.rfl
@[simp] theorem mul_ii {i j : Int} {C : PV → Prop} : mulW' [.dat (.int i), .dat (.int j)] C ↔ CMulW i j ∧ C (.dat (.int (i * j))) := Iff.rfl
@[simp] theorem lst_own {ds : List PyData} {C : PV → Prop} : listW [.own ds] C ↔ C (.own ds) := by simp [listW]
@[simp] theorem lst_lst {ds : List PyData} {C : PV → Prop} : listW [.dat (.list ds)] C ↔ C (.own ds) := by simp [listW]
@[simp] theorem lst_tup {ds : List PyData} {C : PV → Prop} : listW [.dat (.tuple ds)] C ↔ C (.own ds) := by simp [listW]
@[simp] theorem tup_own {ds : List PyData} {C : PV → Prop} : tupW [.own ds] C ↔ C (.dat (.tuple ds)) := by simp [tupW]
@[simp] theorem tup_lst {ds : List PyData} {C : PV → Prop} : tupW [.dat (.list ds)] C ↔ C (.dat (.tuple ds)) := by simp [tupW]
@[simp] theorem in_sign {c : Nat} {z : Str} {C : PV → Prop} : inS [.dat (.str ⟨#[c]⟩), .dat (.str z)] C ↔ C (.dat (.bool (decide (c ∈ z.cps.toList)))) := by
  simp [inS]
def isNoneD : PyData → Bool
  | .none => true
  | _ => false
@[simp] theorem is_none {d : PyData} {C : PV → Prop} : isN false [.dat d, .dat .none] C ↔ C (.dat (.bool (isNoneD d))) := by cases d <;> simp [isN, isNoneD]
@[simp] theorem not_none {d : PyData} {C : PV → Prop} : isN true [.dat d, .dat .none] C ↔ C (.dat (.bool (!isNoneD d))) := by cases d <;> simp [isN, isNoneD]
@[simp] theorem eq_int {i j : Int} {neg : Bool} {C : PV → Prop} : eqP neg [.dat (.int i), .dat (.int j)] C ↔ C (.dat (.bool (if neg then !decide (i = j) else decide (i = j)))) := by
  have h : PyData.eqv (.int i) (.int j) = decide (i = j) := Datum.eqv i j
  simp [eqP, h, PyData.plain, PyData.depth]
@[simp] theorem eq_str {i j : Str} {neg : Bool} {C : PV → Prop} : eqP neg [.dat (.str i), .dat (.str j)] C ↔ C (.dat (.bool (if neg then !decide (i = j) else decide (i = j)))) := by
  have h : PyData.eqv (.str i) (.str j) = decide (i = j) := Datum.eqv i j
  simp [eqP, h, PyData.plain, PyData.depth]
end Sk
set_option Elab.async false
set_option linter.all false
set_option maxRecDepth 100000
set_option maxHeartbeats 2000000
namespace Sk
open PySem PySem.Spec PyProof.Rows L2
open Evl (Ex)
theorem DpAll.erase {K : PySem.W.Frag} {H : Hp} {vs : List V} {ds : List PyData} (a : DpAll K H vs ds) (n : Nat) : DpAll K H (vs.eraseIdx n) (ds.eraseIdx n) := by
  rw [List.eraseIdx_eq_take_drop_succ, List.eraseIdx_eq_take_drop_succ]
  exact (a.take n).append (a.drop (n + 1))
theorem DpAll.rev {K : PySem.W.Frag} {H : Hp} : ∀ {vs : List V} {ds : List PyData}, DpAll K H vs ds → DpAll K H vs.reverse ds.reverse
  | _, _, .nil => .nil
  | _, _, .cons h t => by
    rw [List.reverse_cons, List.reverse_cons]
    exact t.rev.append (.cons h .nil)
@[simp] def hPopAt (j : Nat) (t : HE) : HE := fun s C => (∃ ds, s.sl[j]? = some (some (.own ds))) ∧ t s fun p s1 => ∃ ds i k d, p = .dat (.int i) ∧ s1.sl[j]? = some (some (.own ds)) ∧ ixN ds.length i = some k ∧ i.natAbs ≤ 1000000 ∧ ds[k]? = some d ∧ C (.dat d) (s1.put j (.own (ds.eraseIdx k)))
@[simp] def hRev (j : Nat) : HE := fun s C => ∃ ds, s.sl[j]? = some (some (.own ds)) ∧ C (.dat .none) (s.put j (.own ds.reverse))
@[simp] def hExt (j : Nat) (t : HE) : HE := fun s C => (∃ ds, s.sl[j]? = some (some (.own ds))) ∧ t s fun p s1 => ∃ ds es, p = .own es ∧ s1.sl[j]? = some (some (.own ds)) ∧ ds.length + es.length ≤ 100000 ∧ C (.dat .none) (s1.put j (.own (ds ++ es)))
@[simp] def hIdx (j : Nat) (t : HE) : HE := fun s C => (∃ p ns, s.sl[j]? = some (some p) ∧ p.lst = some ((ns : List Int).map .int)) ∧ t s fun q s1 => ∃ p ns, ∃ a : Int, ∃ k, s1.sl[j]? = some (some p) ∧ p.lst = some ((ns : List Int).map .int) ∧ q = .dat (.int a) ∧ ns[k]? = some a ∧ (∀ m, m < k → ns[m]? ≠ some a) ∧ C (.dat (.int (k : Nat))) s1
@[simp] def hAug (op : Int → Int → Int) (i : Nat) (t : HE) : HS := fun D s => ∃ a, s.sl[i]? = some (some (.dat (.int a))) ∧ t s fun p s1 => ∃ b, p = .dat (.int b) ∧ D.nx (s1.put i (.dat (.int (op a b))))
@[simp] def hAugL (op : Int → Int → Int) (j : Nat) (ti t : HE) : HS := fun D s => (∃ ds, s.sl[j]? = some (some (.own ds))) ∧ ti s fun q s1 => ∃ k n ds a, q = .dat (.int k) ∧ s1.sl[j]? = some (some (.own ds)) ∧ ixN ds.length k = some n ∧ ds[n]? = some (.int a) ∧ t s1 fun p s2 => ∃ b es m, p = .dat (.int b) ∧ s2.sl[j]? = some (some (.own es)) ∧ ixN es.length k = some m ∧ D.nx (s2.put j (.own (es.set m (.int (op a b)))))
def rgD (a b : Int) : List PyData := (List.range (b - a).toNat).map fun i => PyData.int (a + (i : Nat))
@[simp] def hLR1 (ta : HA) : HE := hC (fun ps C => match ps with
  | [.dat (.int n)] => (-1000000 ≤ n ∧ n ≤ 1000000) ∧ C (.own (rgD 0 n))
  | _ => False) ta
@[simp] def hTR1 (ta : HA) : HE := hC (fun ps C => match ps with
  | [.dat (.int n)] => (-1000000 ≤ n ∧ n ≤ 1000000) ∧ C (.dat (.tuple (rgD 0 n)))
  | _ => False) ta
@[simp] def hLR2 (ta : HA) : HE := hC (fun ps C => match ps with
  | [.dat (.int a), .dat (.int b)] => (-1000000 ≤ a ∧ a ≤ 1000000 ∧ -1000000 ≤ b ∧ b ≤ 1000000) ∧ C (.own (rgD a b))
  | _ => False) ta
@[simp] def max2W : List PV → (PV → Prop) → Prop := i2' fun i j => .int (if j > i then j else i)
@[simp] def min2W : List PV → (PV → Prop) → Prop := i2' fun i j => .int (if j < i then j else i)
@[simp] def hSlE (t : HE) (tl th : HOp) : HE := fun s C => t s fun p s1 => ∃ d, p.frz = some d ∧ tl s1 fun lo s2 => th s2 fun hi s3 => slW (.dat d) lo hi fun q => C q s3
section
variable {X : Cx} {f : Fr} {e o a b : Expr} {es : List Expr} {t ti tt : HE} {r : HA} {x : Str} {apos cpos pos p : Pos} {oa ob : HA → HA}
theorem hp_ext {j : Nat} (he : PE X e (lf X.K f t)) (h : ∀ {ta : TA}, PA X [e] ta → PE X a (tBM X.K "list" rExtend (tVar j) ta)) (hs : starEach [e] X.env = (false, eval e X.env) :: starEach [] X.env := by rfl) : PE X a (lf X.K f (hExt j t)) := (h (pa_cons he pa_nil hs)).mono fun σ H Q q => by
  obtain ⟨F, O, G, s, C, R, ⟨⟨ds0, hj⟩, ht⟩, k⟩ := q
  obtain ⟨v, hv, V⟩ := R.sl j _ hj
  obtain ⟨b, ws, rfl, k1, k2, k3, k4, k5⟩ := V
  refine ⟨_, hv, Or.inl ⟨rfl, ws, Or.inl (Or.inl k1)⟩, F, O, G, s, _, R, ht, fun p s1 G1 H1 y c1 e1 R1 V1 => ?_⟩
  obtain ⟨ds, es, rfl, hj1, hl, c2⟩ := c1
  obtain ⟨v', hv', V'⟩ := R1.sl j _ hj1
  rw [hv] at hv'
  cases hv'
  obtain ⟨b', ws', eb, m1, m2, m3, m4, m5⟩ := V'
  cases eb
  obtain ⟨⟨c, us, rfl, n1, n2, n3, n4, n5⟩, nf⟩ := V1
  refine ⟨b, c, ws', us, rfl, rfl, m1, n1, by rw [m5.len, n5.len]; exact Evl.sz_of hl, k _ _ _ _ _ c2 e1 ?_ (vrf_dat .non)⟩
  exact R1.poke hj1 rfl hv m1 m2 m3 m4 ⟨_, _, rfl, upd_same, m2, m3, m4, m5.append n5⟩
theorem lst_sq {K : PySem.W.Frag} {G H : Hp} {p : PV} {v : V} {ds : List PyData} (V : VR K f G H p v) (e : p.lst = some ds) (g : Ex G H) : ∃ a vs, v = .ref a ∧ SqL K H a vs ∧ DpAll K G vs ds := by
  cases p with
  | dat d =>
    cases d <;> try (cases e)
    have V : Dp K G v (.list ds) := V
    cases V with
    | lst hs ha => exact ⟨_, _, rfl, Evl.ex_l g hs, ha⟩
  | own ds' =>
    cases e
    obtain ⟨a, vs, rfl, h1, h2, h3, h4, h5⟩ := V
    exact ⟨_, _, rfl, Or.inl (Or.inl h1), h5⟩
  | _ => cases e
theorem hs_aug {i : Nat} {st : Stmt} {op : Int → Int → Int} (h : PS X st (tAug i (lf X.K f t) (ipI op))) : PS X st (lfS X.K f (hAug op i t)) := h.mono fun D σ H q => by
  obtain ⟨F, O, G, s, D', R, ⟨a, hi, ht⟩, k⟩ := q
  obtain ⟨v, hv, V⟩ := R.sl i _ hi
  cases vr_int (i := a) V
  refine ⟨_, hv, F, O, G, s, _, R, ht, fun p s1 G1 H1 y c1 e1 R1 V1 => ?_⟩
  obtain ⟨b, rfl, c2⟩ := c1
  cases vr_int V1.1
  exact ⟨a, b, rfl, rfl, k.nx _ _ _ _ e1 (R1.put (vrf_dat (.int _))) c2⟩
end
theorem hWhile_by {c : HT} {t : HS} {D : HD} {s : Sg} (J : Nat → Sg → Prop) (m : Nat) (h : J m s) (step : ∀ m s, J m s → c s fun b s1 => if b = true then t { D with nx := fun s' => ∃ m', m' < m ∧ J m' s', ct := fun s' => ∃ m', m' < m ∧ J m' s', bk := D.nx } s1 else D.nx s1) : hWhile c t D s := by
  classical
  have least : ∀ (n : Nat) (s : Sg), J n s → ∃ k, J k s ∧ ∀ j, J j s → k ≤ j := fun n => by
    induction n using Nat.strongRecOn with
    | ind n ih =>
      intro s hn
      by_cases q : ∃ j, j < n ∧ J j s
      · obtain ⟨j, hj, hJ⟩ := q
        exact ih j hj s hJ
      · refine ⟨n, hn, fun j hj => ?_⟩
        rcases Nat.lt_or_ge j n with z | z
        · exact absurd ⟨j, z, hj⟩ q
        · exact z
  let μ : Sg → Nat := fun s => if h : ∃ m, J m s then Classical.choose (least _ s h.choose_spec) else 0
  have hμ : ∀ s, (∃ m, J m s) → J (μ s) s ∧ ∀ j, J j s → μ s ≤ j := fun s hs => by
    have : μ s = Classical.choose (least _ s hs.choose_spec) := dif_pos hs
    rw [this]
    exact Classical.choose_spec (least _ s hs.choose_spec)
  refine ⟨fun s => ∃ m, J m s, μ, ⟨m, h⟩, fun s hs => ?_⟩
  obtain ⟨h1, h2⟩ := hμ s hs
  have := step (μ s) s h1
  have e : (fun s' => ∃ m', m' < μ s ∧ J m' s') = fun s' => (∃ m, J m s') ∧ μ s' < μ s := by
    funext s'
    apply propext
    constructor
    · rintro ⟨m', a, b⟩
      exact ⟨⟨m', b⟩, Nat.lt_of_le_of_lt ((hμ s' ⟨m', b⟩).2 m' b) a⟩
    · rintro ⟨a, b⟩
      exact ⟨μ s', b, (hμ s' a).1⟩
  rw [e] at this
  exact this
end Sk
set_option Elab.async false
set_option linter.all false
set_option maxRecDepth 100000
set_option maxHeartbeats 2000000
namespace Sk
open PySem PySem.Spec PyProof.Rows L2
open Evl (Ex)
def Fr.ups (F : Fr) (B : Hp) : Fr := ⟨F.on, F.m, F.l, F.c, fun a => (B a).or (F.F a), F.O, F.M, F.r, F.w, F.T, F.e⟩
structure RelB (K : PySem.W.Frag) (f F : Fr) (O : Addr → Prop) (B G : Hp) (s : Sg) (σ : L2.St) (H : Hp) : Prop where
  r : Rel K (fo f (F.ups B) fun a => O a ∨ B a ≠ none) G s σ H
  b : ∀ a, B a ≠ none → ¬ F.M a ∧ ¬ O a ∧ F.F a = none ∧ (F.on = true → a ≠ F.m ∧ a ≠ F.l ∧ a ≠ F.c)
  pk : ∀ en, f.e = some en → EntOk en (fo f F O) G
theorem EntOk.ups {f F : Fr} {O : Addr → Prop} {B G : Hp} {en : Ent} (h : EntOk en (fo f F O) G) (b : ∀ a, B a ≠ none → F.F a = none) : EntOk en (fo f (F.ups B) fun a => O a ∨ B a ≠ none) G := { h with
  F := fun a u e => by
    have e2 : F.F a = some u := h.F a u e
    have e3 : B a = none := by
      cases q : B a with
      | none => rfl
      | some w => rw [b a (by rw [q]; intro z; cases z)] at e2; cases e2
    show (B a).or (F.F a) = some u
    rw [e3, e2]; rfl
  O := fun a e => Or.inl (h.O a e) }
section
variable {K : PySem.W.Frag} {f F : Fr} {O : Addr → Prop} {B G G' H H' : Hp} {s : Sg} {σ : L2.St} {a p : Addr} {o o' : HO}
theorem RelB.start (R : Rel K (fo f F O) G s σ H) : RelB K f F O (fun _ => none) G s σ H := by
  refine ⟨?_, fun a h => absurd rfl h, R.pk⟩
  have e : (fo f (F.ups fun _ => none) fun a => O a ∨ (none : Option HO) ≠ none) = fo f F O := by
    have e1 : (fun a => O a ∨ (none : Option HO) ≠ none) = O := by
      funext a
      exact propext ⟨fun h => h.elim id fun z => absurd rfl z, Or.inl⟩
    rw [e1]; rfl
  rw [e]; exact R
theorem RelB.at (R : RelB K f F O B G s σ H) (h : B a = some o) : H a = some o := by
  have hb := R.b a (by rw [h]; intro z; cases z)
  exact R.r.fh a o hb.1 (show (B a).or (F.F a) = some o by rw [h]; rfl)
theorem RelB.gn (R : RelB K f F O B G s σ H) (h : B a = some o) : G a = none := R.r.go a (Or.inr (by rw [h]; intro z; cases z))
theorem VR.upB {f1 f2 : Fr} {q : PV} {v : V} (h : VR K f1 G H q v) (on : f2.on = f1.on) (hm : f2.m = f1.m) (hr : f2.r = f1.r) (hw : f2.w = f1.w) (e : ∀ b u, H b = some u → ¬ f1.O b → H' b = some u ∧ ¬ f2.O b ∧ ((f1.F b = none ∨ f1.M b) → (f2.F b = none ∨ f2.M b))) : VR K f2 G H' q v := by
  cases q with
  | dat d => exact h
  | drw => exact ⟨on ▸ h.1, by rw [hm]; exact h.2⟩
  | val _ => exact h
  | dgf _ => obtain ⟨p0, xs0, z1, z2, z3⟩ := h; exact ⟨p0, xs0, z1, by rw [hw]; exact z2, z3⟩
  | abs _ => exact h
  | own ds =>
    obtain ⟨b, vs, rfl, k1, k2, k3, k4, k5⟩ := h
    obtain ⟨z1, z2, z3⟩ := e b _ k1 k3
    exact ⟨b, vs, rfl, z1, k2, z2, z3 k4, k5⟩
  | byr ds =>
    obtain ⟨b, vs, rfl, k1, k2, k3, k4, k5, k6⟩ := h
    obtain ⟨z1, z2, z3⟩ := e b _ k1 k3
    exact ⟨b, vs, rfl, z1, k2, z2, z3 k4, k5, by rw [hr]; exact k6⟩
  | dct ds =>
    obtain ⟨b, vs, rfl, k1, k2, k3, k4, k5⟩ := h
    obtain ⟨z1, z2, z3⟩ := e b _ k1 k3
    exact ⟨b, vs, rfl, z1, k2, z2, z3 k4, k5⟩
  | dcg ds =>
    obtain ⟨b, vs, rfl, k1, k2, k3, k4, k5⟩ := h
    obtain ⟨z1, z2, z3⟩ := e b _ k1 k3
    exact ⟨b, vs, rfl, by rw [hw]; exact z1, k2, z2, z3 k4, k5⟩
theorem RelB.new (R : RelB K f F O B G s σ H) (h : H a = none) : RelB K f F O (upd B a o) G s σ (upd H a o) := by
  have ne : ∀ {b : Addr} {u : HO}, H b = some u → b ≠ a := fun h1 z => by rw [z, h] at h1; cases h1
  have no : ∀ {b : Addr}, H b ≠ none → b ≠ a := fun h1 z => h1 (by rw [z]; exact h)
  have hM : ¬ F.M a := fun z => R.r.mh a z h
  have hB : B a = none := by
    cases q : B a with
    | none => rfl
    | some u => have := R.at q; rw [h] at this; cases this
  have hO : ¬ O a := fun z => R.r.oh a (Or.inl z) h
  have hF : F.F a = none := by
    cases q : F.F a with
    | none => rfl
    | some u =>
      have := R.r.fh a u hM (show (B a).or (F.F a) = some u by rw [hB, q]; rfl)
      rw [h] at this; cases this
  refine ⟨?_, fun b hb => ?_, R.pk⟩
  · exact {
      gh := R.r.gh.trans (Evl.Ex.new h)
      fh := fun b u m hb => by
        have hb : ((upd B a o) b).or (F.F b) = some u := hb
        by_cases q : b = a
        · subst q; rw [upd_same] at hb ⊢; exact hb
        · rw [upd_ne q] at hb ⊢; exact R.r.fh b u m hb
      go := fun b hb => by
        by_cases q : b = a
        · subst q; exact R.r.gn h
        · refine R.r.go b (hb.imp id fun z => ?_)
          rw [upd_ne q] at z; exact z
      oh := fun b hb => by
        by_cases q : b = a
        · subst q; rw [upd_same]; intro z; cases z
        · rw [upd_ne q]
          refine R.r.oh b (hb.imp id fun z => ?_)
          rw [upd_ne q] at z; exact z
      mh := fun b hb => by rw [upd_ne (no (R.r.mh b hb))]; exact R.r.mh b hb
      mo := fun hb => by
        obtain ⟨x, y, z, d, e⟩ := R.r.mo hb
        have up : ∀ {b : Addr}, (O b ∨ B b ≠ none) → (O b ∨ upd B a o b ≠ none) := fun {b} w => w.imp id fun z => by
          by_cases q : b = a
          · subst q; rw [upd_same]; intro z; cases z
          · rw [upd_ne q]; exact z
        exact ⟨up x, up y, up z, d, e⟩
      tm := fun p hp => ⟨(R.r.tm p hp).1.imp id fun z => by
          by_cases q : p.1 = a
          · rw [q, upd_same]; intro z; cases z
          · rw [upd_ne q]; exact z, (R.r.tm p hp).2⟩
      tb := fun p hp => (R.r.tb p hp).keep (fun _ _ _ z => z) (upd_ne (no (R.r.oh _ (R.r.tm p hp).1)))
      pk := fun en he => (R.pk en he).ups fun b hb => by
        by_cases q : b = a
        · rw [q]; exact hF
        · rw [upd_ne q] at hb; exact (R.b b hb).2.2.1
      dr := fun hb => by
        obtain ⟨x, y, z, d, e⟩ := R.r.mo hb
        exact (R.r.dr hb).keep (upd_ne (no (R.r.oh _ x))) (upd_ne (no (R.r.oh _ y))) (upd_ne (no (R.r.oh _ z)))
      ln := R.r.ln
      sl := fun i q hq => by
        obtain ⟨v, h1, h2⟩ := R.r.sl i q hq
        refine ⟨v, h1, h2.upB rfl rfl rfl rfl fun b u hb hn => ?_⟩
        have z := ne hb
        refine ⟨by rw [upd_ne z]; exact hb, fun w => hn (w.imp id fun y => by rw [upd_ne z] at y; exact y), fun w => w.imp (fun y => ?_) id⟩
        show ((upd B a o) b).or (F.F b) = none
        rw [upd_ne z]; exact y
      ds := R.r.ds }
  · by_cases q : b = a
    · subst q
      refine ⟨hM, hO, hF, fun on => ?_⟩
      obtain ⟨x, y, z, _⟩ := R.r.mo on
      exact ⟨fun e => R.r.oh _ x (e ▸ h), fun e => R.r.oh _ y (e ▸ h), fun e => R.r.oh _ z (e ▸ h)⟩
    · rw [upd_ne q] at hb; exact R.b b hb
theorem RelB.set (R : RelB K f F O B G s σ H) (h : B a = some o) : RelB K f F O (upd B a o') G s σ (upd H a o') := by
  have hb0 : B a ≠ none := by rw [h]; intro z; cases z
  have gD := R.gn h
  have up : ∀ {b : Addr}, (O b ∨ upd B a o' b ≠ none) → (O b ∨ B b ≠ none) := fun {b} w => w.imp id fun z => by
    by_cases q : b = a
    · subst q; exact hb0
    · rw [upd_ne q] at z; exact z
  have dn : ∀ {b : Addr}, (O b ∨ B b ≠ none) → (O b ∨ upd B a o' b ≠ none) := fun {b} w => w.imp id fun z => by
    by_cases q : b = a
    · subst q; rw [upd_same]; intro z; cases z
    · rw [upd_ne q]; exact z
  refine ⟨?_, fun b hb => ?_, R.pk⟩
  · exact {
      gh := fun b u hb => by rw [upd_ne (fun z => by rw [z, gD] at hb; cases hb)]; exact R.r.gh b u hb
      fh := fun b u m hb => by
        have hb : ((upd B a o') b).or (F.F b) = some u := hb
        by_cases q : b = a
        · subst q; rw [upd_same] at hb ⊢; exact hb
        · rw [upd_ne q] at hb ⊢; exact R.r.fh b u m hb
      go := fun b hb => R.r.go b (up hb)
      oh := fun b hb => by
        by_cases q : b = a
        · subst q; rw [upd_same]; intro z; cases z
        · rw [upd_ne q]; exact R.r.oh b (up hb)
      mh := fun b hb => by
        by_cases q : b = a
        · subst q; rw [upd_same]; intro z; cases z
        · rw [upd_ne q]; exact R.r.mh b hb
      mo := fun hb => by
        obtain ⟨x, y, z, d, e⟩ := R.r.mo hb
        exact ⟨dn x, dn y, dn z, d, e⟩
      tm := fun p hp => ⟨dn (R.r.tm p hp).1, (R.r.tm p hp).2⟩
      tb := fun p hp => (R.r.tb p hp).keep (fun _ _ _ z => z) (upd_ne fun e => (R.b a hb0).1 (e ▸ (R.r.tm p hp).2))
      pk := fun en he => (R.pk en he).ups fun b hb => by
        by_cases q : b = a
        · rw [q]; exact (R.b a hb0).2.2.1
        · rw [upd_ne q] at hb; exact (R.b b hb).2.2.1
      dr := fun hb => by
        obtain ⟨x, y, z⟩ := (R.b a hb0).2.2.2 hb
        exact (R.r.dr hb).keep (upd_ne x.symm) (upd_ne y.symm) (upd_ne z.symm)
      ln := R.r.ln
      sl := fun i q hq => by
        obtain ⟨v, h1, h2⟩ := R.r.sl i q hq
        refine ⟨v, h1, h2.upB rfl rfl rfl rfl fun b u hb hn => ?_⟩
        have z : b ≠ a := fun e => hn (Or.inr (e ▸ hb0))
        refine ⟨by rw [upd_ne z]; exact hb, fun w => hn (up w), fun w => w.imp (fun y => ?_) id⟩
        show ((upd B a o') b).or (F.F b) = none
        rw [upd_ne z]; exact y
      ds := R.r.ds }
  · by_cases q : b = a
    · subst q; exact R.b b hb0
    · rw [upd_ne q] at hb; exact R.b b hb
theorem RelB.done {vs : List V} {ds : List PyData} (R : RelB K f F O B G s σ H) (hp : B p = some (.lst vs)) (hds : ∀ G', Ex G G' → (∀ a o, a ≠ p → B a = some o → G' a = some o) → DpAll K G' vs ds) : ∃ G', Ex G G' ∧ Rel K (fo f F O) G' s σ H ∧ VRf K (fo f F O) G' H s σ (.own ds) (.ref p) := by
  have hpn : B p ≠ none := by rw [hp]; intro z; cases z
  let G1 : Hp := fun a => if a = p then G a else (B a).or (G a)
  have e1 : Ex G G1 := fun a o h => by
    show (if a = p then G a else (B a).or (G a)) = some o
    by_cases q : a = p
    · rw [if_pos q]; exact h
    · rw [if_neg q]
      cases w : B a with
      | none => exact h
      | some u => rw [R.gn w] at h; cases h
  have g1 : ∀ a o, a ≠ p → B a = some o → G1 a = some o := fun a o ne h => by
    show (if a = p then G a else (B a).or (G a)) = some o
    rw [if_neg ne, h]; rfl
  have nB : ∀ {a : Addr}, B a = none → G1 a = G a := fun {a} h => by
    show (if a = p then G a else (B a).or (G a)) = G a
    rw [h]; split <;> rfl
  have gp : G1 p = none := by
    show (if p = p then G p else (B p).or (G p)) = none
    rw [if_pos rfl]; exact R.gn hp
  have bO : ∀ {a : Addr}, ¬ (O a ∨ B a ≠ none) → B a = none := fun {a} h => by
    cases q : B a with
    | none => rfl
    | some u => exact absurd (Or.inr (by rw [q]; intro z; cases z)) h
  have R1 : Rel K (fo f F O) G1 s σ H := {
    gh := fun a o h => by
      have h : (if a = p then G a else (B a).or (G a)) = some o := h
      by_cases q : a = p
      · rw [if_pos q] at h; exact R.r.gh a o h
      · rw [if_neg q] at h
        cases w : B a with
        | none => rw [w] at h; exact R.r.gh a o h
        | some u => rw [w] at h; cases h; exact R.at w
    fh := fun a o m h => R.r.fh a o m (by
      show (B a).or (F.F a) = some o
      cases w : B a with
      | none => exact h
      | some u => have := (R.b a (by rw [w]; intro z; cases z)).2.2.1; rw [show F.F a = some o from h] at this; cases this)
    go := fun a h => by
      have : B a = none := by
        cases w : B a with
        | none => rfl
        | some u => exact absurd h (R.b a (by rw [w]; intro z; cases z)).2.1
      rw [nB this]; exact R.r.go a (Or.inl h)
    oh := fun a h => R.r.oh a (Or.inl h)
    mh := R.r.mh
    mo := fun h => by
      obtain ⟨x, y, z, d, e⟩ := R.r.mo h
      have c : ∀ {a : Addr}, (a = F.m ∨ a = F.l ∨ a = F.c) → (O a ∨ B a ≠ none) → O a := fun {a} w h2 => h2.elim id fun n => by
        obtain ⟨n1, n2, n3⟩ := (R.b a n).2.2.2 h
        rcases w with w | w | w
        · exact absurd w n1
        · exact absurd w n2
        · exact absurd w n3
      exact ⟨c (Or.inl rfl) x, c (Or.inr (Or.inl rfl)) y, c (Or.inr (Or.inr rfl)) z, d, e⟩
    tm := fun p hp => ⟨(R.r.tm p hp).1.elim id fun z => absurd (R.r.tm p hp).2 (R.b _ z).1, (R.r.tm p hp).2⟩
    tb := fun p hp => (R.r.tb p hp).keep (fun _ _ _ z => e1 _ _ z) rfl
    pk := fun en he => (R.pk en he).ex e1
    dr := R.r.dr
    ln := R.r.ln
    sl := fun i q hq => by
      obtain ⟨v, h1, h2⟩ := R.r.sl i q hq
      refine ⟨v, h1, ?_⟩
      have h3 : VR K (fo f (F.ups B) fun a => O a ∨ B a ≠ none) G1 H q v := by
        cases q with
        | dat d => exact Dp.ex e1 _ h2
        | drw => exact h2
        | val _ => exact h2
        | dgf _ => obtain ⟨p0, xs0, z1, z2, z3⟩ := h2; exact ⟨p0, xs0, z1, e1 _ _ z2, z3.ex e1⟩
        | abs _ => exact fun G9 e9 => h2 G9 (e1.trans e9)
        | own ds =>
          obtain ⟨b, vs, rfl, k1, k2, k3, k4, k5⟩ := h2
          exact ⟨b, vs, rfl, k1, by rw [nB (bO k3)]; exact k2, k3, k4, Dp.exAll e1 _ k5⟩
        | byr ds =>
          obtain ⟨b, vs, rfl, k1, k2, k3, k4, k5, k6⟩ := h2
          exact ⟨b, vs, rfl, k1, by rw [nB (bO k3)]; exact k2, k3, k4, Dp.exAll e1 _ k5, k6⟩
        | dct ds =>
          obtain ⟨b, vs, rfl, k1, k2, k3, k4, k5, k6⟩ := h2
          exact ⟨b, vs, rfl, k1, by rw [nB (bO k3)]; exact k2, k3, k4, k5, Dp.exAll e1 _ k6⟩
        | dcg ds =>
          obtain ⟨b, vs, rfl, k1, k2, k3, k4, k5⟩ := h2
          exact ⟨b, vs, rfl, k1, by rw [nB (bO k3)]; exact k2, k3, k4, k5.ex e1⟩
      refine h3.upB rfl rfl rfl rfl fun b u hb hn => ⟨hb, fun z => hn (Or.inl z), fun w => w.imp (fun y => ?_) id⟩
      have y : (B b).or (F.F b) = none := y
      rw [bO hn] at y; exact y
    ds := R.r.ds }
  obtain ⟨n1, n2, n3, n4⟩ := R.b p hpn
  refine ⟨G1, e1, R1, ⟨p, vs, rfl, R.at hp, gp, n2, Or.inl n3, hds G1 e1 g1⟩, fun _ i q h1 h2 h3 => ?_⟩
  obtain ⟨v, h4, h5⟩ := R.r.sl i q h1
  rw [h3] at h4
  cases h4
  cases q with
  | dat d => cases h2
  | drw => cases h2
  | val _ => cases h2
  | dgf _ => cases h2
  | abs _ => cases h2
  | own ds => obtain ⟨p, _, e, _, _, h6, _⟩ := h5; cases e; exact h6 (Or.inr hpn)
  | byr ds => obtain ⟨p, _, e, _, _, h6, _⟩ := h5; cases e; exact h6 (Or.inr hpn)
  | dct ds => obtain ⟨p, _, e, _, _, h6, _⟩ := h5; cases e; exact h6 (Or.inr hpn)
  | dcg ds => obtain ⟨p, _, e, _, _, h6, _⟩ := h5; cases e; exact h6 (Or.inr hpn)
end
end Sk
set_option Elab.async false
set_option linter.all false
set_option maxRecDepth 100000
set_option maxHeartbeats 2000000
namespace Sk
open PySem PySem.Spec PyProof.Rows L2
open Evl (Ex)
abbrev HN := (Sg → List (List PyData) → Prop) → Sg → List (List PyData) → Prop
def NstOk (K : PySem.W.Frag) (G B : Hp) (p : Addr) (L : List (List PyData)) : Prop := ∃ ps : List Addr, B p = some (.lst (ps.map V.ref)) ∧ (p :: ps).Nodup ∧ Paired (fun a ds => ∃ vs, B a = some (.lst vs) ∧ DpAll K G vs ds) ps L
theorem paired_mono {α β : Type} {R R' : α → β → Prop} {xs : List α} {ys : List β} (h : Paired R xs ys) (m : ∀ a b, R a b → R' a b) : Paired R' xs ys := by
  induction h with
  | nil => exact .nil
  | cons r _ ih => exact .cons (m _ _ r) ih
section
variable {K : PySem.W.Frag} {f F : Fr} {O : Addr → Prop} {B G G' H H' : Hp} {s : Sg} {σ : L2.St} {a p : Addr} {o o' : HO} {L : List (List PyData)}
theorem NstOk.ex (h : NstOk K G B p L) (e : Ex G G') : NstOk K G' B p L := by
  obtain ⟨ps, h1, h2, h3⟩ := h
  exact ⟨ps, h1, h2, paired_mono h3 fun a ds ⟨vs, b1, b2⟩ => ⟨vs, b1, Dp.exAll e _ b2⟩⟩
theorem NstOk.done (R : RelB K f F O B G s σ H) (h : NstOk K G B p L) : ∃ G', Ex G G' ∧ Rel K (fo f F O) G' s σ H ∧ VRf K (fo f F O) G' H s σ (.own (L.map PyData.list)) (.ref p) := by
  obtain ⟨ps, h1, h2, h3⟩ := h
  obtain ⟨n1, n2⟩ := List.nodup_cons.mp h2
  refine R.done h1 fun G' e g => ?_
  have go : ∀ {us : List Addr} {ws : List (List PyData)}, (∀ u ∈ us, u ≠ p) → Paired (fun a ds => ∃ vs, B a = some (.lst vs) ∧ DpAll K G vs ds) us ws → DpAll K G' (us.map V.ref) (ws.map PyData.list) := fun {us ws} n t => by
    induction t with
    | nil => exact .nil
    | cons r _ ih =>
      obtain ⟨vs, b1, b2⟩ := r
      exact .cons (.lst (Or.inl (Or.inl (g _ _ (n _ List.mem_cons_self) b1))) (Dp.exAll e _ b2)) (ih fun u hu => n u (List.mem_cons_of_mem _ hu))
  exact go (fun u hu e => n1 (e ▸ hu)) h3
end
@[simp] def neach (g : HG) (t : HN) (Q : Sg → List (List PyData) → Prop) : List PyData → Sg → List (List PyData) → Prop
  | [], s, L => Q s L
  | d :: ds, s, L => g d s fun s1 => t (neach g t Q ds) s1 L
@[simp] def nFor (it : HI) (g : HG) (t : HN) : HN := fun Q s L => it s fun ds s1 => neach g t Q ds s1 L
@[simp] def nIf (c : HT) (t : HN) : HN := fun Q s L => c s fun b s1 => if b = true then t Q s1 L else Q s1 L
@[simp] def nApp (tk tv : HE) : HN := fun Q s L => tk s fun q s1 => ∃ k n l, q = .dat (.int k) ∧ ixN L.length k = some n ∧ L[n]? = some l ∧ l.length < 100000 ∧ tv s1 fun p s2 => ∃ x, p.frz = some x ∧ Q s2 (L.set n (l ++ [x]))
section
variable {X : Cx} {f : Fr} {e a b c : Expr} {es : List Expr} {st : Stmt} {sts rest : List Stmt} {tk tv : HE} {tt : HT} {tn : HN} {g : HG} {ws : List Nat} {it : HI} {j : Nat} {pos : Pos}
end
end Sk
set_option Elab.async false
set_option linter.all false
set_option maxRecDepth 100000
set_option maxHeartbeats 2000000
namespace Sk
open PySem PySem.Spec PyProof.Rows L2
open Evl (Ex)
theorem Rel.free {K : PySem.W.Frag} {f : Fr} {G H : Hp} {s : Sg} {σ : L2.St} {j : Nat} {x : Option V} (R : Rel K f G s σ H) : Rel K f G (s.off j) (σ.set j x) H where
  gh := R.gh
  fh := R.fh
  go := R.go
  oh := R.oh
  mh := R.mh
  mo := R.mo
  tm := R.tm
  tb := R.tb
  pk := R.pk
  dr := R.dr
  ln := by simp only [Sg.off, List.length_set]; exact R.ln
  sl := fun i q hq => by
    rcases set_get hq with ⟨_, e2, _⟩ | ⟨e, h2⟩
    · cases e2
    · obtain ⟨v, h3, h4⟩ := R.sl i q h2
      exact ⟨v, by rw [List.getElem?_set_ne e]; exact h3, h4⟩
  ds := fun a b pa pb w ne ha hb ma mb wa wb => by
    rcases set_get ha with ⟨_, e2, _⟩ | ⟨e, h2⟩
    · cases e2
    rcases set_get hb with ⟨_, e2', _⟩ | ⟨e', h2'⟩
    · cases e2'
    rw [List.getElem?_set_ne e] at wa
    rw [List.getElem?_set_ne e'] at wb
    exact R.ds a b pa pb w ne h2 h2' ma mb wa wb
section
variable {X : Cx} {f : Fr} {st1 st2 : Stmt} {rest : List Stmt} {tn : HN} {tu : HS} {it : HI} {vs : List Nat} {i j : Nat}
end
end Sk
set_option Elab.async false
set_option linter.all false
set_option maxRecDepth 100000
set_option maxHeartbeats 2000000
namespace Sk
open PySem PySem.Spec PyProof.Rows L2
open PySem.W (Datum DatumOrd Tup T3 T4)
open Evl (Ex)
section
variable {K : PySem.W.Frag} {f F : Fr} {O : Addr → Prop} {B G G1 H H1 : Hp} {s s1 : Sg} {σ σ1 : L2.St} {cs : List Addr}
end
@[simp] def npick (jk : Nat) (tt : HT) : List (List PyData) → Sg → (List Bool → Prop) → Prop
  | [], _, C => C []
  | l :: ls, s, C => tt (s.put jk (.dat (.list l))) fun b s1 => s1 = s.put jk (.dat (.list l)) ∧ npick jk tt ls s fun bs => C (b :: bs)
section
variable {X : Cx} {f : Fr} {st1 st2 : Stmt} {jk ji jv j : Nat} {vs : List Nat} {tt : HT}
end
end Sk
set_option Elab.async false
set_option linter.all false
set_option maxRecDepth 100000
set_option maxHeartbeats 2000000
namespace Sk
open PySem
abbrev RE := NestedKey × Value × Value
def reE (w : World) (x : RE) : DictEntry := ⟨x.1.hash w, x.2.1, x.2.2⟩
def hitAt (xs : List RE) (k : NestedKey) (i : Nat) : Bool := match xs[i]? with
  | some x => decide (x.1 = k)
  | none => false
theorem hitAt_some {xs : List RE} {k : NestedKey} {i : Nat} (h : hitAt xs k i = true) : ∃ x, xs[i]? = some x ∧ x.1 = k := by
  unfold hitAt at h
  split at h
  · rename_i x e
    exact ⟨x, e, of_decide_eq_true h⟩
  · cases h
theorem hitAt_of {xs : List RE} {k : NestedKey} {i : Nat} {x : RE} (h : xs[i]? = some x) : hitAt xs k i = decide (x.1 = k) := by
  unfold hitAt
  rw [h]
theorem hitAt_one {xs : List RE} {k : NestedKey} (nd : (xs.map (·.1)).Nodup) {i j : Nat} (hi : hitAt xs k i = true) (hj : hitAt xs k j = true) : i = j := by
  obtain ⟨x, a, a'⟩ := hitAt_some hi
  obtain ⟨y, b, b'⟩ := hitAt_some hj
  have e1 : (xs.map (·.1))[i]? = some k := by rw [List.getElem?_map, a, Option.map_some, a']
  have e2 : (xs.map (·.1))[j]? = some k := by rw [List.getElem?_map, b, Option.map_some, b']
  exact (List.getElem?_inj (List.getElem?_eq_some_iff.mp e1).1 nd).mp (e1.trans e2.symm)
section
variable {prog : Program} {w : World} {A : Around} {E : Value → Shared → Prop} {s : Shared} {d : Addr} {o : Obj} {es : Array DictEntry} {ep : Nat} {xs : List RE} {k : NestedKey} {key v : Value}
theorem re_at (he : es.toList = xs.map (reE w)) (i : Nat) : es[i]? = (xs[i]?).map (reE w) := by
  have e : es[i]? = es.toList[i]? := by simp
  rw [e, he, List.getElem?_map]
theorem re_size (he : es.toList = xs.map (reE w)) : es.size = xs.length := by
  have e : es.size = es.toList.length := by simp
  rw [e, he, List.length_map]
theorem re_mem (he : es.toList = xs.map (reE w)) {e : DictEntry} (h : e ∈ es) : ∃ x ∈ xs, e = reE w x := by
  have z : e ∈ xs.map (reE w) := by rw [← he]; simpa using h
  obtain ⟨x, hx, q⟩ := List.mem_map.mp z
  exact ⟨x, hx, q.symm⟩
theorem pl_iff (he : es.toList = xs.map (reE w)) (i : Nat) : i ∈ placesWithHash es.size (fun i => es[i]?.map (·.hash)) (k.hash w) ↔ ∃ x, xs[i]? = some x ∧ x.1.hash w = k.hash w := by
  unfold placesWithHash
  rw [List.mem_filter, List.mem_range, re_size he]
  constructor
  · rintro ⟨h1, h2⟩
    refine ⟨xs[i], List.getElem?_eq_getElem h1, ?_⟩
    have e := re_at he i
    rw [List.getElem?_eq_getElem h1] at e
    simpa [e, reE] using h2
  · rintro ⟨x, h1, h2⟩
    refine ⟨(List.getElem?_eq_some_iff.mp h1).1, ?_⟩
    have e := re_at he i
    rw [h1] at e
    simp [e, reE, h2]
theorem quiet_any {Q : Bool → Shared → Prop} (hk : NestedIs s.heap k key) (hd : k.depth ≤ 8) (h : Q true s) : wpAny (model prog w) A (eqIsQuiet 8 key) Q E s := quiet_key k key 8 s hk hd A E Q h
theorem tells_quiet {stored : List Value} {Q : Bool → Shared → Prop} (hk : NestedIs s.heap k key) (hd : k.depth ≤ 8) (hs : ∀ u ∈ stored, ∃ k' : NestedKey, NestedIs s.heap k' u ∧ k'.depth ≤ 8) (h : Q false s) : wpAny (model prog w) A (tableMayTell key stored) Q E s := by
  unfold tableMayTell
  by_cases hn : stored.isEmpty = true
  · rw [if_pos hn]
    exact wpAny_pure h
  rw [if_neg hn]
  refine wpAny_bind (quiet_any hk hd ?_)
  simp only [Bool.not_true, Bool.false_eq_true, if_false]
  refine wpAny_bind (wpAny_forIn_list _ (fun l b t => (∀ u ∈ l, u ∈ stored) ∧ t = s ∧ b = (none, ())) _ ?_ ?_ _ _ ⟨fun _ hu => hu, rfl, rfl⟩)
  · intro u l b t ⟨h1, h2, h3⟩
    subst h2 h3
    obtain ⟨k', q1, q2⟩ := hs u (h1 u List.mem_cons_self)
    refine wpAny_bind (quiet_any q1 q2 ?_)
    simp only [Bool.not_true, Bool.false_eq_true, if_false]
    exact wpAny_pure ⟨fun z hz => h1 z (List.mem_cons_of_mem _ hz), rfl, rfl⟩
  · intro b t ⟨_, h2, h3⟩
    subst h2 h3
    exact wpAny_pure h
theorem eqb {x : RE} {Q : Bool → Shared → Prop} (hu : A.units + 8 < cLine) (hx : NestedIs s.heap x.1 x.2.1 ∧ x.1.depth ≤ 8) (hk : NestedIs s.heap k key) (h : Q (decide (x.1 = k)) s) : wpAny (model prog w) A (eqBool x.2.1 key) Q E s :=
  eqAt_key x.1 k A s _ _ hx.1 hk (by have := hx.2; omega) _ _ _ _ (by rw [← NestedKey.decide_eq]; exact h)
theorem gfind {Q : Option Nat → Shared → Prop} (hu : A.units + 8 < cLine) (hk : NestedIs s.heap k key) (hd8 : k.depth ≤ 8) (ho : s.heap.get? d = some o) (hdat : o.data = .dict es ep) (he : es.toList = xs.map (reE w))
    (his : ∀ x ∈ xs, NestedIs s.heap x.1 x.2.1 ∧ x.1.depth ≤ 8) (nd : (xs.map (·.1)).Nodup) (hno : (∀ i, hitAt xs k i = false) → Q none s) (hso : ∀ i, hitAt xs k i = true → Q (some i) s) : wpAny (model prog w) A (dictFind d key (k.hash w)) Q E s := by
  have at_ : ∀ {i : Nat} {x : RE}, xs[i]? = some x → NestedIs s.heap x.1 x.2.1 ∧ x.1.depth ≤ 8 := fun h => his _ (List.mem_of_getElem? h)
  unfold dictFind
  try with_reducible refine wpAny_holding ?_
  refine wpAny_bind (wpAny_dictEntries ho hdat ?_)
  dsimp only
  generalize hpl : placesWithHash es.size (fun i => es[i]?.map (·.hash)) (k.hash w) = pl
  have pl1 : ∀ i ∈ pl, ∃ x, xs[i]? = some x ∧ x.1.hash w = k.hash w := fun i hi => (pl_iff he i).mp (by rw [hpl]; exact hi)
  have pl2 : ∀ i, hitAt xs k i = true → i ∈ pl := fun i hi => by
    obtain ⟨x, h1, h2⟩ := hitAt_some hi
    rw [← hpl]
    exact (pl_iff he i).mpr ⟨x, h1, by rw [h2]⟩
  have pln : pl.Nodup := by
    rw [← hpl]
    unfold placesWithHash
    exact List.nodup_range.sublist List.filter_sublist
  have none_of : (∀ i ∈ pl, hitAt xs k i = true → False) → Q none s := fun h => hno fun i => by
    cases q : hitAt xs k i with
    | false => rfl
    | true => exact (h i (pl2 i q) q).elim
  have walk : wpAny (model prog w) A (dictWalkPlain d key (k.hash w) es pl) Q E s := by
    unfold dictWalkPlain
    refine wpAny_bind (wpAny_forIn_list _ (fun l b t => t = s ∧ b = (none, ()) ∧ (∀ i ∈ l, i ∈ pl) ∧ ∀ i ∈ pl, hitAt xs k i = true → i ∈ l) _ ?_ ?_ _ _ ⟨rfl, rfl, fun _ h => h, fun _ h _ => h⟩)
    · intro i l b t ⟨h1, h2, h3, h4⟩
      subst h1 h2
      obtain ⟨x, e1, e2⟩ := pl1 i (h3 i List.mem_cons_self)
      have e3 : es[i]? = some (reE w x) := by rw [re_at he i, e1]; rfl
      simp only [e3]
      rw [if_pos (by simp [reE, e2])]
      refine wpAny_bind (wpAny_dictEpoch ho hdat (wpAny_bind (eqb hu (at_ e1) hk (wpAny_bind (wpAny_dictEpoch ho hdat ?_)))))
      show wpAny _ _ (if (ep != ep) = true then _ else _) _ _ _
      rw [if_neg (by simp)]
      cases q : decide (x.1 = k) with
      | true => exact wpAny_bind (wpAny_rule (wpAny_pure (wpAny_pure (hso i (by rw [hitAt_of e1]; exact q)))))
      | false =>
        refine wpAny_bind (wpAny_rule (wpAny_pure ⟨rfl, rfl, fun j hj => h3 j (List.mem_cons_of_mem _ hj), fun j hj z => ?_⟩))
        rcases List.mem_cons.mp (h4 j hj z) with e | e
        · rw [e, hitAt_of e1, q] at z
          cases z
        · exact e
    · intro b t ⟨h1, h2, h3, h4⟩
      subst h1 h2
      exact wpAny_pure (none_of fun i hi z => by cases h4 i hi z)
  have hany : ¬ (es.any fun e => e.key == key && e.hash != k.hash w) = true := by
    intro z
    obtain ⟨i, hi, z⟩ := Array.any_eq_true.mp z
    obtain ⟨x, hx, e⟩ := re_mem he (Array.getElem_mem hi)
    rw [e] at z
    simp only [reE, Bool.and_eq_true, beq_iff_eq, bne_iff_ne, ne_eq] at z
    obtain ⟨z1, z2⟩ := z
    have q := (his x hx).1
    rw [z1] at q
    exact z2 (by rw [NestedIs.inj _ _ _ q hk])
  have hst : ∀ u ∈ pl.filterMap fun i => es[i]?.map (·.key), ∃ k' : NestedKey, NestedIs s.heap k' u ∧ k'.depth ≤ 8 := fun u hu => by
    obtain ⟨i, hi, e⟩ := List.mem_filterMap.mp hu
    obtain ⟨x, e1, e2⟩ := pl1 i hi
    rw [re_at he i, e1] at e
    cases e
    exact ⟨x.1, at_ e1⟩
  generalize hsd : (pl.filterMap fun i => es[i]?.map (·.key)) = sd
  rw [hsd] at hst
  have byText : ∀ (x : Str) (t : Tok), key = .str x t → (es.all fun e => isExactStrKey e.key) = true → wpAny (model prog w) A (foundByValue d key es x) Q E s := by
    intro x t ek hall
    subst ek
    cases hk
    have same : ∀ (i : Nat) (y : RE), xs[i]? = some y → y.2.1.isStr x = decide (y.1 = .text x) := fun i y hy => by
      have hin : reE w y ∈ es := by
        have z : reE w y ∈ es.toList := by rw [he]; exact List.mem_map.mpr ⟨y, List.mem_of_getElem? hy, rfl⟩
        simpa using z
      have q : isExactStrKey y.2.1 = true := by
        have z := Array.all_eq_true.mp hall
        obtain ⟨j, hj, e⟩ := Array.mem_iff_getElem.mp hin
        have z := z j hj
        rw [e] at z
        exact z
      have r := (at_ hy).1
      obtain ⟨y1, y2, y3⟩ := y
      cases y2 with
      | str u tt =>
        cases r
        show decide (u = x) = decide (NestedKey.text u = NestedKey.text x)
        exact decide_eq_decide.mpr ⟨fun z => by rw [z], fun z => by cases z; rfl⟩
      | _ => cases q
    unfold foundByValue
    cases hf : es.findIdx? (fun e => e.key.isStr x) with
    | none =>
      refine wpAny_pure (hno fun i => ?_)
      cases q : hitAt xs (.text x) i with
      | false => rfl
      | true =>
        obtain ⟨y, e1, e2⟩ := hitAt_some q
        have z := Array.findIdx?_eq_none_iff.mp hf (reE w y) (by
          have z : reE w y ∈ es.toList := by rw [he]; exact List.mem_map.mpr ⟨y, List.mem_of_getElem? e1, rfl⟩
          simpa using z)
        have z : y.2.1.isStr x = false := z
        rw [same i y e1, e2] at z
        simp at z
    | some i =>
      obtain ⟨hlt, hi, _⟩ := Array.findIdx?_eq_some_iff_getElem.mp hf
      have e0 : es[i]? = some es[i] := Array.getElem?_eq_getElem hlt
      have e1 := re_at he i
      rw [e0] at e1
      cases e2 : xs[i]? with
      | none => rw [e2] at e1; cases e1
      | some y =>
        rw [e2] at e1
        have e1 : es[i] = reE w y := Option.some.inj e1
        rw [e1] at e0 hi
        have hi : y.2.1.isStr x = true := hi
        rw [same i y e2] at hi
        simp only [e0]
        refine wpAny_bind (wpAny_dictEpoch ho hdat (wpAny_bind (eqb (x := y) hu (at_ e2) (.text x t) (wpAny_bind (wpAny_dictEpoch ho hdat ?_)))))
        show wpAny _ _ (if (ep != ep) = true then _ else _) _ _ _
        rw [if_neg (by simp), hi]
        exact wpAny_bind (wpAny_rule (wpAny_pure (hso i (by rw [hitAt_of e2]; exact hi))))
  have pick : (∀ (x : Str) (t : Tok), key ≠ .str x t) ∨ ∃ (x : Str) (t : Tok), key = .str x t := by
    cases key <;> first | exact .inr ⟨_, _, rfl⟩ | exact .inl fun _ _ z => by cases z
  cases key with
  | str x t =>
    dsimp only
    by_cases h1 : (es.all fun e => isExactStrKey e.key) = true
    · rw [if_pos h1]
      exact byText x t rfl h1
    rw [if_neg h1]
    by_cases h2 : ((Value.str x t :: sd).all carriedByValue) = true
    · rw [if_pos h2]
      exact walk
    rw [if_neg h2]
    by_cases h3 : (sd == [Value.str x t]) = true <;> (first | rw [if_pos h3] | rw [if_neg h3]) <;> (first | refine wpAny_bind (wpAny_pure ?_) | refine wpAny_bind (tells_quiet hk hd8 hst ?_)) <;> (
      rw [if_neg (by simp)]
      refine wpAny_bind (wpAny_forIn_list _ (fun l b t => t = s ∧ ∃ hit, b = (none, hit) ∧ (∀ i ∈ l, i ∈ pl) ∧ l.Nodup ∧ ((hit = none ∧ ∀ i ∈ pl, hitAt xs k i = true → i ∈ l) ∨ ∃ j, hit = some j ∧ hitAt xs k j = true ∧ ∀ i ∈ l, hitAt xs k i = false)) _ ?_ ?_ _ _ ⟨rfl, none, rfl, fun _ h => h, pln, .inl ⟨rfl, fun _ h _ => h⟩⟩)
      · intro i l b t ⟨h1, hit, h2, h4, h5, h6⟩
        subst h1 h2
        obtain ⟨x, e1, e2⟩ := pl1 i (h4 i List.mem_cons_self)
        have e3 : es[i]? = some (reE w x) := by rw [re_at he i, e1]; rfl
        simp only [e3]
        rw [if_pos (by simp [reE, e2])]
        refine wpAny_bind (wpAny_dictEpoch ho hdat (wpAny_bind (eqb hu (at_ e1) hk (wpAny_bind (wpAny_dictEpoch ho hdat ?_)))))
        show wpAny _ _ (if (ep != ep) = true then _ else _) _ _ _
        rw [if_neg (by simp)]
        obtain ⟨n1, n2⟩ := List.nodup_cons.mp h5
        cases q : decide (x.1 = k) with
        | true =>
          have hi : hitAt xs k i = true := by rw [hitAt_of e1]; exact q
          rcases h6 with ⟨rfl, h7⟩ | ⟨j, rfl, _, h7⟩
          · simp only [if_true, Option.isSome_none, Bool.false_eq_true, if_false]
            refine wpAny_bind (wpAny_rule ?_)
            split
            · exact wpAny_pure (wpAny_pure (hso i hi))
            · refine wpAny_pure ⟨rfl, some i, rfl, fun z hz => h4 z (List.mem_cons_of_mem _ hz), n2, .inr ⟨i, rfl, hi, fun z hz => ?_⟩⟩
              cases r : hitAt xs k z with
              | false => rfl
              | true => exact absurd (hitAt_one nd r hi ▸ hz) n1
          · have z := h7 i List.mem_cons_self
            rw [hi] at z
            cases z
        | false =>
          have hi : hitAt xs k i = false := by rw [hitAt_of e1]; exact q
          simp only [Bool.false_eq_true, if_false, Bool.false_and]
          refine wpAny_bind (wpAny_rule (wpAny_pure ⟨rfl, hit, rfl, fun z hz => h4 z (List.mem_cons_of_mem _ hz), n2, ?_⟩))
          rcases h6 with ⟨rfl, h7⟩ | ⟨j, rfl, h8, h7⟩
          · refine .inl ⟨rfl, fun z hz hq => ?_⟩
            rcases List.mem_cons.mp (h7 z hz hq) with e | e
            · rw [e, hi] at hq
              cases hq
            · exact e
          · exact .inr ⟨j, rfl, h8, fun z hz => h7 z (List.mem_cons_of_mem _ hz)⟩
      · intro b t ⟨h1, hit, h2, _, _, h6⟩
        subst h1 h2
        rcases h6 with ⟨rfl, h7⟩ | ⟨j, rfl, h8, _⟩
        · exact wpAny_pure (none_of fun i hi z => by cases h7 i hi z)
        · exact wpAny_pure (hso j h8))
  | ref a =>
    dsimp only
    by_cases h2 : ((Value.ref a :: sd).all carriedByValue) = true
    · rw [if_pos h2]
      exact walk
    rw [if_neg h2]
    rw [if_neg hany]
    by_cases h3 : (sd == [Value.ref a]) = true <;> (first | rw [if_pos h3] | rw [if_neg h3]) <;> (first | refine wpAny_bind (wpAny_pure ?_) | refine wpAny_bind (tells_quiet hk hd8 hst ?_)) <;> (
      rw [if_neg (by simp)]
      refine wpAny_bind (wpAny_forIn_list _ (fun l b t => t = s ∧ ∃ hit, b = (none, hit) ∧ (∀ i ∈ l, i ∈ pl) ∧ l.Nodup ∧ ((hit = none ∧ ∀ i ∈ pl, hitAt xs k i = true → i ∈ l) ∨ ∃ j, hit = some j ∧ hitAt xs k j = true ∧ ∀ i ∈ l, hitAt xs k i = false)) _ ?_ ?_ _ _ ⟨rfl, none, rfl, fun _ h => h, pln, .inl ⟨rfl, fun _ h _ => h⟩⟩)
      · intro i l b t ⟨h1, hit, h2, h4, h5, h6⟩
        subst h1 h2
        obtain ⟨x, e1, e2⟩ := pl1 i (h4 i List.mem_cons_self)
        have e3 : es[i]? = some (reE w x) := by rw [re_at he i, e1]; rfl
        simp only [e3]
        rw [if_pos (by simp [reE, e2])]
        refine wpAny_bind (wpAny_dictEpoch ho hdat (wpAny_bind (eqb hu (at_ e1) hk (wpAny_bind (wpAny_dictEpoch ho hdat ?_)))))
        show wpAny _ _ (if (ep != ep) = true then _ else _) _ _ _
        rw [if_neg (by simp)]
        obtain ⟨n1, n2⟩ := List.nodup_cons.mp h5
        cases q : decide (x.1 = k) with
        | true =>
          have hi : hitAt xs k i = true := by rw [hitAt_of e1]; exact q
          rcases h6 with ⟨rfl, h7⟩ | ⟨j, rfl, _, h7⟩
          · simp only [if_true, Option.isSome_none, Bool.false_eq_true, if_false]
            refine wpAny_bind (wpAny_rule ?_)
            split
            · exact wpAny_pure (wpAny_pure (hso i hi))
            · refine wpAny_pure ⟨rfl, some i, rfl, fun z hz => h4 z (List.mem_cons_of_mem _ hz), n2, .inr ⟨i, rfl, hi, fun z hz => ?_⟩⟩
              cases r : hitAt xs k z with
              | false => rfl
              | true => exact absurd (hitAt_one nd r hi ▸ hz) n1
          · have z := h7 i List.mem_cons_self
            rw [hi] at z
            cases z
        | false =>
          have hi : hitAt xs k i = false := by rw [hitAt_of e1]; exact q
          simp only [Bool.false_eq_true, if_false, Bool.false_and]
          refine wpAny_bind (wpAny_rule (wpAny_pure ⟨rfl, hit, rfl, fun z hz => h4 z (List.mem_cons_of_mem _ hz), n2, ?_⟩))
          rcases h6 with ⟨rfl, h7⟩ | ⟨j, rfl, h8, h7⟩
          · refine .inl ⟨rfl, fun z hz hq => ?_⟩
            rcases List.mem_cons.mp (h7 z hz hq) with e | e
            · rw [e, hi] at hq
              cases hq
            · exact e
          · exact .inr ⟨j, rfl, h8, fun z hz => h7 z (List.mem_cons_of_mem _ hz)⟩
      · intro b t ⟨h1, hit, h2, _, _, h6⟩
        subst h1 h2
        rcases h6 with ⟨rfl, h7⟩ | ⟨j, rfl, h8, _⟩
        · exact wpAny_pure (none_of fun i hi z => by cases h7 i hi z)
        · exact wpAny_pure (hso j h8))
  | int n t =>
    dsimp only
    by_cases h2 : ((Value.int n t :: sd).all carriedByValue) = true
    · rw [if_pos h2]
      exact walk
    rw [if_neg h2]
    by_cases h3 : (sd == [Value.int n t]) = true <;> (first | rw [if_pos h3] | rw [if_neg h3]) <;> (first | refine wpAny_bind (wpAny_pure ?_) | refine wpAny_bind (tells_quiet hk hd8 hst ?_)) <;> (
      rw [if_neg (by simp)]
      refine wpAny_bind (wpAny_forIn_list _ (fun l b t => t = s ∧ ∃ hit, b = (none, hit) ∧ (∀ i ∈ l, i ∈ pl) ∧ l.Nodup ∧ ((hit = none ∧ ∀ i ∈ pl, hitAt xs k i = true → i ∈ l) ∨ ∃ j, hit = some j ∧ hitAt xs k j = true ∧ ∀ i ∈ l, hitAt xs k i = false)) _ ?_ ?_ _ _ ⟨rfl, none, rfl, fun _ h => h, pln, .inl ⟨rfl, fun _ h _ => h⟩⟩)
      · intro i l b t ⟨h1, hit, h2, h4, h5, h6⟩
        subst h1 h2
        obtain ⟨x, e1, e2⟩ := pl1 i (h4 i List.mem_cons_self)
        have e3 : es[i]? = some (reE w x) := by rw [re_at he i, e1]; rfl
        simp only [e3]
        rw [if_pos (by simp [reE, e2])]
        refine wpAny_bind (wpAny_dictEpoch ho hdat (wpAny_bind (eqb hu (at_ e1) hk (wpAny_bind (wpAny_dictEpoch ho hdat ?_)))))
        show wpAny _ _ (if (ep != ep) = true then _ else _) _ _ _
        rw [if_neg (by simp)]
        obtain ⟨n1, n2⟩ := List.nodup_cons.mp h5
        cases q : decide (x.1 = k) with
        | true =>
          have hi : hitAt xs k i = true := by rw [hitAt_of e1]; exact q
          rcases h6 with ⟨rfl, h7⟩ | ⟨j, rfl, _, h7⟩
          · simp only [if_true, Option.isSome_none, Bool.false_eq_true, if_false]
            refine wpAny_bind (wpAny_rule ?_)
            split
            · exact wpAny_pure (wpAny_pure (hso i hi))
            · refine wpAny_pure ⟨rfl, some i, rfl, fun z hz => h4 z (List.mem_cons_of_mem _ hz), n2, .inr ⟨i, rfl, hi, fun z hz => ?_⟩⟩
              cases r : hitAt xs k z with
              | false => rfl
              | true => exact absurd (hitAt_one nd r hi ▸ hz) n1
          · have z := h7 i List.mem_cons_self
            rw [hi] at z
            cases z
        | false =>
          have hi : hitAt xs k i = false := by rw [hitAt_of e1]; exact q
          simp only [Bool.false_eq_true, if_false, Bool.false_and]
          refine wpAny_bind (wpAny_rule (wpAny_pure ⟨rfl, hit, rfl, fun z hz => h4 z (List.mem_cons_of_mem _ hz), n2, ?_⟩))
          rcases h6 with ⟨rfl, h7⟩ | ⟨j, rfl, h8, h7⟩
          · refine .inl ⟨rfl, fun z hz hq => ?_⟩
            rcases List.mem_cons.mp (h7 z hz hq) with e | e
            · rw [e, hi] at hq
              cases hq
            · exact e
          · exact .inr ⟨j, rfl, h8, fun z hz => h7 z (List.mem_cons_of_mem _ hz)⟩
      · intro b t ⟨h1, hit, h2, _, _, h6⟩
        subst h1 h2
        rcases h6 with ⟨rfl, h7⟩ | ⟨j, rfl, h8, _⟩
        · exact wpAny_pure (none_of fun i hi z => by cases h7 i hi z)
        · exact wpAny_pure (hso j h8))
  | bool n =>
    dsimp only
    by_cases h2 : ((Value.bool n :: sd).all carriedByValue) = true
    · rw [if_pos h2]
      exact walk
    rw [if_neg h2]
    by_cases h3 : (sd == [Value.bool n]) = true <;> (first | rw [if_pos h3] | rw [if_neg h3]) <;> (first | refine wpAny_bind (wpAny_pure ?_) | refine wpAny_bind (tells_quiet hk hd8 hst ?_)) <;> (
      rw [if_neg (by simp)]
      refine wpAny_bind (wpAny_forIn_list _ (fun l b t => t = s ∧ ∃ hit, b = (none, hit) ∧ (∀ i ∈ l, i ∈ pl) ∧ l.Nodup ∧ ((hit = none ∧ ∀ i ∈ pl, hitAt xs k i = true → i ∈ l) ∨ ∃ j, hit = some j ∧ hitAt xs k j = true ∧ ∀ i ∈ l, hitAt xs k i = false)) _ ?_ ?_ _ _ ⟨rfl, none, rfl, fun _ h => h, pln, .inl ⟨rfl, fun _ h _ => h⟩⟩)
      · intro i l b t ⟨h1, hit, h2, h4, h5, h6⟩
        subst h1 h2
        obtain ⟨x, e1, e2⟩ := pl1 i (h4 i List.mem_cons_self)
        have e3 : es[i]? = some (reE w x) := by rw [re_at he i, e1]; rfl
        simp only [e3]
        rw [if_pos (by simp [reE, e2])]
        refine wpAny_bind (wpAny_dictEpoch ho hdat (wpAny_bind (eqb hu (at_ e1) hk (wpAny_bind (wpAny_dictEpoch ho hdat ?_)))))
        show wpAny _ _ (if (ep != ep) = true then _ else _) _ _ _
        rw [if_neg (by simp)]
        obtain ⟨n1, n2⟩ := List.nodup_cons.mp h5
        cases q : decide (x.1 = k) with
        | true =>
          have hi : hitAt xs k i = true := by rw [hitAt_of e1]; exact q
          rcases h6 with ⟨rfl, h7⟩ | ⟨j, rfl, _, h7⟩
          · simp only [if_true, Option.isSome_none, Bool.false_eq_true, if_false]
            refine wpAny_bind (wpAny_rule ?_)
            split
            · exact wpAny_pure (wpAny_pure (hso i hi))
            · refine wpAny_pure ⟨rfl, some i, rfl, fun z hz => h4 z (List.mem_cons_of_mem _ hz), n2, .inr ⟨i, rfl, hi, fun z hz => ?_⟩⟩
              cases r : hitAt xs k z with
              | false => rfl
              | true => exact absurd (hitAt_one nd r hi ▸ hz) n1
          · have z := h7 i List.mem_cons_self
            rw [hi] at z
            cases z
        | false =>
          have hi : hitAt xs k i = false := by rw [hitAt_of e1]; exact q
          simp only [Bool.false_eq_true, if_false, Bool.false_and]
          refine wpAny_bind (wpAny_rule (wpAny_pure ⟨rfl, hit, rfl, fun z hz => h4 z (List.mem_cons_of_mem _ hz), n2, ?_⟩))
          rcases h6 with ⟨rfl, h7⟩ | ⟨j, rfl, h8, h7⟩
          · refine .inl ⟨rfl, fun z hz hq => ?_⟩
            rcases List.mem_cons.mp (h7 z hz hq) with e | e
            · rw [e, hi] at hq
              cases hq
            · exact e
          · exact .inr ⟨j, rfl, h8, fun z hz => h7 z (List.mem_cons_of_mem _ hz)⟩
      · intro b t ⟨h1, hit, h2, _, _, h6⟩
        subst h1 h2
        rcases h6 with ⟨rfl, h7⟩ | ⟨j, rfl, h8, _⟩
        · exact wpAny_pure (none_of fun i hi z => by cases h7 i hi z)
        · exact wpAny_pure (hso j h8))
  | none =>
    dsimp only
    by_cases h2 : ((Value.none :: sd).all carriedByValue) = true
    · rw [if_pos h2]
      exact walk
    rw [if_neg h2]
    by_cases h3 : (sd == [Value.none]) = true <;> (first | rw [if_pos h3] | rw [if_neg h3]) <;> (first | refine wpAny_bind (wpAny_pure ?_) | refine wpAny_bind (tells_quiet hk hd8 hst ?_)) <;> (
      rw [if_neg (by simp)]
      refine wpAny_bind (wpAny_forIn_list _ (fun l b t => t = s ∧ ∃ hit, b = (none, hit) ∧ (∀ i ∈ l, i ∈ pl) ∧ l.Nodup ∧ ((hit = none ∧ ∀ i ∈ pl, hitAt xs k i = true → i ∈ l) ∨ ∃ j, hit = some j ∧ hitAt xs k j = true ∧ ∀ i ∈ l, hitAt xs k i = false)) _ ?_ ?_ _ _ ⟨rfl, none, rfl, fun _ h => h, pln, .inl ⟨rfl, fun _ h _ => h⟩⟩)
      · intro i l b t ⟨h1, hit, h2, h4, h5, h6⟩
        subst h1 h2
        obtain ⟨x, e1, e2⟩ := pl1 i (h4 i List.mem_cons_self)
        have e3 : es[i]? = some (reE w x) := by rw [re_at he i, e1]; rfl
        simp only [e3]
        rw [if_pos (by simp [reE, e2])]
        refine wpAny_bind (wpAny_dictEpoch ho hdat (wpAny_bind (eqb hu (at_ e1) hk (wpAny_bind (wpAny_dictEpoch ho hdat ?_)))))
        show wpAny _ _ (if (ep != ep) = true then _ else _) _ _ _
        rw [if_neg (by simp)]
        obtain ⟨n1, n2⟩ := List.nodup_cons.mp h5
        cases q : decide (x.1 = k) with
        | true =>
          have hi : hitAt xs k i = true := by rw [hitAt_of e1]; exact q
          rcases h6 with ⟨rfl, h7⟩ | ⟨j, rfl, _, h7⟩
          · simp only [if_true, Option.isSome_none, Bool.false_eq_true, if_false]
            refine wpAny_bind (wpAny_rule ?_)
            split
            · exact wpAny_pure (wpAny_pure (hso i hi))
            · refine wpAny_pure ⟨rfl, some i, rfl, fun z hz => h4 z (List.mem_cons_of_mem _ hz), n2, .inr ⟨i, rfl, hi, fun z hz => ?_⟩⟩
              cases r : hitAt xs k z with
              | false => rfl
              | true => exact absurd (hitAt_one nd r hi ▸ hz) n1
          · have z := h7 i List.mem_cons_self
            rw [hi] at z
            cases z
        | false =>
          have hi : hitAt xs k i = false := by rw [hitAt_of e1]; exact q
          simp only [Bool.false_eq_true, if_false, Bool.false_and]
          refine wpAny_bind (wpAny_rule (wpAny_pure ⟨rfl, hit, rfl, fun z hz => h4 z (List.mem_cons_of_mem _ hz), n2, ?_⟩))
          rcases h6 with ⟨rfl, h7⟩ | ⟨j, rfl, h8, h7⟩
          · refine .inl ⟨rfl, fun z hz hq => ?_⟩
            rcases List.mem_cons.mp (h7 z hz hq) with e | e
            · rw [e, hi] at hq
              cases hq
            · exact e
          · exact .inr ⟨j, rfl, h8, fun z hz => h7 z (List.mem_cons_of_mem _ hz)⟩
      · intro b t ⟨h1, hit, h2, _, _, h6⟩
        subst h1 h2
        rcases h6 with ⟨rfl, h7⟩ | ⟨j, rfl, h8, _⟩
        · exact wpAny_pure (none_of fun i hi z => by cases h7 i hi z)
        · exact wpAny_pure (hso j h8))
  | _ => cases hk
end
end Sk
set_option Elab.async false
set_option linter.all false
set_option maxRecDepth 100000
set_option maxHeartbeats 2000000
namespace Sk
open PySem PySem.Calls
def GAt (w : World) (h : Heap) (d : Addr) (xs : List RE) : Prop :=
  (∀ x ∈ xs, NestedIs h x.1 x.2.1 ∧ x.1.depth ≤ 8) ∧ (xs.map (·.1)).Nodup ∧ ∃ o es ep, h.get? d = some o ∧ o.ExactDict ∧ o.data = .dict es ep ∧ es.toList = xs.map (reE w)
def gval (xs : List RE) (k : NestedKey) : Option Value := (xs.find? fun x => decide (x.1 = k)).map (·.2.2)
section
variable {xs : List RE} {k : NestedKey} {key v : Value}
theorem hit_val : ∀ {xs : List RE}, (xs.map (·.1)).Nodup → ∀ {i : Nat}, hitAt xs k i = true → ∃ x, xs[i]? = some x ∧ gval xs k = some x.2.2 ∧ (xs.any fun x => decide (x.1 = k)) = true
  | [], _, i, h => by
    obtain ⟨x, e, _⟩ := hitAt_some h
    simp at e
  | x :: xs, nd, i, h => by
    obtain ⟨y, e1, e2⟩ := hitAt_some h
    by_cases q : x.1 = k
    · have z : i = 0 := hitAt_one nd h (by rw [hitAt_of (x := x) rfl]; exact decide_eq_true q)
      subst z
      cases (show x = y from by simpa using e1)
      exact ⟨x, rfl, by simp [gval, q], by simp [q]⟩
    · cases i with
      | zero =>
        cases (show x = y from by simpa using e1)
        exact absurd e2 q
      | succ i =>
        have h' : hitAt xs k i = true := by
          rw [hitAt_of (x := y) (by simpa using e1)]
          exact decide_eq_true e2
        obtain ⟨z, a, b, c⟩ := hit_val (xs := xs) (by rw [List.map_cons, List.nodup_cons] at nd; exact nd.2) h'
        refine ⟨z, by simpa using a, ?_, by simp [c]⟩
        rw [← b]
        simp [gval, q]
theorem miss_val (h : ∀ i, hitAt xs k i = false) : gval xs k = none ∧ (xs.any fun x => decide (x.1 = k)) = false ∧ k ∉ xs.map (·.1) := by
  have no : ∀ x ∈ xs, x.1 ≠ k := fun x hx e => by
    obtain ⟨i, hi⟩ := List.mem_iff_getElem?.mp hx
    have z := h i
    rw [hitAt_of hi, decide_eq_true e] at z
    cases z
  refine ⟨?_, ?_, fun hm => ?_⟩
  · unfold gval
    rw [List.find?_eq_none.mpr fun x hx => by simp [no x hx]]
    rfl
  · rw [List.any_eq_false]
    exact fun x hx => by simp [no x hx]
  · obtain ⟨x, hx, e⟩ := List.mem_map.mp hm
    exact no x hx e
end
section
variable {prog : Program} {w : World} {A : Around} {E : Value → Shared → Prop} {s : Shared} {d : Addr} {xs : List RE} {k : NestedKey} {key v : Value}
theorem GAt.typeIs (m : GAt w s.heap d xs) : s.TypeIs (.ref d) "dict" := let ⟨_, _, o, _, _, h1, h2, _⟩ := m; ⟨o, h1, h2.1⟩
theorem GAt.lt {h : Heap} (m : GAt w h d xs) : d < h.objs.size := let ⟨_, _, _, _, _, h1, _⟩ := m; Heap.lt_size h1
theorem GAt.keep {h h' : Heap} (m : GAt w h d xs) (hd : ∀ o, h.get? d = some o → h'.get? d = some o) (hk : ∀ b o vs n, h.get? b = some o → o.data = .seq vs n → h'.get? b = some o) : GAt w h' d xs := by
  obtain ⟨a, b, o, es, ep, h1, h2⟩ := m
  exact ⟨fun x hx => ⟨NestedIs.at hk _ _ (a x hx).1, (a x hx).2⟩, b, o, es, ep, hd o h1, h2⟩
theorem gget {Q : Option Value → Shared → Prop} (hu : A.units + 8 < cLine) (hk : NestedIs s.heap k key) (hd : k.depth ≤ 8) (m : GAt w s.heap d xs) (h : Q (gval xs k) { s with toks := s.toks + k.draws }) : wpAny (model prog w) A (dictGet d key) Q E s := by
  obtain ⟨his, nd, o, es, ep, ho, hx, hdat, he⟩ := m
  unfold dictGet
  try with_reducible refine wpAny_holding ?_
  refine wpAny_bind (pyHash_key k key A s _ hk (by omega) (wpAny_bind (gfind (s := { s with toks := s.toks + k.draws }) hu hk hd ho hdat he his nd (fun hno => ?_) fun i hi => ?_)))
  · rw [(miss_val hno).1] at h
    exact wpAny_pure h
  · obtain ⟨x, e1, e2, _⟩ := hit_val nd hi
    rw [e2] at h
    refine wpAny_bind (wpAny_dictEntries (s := { s with toks := s.toks + k.draws }) ho hdat ?_)
    rw [re_at he i, e1]
    exact wpAny_pure h
theorem gdget {Q : Value → Shared → Prop} (hu : A.units + 9 < cLine) (hk : NestedIs s.heap k key) (hd : k.depth ≤ 8) (hs : (d == sysModules) = false) (m : GAt w s.heap d xs) (h : Q ((gval xs k).getD v) { s with toks := s.toks + k.draws }) : wpAny (model prog w) A (call (.builtin "dict.get") [.ref d, key, v]) Q E s :=
  call_meetsIn F.slot_dict_get m.typeIs F.entry_dict_get (F.args_dict_get_3 _ _ _) (S := fun A' R s' => A' = A ∧ s' = s ∧ R (.ok (.ret ((gval xs k).getD v))) { s with toks := s.toks + k.draws }) (fun A' R s' hS => by
    obtain ⟨rfl, rfl, hq⟩ := hS
    show wpAny _ _ (dictGet d key >>= _) _ _ _
    refine wpAny_bind (gget (by rw [Around.in1_units]; omega) hk hd m ?_)
    cases hf : gval xs k with
    | some u =>
      rw [hf] at hq
      exact wpAny_pure hq
    | none =>
      rw [hf] at hq
      show wpAny _ _ (Builtin.Dict.missed d key >>= _) _ _ _
      exact wpAny_bind (wpAny_missed_other hs (wpAny_pure hq))) ⟨rfl, rfl, h⟩
variable {T : String} {arg : Addr} {fp wr : List Addr} {n : Nat} {Rl : Nat → Value → Value → Prop} {OK : Heap → Prop} {ps : List RE}
end
end Sk
set_option Elab.async false
set_option linter.all false
set_option maxRecDepth 100000
set_option maxHeartbeats 2000000
namespace Sk
open PySem PySem.Spec PyProof.Rows L2
open Evl (Ex)
def putG (xs : List GEnt) (k : NestedKey) (y v : V) : List GEnt := if (xs.any fun x => decide (x.1 = k)) = true then xs.map (fun x => if x.1 = k then (x.1, x.2.1, v) else x) else xs ++ [(k, y, v)]
def RdG (w : World) (H : Hp) (a : Addr) (xs : List GEnt) : Prop := ∃ o, H a = some (GDo w a (o, xs))
section
variable {X : Cx} {pins : List (Addr × Obj)} {σ : L2.St} {H : Hp} {s : Shared} {a : Addr} {xs : List GEnt} {rs : List RE} {k : NestedKey} {y v : V} {u r : Value} {d : PyData}
mutual
theorem dp_nested (I : Inv X pins σ H s) : ∀ (d : PyData) {v : V} {u : Value}, imm d = true → Dp X.K H v d → RelV v u → NestedIs s.heap (keyN d) u
  | .none, _, _, _, h, r => by
    cases h
    cases r
    exact .none
  | .bool b, _, _, _, h, r => by
    cases h
    cases r
    exact .bool rfl
  | .int i, _, _, _, h, r => by
    cases h
    obtain ⟨t, rfl⟩ := r
    exact .int i t
  | .str x, _, _, _, h, r => by
    cases h
    obtain ⟨t, rfl⟩ := r
    exact .text x t
  | .list _, _, _, i, _, _ => by simp [imm] at i
  | .dict _, _, _, i, _, _ => by simp [imm] at i
  | .tuple ds, _, _, i, h, r => by
    cases h with
    | tup hs ha =>
      cases r
      obtain ⟨its, rv, ⟨o, h1, h2, n, h3⟩, _⟩ := I.tuple hs
      exact .tup h1 h2 h3 (by simpa using dp_nesteds I ds (by simpa [imm] using i) ha rv)
theorem dp_nesteds (I : Inv X pins σ H s) : ∀ (ds : List PyData) {vs : List V} {us : List Value}, immAll ds = true → DpAll X.K H vs ds → Vals vs us → NestedAll s.heap (keyNs ds) us
  | [], _, _, _, h, r => by
    cases h
    cases r
    exact .nil
  | d :: ds, _, _, i, h, r => by
    cases h with
    | cons h1 h2 =>
      cases r with
      | cons r1 r2 =>
        have i' : imm d = true ∧ immAll ds = true := by simpa [immAll] using i
        exact .cons (dp_nested I d i'.1 h1 r1) (dp_nesteds I ds i'.2 h2 r2)
end
variable {A : Around} {E : Value → Shared → Prop}
end
section
variable {X : Cx} {a b c o e i value : Expr} {td ty tv : TE} {pos pos' : Pos}
end
end Sk
set_option Elab.async false
set_option linter.all false
set_option maxRecDepth 100000
set_option maxHeartbeats 2000000
namespace Sk
open PySem PySem.Spec PyProof.Rows L2
open Evl (Ex)
def getG (kvs : List (PyData × PyData)) (d : PyData) : Option PyData := (kvs.find? fun kv => decide (keyN kv.1 = keyN d)).map (·.2)
def putDG (kvs : List (PyData × PyData)) (d x : PyData) : List (PyData × PyData) := if (kvs.any fun kv => decide (keyN kv.1 = keyN d)) = true then kvs.map (fun kv => if keyN kv.1 = keyN d then (kv.1, x) else kv) else kvs ++ [(d, x)]
def PV.dg : PV → Option (List (PyData × PyData))
  | .dcg kvs => some kvs
  | .dgf kvs => some kvs
  | _ => none
section
variable {K : PySem.W.Frag} {G H : Hp} {f : Fr} {xs : List GEnt} {kvs : List (PyData × PyData)} {y v : V} {d x : PyData} {p : PV}
abbrev GQ (K : PySem.W.Frag) (G : Hp) : GEnt → PyData × PyData → Prop := fun x kv => x.1 = keyN kv.1 ∧ KeyOk kv.1 ∧ Dp K G x.2.1 kv.1 ∧ Dp K G x.2.2 kv.2
theorem GRel.nil : GRel K G [] [] := ⟨rfl, (fun _ h => by cases h), .nil, .nil⟩
theorem GRel.pairs : ∀ {kvs : List (PyData × PyData)} {xs : List GEnt}, GRel K G xs kvs → Paired (GQ K G) xs kvs
  | [], xs, h => by
    have : xs = [] := by simpa using congrArg List.length h.ks
    subst this
    exact .nil
  | kv :: kvs, xs, h => by
    obtain ⟨h1, h2, h3, h4⟩ := h
    match xs, h1, h3, h4 with
    | x :: xs, h1, h3, h4 =>
      simp only [List.map_cons, List.cons.injEq] at h1
      cases h3 with
      | cons a1 a2 =>
        cases h4 with
        | cons b1 b2 => exact .cons ⟨h1.1, h2 kv List.mem_cons_self, a1, b1⟩ (GRel.pairs ⟨h1.2, fun z hz => h2 z (List.mem_cons_of_mem _ hz), a2, b2⟩)
theorem GRel.of : ∀ {xs : List GEnt} {kvs : List (PyData × PyData)}, Paired (GQ K G) xs kvs → GRel K G xs kvs
  | _, _, .nil => GRel.nil
  | _, _, .cons h t => by
    obtain ⟨h1, h2, h3, h4⟩ := GRel.of t
    refine ⟨by rw [List.map_cons, List.map_cons, h1, h.1], fun kv hk => ?_, .cons h.2.2.1 h3, .cons h.2.2.2 h4⟩
    rcases List.mem_cons.mp hk with rfl | hk
    · exact h.2.1
    · exact h2 kv hk
theorem gq_any : ∀ {xs : List GEnt} {kvs : List (PyData × PyData)}, Paired (GQ K G) xs kvs → (xs.any fun z => decide (z.1 = keyN d)) = (kvs.any fun kv => decide (keyN kv.1 = keyN d))
  | _, _, .nil => rfl
  | _, _, .cons h t => by rw [List.any_cons, List.any_cons, gq_any t, h.1]
theorem gq_map (hx : Dp K G v x) : ∀ {xs : List GEnt} {kvs : List (PyData × PyData)}, Paired (GQ K G) xs kvs → Paired (GQ K G) (xs.map fun z => if z.1 = keyN d then (z.1, z.2.1, v) else z) (kvs.map fun kv => if keyN kv.1 = keyN d then (kv.1, x) else kv)
  | _, _, .nil => .nil
  | _, _, .cons (a := z) (b := kv) h t => by
    rw [List.map_cons, List.map_cons]
    refine .cons ?_ (gq_map hx t)
    by_cases e : keyN kv.1 = keyN d
    · rw [if_pos (h.1.trans e), if_pos e]
      exact ⟨h.1, h.2.1, h.2.2.1, hx⟩
    · rw [if_neg (fun q => e (h.1.symm.trans q)), if_neg e]
      exact h
theorem gq_snoc {z : GEnt} {kv : PyData × PyData} (h : GQ K G z kv) : ∀ {xs : List GEnt} {kvs : List (PyData × PyData)}, Paired (GQ K G) xs kvs → Paired (GQ K G) (xs ++ [z]) (kvs ++ [kv])
  | _, _, .nil => .cons h .nil
  | _, _, .cons h1 t => .cons h1 (gq_snoc h t)
theorem GRel.put (h : GRel K G xs kvs) (hd : Dp K G y d) (ok : KeyOk d) (hx : Dp K G v x) : GRel K G (putG xs (keyN d) y v) (putDG kvs d x) := by
  refine GRel.of ?_
  unfold putG putDG
  rw [gq_any h.pairs]
  split
  · exact gq_map hx h.pairs
  · exact gq_snoc ⟨rfl, ok, hd, hx⟩ h.pairs
theorem GRel.len (h : GRel K G xs kvs) : xs.length = kvs.length := by simpa using congrArg List.length h.ks
theorem VR.dg (h : VR K f G H p v) (g : Ex G H) (e : p.dg = some kvs) : ∃ a xs, v = .ref a ∧ RdG f.w H a xs ∧ GRel K G xs kvs := by
  cases p with
  | dcg k2 =>
    cases e
    obtain ⟨a, q, rfl, h1, _, _, _, h2⟩ := h
    exact ⟨a, q.2, rfl, ⟨q.1, h1⟩, h2⟩
  | dgf k2 =>
    cases e
    obtain ⟨a, q, rfl, h1, h2⟩ := h
    exact ⟨a, q.2, rfl, ⟨q.1, g _ _ h1⟩, h2⟩
  | _ => cases e
end
@[simp] def hDnewG : HE := fun s C => C (.dcg []) s
def dgetGW : List PV → (PV → Prop) → Prop := fun ps C => match ps with
  | [p, .dat d] => ∃ kvs x, p.dg = some kvs ∧ KeyOk d ∧ getG kvs d = some x ∧ C (.dat x)
  | _ => False
def dinGW (neg : Bool) : List PV → (PV → Prop) → Prop := fun ps C => match ps with
  | [.dat d, p] => ∃ kvs, p.dg = some kvs ∧ KeyOk d ∧ C (.dat (.bool (if neg then !(getG kvs d).isSome else (getG kvs d).isSome)))
  | _ => False
@[simp] def hDputG (j : Nat) (t ti : HE) : HS := fun D s => t s fun p s1 => ∃ x, p.frz = some x ∧ (∃ kvs, s1.sl[j]? = some (some (.dcg kvs))) ∧ ti s1 fun q s2 => ∃ d kvs, q = .dat d ∧ KeyOk d ∧ s2.sl[j]? = some (some (.dcg kvs)) ∧ kvs.length < 100000 ∧ D.nx (s2.put j (.dcg (putDG kvs d x)))
@[simp] def hGet3 (j : Nat) (ta : HA) : HE := fun s C => (∃ p kvs, s.sl[j]? = some (some p) ∧ p.dg = some kvs) ∧ ta s fun ps s1 => ∃ d x p kvs, ps = [.dat d, .dat x] ∧ s1.sl[j]? = some (some p) ∧ p.dg = some kvs ∧ KeyOk d ∧ C (.dat ((getG kvs d).getD x)) s1
@[simp] def hSetd (j : Nat) (ta : HA) : HE := fun s C => (∃ kvs, s.sl[j]? = some (some (.dcg kvs))) ∧ ta s fun ps s1 => ∃ d x kvs, ps = [.dat d, .dat x] ∧ s1.sl[j]? = some (some (.dcg kvs)) ∧ KeyOk d ∧ kvs.length < 100000 ∧ (∀ y, getG kvs d = some y → C (.dat y) s1) ∧ (getG kvs d = none → C (.dat x) (s1.put j (.dcg (putDG kvs d x))))
section
variable {X : Cx} {f : Fr} {a b c o e i value : Expr} {t ti : HE} {ta : HA} {oa ob : HA → HA} {pos pos' apos cpos : Pos}
def mergeDG (kvs more : List (PyData × PyData)) : List (PyData × PyData) := more.foldl (fun acc kv => putDG acc kv.1 kv.2) kvs
end
end Sk
set_option Elab.async false
set_option linter.all false
set_option maxRecDepth 100000
set_option maxHeartbeats 2000000
namespace Sk
open PySem PySem.Spec PyProof.Rows L2
open Evl (Ex)
@[simp] def hVG (j : Nat) : HE := fun s C => ∃ p kvs, s.sl[j]? = some (some p) ∧ p.dg = some kvs ∧ C (.dgf kvs) (s.put j (.dgf kvs))
@[simp] def hiG (t : HE) : HI := fun s C => t s fun p s1 => ∃ kvs, p.dg = some kvs ∧ C (kvs.map (·.1)) s1
section
variable {X : Cx} {f : Fr} {a e : Expr} {t : HE}
end
end Sk
set_option Elab.async false
set_option linter.all false
set_option maxRecDepth 100000
set_option maxHeartbeats 2000000
namespace Sk
open PySem PySem.Spec PyProof.Rows L2
open Evl (Ex)
@[simp] def hFz (t : HE) : HE := fun s C => t s fun p s1 => ∃ kvs, p.dg = some kvs ∧ C (.dgf kvs) s1
@[simp] def hEF (t : HE) (r : HA) : HA := fun s C => t s fun p s1 => ∃ kvs, p.dg = some kvs ∧ r s1 fun ps s2 => C (.dgf kvs :: ps) s2
section
variable {X : Cx} {f : Fr} {e : Expr} {es : List Expr} {t : HE} {ta : HA}
end
end Sk
set_option Elab.async false
set_option linter.all false
set_option maxRecDepth 100000
set_option maxHeartbeats 2000000
namespace Sk
open PySem PySem.Spec PyProof.Rows L2
open Evl (Ex)
def isNX (neg : Bool) : List PV → (PV → Prop) → Prop := fun ps K => match ps with
  | [p, .dat .none] => (∃ x, p = excPV x ∧ K (.dat (.bool neg))) ∨ (∃ d, p = .dat d ∧ isN neg [.dat d, .dat .none] K) ∨ (∃ ds, p = .own ds ∧ K (.dat (.bool neg)))
  | _ => False
theorem isNX_exc {x : Str} {neg : Bool} {K : PV → Prop} (c : K (.dat (.bool neg))) : isNX neg [excPV x, .dat .none] K := Or.inl ⟨x, rfl, c⟩
section
variable {X : Cx} {f : Fr}
theorem op_isNX : Op X.K f (op2 fun x y H Q => y = .non ∧ Q (.bl (decide (x = .non))) H) (isNX false) := fun F O G s σ H ps vs C Q R V w k => by
  unfold isNX at w
  split at w
  · rcases w with ⟨x, rfl, c⟩ | ⟨d, rfl, c⟩ | ⟨ds, rfl, c⟩
    · cases V with
      | cons v1 V =>
        cases V with
        | cons v2 V =>
          cases V
          cases (show Dp X.K G _ .none from v2)
          obtain ⟨a, C0, rfl, _, _⟩ := excPV_at v1
          exact ⟨rfl, k _ _ _ _ c (Ex.refl G) R (vrf_dat (.bl _))⟩
    · exact op_isNW F O G s σ H _ vs C Q R V c k
    · cases V with
      | cons v1 V =>
        cases V with
        | cons v2 V =>
          cases V
          cases (show Dp X.K G _ .none from v2)
          obtain ⟨p, us, rfl, _⟩ := v1
          exact ⟨rfl, k _ _ _ _ c (Ex.refl G) R (vrf_dat (.bl _))⟩
  · exact w.elim
end
def isXV : List PV → (PV → Prop) → Prop := fun ps C => match ps with
  | [p] => (∃ x, x ∈ exNames ∧ p = excPV x ∧ C (.dat (.bool true))) ∨ (p = .dat .none ∧ C (.dat (.bool false)))
  | _ => False
theorem isXV_exc {x : Str} {C : PV → Prop} (hx : x ∈ exNames) (c : C (.dat (.bool true))) : isXV [excPV x] C := Or.inl ⟨x, hx, rfl, c⟩
section
variable {X : Cx} {f : Fr} {a : Expr} {oa : HA → HA} {p q pos : Pos}
theorem hp_isXV (T : ExT X.K) (hg : Gl X "isinstance") (hm : X.mg "isinstance" = none) (c1 : PE X (.Name "ValueError" q) (tC (.ty "ValueError"))) (A : Opd X f a oa)
    (hs : starEach [a, .Name "ValueError" q] X.env = (false, eval a X.env) :: starEach [.Name "ValueError" q] X.env := by rfl)
    (hpl : (backTo pos (starEach [.Name "ValueError" q] X.env)).any (·.1) = false := by rfl) :
    PE X (.Call (.Name "isinstance" p) [a, .Name "ValueError" q] [] pos) (lf X.K f (hC isXV (oa hNil))) := by
  obtain ⟨ta, a1, a2⟩ := A.ex
  refine (pe_callB (r := rIsX X.K) call_isX hg hm (by decide +kernel) (pa_cons a1 (pa_cons c1 pa_nil rfl) hs) (by decide +kernel) (by decide +kernel) hs hpl).mono fun σ H Q w => ?_
  have op : Op X.K f (fun vs H Q => match vs with | [x] => rIsX X.K [x, .ty "ValueError"] H Q | _ => False) isXV := fun F O G s σ H ps vs C Q R VV w k => by
    unfold isXV at w
    split at w
    · cases VV with
      | cons v1 VV =>
        cases VV
        rcases w with ⟨x, hx, e, c⟩ | ⟨e, c⟩
        · subst e
          obtain ⟨b, C1, rfl, hc, hg1⟩ := excPV_at v1
          exact ⟨_, _, .ref C1, _, true, rfl, Or.inl ⟨b, C1, rfl, R.gh _ _ hg1, (T.one hx hc).e, rfl⟩, .ty _, (T.one hx hc).v, k _ _ _ _ c (Ex.refl G) R (vrf_dat (.bl _))⟩
        · subst e
          cases (show Dp X.K G _ .none from v1)
          exact ⟨_, _, .type "NoneType", _, false, rfl, Or.inr ⟨rfl, rfl⟩, .ty _, kit_ty (by decide +kernel), k _ _ _ _ c (Ex.refl G) R (vrf_dat (.bl _))⟩
    · exact w.elim
  have z := a2 tNil hNil (fun σ H Q q => by
    obtain ⟨F, O, G, s, C, R, ht, k⟩ := q
    exact k _ _ _ _ _ ht (Ex.refl G) R .nil) σ H _ (op.lift _ σ H Q w)
  exact z
end
@[simp] def hOff (i : Nat) (D : HD) : HD := ⟨fun s => D.nx (s.off i), D.rt, fun s => D.bk (s.off i), fun s => D.ct (s.off i)⟩
@[simp] def hTry (y : Str) (i : Nat) (tb : HX → HS) (ts : HS) (Zo : HX) : HS := fun D s => tb (fun x s1 => x ∈ exNames ∧ i < s1.sl.length ∧ ((exSub x y = true ∧ ts (hOff i D) (s1.put i (excPV x))) ∨ (exSub x y = false ∧ Zo x s1))) D s
section
variable {K : PySem.W.Frag} {f : Fr} {G H : Hp} {s : Sg} {σ : L2.St} {i : Nat}
theorem Rel.off2 (R : Rel K f G s σ H) : Rel K f G (s.off i) (σ.set i none) H := { (R.put_off (i := i)) with
  ln := by
    have := (R.put_off (i := i)).ln
    rw [List.length_set]; exact this
  sl := fun j p h => by
    obtain ⟨v, h1, h2⟩ := (R.put_off (i := i)).sl j p h
    have ne : i ≠ j := fun z => by
      subst z
      have h0 : (s.sl.set i none)[i]? = some (some p) := h
      by_cases hi : i < s.sl.length
      · rw [List.getElem?_set_self hi] at h0; cases h0
      · rw [List.getElem?_eq_none (by rw [List.length_set]; omega)] at h0; cases h0
    exact ⟨v, by rw [List.getElem?_set_ne ne]; exact h1, h2⟩
  ds := fun j l p q v ne hj hl mp mq wj => by
    have lift : ∀ {j : Nat} {w : V}, (σ.set i none)[j]? = some (some w) → σ[j]? = some (some w) := fun {j w} h => by
      by_cases z : i = j
      · subst z
        by_cases hi : i < σ.length
        · rw [List.getElem?_set_self hi] at h; cases h
        · rw [List.getElem?_eq_none (by rw [List.length_set]; omega)] at h; cases h
      · rwa [List.getElem?_set_ne z] at h
    intro wl
    exact (R.put_off (i := i)).ds j l p q v ne hj hl mp mq (lift wj) (lift wl) }
end
theorem Rel.ent2 {K : PySem.W.Frag} {w : World} {T : Tbs} {en : Ent} {F : Fr} {O : Addr → Prop} {G H : Hp} {s : Sg} {σ : L2.St} (R : Rel K (fo (f1 w T (some en)) F O) G s σ H) : Rel K (en.fr w T) G s σ H := by
  have p := R.pk en rfl
  have R0 := R.ent.1
  have eO : ∀ a, en.O a → O a := p.O
  have eF : Ex en.F F.F := p.F
  have eM : F.M = en.M := p.M
  exact {
    gh := R0.gh
    fh := R0.fh
    go := R0.go
    oh := R0.oh
    mh := R0.mh
    mo := R0.mo
    tm := R0.tm
    tb := R0.tb
    pk := R0.pk
    dr := R0.dr
    ln := R.ln
    sl := fun i q h => by
      obtain ⟨v, h1, h2⟩ := R.sl i q h
      refine ⟨v, h1, h2.upB p.on.symm p.m.symm p.r.symm rfl fun b u e1 e2 => ⟨e1, fun z => e2 (eO b z), fun z => ?_⟩⟩
      rcases z with z | z
      · left
        show en.F b = none
        cases q : en.F b with
        | none => rfl
        | some o =>
          have z : F.F b = none := z
          rw [eF b o q] at z
          cases z
      · right
        show en.M b
        rw [← eM]
        exact z
    ds := R.ds }
theorem Rel.to {K : PySem.W.Frag} {w : World} {T : Tbs} {e1 e2 : Option Ent} {F : Fr} {O : Addr → Prop} {G H : Hp} {s : Sg} {σ : L2.St} (R : Rel K (fo (f1 w T e1) F O) G s σ H) (h : ∀ en, e2 = some en → EntOk en (fo (f1 w T e2) F O) G) : Rel K (fo (f1 w T e2) F O) G s σ H :=
  R.re e2 fun en q => { (h en q) with }
theorem VRf.to {K : PySem.W.Frag} {w : World} {T : Tbs} {e1 e2 : Option Ent} {F : Fr} {O : Addr → Prop} {G H : Hp} {s : Sg} {σ : L2.St} {p : PV} {v : V} (V : VRf K (fo (f1 w T e1) F O) G H s σ p v) : VRf K (fo (f1 w T e2) F O) G H s σ p v := ⟨by cases p <;> exact V.1, V.2⟩
section
variable {X : Cx} {T : Tbs} {eo : Option Ent} {y n : Str} {i : Nat} {body suite : List Stmt} {b₀ : Stmt} {np pos pos' : Pos} {tb : HX → HS} {ts : HS} {Wout : WX} {Zo : HX} {CY : Addr}
theorem hs_try (TT : ExT X.K) (hst : X.stack = X.env :: X.outer) (hfr : X.env.frame = some X.env.locals) (hN : X.N.Nodup) (hi : X.N[i]? = some n) (hln : X.env.kindOf n = some .local) (hex : X.ex = []) (hc : Names X y (.ref CY)) (cy : ClsN X.K y CY) (hy : y ∈ exAll) (tk : Takes X Wout)
    (lko : ∀ (x : Str) (a : Addr) (s : Sg) (σ : L2.St) (G H : Hp) (F : Fr) (O : Addr → Prop), ClsN X.K x a → Rel X.K (fo (f1 X.w T eo) F O) G s σ H → Zo x s → Wout (.ref a) none σ H)
    (hb : ∀ (W : WX) (pn : List (Addr × Obj)) (xe : Value → Shared → Prop) (en : Ent) (Z : HX), Takes (X.tr pn xe) W → Lk X.K W X.w T en Z → PassesOwn (model X.prog X.w) X.A X.env xe → PSs (X.tr pn xe) body (lfS X.K (f1 X.w T (some en)) (tb Z)))
    (hsu : ∀ (a : Addr) (pn : List (Addr × Obj)), PSs (X.suite a pn) (b₀ :: suite) (lfS X.K (f1 X.w T eo) ts)) :
    PS X (.Try body [.ExceptHandler (some (.Name y np)) (some n) (b₀ :: suite) pos'] [] [] pos) (lfS X.K (f1 X.w T eo) (hTry y i tb ts Zo)) := by
  have base := ps_try_hold (X := X) (tb := fun W => fun D σ H => ∃ en Z, Lk X.K W X.w T en Z ∧ lfS X.K (f1 X.w T (some en)) (tb Z) D σ H) (ts := fun _ _ => lfS X.K (f1 X.w T eo) ts) (np := np) (pos := pos) (pos' := pos') hst hfr hN hi hln hex hc tk
    (fun W pn xe t1 p1 => ⟨fun pins s σ H D I q => by
      obtain ⟨en, Z, lk, q⟩ := q
      exact (hb W pn xe en Z t1 lk p1).run pins s σ H D I q⟩) fun a cls pn => hsu a pn
  refine base.mono fun D σ H q => ?_
  obtain ⟨F, O, G, s, D', R, ht, imp⟩ := q
  let en := entOf (fo (f1 X.w T eo) F O) G
  have oe : ∀ {G1 : Hp}, Ex G G1 → ∀ en2, eo = some en2 → EntOk en2 (fo (f1 X.w T eo) F O) G1 := fun {G1} e en2 q => (R.pk en2 q).ex e
  refine ⟨en, _, ?_, F, O, G, s, D', R.to (e2 := some en) (fun en2 q => by cases q; exact { (entOf_ok R) with }), ht, ⟨fun G1 s1 σ1 H1 e1 R1 c => imp.nx G1 s1 σ1 H1 e1 (R1.to (oe e1)) c, fun p G1 s1 σ1 H1 v e1 R1 V1 c => imp.rt p G1 s1 σ1 H1 v e1 (R1.to (oe e1)) V1.to c, fun G1 s1 σ1 H1 e1 R1 c => imp.bk G1 s1 σ1 H1 e1 (R1.to (oe e1)) c, fun G1 s1 σ1 H1 e1 R1 c => imp.ct G1 s1 σ1 H1 e1 (R1.to (oe e1)) c⟩⟩
  intro x a s1 σ1 G1 H1 F1 O1 hca R1 hz
  have e1 : Ex G G1 := (R1.pk en rfl).G
  have R2 : Rel X.K (fo (f1 X.w T none) F O) G1 s1 σ1 H1 := R1.ent2
  have R3 := R2.to (e2 := eo) (oe e1)
  obtain ⟨hx, hil, hz⟩ := hz
  refine ⟨rfl, exSub x y, (TT.two hx hy hca cy).2, fun hb a2 hn => ?_, fun hb => ?_⟩
  · have hts : ts (hOff i D') (s1.put i (excPV x)) := by
      rcases hz with ⟨_, h2⟩ | ⟨h1, _⟩
      · exact h2
      · rw [hb] at h1; cases h1
    have R4 := (R3.newG (o := ExH (.ref a) a2) hn).put (i := i) (p := excPV x) (v := .ref a2) ⟨vr_exc hca upd_same, fun z => by cases z⟩
    have e2 : Ex G (upd G1 a2 (ExH (.ref a) a2)) := e1.trans (Evl.Ex.new (R3.gn hn))
    exact ⟨F, O, _, _, hOff i D', R4, hts, ⟨fun G5 s5 σ5 H5 e5 R5 c => imp.nx G5 _ _ H5 (e2.trans e5) R5.off2 c, fun p G5 s5 σ5 H5 v e5 R5 V5 c => imp.rt p G5 s5 σ5 H5 v (e2.trans e5) R5 V5 c, fun G5 s5 σ5 H5 e5 R5 c => imp.bk G5 _ _ H5 (e2.trans e5) R5.off2 c, fun G5 s5 σ5 H5 e5 R5 c => imp.ct G5 _ _ H5 (e2.trans e5) R5.off2 c⟩⟩
  · rcases hz with ⟨h1, _⟩ | ⟨_, h2⟩
    · rw [hb] at h1; cases h1
    · exact lko x a s1 σ1 G1 H1 F O hca R3 h2
end
end Sk
set_option Elab.async false
set_option linter.all false
set_option maxRecDepth 100000
set_option maxHeartbeats 2000000
namespace Sk
open PySem PySem.Spec PyProof.Rows L2
open Evl (Ex)
def EC (K : PySem.W.Frag) (mg : Str → Option Value) (y : Str) : Prop := ∃ C, ClsN K y C ∧ mg y = some (.ref C)
section
variable {X : Cx} {T : Tbs} {eo : Option Ent} {en : Ent} {W : WX} {Z : HX} {x y n : Str} {i j : Nat} {body suite : List Stmt} {b₀ : Stmt} {p q p2 np pos pos' : Pos} {tb : HX → HS} {ts : HS} {Wout : WX} {Zo : HX}
theorem nmC (e : EC X.K X.mg y) (hg : Gl X y) (al : y ∈ exAll := by decide) (hdb : (y == ("__debug__" : Str)) = false := by decide) : NmC X (.Name y q) y := by
  obtain ⟨C, c1, c2⟩ := e
  exact ⟨⟨C, c1, pe_glob hg c2 (v := .ref C) rfl hdb⟩, al⟩
theorem hs_raiseT {m : Str} (TT : ExT X.K) (e : EC X.K X.mg x) (hx : x ∈ exNames) (tk : Takes X W) (lk : Lk X.K W X.w T en Z) (hc : X.calm = true) (hg : Gl X x) (hdb : (x == ("__debug__" : Str)) = false := by decide) :
    PS X (.Raise (some (.Call (.Name x p) [.Constant (.str m) j p2] [] pos')) none pos) (lfS X.K (f1 X.w T (some en)) (hRaise x Z)) := by
  obtain ⟨C, c1, c2⟩ := e
  have f := TT.one hx c1
  exact hs_raise tk lk hc c1 (pmk_own PySem.F.excBase_ValueError f.x c2 f.k (raises_own f.e.hs f.t) hg hdb)
theorem hs_try0 (TT : ExT X.K) (e : EC X.K X.mg y) (hst : X.stack = X.env :: X.outer) (hfr : X.env.frame = some X.env.locals) (hN : X.N.Nodup) (hi : X.N[i]? = some n) (hln : X.env.kindOf n = some .local) (hex : X.ex = []) (hg : Gl X y)
    (hb : ∀ (W : WX) (pn : List (Addr × Obj)) (xe : Value → Shared → Prop) (en : Ent) (Z : HX), Takes (X.tr pn xe) W → Lk X.K W X.w T en Z → PassesOwn (model X.prog X.w) X.A X.env xe → PSs (X.tr pn xe) body (lfS X.K (f1 X.w T (some en)) (tb Z)))
    (hsu : ∀ (a : Addr) (pn : List (Addr × Obj)), PSs (X.suite a pn) (b₀ :: suite) (lfS X.K (f1 X.w T none) ts)) (hy : y ∈ exAll := by decide) (hdb : (y == ("__debug__" : Str)) = false := by decide) :
    PS X (.Try body [.ExceptHandler (some (.Name y np)) (some n) (b₀ :: suite) pos'] [] [] pos) (lfS X.K (f1 X.w T none) (hTry y i tb ts (fun _ _ => False))) := by
  obtain ⟨C, c1, c2⟩ := e
  exact hs_try TT hst hfr hN hi hln hex ⟨hg, hdb, .inl c2⟩ c1 hy takes0 (fun _ _ _ _ _ _ _ _ _ _ z => z.elim) hb hsu
end
theorem HasX.has {P : Program} {w : World} {T : Tbs} {K : PySem.W.Frag} {mg : Str → Option Value} {base : Heap} {k : Nat} {x : Str} {n : Nat} {sp : HSpX} (h : HasX P w T K mg base k x n sp) : Has P w T K mg base k x n (fun ps m C => sp ps m C fun _ _ => False) := by
  obtain ⟨fa, fd, ps, hl, G, hm, hk, hb⟩ := h.ex
  refine ⟨fa, fd, ps, hl, ⟨fun vs H Q E q => ?_, fun {A outer s H args us vs Q E} hgd hr e0 bb r q => ?_⟩, hm, hk, hb⟩
  · have := vals_len _ _ _ _ q
    rw [this, hl]
  · obtain ⟨f, G1, n1, ps1, C, x1, x2, x3, x4, x5, R, x6, x7, x8, x9⟩ := q
    have q2 : SpHX K w T n sp vs H Q (fun _ _ _ => False) := ⟨f, G1, n1, ps1, C, fun _ _ => False, x1, x2, x3, x4, x5, R, x6, x7, x8, x9, fun _ _ _ _ _ z => z.elim⟩
    refine codeAny_mono (G.go hgd hr e0 bb r q2) fun res s1 w1 => ?_
    match res, w1 with
    | .ok (.ret u), w1 => exact w1
    | .error e, w1 =>
      obtain ⟨_, _, _, _, _, _, _, _, _, _, _, _, z⟩ := w1
      exact z.elim
end Sk
set_option Elab.async false
set_option linter.all false
set_option maxRecDepth 100000
set_option maxHeartbeats 2000000
namespace Sk
open PySem PySem.Spec PyProof.Rows L2
open NdefX (NF CellsAt NScope ncx envF startF)
open Evl (Ex)
def PinO (a : Addr) (o : Obj) : HO := .ext fun h => h.get? a = some o
theorem pinO_at {P : Program} {w : World} {H : Hp} {h : Heap} {a : Addr} {o : Obj} (hok : HOk P w H h) (e : H a = some (PinO a o)) : h.get? a = some o := (hok a _ e).1
structure Lam where
  fa : Addr
  c : Addr
  q : Str
  params : Arguments
  body : Expr
  scope : Scope
  cl : List (Str × Addr)
  pm : Value
  ctv : Value
  cvs : List V
  cds : List PyData
abbrev Lam.obj (L : Lam) : Obj := PySem.W.kla_obj "<lambda>" L.q L.params L.body L.scope L.cl L.pm L.c L.ctv
abbrev Lam.nf (L : Lam) : NF := ⟨"<lambda>", L.q, L.params, [], L.scope, L.cl, L.c⟩
def lamR (L : Lam) : PySem.W.Frag → Hp → V → Prop := fun K G v => v = .ref L.fa ∧ G L.fa = some (PinO L.fa L.obj) ∧ G L.c = some (LamX.CodeO L.c L.q) ∧ DpAll K G L.cvs L.cds
section
variable {P : Program} {w : World} {K : PySem.W.Frag} {mg : Str → Option Value} {base : Heap} {CX : CXT} {k : Nat} {N ps fr : List Str} {L : Lam}
theorem lam_run {A : Around} {outer : List Env} {s : Shared} {H : Hp} {us : List Value} {vs : List V} {ws : List (Option V)} {Q : VK} {E : XK} {tb : TE} (S : NScope N ps fr L.scope) (hr : Room (k + 1) A) (e0 : Env0 P w K mg base A outer s H) (hf : H L.fa = some (PinO L.fa L.obj)) (hc : H L.c = some (LamX.CodeO L.c L.q))
    (C : CellsAt L.cl fr ws s.heap H) (r : Vals vs us) (hl : vs.length = ps.length) (hb : bindArgs (PySem.W.kla_fn "<lambda>" L.q L.params L.body L.scope L.cl L.pm (.ref L.c) L.ctv) ⟨us, []⟩ = pure (ps.zip us))
    (body : PE (ncx CX P w K mg base N L.nf L.fa A outer s H E) L.body tb) (ht : tb (startF N vs ws) H Q) : codeAny (model P w) A (.call (.ref L.fa) ⟨us, []⟩) (CR CX outer P w H s Q E) s := by
  have lim : s.heap.NoLimit := e0.mod.nolimit.keeps fun b o e => (e0.bs b o e).1
  have ho := pinO_at e0.hok hf
  refine PySem.W.kla_callFunE hr.depth ho rfl S.co S.gen rfl (NdefX.codeO_at e0.hok hc) ?_
  rw [hb]
  refine wpAny_pure (wpAny_newFunctionEnv S.nocell (fun y hy => S.par y.1 (List.of_mem_zip (show (y.1, y.2) ∈ ps.zip us from hy)).1) (fun h₁ hns hsb => ⟨lim.fresh _ hsb, ?_⟩) S.kind)
  have kp : ∀ b o, s.heap.get? b = some o → h₁.get? b = some o := fun b o e => hsb.extBut b o (Nat.ne_of_lt (Heap.lt_size e)) (Heap.get?_push_of_some _ e)
  have I : Inv (ncx CX P w K mg base N L.nf L.fa A outer s H E) [] (startF N vs ws) H { s with heap := h₁, toks := s.toks + (ps.zip us).length } := NdefX.inv_startN S hr.hd e0 hl r C hns kp
  refine PySem.W.kla_codeExpr (wpAny_mono (body.run [] _ (startF N vs ws) H Q I ht) (fun u s1 z => ?_) fun e s1 z => z)
  obtain ⟨v, H1, J, rv, q⟩ := z
  exact ⟨v, H1, J.os, J.bare, J.base, J.hok, rv, q⟩
end
theorem Rel.withData {K : PySem.W.Frag} {f : Fr} {G H : Hp} {ps : List PV} {n : Nat} {vs cvs : List V} {cds : List PyData} (R : Rel K f G ⟨ps.map some, n⟩ (vs.map some) H) (hm : ∀ p ∈ ps, p.mut = false) (h : DpAll K G cvs cds) (m : Nat) :
    Rel K f G ⟨(ps ++ cds.map PV.dat).map some ++ List.replicate m none, n⟩ (vs.map some ++ (cvs.map some ++ List.replicate m none)) H := by
  have lv : vs.length = ps.length := by simpa using R.ln
  have lc : cvs.length = cds.length := h.len
  have sl : ∀ (i : Nat) (p : PV), ((ps ++ cds.map PV.dat).map some ++ List.replicate m none)[i]? = some (some p) → p.mut = false ∧ ∃ v : V, (vs.map some ++ (cvs.map some ++ List.replicate m none))[i]? = some (some v) ∧ VR K f G H p v := fun i p hi => by
    have h1 := start_at _ _ _ _ hi
    rw [List.getElem?_map] at h1
    obtain ⟨p0, h2, e⟩ := Option.map_eq_some_iff.mp h1
    cases e
    by_cases q : i < ps.length
    · rw [List.getElem?_append_left q] at h2
      obtain ⟨v, h3, h4⟩ := R.sl i p (by show (ps.map some)[i]? = _; rw [List.getElem?_map, h2]; rfl)
      exact ⟨hm p (List.mem_of_getElem? h2), v, by rw [List.getElem?_append_left (by simp; omega)]; exact h3, h4⟩
    · rw [List.getElem?_append_right (by omega), List.getElem?_map] at h2
      obtain ⟨d, h5, e⟩ := Option.map_eq_some_iff.mp h2
      cases e
      obtain ⟨v, h6, h7⟩ := DpAll.at h h5
      refine ⟨rfl, v, ?_, h7⟩
      rw [List.getElem?_append_right (by simp; omega), List.length_map, lv, List.getElem?_append_left (by rw [List.length_map]; exact (List.getElem?_eq_some_iff.mp h6).1), List.getElem?_map, h6]
      rfl
  exact { R with
    ln := by simp [lv, lc]
    sl := fun i p hi => (sl i p hi).2
    ds := fun i j p q v ne hi hj mp => by rw [(sl i p hi).1] at mp; cases mp }
def Lko (K : PySem.W.Frag) (W : WX) (w : World) (T : Tbs) (eo : Option Ent) (Z : HX) : Prop := ∀ (x : Str) (a : Addr) (s : Sg) (σ : L2.St) (G H : Hp) (F : Fr) (O : Addr → Prop), ClsN K x a → Rel K (fo (f1 w T eo) F O) G s σ H → Z x s → W (.ref a) none σ H
@[simp] def hCallV (i : Nat) (R : PySem.W.Frag → Hp → V → Prop) (np : Nat) (spc : HSpX) (Z : HX) (ta : HA) : HE := fun s C => s.sl[i]? = some (some (.abs R)) ∧ ta s fun ps s' => ps.length = np ∧ (∀ p ∈ ps, p.isD = false) ∧ spc (ps.map PV.arg) s'.n (fun p n' => (ps.any PV.mut = true → p.imm = true) ∧ C p ⟨s'.sl, n'⟩) (fun x n' => Z x ⟨s'.sl, n'⟩)
structure CloRule (X : Cx) (a : Str) (i : Nat) (T : Tbs) (R : PySem.W.Frag → Hp → V → Prop) (np : Nat) (spc : HSpX) : Prop where
  c1 : ∀ {pn : List (Addr × Obj)} {xe : Value → Shared → Prop} {W : WX} {eo : Option Ent} {Z : HX} {e : Expr} {es : List Expr} {ta : HA} {p pos : Pos}, Takes (X.tr pn xe) W → Lko X.K W X.w T eo Z → PA (X.tr pn xe) (e :: es) (lfA X.K (f1 X.w T eo) ta) →
    starEach (e :: es) X.env = (false, eval e X.env) :: starEach es X.env → (backTo pos (starEach es X.env)).any (·.1) = false → PE (X.tr pn xe) (.Call (.Name a p) (e :: es) [] pos) (lf X.K (f1 X.w T eo) (hCallV i R np spc Z ta))
  c0 : ∀ {pn : List (Addr × Obj)} {xe : Value → Shared → Prop} {W : WX} {eo : Option Ent} {Z : HX} {p pos : Pos}, Takes (X.tr pn xe) W → Lko X.K W X.w T eo Z → PE (X.tr pn xe) (.Call (.Name a p) [] [] pos) (lf X.K (f1 X.w T eo) (hCallV i R np spc Z hNil))
def spLam (m : Nat) (hb : HX → HE) (cds : List PyData) : HSpX := fun ps n C Z => hb (fun x s => Z x s.n) ⟨(ps ++ cds.map PV.dat).map some ++ List.replicate m none, n⟩ fun p s => C p s.n
section
variable {X : Cx} {T : Tbs} {L : Lam} {N ps fr : List Str} {k : Nat} {hb : HX → HE}
theorem lam_call {pn : List (Addr × Obj)} {xe : Value → Shared → Prop} {W : WX} {eo : Option Ent} {Z : HX} (hgd : X.A.guards = some []) (hr : Room (k + 1) X.A) (S : NScope N ps fr L.scope) (hbind : ∀ us : List Value, us.length = ps.length → bindArgs (PySem.W.kla_fn "<lambda>" L.q L.params L.body L.scope L.cl L.pm (.ref L.c) L.ctv) ⟨us, []⟩ = pure (ps.zip us))
    (C0 : CellsAt L.cl fr (L.cvs.map some) X.s_0.heap X.H_0) (nf : ∀ y c, L.cl.lookup y = some c → c ∉ X.fs) (nx : ∀ y c, L.cl.lookup y = some c → c ∉ X.ex)
    (body : ∀ (A : Around) (outer : List Env) (s : Shared) (H : Hp) (E : XK) (en : Ent) (Z : HX), (A.deeper (envF L.nf L.fa s.heap.objs.size)).guards = some [] → Room k (A.deeper (envF L.nf L.fa s.heap.objs.size)) → Takes (ncx (L2.CX X.prog X.w) X.prog X.w X.K X.mg X.base N L.nf L.fa A outer s H E) (fun cls d _ H => E cls d H) → Lk X.K (fun cls d _ H => E cls d H) X.w T en Z → PE (ncx (L2.CX X.prog X.w) X.prog X.w X.K X.mg X.base N L.nf L.fa A outer s H E) L.body (lf X.K (f1 X.w T (some en)) (hb Z)))
    (tk : Takes (X.tr pn xe) W) (lk : Lko X.K W X.w T eo Z) {pins : List (Addr × Obj)} {s : Shared} {σ : L2.St} {H : Hp} {us : List Value} {vs : List V} {pvs : List PV} {G : Hp} {sg : Sg} {F : Fr} {O : Addr → Prop} {Q : VK} {C : PV → Sg → Prop} (I : Inv (X.tr pn xe) pins σ H s) (r : Vals vs us)
    (R : Rel X.K (fo (f1 X.w T eo) F O) G sg σ H) (V1 : VRs X.K (fo (f1 X.w T eo) F O) G H pvs vs) (hL : lamR L X.K G (.ref L.fa)) (hk : pvs.length = ps.length) (hD : ∀ p ∈ pvs, p.isD = false)
    (hsp : spLam (N.length - ps.length - fr.length) hb L.cds (pvs.map PV.arg) sg.n (fun p n' => (pvs.any PV.mut = true → p.imm = true) ∧ C p ⟨sg.sl, n'⟩) (fun x n' => Z x ⟨sg.sl, n'⟩))
    (kk : ∀ p s' G' H' v, C p s' → Ex G G' → Rel X.K (fo (f1 X.w T eo) F O) G' s' σ H' → VRf X.K (fo (f1 X.w T eo) F O) G' H' s' σ p v → Q v H') :
    wpAny (model X.prog X.w) X.A (call (.ref L.fa) us) (EP (X.tr pn xe) pins σ Q) xe s := by
  obtain ⟨_, h1, h2, h3⟩ := hL
  have C2 : CellsAt L.cl fr (L.cvs.map some) s.heap H := NdefX.CellsAt.later (X := X.tr pn xe) C0 nf nx I
  obtain ⟨⟨on, m, l, c, fF, fO, fM, fr', fw, fT, fe⟩, Gc, x1, x2, x3, x4, x5, R', x6, x7, x8, back⟩ := spH_core (k := ps.length) R V1 hk hD
  have x1 : fw = X.w := x1
  have x2 : fT = T := x2
  have x3 : fe = none := x3
  subst x1 x2 x3
  let f' : Fr := ⟨on, m, l, c, fF, fO, fM, fr', X.w, fT, none⟩
  have hl : vs.length = ps.length := by
    have := Paired.length V1
    omega
  have hu : us.length = ps.length := by rw [← r.length]; exact hl
  have lc : L.cvs.length = fr.length := by
    have := C2.len
    simpa using this
  let en : Ent := entOf f' Gc
  have RL := R'.withData x6 (Dp.exAll x8 _ h3) (N.length - ps.length - fr.length)
  have RE := RL.re (some en) fun en2 q => by cases q; exact { (entOf_ok RL) with }
  have lkL : Lk X.K (fun cls d _ H => W cls d σ H) X.w fT en (fun x s1 => Z x ⟨sg.sl, s1.n⟩) := fun x a s1 σ1 G1 H1 F1 O1 hc R1 z => by
    obtain ⟨R2, e2⟩ := R1.ent
    obtain ⟨G2, e3, R3, _⟩ := back (.dat .none) s1.n G1 H1 .non (fun _ => rfl) e2 R2 .non
    exact lk x a _ σ G2 H1 F O hc R3 z
  have hgd2 : (X.A.deeper (envF L.nf L.fa s.heap.objs.size)).guards = some [] := guards_deeper X.A _ hgd
  have run := lam_run (CX := L2.CX X.prog X.w) (E := WE W σ) (Q := Q) (us := us) (vs := vs) S hr I.env0 (R.gh _ _ h1) (R.gh _ _ h2) C2 r hl (hbind us hu)
    (body X.A X.stack s H (WE W σ) en _ hgd2 (hr.deeper _) (takes_of rfl rfl rfl rfl) lkL)
  refine wpAny_call (codeAny_mono (run ?_) fun res s' hq => ?_)
  · refine ⟨f', f'.O, Gc, _, _, ?_, hsp, fun p s' G' H' v c e R2 V2 => ?_⟩
    · have es : startF N vs (L.cvs.map some) = vs.map some ++ (L.cvs.map some ++ List.replicate (N.length - ps.length - fr.length) none) := by
        unfold startF
        rw [hl, List.length_map, lc]
      rw [es]
      exact RE
    · have R3 : Rel X.K (en.fr X.w fT) G' ⟨[], s'.n⟩ [] H' := R2.ent.1
      obtain ⟨G2, e3, R4, V4⟩ := back p s'.n G' H' v c.1 e R3 (by cases p <;> exact V2.1)
      exact kk p _ G2 H' v c.2 e3 R4 V4
  · match res, hq with
    | .error e, hq => exact passAt tk σ pins H s e s' I hq
    | .ok (.ret u), hq => exact I.after hq
theorem fnAt_lam {σ : L2.St} {H : Hp} {pins : List (Addr × Obj)} {s : Shared} {Y : Cx} (I : Inv Y pins σ H s) (h : H L.fa = some (PinO L.fa L.obj)) : PySem.W.FnAt L.fa s.heap := ⟨_, _, _, _, pinO_at I.hok h⟩
theorem clo_rule {a : Str} {i : Nat} (hN : X.N[i]? = some a) (hv : Vis X.env.scope a) (hgd : X.A.guards = some []) (hr : Room (k + 1) X.A) (S : NScope N ps fr L.scope) (hbind : ∀ us : List Value, us.length = ps.length → bindArgs (PySem.W.kla_fn "<lambda>" L.q L.params L.body L.scope L.cl L.pm (.ref L.c) L.ctv) ⟨us, []⟩ = pure (ps.zip us))
    (C0 : CellsAt L.cl fr (L.cvs.map some) X.s_0.heap X.H_0) (nf : ∀ y c, L.cl.lookup y = some c → c ∉ X.fs) (nx : ∀ y c, L.cl.lookup y = some c → c ∉ X.ex)
    (body : ∀ (A : Around) (outer : List Env) (s : Shared) (H : Hp) (E : XK) (en : Ent) (Z : HX), (A.deeper (envF L.nf L.fa s.heap.objs.size)).guards = some [] → Room k (A.deeper (envF L.nf L.fa s.heap.objs.size)) → Takes (ncx (L2.CX X.prog X.w) X.prog X.w X.K X.mg X.base N L.nf L.fa A outer s H E) (fun cls d _ H => E cls d H) → Lk X.K (fun cls d _ H => E cls d H) X.w T en Z → PE (ncx (L2.CX X.prog X.w) X.prog X.w X.K X.mg X.base N L.nf L.fa A outer s H E) L.body (lf X.K (f1 X.w T (some en)) (hb Z)))
    (hd : (a == ("__debug__" : Str)) = false := by decide) (hcd : (a == ("__classdict__" : Str)) = false := by decide) : CloRule X a i T (lamR L) ps.length (spLam (N.length - ps.length - fr.length) hb L.cds) where
  c1 := fun {pn xe W eo Z e es ta p pos} tk lk ha he hpl => ⟨fun pins s σ H Q I q => by
    obtain ⟨F, O, G, sg, C, R, ⟨hi, hta⟩, kk⟩ := q
    obtain ⟨v0, hσ, V0⟩ := R.sl i _ hi
    have e0 : v0 = .ref L.fa := (V0 G (Ex.refl G)).1
    subst e0
    have nm := (pe_var (X := X.tr pn xe) (pos := p) (i := i) hN hv hd hcd).run pins s σ H (fun v H1 => v = .ref L.fa ∧ H1 = H) I ⟨.ref L.fa, hσ, rfl, rfl⟩
    refine wpAny_Call_Name_kw (thn nm fun u s1 w => ?_)
    obtain ⟨v1, H1, I1, r1, ev, eH⟩ := w
    subst ev eH
    obtain rfl : u = Value.ref L.fa := r1
    refine PySem.W.callWith_F (first := []) (fnAt_lam I1 (R.gh _ _ (V0 G (Ex.refl G)).2.1)) (thn (ha.run pos pins s1 σ _ (fun vs H2 => ∃ pvs sg2 G2, (pvs.length = ps.length ∧ (∀ p ∈ pvs, p.isD = false) ∧ spLam (N.length - ps.length - fr.length) hb L.cds (pvs.map PV.arg) sg2.n (fun p n' => (pvs.any PV.mut = true → p.imm = true) ∧ C p ⟨sg2.sl, n'⟩) (fun x n' => Z x ⟨sg2.sl, n'⟩)) ∧ Ex G G2 ∧ Rel X.K (fo (f1 X.w T eo) F O) G2 sg2 σ H2 ∧ VRs X.K (fo (f1 X.w T eo) F O) G2 H2 pvs vs) I1 ⟨F, O, G, sg, _, R, hta, fun pvs sg2 G2 H2 vs c2 e2 R2 V2 => ⟨pvs, sg2, G2, c2, e2, R2, V2⟩⟩) fun us s2 w => ?_) he hpl
    obtain ⟨vs, H2, I2, r, pvs, sg2, G2, ⟨c1, c2, c3⟩, e2, R2, V2⟩ := w
    have hL := V0 G2 e2
    exact ⟨fnAt_lam I2 (R2.gh _ _ hL.2.1), lam_call hgd hr S hbind C0 nf nx body tk lk I2 r R2 V2 hL c1 c2 c3 fun p s' G' H' v c e R3 V3 => kk p s' G' H' v c (e2.trans e) R3 V3⟩⟩
  c0 := fun {pn xe W eo Z p pos} tk lk => ⟨fun pins s σ H Q I q => by
    obtain ⟨F, O, G, sg, C, R, ⟨hi, hta⟩, kk⟩ := q
    obtain ⟨v0, hσ, V0⟩ := R.sl i _ hi
    have e0 : v0 = .ref L.fa := (V0 G (Ex.refl G)).1
    subst e0
    have nm := (pe_var (X := X.tr pn xe) (pos := p) (i := i) hN hv hd hcd).run pins s σ H (fun v H1 => v = .ref L.fa ∧ H1 = H) I ⟨.ref L.fa, hσ, rfl, rfl⟩
    refine wpAny_Call_Name_kw (thn nm fun u s1 w => ?_)
    obtain ⟨v1, H1, I1, r1, ev, eH⟩ := w
    subst ev eH
    obtain rfl : u = Value.ref L.fa := r1
    obtain ⟨c1, c2, c3⟩ := hta
    have hL := V0 G (Ex.refl G)
    refine PySem.W.callWith_F0 (first := []) (fnAt_lam I1 (R.gh _ _ hL.2.1)) ?_
    exact lam_call (pvs := []) (vs := []) (us := []) hgd hr S hbind C0 nf nx body tk lk I1 .nil R .nil hL c1 c2 c3 fun p s' G' H' v c e R3 V3 => kk p s' G' H' v c e R3 V3⟩
end
end Sk
set_option Elab.async false
set_option linter.all false
set_option maxRecDepth 100000
set_option maxHeartbeats 2000000
namespace Sk
open PySem PySem.Spec PyProof.Rows L2
open NdefX (NF CellsAt NScope ncx envF startF Caps slotAt)
open Evl (Ex)
section
variable {X : Cx} {pins : List (Addr × Obj)} {σ : L2.St} {H G : Hp} {s : Shared}
theorem Inv.track {a : Addr} {o : Obj} {h : HO} (I : Inv X pins σ H s) (ha : s.heap.get? a = some o) (na : H a = none) (nc : ∀ v, o.data ≠ .cell v) (nL : a ≠ X.env.locals) (n0 : X.s_0.heap.get? a = none) (np : ∀ p ∈ X.pn ++ pins, p.1 ≠ a) (ok : ObjOk X.prog X.w (upd H a h) s.heap a h) :
    Inv X pins σ (upd H a h) s where
  ok := I.ok
  os := I.os
  bare := I.bare
  base := {
    keep := I.base.keep
    slot := I.base.slot
    free := fun b u e n hx => by
      have ne : b ≠ a := fun z => by rw [z, n0] at e; cases e
      rw [upd_ne ne]
      exact I.base.free b u e n hx
    there := I.base.there
    tups := fun b xs e => by
      have e2 := I.base.tups b xs e
      rw [upd_ne (ne_of_none e2 na)]; exact e2
    frzs := fun b u v e => by
      have e2 := I.base.frzs b u v e
      rw [upd_ne (ne_of_none e2 na)]; exact e2
    tbls := fun b ps e => by
      obtain ⟨more, e2⟩ := I.base.tbls b ps e
      exact ⟨more, by rw [upd_ne (ne_of_none e2 na)]; exact e2⟩ }
  loc := I.loc
  cell := I.cell
  free := by rw [upd_ne nL.symm]; exact I.free
  freeC := fun y c e => by
    obtain ⟨v, ob, e1, e2⟩ := I.cell y c e
    have ne : c ≠ a := fun z => by
      rw [z, ha] at e1
      cases e1
      exact nc _ e2
    rw [upd_ne ne]
    exact I.freeC y c e
  pin := fun p hp => by
    obtain ⟨q1, q2, q3⟩ := I.pin p hp
    exact ⟨q1, by rw [upd_ne (np p hp)]; exact q2, q3⟩
  hok := fun b u e => by
    by_cases z : b = a
    · subst z
      rw [upd_same] at e
      cases e
      exact ok
    · rw [upd_ne z] at e
      exact (I.hok b u e).stay (fun c v _ q => q) (fun c q => by rw [upd_ne (ne_of_none q na)]; exact q) fun c xs q => by rw [upd_ne (ne_of_none q na)]; exact q
  len := I.len
theorem lam_make4 {P : Addr} {q : Str} {params : Arguments} {body : Expr} {scope : Scope} {pos : Pos} {E : Value → Shared → Prop} {Q : Value → Shared → Prop} (I : Inv X pins σ H s) (M : Mkr X P q) (hex : X.ex = []) (gh : Ex G H) (hT : TabOk G H P q) (hdef : defaultsOf params X.env = ([], [])) (fr : ∀ y ∈ scope.names, y.2 = .free → ∃ c, X.env.cells.lookup y.1 = some c)
    (h : ∀ (fa c' : Addr) (pm ctv : Value) (G1 H1 : Hp) (s' : Shared), LamStep P q G H G1 H1 → H1 fa = none → G1 c' = some (LamX.CodeO c' q) → Inv X pins σ (upd H1 fa (PinO fa (PySem.W.kla_obj "<lambda>" q params body scope (cloFrom X.env.cells scope.names []) pm c' ctv))) s' → Q (.ref fa) s') :
    wpAny (model X.prog X.w) X.A (eval (.Lambda params body scope pos) X.env) Q E s := by
  obtain ⟨c, TB, hcode⟩ := M.ex
  obtain rfl := M.qu
  obtain ⟨ps, hP, ht, ha⟩ := hT
  refine PySem.W.kla_eval hdef ?_
  have bP : s.heap.BuiltinsAt X.mg P := TB.bm.keeps I.bk
  have hP' : s.heap.get? P = some { cls := .none, data := .fields ps } := I.hok P _ hP
  -- the object made is new
  have fin : ∀ {fa c' : Addr} {pm ctv : Value} {G1 H1 : Hp} {s' : Shared}, Inv X pins σ H1 s' → LamStep P (X.env.qual ++ "<lambda>") G H G1 H1 → s.heap.get? fa = none → H1 fa = none → G1 c' = some (LamX.CodeO c' (X.env.qual ++ "<lambda>")) → s'.heap.get? fa = some (PySem.W.kla_obj "<lambda>" (X.env.qual ++ "<lambda>") params body scope (cloFrom X.env.cells scope.names []) pm c' ctv) → Q (.ref fa) s' := fun {fa c' pm ctv G1 H1 s'} I1 st n1 n2 hc hf => by
    refine h fa c' pm ctv G1 H1 s' st n2 hc (Inv.track I1 hf n2 (fun v z => by cases z) (fun z => ?_) ?_ (fun p hp z => ?_) ⟨hf, ⟨_, hf⟩, fun h1 h2 w k => k _ w⟩)
    · obtain ⟨m, ⟨o, es, ep, ho, _⟩, _⟩ := I.loc
      rw [z, ho] at n1; cases n1
    · cases e : X.s_0.heap.get? fa with
      | none => rfl
      | some o =>
        obtain ⟨o2, e2⟩ := I.base.there fa o e (by rw [hex]; exact List.not_mem_nil)
        rw [n1] at e2; cases e2
    · have := (I.pin p hp).1
      rw [z, n1] at this; cases this
  cases hc : codeAmong pos ps.toList with
  | none =>
    refine PySem.W.kla_makeFunction (mg := X.mg) (c := c) (P := P) (ps := ps) (closure_ok fr) I.ok.glob (I.mod.glob.keeps I.bk) hcode (TB.code.keeps I.bk) hP' ht hc TB.gP bP fun c' ctv h' tk hx hge hlt hrec htb => ?_
    obtain ⟨c2, oc, vs, t, e2, hoc, hd, hv⟩ := hrec
    cases e2
    have nC : H c' = none := I.hok.fresh hge
    have I1 := LamX.inv_table (t' := tk) (more := #[rawInt pos.line, rawInt pos.col, .ref c']) (h' := h'.push (PySem.W.kla_obj "<lambda>" (X.env.qual ++ "<lambda>") params body scope (cloFrom X.env.cells scope.names []) ((X.mg "__name__").getD .none) c' ctv)) I hP
      (fun b o hb e => Heap.get?_push_of_some _ (hx b o hb e)) (Heap.get?_push_of_some _ htb) hge ⟨oc, vs, t, Heap.get?_push_of_some _ hoc, hd, hv⟩
    have eL : (ps ++ #[rawInt pos.line, rawInt pos.col, .ref c']).toList = ps.toList ++ [rawInt pos.line, rawInt pos.col, .ref c'] := by simp
    have gc : G c' = none := Evl.fresh_back gh nC
    have nf : s.heap.get? h'.objs.size = none := Heap.get?_none_of_le (Nat.le_trans hge (Nat.le_of_lt hlt))
    refine fin I1 (.inr ⟨ps, _, c', hP, nC, rfl, rfl, _, by rw [upd_ne (ne_of_none hP nC), upd_same], by rw [eL]; exact PySem.TriplesOk_snoc _ _ _ _ ht, fun p' cv hcv => ?_⟩) nf ?_ upd_same (Heap.get?_push_size _ rfl)
    · rw [eL] at hcv
      rcases LamX.among_app _ ht hcv with z | z
      · obtain ⟨c0, e1, e2⟩ := ha p' cv z
        exact ⟨c0, e1, by rw [upd_ne (ne_of_none e2 gc)]; exact e2⟩
      · exact ⟨c', z, upd_same⟩
    · have n1 : H h'.objs.size = none := I.hok.fresh (Nat.le_trans hge (Nat.le_of_lt hlt))
      rw [upd_ne (Nat.ne_of_gt hlt), upd_ne (fun z => by rw [z, hP] at n1; cases n1)]
      exact n1
  | some cv =>
    obtain ⟨c', e, hco⟩ := ha pos cv hc
    subst e
    refine PySem.W.kla_makeFunctionHit (mg := X.mg) (c := c) (P := P) (ps := ps) (closure_ok fr) I.ok.glob (I.mod.glob.keeps I.bk) hcode (TB.code.keeps I.bk) hP' ht hc bP fun ctv h' tk hx hsz => ?_
    exact fin (I.kept fun b o e => Heap.get?_push_of_some _ (hx b o e)) (.inl ⟨rfl, rfl⟩) (Heap.get?_none_of_le hsz) (I.hok.fresh hsz) hco (Heap.get?_push_size _ rfl)
end
structure HasC (P : Program) (w : World) (T : Tbs) (K : PySem.W.Frag) (mg : Str → Option Value) (base : Heap) (k : Nat) (x : Str) (n np : Nat) (spC : (PySem.W.Frag → Hp → V → Prop) → HSpX → HSpX) : Prop where
  ex : ∃ (z : Str) (ga : Addr) (fd : FuncData) (ps N : List Str) (sc : Scope) (cdv : Value) (a : Str) (i : Nat), ps.length = n ∧ mg x = some (.ref ga) ∧ PySem.W.keepIn K (.ref ga) = true ∧ Binds K fd ps [] ∧ N[i]? = some a ∧ Vis sc a ∧ (a == ("__debug__" : Str)) = false ∧ (a == ("__classdict__" : Str)) = false ∧
    ∀ {A : Around} {outer : List Env} {s : Shared} {H : Hp} {args : Args} {us : List Value} {vs : List V} {R : PySem.W.Frag → Hp → V → Prop} {spc : HSpX} {Q : VK} {E : XK}, A.guards = some [] → Room k A → Env0 P w K mg base A outer s H → BindsTo s fd args (ps.zip us) → Vals vs us →
      CloRule (cxOf (L2.CX P w) P w K mg base N z sc ga cdv A outer s H E) a i T R np spc → SpHX K w T n (spC R spc) vs H Q E → codeAny (model P w) A (.call (.ref ga) args) (CR (L2.CX P w) outer P w H s Q E) s
theorem HasC.mk' {P : Program} {w : World} {T : Tbs} {K : PySem.W.Frag} {mg : Str → Option Value} {base : Heap} {k i np : Nat} {fa : Addr} {fd : FuncData} {x y a : Str} {st : Stmt} {N ps : List Str} {hs : (PySem.W.Frag → Hp → V → Prop) → HSpX → HX → HS} {spC : (PySem.W.Frag → Hp → V → Prop) → HSpX → HSpX} (Fn : Fun K x x st fa fd) (hm : mg y = some (.ref fa)) (b : Binds K fd ps []) (S : FnScope N ps (defScope st)) (hN : N[i]? = some a) (hv : Vis (defScope st) a)
    (body : ∀ (cdv : Value), fd.code = cdv → ∀ (A : Around) (outer : List Env) (s : Shared) (H : Hp) (E : XK) (en : Ent) (Z : HX) (R : PySem.W.Frag → Hp → V → Prop) (spc : HSpX), (A.deeper (envOfC x (defScope st) s.heap.objs.size fa cdv)).guards = some [] → Room k (A.deeper (envOfC x (defScope st) s.heap.objs.size fa cdv)) →
      Takes (cxOf (L2.CX P w) P w K mg base N x (defScope st) fa cdv A outer s H E) (fun cls d _ H => E cls d H) → Lk K (fun cls d _ H => E cls d H) w T en Z → CloRule (cxOf (L2.CX P w) P w K mg base N x (defScope st) fa cdv A outer s H E) a i T R np spc → PSs (cxOf (L2.CX P w) P w K mg base N x (defScope st) fa cdv A outer s H E) (defBody st) (lfS K (f1 w T (some en)) (hs R spc Z)))
    (rd : ∀ R spc pvs n C Z, pvs.length = ps.length → spC R spc pvs n C Z → hs R spc (fun x s => Z x s.n) ⟨fun s => C (.dat .none) s.n, fun p s => C p s.n, fun _ => False, fun _ => False⟩ ⟨pvs.map some ++ List.replicate (N.length - pvs.length) none, n⟩)
    (hd : (a == ("__debug__" : Str)) = false := by decide) (hcd : (a == ("__classdict__" : Str)) = false := by decide) : HasC P w T K mg base (k + 1) y ps.length np spC := by
  obtain ⟨oc, od, kV, doc, pm, an, cdv, ct, osl, efd, lk, hcd0⟩ := Fn.ex
  subst efd
  refine ⟨x, fa, _, ps, N, defScope st, cdv, a, i, rfl, hm, Fn.kp, b, hN, hv, hd, hcd, fun {A outer s H args us vs R spc Q E} hgd hr e0 hb r rule hsp => ?_⟩
  have hl := valsX_len _ _ _ _ hsp
  have hin : K.In s.heap := e0.mod.kin.keeps fun b o e => (e0.bs b o e).1
  have hlim : s.heap.NoLimit := e0.mod.nolimit.keeps fun b o e => (e0.bs b o e).1
  refine codeAny_call_function hr.depth (hin _ _ lk) rfl S.co S.gen rfl (PySem.W.codeRec_of hin hcd0) (hb _ _ _ _ ?_)
  refine wpAny_newFunctionEnv_cells S.kind (fun y hy => ?_) fun env he s1 hx => ?_
  · rcases S.par y.1 (List.of_mem_zip (show (y.1, y.2) ∈ ps.zip us from hy)).1 with q | q
    · exact Or.inl q
    · exact Or.inr ⟨q, PySem.W.cellsFrom_some _ _ _ (Or.inl q)⟩
  subst he
  refine ⟨hlim.keeps hx.toInCall.keep, codeAny_func ?_⟩
  obtain ⟨⟨on, m, l, c, fF, fO, fM, fr, fw, fT, fe⟩, G, n, pvs, C, Z, hw, hT, he, hF, hM, Rl, hmu, hk, hsp2, kn, kx⟩ := hsp
  have hw : fw = w := hw
  have hT : fT = T := hT
  have he : fe = none := he
  subst hw hT he
  let f : Fr := ⟨on, m, l, c, fF, fO, fM, fr, fw, fT, none⟩
  have Rl : Rel K f G ⟨pvs.map some, n⟩ (vs.map some) H := Rl
  have lnv : vs.length = pvs.length := by
    have := Rl.ln
    simpa using this
  have lkx : Lk K (fun cls d _ H => E cls d H) fw fT (entOf f G) (fun x s => Z x s.n) := fun x a s1 σ1 G1 H1 F O hc R1 z => by
    obtain ⟨R2, e2⟩ := R1.ent
    exact kx x a _ G1 H1 z hc e2 R2
  have ht := body cdv rfl A outer s H E (entOf f G) (fun x s => Z x s.n) R spc (guards_deeper A _ hgd) (hr.deeper _) (takes_of rfl rfl rfl rfl) lkx rule
  have I := inv_start (CX := L2.CX P fw) (E := E) (qual := x) (f := fa) (cd := cdv) S hr.hd e0 hl r hx
  have R5 := Rl.re (some (entOf f G)) fun en q => by
    cases q
    exact entOf_ok Rl
  have q0 : (lfS K (f1 fw fT (some (entOf f G))) (hs R spc fun x s => Z x s.n)) { nx := fun _ H' => Q .non H', rt := Q } (start N vs) H := by
    refine ⟨f, fO, G, ⟨pvs.map some ++ List.replicate (N.length - pvs.length) none, n⟩, _, ?_, rd R spc pvs n C Z hk hsp2, ⟨fun G1 s1 σ1 H1 e1 R1 c => ?_, fun p G1 s1 σ1 H1 v e1 R1 V1 c => ?_, fun _ _ _ _ _ _ z => z.elim, fun _ _ _ _ _ _ z => z.elim⟩⟩
    · show Rel K { f with e := some (entOf f G) } G ⟨_, n⟩ (L2.start N vs) H
      exact { R5 with
        ln := by simp [L2.start, lnv]
        sl := fun i p h => by
          obtain ⟨v, h1, h2⟩ := R5.sl i p (start_at _ _ _ _ h)
          exact ⟨v, start_up _ _ _ _ h1, h2⟩
        ds := fun i j p q v ne hi _ mp => by
          have h1 := start_at _ _ _ _ hi
          rw [List.getElem?_map] at h1
          obtain ⟨p0, h2, e⟩ := Option.map_eq_some_iff.mp h1
          cases e
          have := hmu _ (List.mem_of_getElem? h2)
          rw [this] at mp
          cases mp }
    · exact kn _ _ _ _ _ c e1 R1.ent.1 .non
    · exact kn _ _ _ _ _ c e1 R1.ent.1 (by cases p <;> exact V1.1)
  have ret : ∀ {σ' : L2.St} {H' : Hp} {v : V} {u : Value} {s' : Shared}, Inv (cxOf (L2.CX P fw) P fw K mg base N x (defScope st) fa cdv A outer s H E) [] σ' H' s' → RelV v u → Q v H' → CE outer P fw H s Q u s' :=
    fun J rv q => ⟨_, _, J.os, J.bare, J.base, J.hok, rv, q⟩
  refine wpAny_mono (ht.run [] s1 (start N vs) H _ I q0) (fun fl s' w => ?_) fun e s' w => w
  match fl, w with
  | .ret u, ⟨v, σ', H', J, rv, q⟩ => exact ret J rv q
  | .next, ⟨σ', H', J, q⟩ => exact ret (v := V.non) (u := Value.none) J rfl q
  | .brk, ⟨_, _, _, q⟩ => exact q.elim
  | .cont, ⟨_, _, _, q⟩ => exact q.elim
end Sk
set_option Elab.async false
set_option linter.all false
set_option maxRecDepth 100000
set_option maxHeartbeats 2000000
namespace Sk
open PySem PySem.Spec PyProof.Rows L2
open NdefX (NF CellsAt NScope ncx envF startF Caps slotAt)
open Evl (Ex)
@[simp] def caps : List Nat → List (Option PV) → Option (List PyData)
  | [], _ => some []
  | j :: js, sl => match sl[j]? with
    | some (some (.dat d)) => (caps js sl).map (d :: ·)
    | _ => none
theorem caps_vals {K : PySem.W.Frag} {f : Fr} {G H : Hp} {s : Sg} {σ : L2.St} (R : Rel K f G s σ H) : ∀ {js : List Nat} {cds : List PyData}, caps js s.sl = some cds → ∃ cvs : List V, js.map (slotAt σ) = cvs.map some ∧ DpAll K G cvs cds
  | [], cds, h => by
    cases h
    exact ⟨[], rfl, .nil⟩
  | j :: js, cds, h => by
    unfold caps at h
    split at h
    · rename_i d hd
      obtain ⟨ds, h1, rfl⟩ := Option.map_eq_some_iff.mp h
      obtain ⟨cvs, h2, h3⟩ := caps_vals R h1
      obtain ⟨v, h4, h5⟩ := R.sl j _ hd
      exact ⟨v :: cvs, by rw [List.map_cons, List.map_cons, h2, NdefX.slotAt_of h4], .cons h5 h3⟩
    · cases h
section
variable {X : Cx} {T : Tbs} {eo : Option Ent} {W : WX} {Z : HX} {k kc n np : Nat} {x q : Str} {P : Addr} {spC : (PySem.W.Frag → Hp → V → Prop) → HSpX → HSpX} {N ps fr : List Str} {js : List Nat} {params : Arguments} {body : Expr} {scope : Scope} {hb : HX → HE}
structure LamOk (X : Cx) (T : Tbs) (P : Addr) (q : Str) (kc : Nat) (N ps fr : List Str) (js : List Nat) (params : Arguments) (body : Expr) (scope : Scope) (hb : HX → HE) : Prop where
  mkr : Mkr X P q
  mT : (P, q) ∈ T
  uT : ∀ p ∈ T, p.1 = P → p.2 = q
  df : defaultsOf params X.env = ([], [])
  S : NScope N ps fr scope
  fk : ∀ y ∈ scope.names, y.2 = .free → X.env.scope.names.lookup y.1 = some .cell ∨ X.env.scope.names.lookup y.1 = some .free
  ff : ∀ y ∈ fr, (y, NameKind.free) ∈ scope.names
  at_ : js.map (fun j => X.N[j]?) = fr.map some
  bind : ∀ (cl : List (Str × Addr)) (pm : Value) (c : Addr) (ctv : Value) (us : List Value), us.length = ps.length → bindArgs (PySem.W.kla_fn "<lambda>" q params body scope cl pm (.ref c) ctv) ⟨us, []⟩ = pure (ps.zip us)
  body : ∀ (fa c : Addr) (cl : List (Str × Addr)) (pm ctv : Value) (cvs : List V) (cds : List PyData) (A : Around) (outer : List Env) (s : Shared) (H : Hp) (E : XK) (en : Ent) (Z : HX), (A.deeper (envF (Lam.nf ⟨fa, c, q, params, body, scope, cl, pm, ctv, cvs, cds⟩) fa s.heap.objs.size)).guards = some [] → Room kc (A.deeper (envF (Lam.nf ⟨fa, c, q, params, body, scope, cl, pm, ctv, cvs, cds⟩) fa s.heap.objs.size)) →
    Takes (ncx (L2.CX X.prog X.w) X.prog X.w X.K X.mg X.base N (Lam.nf ⟨fa, c, q, params, body, scope, cl, pm, ctv, cvs, cds⟩) fa A outer s H E) (fun cls d _ H => E cls d H) → Lk X.K (fun cls d _ H => E cls d H) X.w T en Z → PE (ncx (L2.CX X.prog X.w) X.prog X.w X.K X.mg X.base N (Lam.nf ⟨fa, c, q, params, body, scope, cl, pm, ctv, cvs, cds⟩) fa A outer s H E) body (lf X.K (f1 X.w T (some en)) (hb Z))
def tLamMk (X : Cx) (P : Addr) (q : Str) (params : Arguments) (body : Expr) (scope : Scope) : TE := fun σ H Q => ∃ G, Ex G H ∧ TabOk G H P q ∧ ∀ (fa c : Addr) (pm ctv : Value) (G1 H1 : Hp), LamStep P q G H G1 H1 → H1 fa = none → G1 c = some (LamX.CodeO c q) → Q (.ref fa) (upd H1 fa (PinO fa (PySem.W.kla_obj "<lambda>" q params body scope (cloFrom X.env.cells scope.names []) pm c ctv)))
theorem pe_lamMk {pos : Pos} (hex : X.ex = []) (L : LamOk X T P q kc N ps fr js params body scope hb) : PE X (.Lambda params body scope pos) (tLamMk X P q params body scope) := ⟨fun pins s σ H Q I w => by
  obtain ⟨G, gh, hT, w⟩ := w
  refine lam_make4 I L.mkr hex gh hT L.df (fun y hy e => (L.fk y hy e).elim (fun z => I.ok.has _ (.inl z)) fun z => I.ok.has _ (.inr z)) fun fa c pm ctv G1 H1 s1 st n1 hc I1 => ?_
  exact ⟨.ref fa, _, I1, rfl, w fa c pm ctv G1 H1 st n1 hc⟩⟩
theorem cells_nf {pins : List (Addr × Obj)} {σ : L2.St} {H : Hp} {s : Shared} (I : Inv X pins σ H s) (hfn : X.fn = fun _ => true) (hst : X.stack = X.env :: X.outer) (hfr : X.env.frame = some X.env.locals) {y : Str} {c : Addr} (e : X.env.cells.lookup y = some c) : c ∉ frs X.stack := fun hm => by
  rw [hst] at hm
  obtain ⟨en, he, q⟩ := List.mem_filterMap.mp hm
  rcases List.mem_cons.mp he with rfl | he
  · rw [hfr] at q
    cases q
    exact I.cne y _ e rfl
  · obtain ⟨_, o, ho, _⟩ := I.ok.funs.mem (List.mem_filterMap.mpr ⟨en, he, q⟩)
    have h1 := Heap.lt_size ho
    have h2 := I.ok.cab y c (by rw [hfn]) e
    exact absurd h2 (Nat.not_le.mpr h1)
theorem callC_run {pn : List (Addr × Obj)} (h : HasC X.prog X.w T X.K X.mg X.base k x n ps.length spC) (L : LamOk X T P q kc N ps fr js params body scope hb) (tk : Takes X W) (lk : Lko X.K W X.w T eo Z) (hgd : X.A.guards = some []) (hr : Room k X.A) (hkc : kc + 2 ≤ k) (hex : X.ex = []) (hfn : X.fn = fun _ => true) (hst : X.stack = X.env :: X.outer) (hfr : X.env.frame = some X.env.locals)
    {pins : List (Addr × Obj)} {s : Shared} {σ : L2.St} {H : Hp} {us : List Value} {vs : List V} {pvs : List PV} {G : Hp} {sg : Sg} {F : Fr} {O : Addr → Prop} {Q : VK} {C : PV → Sg → Prop} {fa c ga : Addr} {pm ctv u : Value} {cds : List PyData} (hga : X.mg x = some (.ref ga))
    (I : Inv X pins σ H s) (r : Vals (vs ++ [.ref fa]) us) (R : Rel X.K (fo (f1 X.w T eo) F O) G sg σ H) (V1 : VRs X.K (fo (f1 X.w T eo) F O) G H pvs vs) (hm : ∀ p ∈ pvs, p.mut = false ∧ p.isD = false) (hl : pvs.length + 1 = n)
    (h1 : G fa = some (PinO fa (PySem.W.kla_obj "<lambda>" q params body scope (cloFrom X.env.cells scope.names []) pm c ctv))) (h2 : G c = some (LamX.CodeO c q)) (hcap : caps js sg.sl = some cds)
    (hsp : ∀ R, spC R (spLam (N.length - ps.length - fr.length) hb cds) (pvs.map PV.arg ++ [.abs R]) sg.n (fun p n' => C p ⟨sg.sl, n'⟩) (fun x n' => Z x ⟨sg.sl, n'⟩))
    (kk : ∀ p s' G' H' v, C p s' → Ex G G' → Rel X.K (fo (f1 X.w T eo) F O) G' s' σ H' → VRf X.K (fo (f1 X.w T eo) F O) G' H' s' σ p v → Q v H') :
    wpAny (model X.prog X.w) X.A (call (.ref ga) us) (EP X pins σ Q) X.xe s := by
  obtain ⟨zq, ga2, fd, gps, gN, sc, cdv, a, i, hgl, hm2, _, hbi, hN, hv, hd1, hd2, go⟩ := h.ex
  rw [hga] at hm2
  cases hm2
  obtain ⟨cvs, hcv, hdp⟩ := caps_vals R hcap
  let Lm : Lam := ⟨fa, c, q, params, body, scope, cloFrom X.env.cells scope.names [], pm, ctv, cvs, cds⟩
  have cap : Caps X (cloFrom X.env.cells scope.names []) fr js := Caps.made I.ok L.fk L.ff L.at_
  have C0 : CellsAt (cloFrom X.env.cells scope.names []) fr (cvs.map some) s.heap H := by
    rw [← hcv]
    exact NdefX.cells_of I cap
  have hr2 : Room (kc + 2) X.A := hr.mono hkc
  have rule : CloRule (cxOf (L2.CX X.prog X.w) X.prog X.w X.K X.mg X.base gN zq sc ga cdv X.A X.stack s H (WE W σ)) a i T (lamR Lm) ps.length (spLam (N.length - ps.length - fr.length) hb cds) :=
    clo_rule (X := cxOf (L2.CX X.prog X.w) X.prog X.w X.K X.mg X.base gN zq sc ga cdv X.A X.stack s H (WE W σ)) (L := Lm) (k := kc) hN hv (guards_deeper X.A _ hgd) (hr2.deeper _) L.S (fun us h => L.bind _ _ _ _ us h) C0 (fun y c e => cells_nf I hfn hst hfr (cap.sub y c e)) (fun y c e z => by cases z)
      (fun A outer s H E en Z g1 g2 g3 g4 => L.body fa c _ pm ctv cvs cds A outer s H E en Z g1 g2 g3 g4) hd1 hd2
  have VA : VR X.K (fo (f1 X.w T eo) F O) G H (.abs (lamR Lm)) (.ref fa) := fun G2 e => ⟨rfl, e _ _ h1, e _ _ h2, Dp.exAll e _ hdp⟩
  have VS : VRs X.K (fo (f1 X.w T eo) F O) G H (pvs ++ [.abs (lamR Lm)]) (vs ++ [.ref fa]) := by
    have key : ∀ {pvs : List PV} {vs : List V}, VRs X.K (fo (f1 X.w T eo) F O) G H pvs vs → VRs X.K (fo (f1 X.w T eo) F O) G H (pvs ++ [.abs (lamR Lm)]) (vs ++ [.ref fa]) := fun {pvs vs} h => by
      unfold VRs at *
      induction h with
      | nil => exact .cons VA .nil
      | cons a _ ih => exact .cons a ih
    exact key V1
  have hnm : (pvs ++ [PV.abs (lamR Lm)]).any PV.mut = false := by
    rw [List.any_eq_false]
    intro p hp
    rcases List.mem_append.mp hp with hp | hp
    · rw [(hm p hp).1]; simp
    · rw [List.mem_singleton.mp hp]
      show ¬ (false = true)
      simp
  obtain ⟨f', Gc, x1, x2, x3, x4, x5, R', x6, x7, _, back⟩ := spH_core (k := n) R VS (by rw [List.length_append, List.length_singleton]; exact hl) (fun p hp => by
    rcases List.mem_append.mp hp with hp | hp
    · exact (hm p hp).2
    · rw [List.mem_singleton.mp hp]; rfl)
  have sp : SpHX X.K X.w T n (spC (lamR Lm) (spLam (N.length - ps.length - fr.length) hb cds)) (vs ++ [.ref fa]) H Q (WE W σ) := by
    refine ⟨f', Gc, sg.n, _, (fun p n' => C p ⟨sg.sl, n'⟩), (fun y n' => Z y ⟨sg.sl, n'⟩), x1, x2, x3, x4, x5, R', x6, x7, ?_, fun p n' G' H' v c e R2 V2 => ?_, fun y a n' G' H' z hc e R2 => ?_⟩
    · rw [List.map_append]
      exact hsp (lamR Lm)
    · obtain ⟨G2, e2, R3, V3⟩ := back p n' G' H' v (fun z => by rw [hnm] at z; cases z) e R2 V2
      exact kk p _ G2 H' v c e2 R3 V3
    · obtain ⟨G2, e2, R3, _⟩ := back (.dat .none) n' G' H' .non (fun _ => rfl) e R2 .non
      exact lk y a _ σ G2 H' F O hc R3 z
  have hlu : (us ++ []).length = gps.length := by
    have l1 : vs.length = pvs.length := (Paired.length V1).symm
    rw [List.append_nil, ← r.length, List.length_append, List.length_singleton, hgl]
    omega
  have bb := hbi s us I.kIn hlu
  rw [List.append_nil] at bb
  refine wpAny_call (codeAny_mono (go hgd hr I.env0 bb r rule sp) fun res s' hq => ?_)
  match res, hq with
  | .error e, hq => exact passAt tk σ pins H s e s' I hq
  | .ok (.ret u), hq => exact I.after hq
@[simp] def hCallC0 (spC : (PySem.W.Frag → Hp → V → Prop) → HSpX → HSpX) (m : Nat) (js : List Nat) (hb : HX → HE) (Z : HX) : HE := fun s C => ∃ cds, caps js s.sl = some cds ∧ ∀ R, spC R (spLam m hb cds) [.abs R] s.n (fun p n' => C p ⟨s.sl, n'⟩) (fun x n' => Z x ⟨s.sl, n'⟩)
@[simp] def hCallC1 (spC : (PySem.W.Frag → Hp → V → Prop) → HSpX → HSpX) (m : Nat) (js : List Nat) (hb : HX → HE) (Z : HX) (te : HE) : HE := fun s C => te s fun p s1 => ∃ d, p.frz = some d ∧ ∃ cds, caps js s1.sl = some cds ∧ ∀ R, spC R (spLam m hb cds) [.dat d, .abs R] s1.n (fun p n' => C p ⟨s1.sl, n'⟩) (fun x n' => Z x ⟨s1.sl, n'⟩)
@[simp] def hFrzJ (j : Nat) (t : HE) : HE := fun s C => match s.sl[j]? with
  | some (some (.own ds)) => t (s.put j (.dat (.list ds))) C
  | _ => t s C
theorem lam_step {F : Fr} {O : Addr → Prop} {G H G1 H1 : Hp} {s : Sg} {σ : L2.St} {fa : Addr} {o : Obj} (hmT : (P, q) ∈ T) (huT : ∀ p ∈ T, p.1 = P → p.2 = q) (R : Rel X.K (fo (f1 X.w T eo) F O) G s σ H) (st : LamStep P q G H G1 H1) (n1 : H1 fa = none) :
    Rel X.K (fo (f1 X.w T eo) F O) (upd G1 fa (PinO fa o)) s σ (upd H1 fa (PinO fa o)) ∧ Ex G (upd G1 fa (PinO fa o)) ∧ Ex G1 (upd G1 fa (PinO fa o)) := by
  have g := st.g R.gh
  have R1 := R.lam hmT huT st
  exact ⟨R1.newG n1, g.trans (Evl.Ex.new (R1.gn n1)), Evl.Ex.new (R1.gn n1)⟩
theorem hp_callC0 {p lpos pos : Pos} (h : HasC X.prog X.w T X.K X.mg X.base k x 1 ps.length spC) (L : LamOk X T P q kc N ps fr js params body scope hb) (tk : Takes X W) (lk : Lko X.K W X.w T eo Z) (hgd : X.A.guards = some []) (hr : Room k X.A) (hkc : kc + 2 ≤ k) (hex : X.ex = []) (hfn : X.fn = fun _ => true) (hst : X.stack = X.env :: X.outer) (hfr : X.env.frame = some X.env.locals) (hg : Gl X x)
    (hdb : (x == ("__debug__" : Str)) = false := by decide) : PE X (.Call (.Name x p) [.Lambda params body scope lpos] [] pos) (lf X.K (f1 X.w T eo) (hCallC0 spC (N.length - ps.length - fr.length) js hb Z)) := ⟨fun pins s σ H Q I w => by
  obtain ⟨F, O, G, sg, C, R, ⟨cds, hcap, hsp⟩, kk⟩ := w
  obtain ⟨_, ga, _, _, _, _, _, _, _, _, hga, hkp, _⟩ := h.ex
  refine wpAny_Call_Name_kw (ld_glob I hg hga ?_ hdb)
  have ha := pa_cons (pe_lamMk (pos := lpos) hex L) pa_nil rfl
  refine PySem.W.callWith_K (h₀ := X.base) I.ok.mod.kin hkp (thn (ha.run pos pins s σ H (fun vs H2 => ∃ (fa c : Addr) (pm ctv : Value) (G2 : Hp), vs = [.ref fa] ∧ Ex G G2 ∧ Rel X.K (fo (f1 X.w T eo) F O) G2 sg σ H2 ∧ G2 fa = some (PinO fa (PySem.W.kla_obj "<lambda>" q params body scope (cloFrom X.env.cells scope.names []) pm c ctv)) ∧ G2 c = some (LamX.CodeO c q)) I ?_) fun us s2 w => ?_) rfl rfl
  · exact ⟨G, R.gh, R.tb _ L.mT, fun fa c pm ctv G1 H1 st n1 hc => by
      obtain ⟨R2, e1, e2⟩ := lam_step (o := PySem.W.kla_obj "<lambda>" q params body scope (cloFrom X.env.cells scope.names []) pm c ctv) L.mT L.uT R st n1
      exact ⟨fa, c, pm, ctv, _, rfl, e1, R2, upd_same, e2 _ _ hc⟩⟩
  · obtain ⟨vs, H2, I2, r, fa, c, pm, ctv, G2, rfl, e2, R2, g1, g2⟩ := w
    rw [List.nil_append]
    exact ⟨I2.kIn, callC_run (vs := []) (pvs := []) (u := .none) (pn := []) h L tk lk hgd hr hkc hex hfn hst hfr hga I2 r R2 .nil (fun _ h => by cases h) rfl g1 g2 hcap hsp fun p s' G' H' v c e R3 V3 => kk p s' G' H' v c (e2.trans e) R3 V3⟩⟩
end
end Sk
set_option Elab.async false
set_option linter.all false
set_option maxRecDepth 100000
set_option maxHeartbeats 2000000
namespace Sk
open PySem PySem.Spec PyProof.Rows L2
open NdefX (NF CellsAt NScope ncx envF startF Caps slotAt)
section
variable {X : Cx} {T : Tbs} {eo : Option Ent} {W : WX} {Z : HX} {k kc n np m : Nat} {x q : Str} {P : Addr} {spC : (PySem.W.Frag → Hp → V → Prop) → HSpX → HSpX} {N ps fr : List Str} {js : List Nat} {params : Arguments} {body : Expr} {scope : Scope} {hb : HX → HE}
theorem hc0 {p lpos pos : Pos} (tk : Takes X W) (lk : Lko X.K W X.w T eo Z) (hgd : X.A.guards = some []) (hr : Room k X.A) (hex : X.ex = []) (hfn : X.fn = fun _ => true) (hst : X.stack = X.env :: X.outer) (hfr : X.env.frame = some X.env.locals) (hg : Gl X x) (h : HasC X.prog X.w T X.K X.mg X.base k x 1 np spC) (hnp : ps.length = np) (hm : N.length - ps.length - fr.length = m) (hkc : kc + 2 ≤ k) (L : LamOk X T P q kc N ps fr js params body scope hb) 
    (hdb : (x == ("__debug__" : Str)) = false := by decide) : PE X (.Call (.Name x p) [.Lambda params body scope lpos] [] pos) (lf X.K (f1 X.w T eo) (hCallC0 spC m js hb Z)) := by
  subst hnp hm
  exact hp_callC0 h L tk lk hgd hr hkc hex hfn hst hfr hg hdb
end
end Sk
set_option Elab.async false
set_option linter.all false
set_option maxRecDepth 100000
set_option maxHeartbeats 2000000
namespace Sk
open PySem PySem.Spec PyProof.Rows L2
open PySem.W (Datum DatumOrd Tup T3 T4)
class KD (α : Type) [DecidableEq α] [Datum α] where
  inj : ∀ a b : α, keyN (Datum.toD a) = keyN (Datum.toD b) → a = b
  imm : ∀ a : α, imm (Datum.toD a) = true
  dep : Nat
  dle : ∀ a : α, (keyN (Datum.toD a)).depth ≤ dep
theorem keyNs_inj {α : Type} [DecidableEq α] [Datum α] [KD α] : ∀ {xs ys : List α}, keyNs (xs.map Datum.toD) = keyNs (ys.map Datum.toD) → xs = ys
  | [], [], _ => rfl
  | [], _ :: _, h => by simp [keyNs] at h
  | _ :: _, [], h => by simp [keyNs] at h
  | x :: xs, y :: ys, h => by
    simp only [List.map_cons, keyNs, List.cons.injEq] at h
    rw [KD.inj x y h.1, keyNs_inj h.2]
theorem immAll_D {α : Type} [DecidableEq α] [Datum α] [KD α] : ∀ xs : List α, immAll (xs.map Datum.toD) = true
  | [] => rfl
  | x :: xs => by rw [List.map_cons, immAll, KD.imm, immAll_D xs]; rfl
theorem depAll_D {α : Type} [DecidableEq α] [Datum α] [KD α] : ∀ xs : List α, NestedKey.depthAll (keyNs (xs.map Datum.toD)) ≤ KD.dep α
  | [] => Nat.zero_le _
  | x :: xs => by
    simp only [List.map_cons, keyNs, NestedKey.depthAll]
    exact Nat.max_le.mpr ⟨KD.dle x, depAll_D xs⟩
instance : KD Int where
  inj a b h := by cases h; rfl
  imm _ := rfl
  dep := 0
  dle _ := Nat.le_refl _
instance : KD Str where
  inj a b h := by cases h; rfl
  imm _ := rfl
  dep := 0
  dle _ := Nat.le_refl _
instance : KD Bool where
  inj a b h := by cases a <;> cases b <;> first | rfl | (simp [keyN, Datum.toD] at h)
  imm _ := rfl
  dep := 0
  dle a := by cases a <;> exact Nat.le_refl _
instance {α β : Type} [DecidableEq α] [Datum α] [DecidableEq β] [Datum β] [KD α] [KD β] : KD (α × β) where
  inj a b h := by
    have h : NestedKey.tup [keyN (Datum.toD a.1), keyN (Datum.toD a.2)] = NestedKey.tup [keyN (Datum.toD b.1), keyN (Datum.toD b.2)] := h
    injection h with h
    simp only [List.cons.injEq, and_true] at h
    exact Prod.ext (KD.inj _ _ h.1) (KD.inj _ _ h.2)
  imm a := by
    show (Sk.imm (Datum.toD a.1) && (Sk.imm (Datum.toD a.2) && true)) = true
    rw [KD.imm, KD.imm]; rfl
  dep := max (KD.dep α) (KD.dep β) + 1
  dle a := by
    show max (keyN (Datum.toD a.1)).depth (max (keyN (Datum.toD a.2)).depth 0) + 1 ≤ _
    have h1 := KD.dle a.1
    have h2 := KD.dle a.2
    omega
instance {α : Type} [DecidableEq α] [Datum α] [KD α] : KD (Tup α) where
  inj a b h := by
    have h : NestedKey.tup (keyNs (a.items.map Datum.toD)) = NestedKey.tup (keyNs (b.items.map Datum.toD)) := h
    injection h with h
    have := keyNs_inj h
    cases a; cases b
    simp at this
    rw [this]
  imm a := immAll_D a.items
  dep := KD.dep α + 1
  dle a := by
    show NestedKey.depthAll (keyNs (a.items.map Datum.toD)) + 1 ≤ _
    exact Nat.succ_le_succ (depAll_D a.items)
instance {α β γ : Type} [DecidableEq α] [Datum α] [DecidableEq β] [Datum β] [DecidableEq γ] [Datum γ] [KD α] [KD β] [KD γ] : KD (T3 α β γ) where
  inj a b h := by
    have h : NestedKey.tup [keyN (Datum.toD a.a), keyN (Datum.toD a.b), keyN (Datum.toD a.c)] = NestedKey.tup [keyN (Datum.toD b.a), keyN (Datum.toD b.b), keyN (Datum.toD b.c)] := h
    injection h with h
    simp only [List.cons.injEq, and_true] at h
    cases a; cases b
    simp only at h
    rw [KD.inj _ _ h.1, KD.inj _ _ h.2.1, KD.inj _ _ h.2.2]
  imm a := by
    show (Sk.imm (Datum.toD a.a) && (Sk.imm (Datum.toD a.b) && (Sk.imm (Datum.toD a.c) && true))) = true
    rw [KD.imm, KD.imm, KD.imm]; rfl
  dep := max (KD.dep α) (max (KD.dep β) (KD.dep γ)) + 1
  dle a := by
    show max (keyN (Datum.toD a.a)).depth (max (keyN (Datum.toD a.b)).depth (max (keyN (Datum.toD a.c)).depth 0)) + 1 ≤ _
    have h1 := KD.dle a.a
    have h2 := KD.dle a.b
    have h3 := KD.dle a.c
    omega
section
variable {α : Type} [DecidableEq α] [Datum α] [KD α]
def kvD (ms : List (α × PyData)) : List (PyData × PyData) := ms.map fun m => (Datum.toD m.1, m.2)
end
@[simp] theorem din_dcg {d : PyData} {kvs : List (PyData × PyData)} {neg : Bool} {C : PV → Prop} : dinGW neg [.dat d, .dcg kvs] C ↔ KeyOk d ∧ C (.dat (.bool (if neg then !(getG kvs d).isSome else (getG kvs d).isSome))) := by simp [dinGW, PV.dg]
@[simp] theorem din_dgf {d : PyData} {kvs : List (PyData × PyData)} {neg : Bool} {C : PV → Prop} : dinGW neg [.dat d, .dgf kvs] C ↔ KeyOk d ∧ C (.dat (.bool (if neg then !(getG kvs d).isSome else (getG kvs d).isSome))) := by simp [dinGW, PV.dg]
@[simp] theorem dget_dcg {d : PyData} {kvs : List (PyData × PyData)} {C : PV → Prop} : dgetGW [.dcg kvs, .dat d] C ↔ ∃ x, KeyOk d ∧ getG kvs d = some x ∧ C (.dat x) := by simp [dgetGW, PV.dg]
@[simp] theorem dget_dgf {d : PyData} {kvs : List (PyData × PyData)} {C : PV → Prop} : dgetGW [.dgf kvs, .dat d] C ↔ ∃ x, KeyOk d ∧ getG kvs d = some x ∧ C (.dat x) := by simp [dgetGW, PV.dg]
@[simp] theorem dg_dcg {kvs : List (PyData × PyData)} : PV.dg (.dcg kvs) = some kvs := rfl
@[simp] theorem dg_dgf {kvs : List (PyData × PyData)} : PV.dg (.dgf kvs) = some kvs := rfl
inductive Rch {α : Type} (B : α → Prop) (nx : α → List α) : α → Prop where
  | base {x : α} (h : B x) : Rch B nx x
  | step {x y : α} (h : Rch B nx x) (hy : y ∈ nx x) : Rch B nx y
structure WL {α : Type} (B : α → Prop) (nx : α → List α) (met wt : List α) : Prop where
  nd : met.Nodup
  mr : ∀ x ∈ met, Rch B nx x
  wr : ∀ x ∈ wt, Rch B nx x
  bs : ∀ x, B x → x ∈ met ∨ x ∈ wt
  cl : ∀ x ∈ met, ∀ y ∈ nx x, y ∈ met ∨ y ∈ wt
section
variable {α : Type} {B : α → Prop} {nx : α → List α} {met wt : List α} {e : α}
theorem WL.end (h : WL B nx met []) {x : α} : x ∈ met ↔ Rch B nx x := by
  constructor
  · exact h.mr x
  · intro r
    induction r with
    | base hb => exact (h.bs _ hb).resolve_right List.not_mem_nil
    | step _ hy ih => exact (h.cl _ ih _ hy).resolve_right List.not_mem_nil
theorem WL.go (h : WL B nx met (wt ++ [e])) (he : e ∉ met) : WL B nx (met ++ [e]) (wt ++ nx e) := by
  have re := h.wr e (by simp)
  have up : ∀ {x}, (x ∈ met ∨ x ∈ wt ++ [e]) → (x ∈ met ++ [e] ∨ x ∈ wt ++ nx e) := fun {x} q => by
    rcases q with q | q
    · exact Or.inl (List.mem_append.mpr (Or.inl q))
    · rcases List.mem_append.mp q with q | q
      · exact Or.inr (List.mem_append.mpr (Or.inl q))
      · rw [List.mem_singleton.mp q]; exact Or.inl (by simp)
  refine ⟨List.nodup_append.mpr ⟨h.nd, by simp, fun a ha b hb q => he (by rw [← List.mem_singleton.mp hb, ← q]; exact ha)⟩, fun x hx => ?_, fun x hx => ?_, fun x hx => up (h.bs x hx), fun x hx y hy => ?_⟩
  · rcases List.mem_append.mp hx with hx | hx
    · exact h.mr x hx
    · rw [List.mem_singleton.mp hx]; exact re
  · rcases List.mem_append.mp hx with hx | hx
    · exact h.wr x (List.mem_append.mpr (Or.inl hx))
    · exact .step re hx
  · rcases List.mem_append.mp hx with hx | hx
    · exact up (h.cl x hx y hy)
    · rw [List.mem_singleton.mp hx] at hy
      exact Or.inr (List.mem_append.mpr (Or.inr hy))
end
end Sk
set_option Elab.async false
set_option linter.all false
set_option maxRecDepth 100000
set_option maxHeartbeats 2000000
namespace Sk
open PySem PySem.Spec PyProof.Rows L2
open Evl (Ex)
@[simp] def gPL (i j : Nat) : HG := fun d s C => match d with
  | .list [a, b] => C ((s.put i (.dat a)).put j (.dat b))
  | _ => False
@[simp] def gTL (i j k : Nat) : HG := fun d s C => match d with
  | .list [a, b, c] => C (((s.put i (.dat a)).put j (.dat b)).put k (.dat c))
  | _ => False
section
variable {X : Cx} {f : Fr} {a : Expr} {i j l : Nat}
end
theorem lcs_n {α β : Type} {vs : List Nat} {g : HG} {t : HE} {sl : List (Option PV)} {P : β → Prop} {toD : β → PyData} {c N : Nat} (e : α → PyData) : ∀ (xs : List α) (acc : List PyData) (n : Nat) (C : PV → Sg → Prop),
    (∀ a ∈ xs, ∀ n, n ≤ N → ∀ K : PV → Sg → Prop, (∀ (b : β) (n' : Nat) (s3 : Sg), P b → n' ≤ n + c → s3.wipe vs = ⟨sl, n'⟩ → K (.dat (toD b)) s3) → g (e a) ⟨sl, n⟩ fun s1 => t s1 K) → n + c * xs.length ≤ N → acc.length + xs.length ≤ 100000 →
    (∀ (bs : List β) (n' : Nat), bs.length = xs.length → (∀ b ∈ bs, P b) → n' ≤ n + c * xs.length → C (.own (acc ++ bs.map toD)) ⟨sl, n'⟩) → lcs vs g hYes t (xs.map e) acc ⟨sl, n⟩ C := by
  intro xs
  induction xs with
  | nil => intro acc n C _ _ _ fin; simpa using fin [] n rfl (fun b h => by cases h) (by simp)
  | cons a xs ih =>
    intro acc n C h hN hl fin
    have hl' : acc.length + (xs.length + 1) ≤ 100000 := by simpa using hl
    have hN' : n + c * (xs.length + 1) ≤ N := by simpa using hN
    rw [Nat.mul_succ] at hN'
    show g (e a) ⟨sl, n⟩ fun s1 => hYes s1 fun b s2 => if b = true then t s2 fun p s3 => ∃ x, p.frz = some x ∧ acc.length < 100000 ∧ lcs vs g hYes t (xs.map e) (acc ++ [x]) (s3.wipe vs) C else lcs vs g hYes t (xs.map e) acc (s2.wipe vs) C
    refine h a List.mem_cons_self n (by omega) _ fun b n' s3 hb hn' hs => ⟨_, rfl, by omega, ?_⟩
    rw [hs]
    refine ih _ n' C (fun a' ha' => h a' (List.mem_cons_of_mem _ ha')) (by omega) (by simp; omega) fun bs n2 h1 h2 h3 => ?_
    have := fin (b :: bs) n2 (by simp [h1]) (fun x hx => by
      rcases List.mem_cons.mp hx with rfl | hx
      · exact hb
      · exact h2 x hx) (by simp only [List.length_cons, Nat.mul_succ]; omega)
    simpa using this
end Sk
set_option Elab.async false
set_option linter.all false
set_option maxRecDepth 100000
set_option maxHeartbeats 2000000
namespace Sk
open PySem PySem.Spec PyProof.Rows L2
open Evl (Ex)
@[simp] def inRW (neg : Bool) : List PV → (PV → Prop) → Prop := i2' fun i n => .bool (if neg then !decide (0 ≤ i ∧ i < n) else decide (0 ≤ i ∧ i < n))
section
variable {X : Cx} {f : Fr} {a b : Expr} {oa ob : HA → HA} {p q pos : Pos}
def addTW : List PV → (PV → Prop) → Prop := fun ps C => match ps with
  | [.dat (.tuple ds), .dat (.tuple es)] => ds.length + es.length ≤ 100000 ∧ C (.dat (.tuple (ds ++ es)))
  | _ => False
theorem op_addTW : Op X.K f (op2 (rCatA X.K)) addTW := fun F O G s σ H ps vs C Q R VV w k => by
  unfold addTW at w
  split at w
  · rename_i ds es
    cases VV with
    | cons v1 VV =>
      cases VV with
      | cons v2 VV =>
        cases VV
        have v1 : Dp X.K G _ (.tuple ds) := v1
        have v2 : Dp X.K G _ (.tuple es) := v2
        cases v1 with
        | tup h1 a1 =>
          cases v2 with
          | tup h2 a2 =>
            refine ⟨_, _, _, _, rfl, rfl, Evl.ex_t R.gh h1, Evl.ex_t R.gh h2, by rw [a1.len, a2.len]; exact Evl.sz_of w.1, fun e => ?_, fun _ e => ?_, fun _ _ p hp => k _ _ _ _ w.2 (Evl.Ex.new (R.gn hp)) (R.newG hp) (vrf_dat (.tup (Or.inl (Or.inl upd_same)) (Dp.exAll (Evl.Ex.new (R.gn hp)) _ (a1.append a2))))⟩
            · have : ds = [] := List.length_eq_zero_iff.mp (by rw [← a1.len, e]; rfl)
              subst this
              exact k _ _ _ _ w.2 (Ex.refl G) R (vrf_dat (.tup h2 a2))
            · have : es = [] := List.length_eq_zero_iff.mp (by rw [← a2.len, e]; rfl)
              subst this
              have w2 := w.2
              rw [List.append_nil] at w2
              exact k _ _ _ _ w2 (Ex.refl G) R (vrf_dat (.tup h1 a1))
  · exact w.elim
end
end Sk
set_option Elab.async false
set_option linter.all false
set_option maxRecDepth 100000
set_option maxHeartbeats 2000000
namespace Sk
open PySem PySem.Spec PyProof.Rows L2
section
variable {prog : Program} {w : World} {A : Around} {E : Value → Shared → Prop} {s : Shared}
abbrev IsZipF (h : Heap) (z TI TO : Addr) (f0 : Value) (f1 : Bool) : Prop :=
  h.get? z = some { cls := .type "zip", dict := none, data := .fields #[f0, .bool f1, .bool false, .ref TI, .ref TO], slots := #[] }
def F0 (v : Value) : Prop := v = .none ∨ ∃ T : Addr, v = rawInt T
end
@[simp] def hiZN (ta : HA) : HI := fun s C => ta s fun ps s1 => match ps with
  | [.dat (.tuple ds), .dat (.tuple es)] => C (zipD ds es) s1
  | _ => False
section
variable {X : Cx} {f : Fr} {a b : Expr} {r : HA}
end
end Sk
set_option Elab.async false
set_option linter.all false
set_option maxRecDepth 100000
set_option maxHeartbeats 2000000
namespace Sk
open PySem PySem.Spec PyProof.Rows L2
open Evl (Ex)
section
variable {X : Cx} {f : Fr} {a : Expr} {oa : HA → HA} {p q pos q1 q2 : Pos}
end
end Sk
namespace Sk
open PySem PySem.Spec PyProof.Rows L2
open Evl (Ex)
section
variable {X : Cx} {f : Fr} {tg e : Expr} {t : HE}
@[simp] def hiA (t : HE) : HI := fun s C => t s fun p s1 => match p.frz with
  | some (.list ds) => C ds s1
  | some (.tuple ds) => C ds s1
  | _ => False
end
end Sk
set_option Elab.async false
set_option linter.all false
set_option maxRecDepth 100000
set_option maxHeartbeats 1000000
namespace Sk
open PySem PySem.Spec PyProof.Rows L2
open Evl (Ex)
def rRepS (K : PySem.W.Frag) : R2 := fun x y H Q => ∃ l k xs, x = .ref l ∧ y = .int k ∧ SqT K H l xs ∧ xs ≠ [] ∧ 2 ≤ k ∧ k ≤ 100000 ∧ xs.length ≤ 10 ∧ ∀ p, H p = none → Q (.ref p) (upd H p (.tup (List.replicate k.toNat xs).flatten))
section
variable {X : Cx}
theorem op_repS : OpR X (binaryOp .Mult) (rRepS X.K) := by
  intro pins s σ H x y v u Q I rx ry h
  obtain ⟨l, k, xs, rfl, rfl, hT, hne, h1, h2, hz, q⟩ := h
  cases rx
  obtain ⟨t, rfl⟩ := ry
  obtain ⟨its, r, ⟨⟨cls, dd, data, sl⟩, ho, hc, n, hd⟩, hs⟩ := I.tuple hT
  simp only at hc hd
  subst hc hd
  have hle : its.length = xs.length := r.length.symm
  have hn : its ≠ [] := fun e => hne (List.eq_nil_of_length_eq_zero (by rw [← hle, e]; rfl))
  have hi : its.toArray.isEmpty = false := by
    cases its with
    | nil => exact absurd rfl hn
    | cons a b => rfl
  have hsz0 : its.toArray.size = xs.length := by rw [List.size_toArray, hle]
  have hm : ((its.toArray.size : Nat) : Int) * k ≤ 1000000 := by
    rw [hsz0]
    have a1 : ((xs.length : Nat) : Int) * k ≤ 10 * k := Int.mul_le_mul_of_nonneg_right (by omega) (by omega)
    omega
  have a2 : k.toNat * xs.length ≤ 100000 * 10 := Nat.mul_le_mul (by omega) hz
  have flen : (List.replicate k.toNat its).flatten.length ≤ sizeLine := by
    rw [PyProof.Rows.lm_len_rep_flat, hle, sizeLine_eq]
    omega
  have c0 : (decide (k < -(2 ^ 63)) || decide (k ≥ 2 ^ 63)) = false := by
    rw [decide_eq_false (by omega), decide_eq_false (by omega)] <;> rfl
  have c1 : (its.toArray.isEmpty || k == 1) = false := by
    rw [hi, Bool.false_or]
    exact beq_eq_false_iff_ne.mpr (by omega)
  have c2 : (decide (k ≤ 0) || its.toArray.isEmpty) = false := by
    rw [hi, Bool.or_false]
    exact decide_eq_false (by omega)
  have c4 : Builtin.Tuple.tupleTooMany (((its.toArray.size : Nat) : Int) * k) = false := by
    unfold Builtin.Tuple.tupleTooMany
    rw [sizeLine_eq]
    exact decide_eq_false (by omega)
  refine wpAny_binaryOp_repeat_ref (T := "tuple") (U := "int") (by decide) ⟨_, ho, rfl⟩ (fun s' => typeIs_int s' k t) noFill_tuple_mul PySem.F.fills_int_mul PySem.F.slot_int_rmul repeat_tuple PySem.F.slot_int_index.lookup
    (call_meets PySem.F.slot_int_rmul (typeIs_int s k t) PySem.F.entry_int_rmul (PySem.F.args_int_rmul_2 _ _) (int_rmul_tuple k t l its.toArray n dd sl)
      ⟨ho, rfl, ⟨_, ho, rfl⟩, call_meets PySem.F.slot_tuple_mul ⟨_, ho, rfl⟩ PySem.F.entry_tuple_mul (PySem.F.args_tuple_mul_2 _ _) (tuple_mulW l its.toArray n dd sl k t c0 c1 c2 (by omega) c4 (by rw [size_rep, List.size_toArray]; exact flen)) ⟨ho, ?_⟩⟩)
  rw [size_rep]
  refine ⟨.ref s.heap.objs.size, _, I.laid (t' := s.toks) (o := .tup (List.replicate k.toNat xs).flatten) (fun b ob q => Heap.get?_push_of_some _ q) (Nat.le_refl _) ?_, rfl, q _ (I.hok.fresh (Nat.le_refl _))⟩
  exact ⟨by rw [PyProof.Rows.lm_len_rep_flat, sizeLine_eq]; omega, _, r.rep k.toNat, IsTup.new _ _⟩
variable {f : Fr}
end
end Sk
set_option Elab.async false
set_option linter.all false
set_option maxRecDepth 100000
set_option maxHeartbeats 2000000
namespace Sk
open PySem PySem.Spec PyProof.Rows L2
open Evl (Ex)
section
variable {X : Cx} {f : Fr}
@[simp] def hUpdL (j : Nat) (t : HE) : HE := fun s C => (∃ kvs, s.sl[j]? = some (some (.dct kvs))) ∧ t s fun p s1 => ∃ ds more kvs, p.lst = some ds ∧ pairsD ds = some more ∧ s1.sl[j]? = some (some (.dct kvs)) ∧ kvs.length + more.length ≤ 100000 ∧ C (.dat .none) (s1.put j (.dct (mergeD kvs more)))
end
end Sk
namespace Sk
open PySem PySem.Spec PyProof.Rows L2
open PySem.W (Datum DatumOrd Tup T3 T4)
open Evl (Ex)
section
variable {X : Cx} {f : Fr}
end
end Sk
set_option Elab.async false
set_option linter.all false
set_option maxRecDepth 100000
set_option maxHeartbeats 2000000
namespace Sk
open PySem PySem.Spec PyProof.Rows L2
open Evl (Ex)
section
variable {X : Cx} {f : Fr}
end
end Sk
namespace Sk
open PySem PySem.Spec PyProof.Rows L2
open Evl (Ex)
open Sem (wp)
open AutoSeq1 (wpAny_loadPart')
section
variable {prog : Program} {w : World} {A : Around} {E : Value → Shared → Prop} {s : Shared}
end
section
variable {X : Cx} {f : Fr} {a : Expr} {r : HA} {pos : Pos}
@[simp] def hiET (ta : HA) : HI := fun s C => ta s fun ps s1 => match ps with
  | [.dat (.tuple ds)] => C (enumD 0 ds) s1
  | _ => False
end
end Sk
set_option Elab.async false
set_option linter.all false
set_option maxRecDepth 100000
set_option maxHeartbeats 2000000
namespace Sk
open PySem PySem.Spec PyProof.Rows L2
open PySem.W (Datum DatumOrd Tup T3 T4)
open Evl (Ex)
section
variable {w : World} {prog : Program} {A : Around} {E : Value → Shared → Prop} {d : Addr}
end
def flatV : List (V × V) → List V
  | [] => []
  | p :: r => p.1 :: p.2 :: flatV r
def flatD : List (PyData × PyData) → List PV
  | [] => []
  | p :: r => .dat p.1 :: .dat p.2 :: flatD r
structure PPh (X : Cx) (f : Fr) (pos : Pos) (keys : List (Option Expr)) (values : List Expr) (r : HA) : Prop where
  ex : ∃ trs, PPs X pos keys values trs ∧ ∀ σ H (Q : List V → Hp → Prop), lfA X.K f r σ H Q → tPairs trs σ H fun ps H' => Q (flatV ps) H'
@[simp] def hDispG (r : HA) : HE := fun s C => r s fun ps s1 => ∃ kvs, ps = flatD kvs ∧ (∀ kv ∈ kvs, KeyOk kv.1) ∧ kvs.length ≤ 15 ∧ C (.dcg (mergeDG [] kvs)) s1
section
variable {X : Cx} {f : Fr} {pos : Pos}
@[simp] def hParG (i j : Nat) (t u : HE) : HS := fun D s => t s fun p s1 => p.mut = false ∧ u s1 fun q s2 => D.nx ((s2.put i p).put j q)
end
end Sk
set_option Elab.async false
set_option linter.all false
set_option maxRecDepth 100000
set_option maxHeartbeats 2000000
namespace Sk
open PySem PySem.Spec PyProof.Rows L2
open PySem.W (Datum DatumOrd Tup T3 T4)
open Evl (Ex)
section
variable {P : Program} {w : World} {A : Around} {E : Value → Shared → Prop} {s : Shared}
end
section
variable {X : Cx} {f : Fr}
end
end Sk
set_option Elab.async false
set_option linter.all false
set_option maxRecDepth 100000
set_option maxHeartbeats 2000000
namespace Sk
open PySem PySem.Spec PyProof.Rows L2
open Evl (Ex)
section
variable {X : Cx} {f : Fr} {e a b c : Expr} {d d1 d2 : PyData} {pos : Pos} {k : Nat}
@[simp] def hPar3 (i j l : Nat) (p q r : PV) : HS := fun D s => i < s.sl.length ∧ j < s.sl.length ∧ l < s.sl.length ∧ D.nx (((s.put i p).put j q).put l r)
end
end Sk
set_option maxHeartbeats 4000000
namespace Sk
open PySem PySem.Spec PyProof.Rows L2
open PySem.W (Datum DatumOrd Tup T3 T4)
open Evl (Ex)
section
variable {X : Cx} {f : Fr}
def intW : List PV → (PV → Prop) → Prop := fun ps C => match ps with
  | [.dat (.bool b)] => C (.dat (.int (if b = true then 1 else 0)))
  | [.dat (.int i)] => C (.dat (.int i))
  | _ => False
@[simp] theorem int_bool {b : Bool} {C : PV → Prop} : intW [.dat (.bool b)] C ↔ C (.dat (.int (if b = true then 1 else 0))) := by simp [intW]
@[simp] theorem int_int {i : Int} {C : PV → Prop} : intW [.dat (.int i)] C ↔ C (.dat (.int i)) := by simp [intW]
@[simp] def hExtV (j i : Nat) : HE := fun s C => ∃ ds es, s.sl[j]? = some (some (.own ds)) ∧ s.sl[i]? = some (some (.own es)) ∧ ds.length + es.length ≤ 100000 ∧ C (.dat .none) (s.put j (.own (ds ++ es)))
end
end Sk
set_option Elab.async false
set_option linter.all false
set_option maxRecDepth 100000
set_option maxHeartbeats 4000000
namespace Sk
open PySem PySem.Spec PyProof.Rows L2
open PySem.W (Datum DatumOrd Tup T3 T4)
open Evl (Ex)
section
variable {X : Cx} {f : Fr}
variable {α κ : Type} [DecidableEq α] [Datum α] [Im α] [DecidableEq κ] [DatumOrd κ] [Srt κ] {k : α → κ} {P : Addr} {q : Str}
end
end Sk
set_option Elab.async false
set_option linter.all false
set_option maxRecDepth 100000
set_option maxHeartbeats 4000000
namespace Sk
open PySem PySem.Spec PyProof.Rows L2
open PySem.W (Datum DatumOrd Tup T3 T4)
open Evl (Ex)
theorem tuple_mul1 (l : Addr) (items : Array Value) (n : Nat) (dd : Option Addr) (sl : Array (Option Value)) (x : Int) (u : Tok) (c0 : (decide (x < -(2 ^ 63)) || decide (x ≥ 2 ^ 63)) = false) (c1 : (items.isEmpty || x == 1) = true) :
    Meets (Builtin.«tuple.__mul__» ⟨[.ref l, .int x u], []⟩) (fun _ R s => s.heap.get? l = some { cls := .type "tuple", dict := dd, data := .seq items n, slots := sl } ∧
      R (.ok (.ret (Value.ref l))) s) :=
  .of_wp fun prog w A R s h => by
    obtain ⟨hp, g, d, tk, os⟩ := s
    obtain ⟨hl, h⟩ := h
    have f1 := AutoSeq1.idx_int
    wp_walk using wpAny_loadPart' hl
    repeat (first
      | (refine wpAny_ite_false (decide_eq_false (by rw [c0]; exact Bool.false_ne_true)) ?_; wp_walk using wpAny_loadPart' hl)
      | (refine wpAny_ite_true (decide_eq_true c1) ?_; wp_walk using wpAny_loadPart' hl))
    exact ⟨_, rfl, h⟩
theorem tuple_mul0 (l : Addr) (items : Array Value) (n : Nat) (dd : Option Addr) (sl : Array (Option Value)) (x : Int) (u : Tok) (c0 : (decide (x < -(2 ^ 63)) || decide (x ≥ 2 ^ 63)) = false) (c1 : (items.isEmpty || x == 1) = false) (c2 : (decide (x ≤ 0) || items.isEmpty) = true) :
    Meets (Builtin.«tuple.__mul__» ⟨[.ref l, .int x u], []⟩) (fun _ R s => s.heap.get? l = some { cls := .type "tuple", dict := dd, data := .seq items n, slots := sl } ∧
      R (.ok (.ret (Value.ref s.heap.objs.size))) { s with heap := s.heap.push { cls := Value.type "tuple", data := Data.seq #[] }, toks := s.toks }) :=
  .of_wp fun prog w A R s h => by
    obtain ⟨hp, g, d, tk, os⟩ := s
    obtain ⟨hl, h⟩ := h
    have f1 := AutoSeq1.idx_int
    wp_walk using wpAny_loadPart' hl
    repeat (first
      | (refine wpAny_ite_false (decide_eq_false (by rw [c0]; exact Bool.false_ne_true)) ?_; wp_walk using wpAny_loadPart' hl)
      | (refine wpAny_ite_false (decide_eq_false (by rw [c1]; exact Bool.false_ne_true)) ?_; wp_walk using wpAny_loadPart' hl)
      | (refine wpAny_ite_true (decide_eq_true c2) ?_; wp_walk using wpAny_loadPart' hl))
    exact ⟨_, rfl, h⟩
def rRepN (K : PySem.W.Frag) : R2 := fun x y H Q => ∃ l k xs, x = .ref l ∧ y = .int k ∧ SqT K H l xs ∧ xs ≠ [] ∧ 0 ≤ k ∧ k ≤ 100000 ∧ xs.length ≤ 10 ∧ (k = 1 → Q (.ref l) H) ∧ (k ≠ 1 → ∀ p, H p = none → Q (.ref p) (upd H p (.tup (List.replicate k.toNat xs).flatten)))
section
variable {X : Cx}
theorem op_repN : OpR X (binaryOp .Mult) (rRepN X.K) := by
  intro pins s σ H x y v u Q I rx ry h
  obtain ⟨l, k, xs, rfl, rfl, hT, hne, h1, h2, hz, q1, q⟩ := h
  by_cases k2 : 2 ≤ k
  · exact op_repS pins s σ H _ _ v u Q I rx ry ⟨l, k, xs, rfl, rfl, hT, hne, k2, h2, hz, q (by omega)⟩
  cases rx
  obtain ⟨t, rfl⟩ := ry
  obtain ⟨its, r, ⟨⟨cls, dd, data, sl⟩, ho, hc, n, hd⟩, hs⟩ := I.tuple hT
  simp only at hc hd
  subst hc hd
  have hle : its.length = xs.length := r.length.symm
  have hn : its ≠ [] := fun e => hne (List.eq_nil_of_length_eq_zero (by rw [← hle, e]; rfl))
  have hi : its.toArray.isEmpty = false := by
    cases its with
    | nil => exact absurd rfl hn
    | cons a b => rfl
  have c0 : (decide (k < -(2 ^ 63)) || decide (k ≥ 2 ^ 63)) = false := by
    rw [decide_eq_false (by omega), decide_eq_false (by omega)] <;> rfl
  by_cases e1 : k = 1
  · subst e1
    have c1 : (its.toArray.isEmpty || (1 : Int) == 1) = true := by rw [hi]; rfl
    refine wpAny_binaryOp_repeat_ref (T := "tuple") (U := "int") (by decide) ⟨_, ho, rfl⟩ (fun s' => typeIs_int s' 1 t) noFill_tuple_mul PySem.F.fills_int_mul PySem.F.slot_int_rmul repeat_tuple PySem.F.slot_int_index.lookup
      (call_meets PySem.F.slot_int_rmul (typeIs_int s 1 t) PySem.F.entry_int_rmul (PySem.F.args_int_rmul_2 _ _) (int_rmul_tuple 1 t l its.toArray n dd sl)
        ⟨ho, rfl, ⟨_, ho, rfl⟩, call_meets PySem.F.slot_tuple_mul ⟨_, ho, rfl⟩ PySem.F.entry_tuple_mul (PySem.F.args_tuple_mul_2 _ _) (tuple_mul1 l its.toArray n dd sl 1 t c0 c1) ⟨ho, ?_⟩⟩)
    exact ⟨.ref l, H, I, rfl, q1 rfl⟩
  · have e0 : k = 0 := by omega
    subst e0
    have c1 : (its.toArray.isEmpty || (0 : Int) == 1) = false := by rw [hi]; rfl
    have c2 : (decide ((0 : Int) ≤ 0) || its.toArray.isEmpty) = true := rfl
    refine wpAny_binaryOp_repeat_ref (T := "tuple") (U := "int") (by decide) ⟨_, ho, rfl⟩ (fun s' => typeIs_int s' 0 t) noFill_tuple_mul PySem.F.fills_int_mul PySem.F.slot_int_rmul repeat_tuple PySem.F.slot_int_index.lookup
      (call_meets PySem.F.slot_int_rmul (typeIs_int s 0 t) PySem.F.entry_int_rmul (PySem.F.args_int_rmul_2 _ _) (int_rmul_tuple 0 t l its.toArray n dd sl)
        ⟨ho, rfl, ⟨_, ho, rfl⟩, call_meets PySem.F.slot_tuple_mul ⟨_, ho, rfl⟩ PySem.F.entry_tuple_mul (PySem.F.args_tuple_mul_2 _ _) (tuple_mul0 l its.toArray n dd sl 0 t c0 c1 c2) ⟨ho, ?_⟩⟩)
    refine ⟨.ref s.heap.objs.size, _, I.laid (t' := s.toks) (o := .tup []) (fun b ob q => Heap.get?_push_of_some _ q) (Nat.le_refl _) ?_, rfl, q e1 _ (I.hok.fresh (Nat.le_refl _))⟩
    exact ⟨Nat.zero_le _, _, .nil, IsTup.new _ _⟩
variable {f : Fr}
def mulTN : List PV → (PV → Prop) → Prop := fun ps C => match ps with
  | [.dat (.tuple ds), .dat (.int k)] => ds ≠ [] ∧ 0 ≤ k ∧ k ≤ 100000 ∧ ds.length ≤ 10 ∧ C (.dat (.tuple (List.replicate k.toNat ds).flatten))
  | _ => False
theorem op_mulTN : Op X.K f (op2 (rRepN X.K)) mulTN := fun F O G s σ H ps vs C Q R VV w k => by
  unfold mulTN at w
  split at w
  · rename_i ds i
    cases VV with
    | cons v1 VV =>
      cases VV with
      | cons v2 VV =>
        cases VV
        have v1 : Dp X.K G _ (.tuple ds) := v1
        cases vr_int v2
        cases v1 with
        | tup h1 a1 =>
          refine ⟨_, _, _, rfl, rfl, Evl.ex_t R.gh h1, fun e => w.1 (List.length_eq_zero_iff.mp (by rw [← a1.len, e]; rfl)), w.2.1, w.2.2.1, by rw [a1.len]; exact w.2.2.2.1, fun e => ?_, fun _ p hp => k _ _ _ _ w.2.2.2.2 (Evl.Ex.new (R.gn hp)) (R.newG hp) (vrf_dat (.tup (Or.inl (Or.inl upd_same)) (Dp.exAll (Evl.Ex.new (R.gn hp)) _ (dpAll_rep a1 _))))⟩
          have w5 := w.2.2.2.2
          subst e
          have ef : (List.replicate (1 : Int).toNat ds).flatten = ds := by simp
          rw [ef] at w5
          exact k _ _ _ _ w5 (Ex.refl G) R (vrf_dat (.tup h1 a1))
  · exact w.elim
end
end Sk
set_option Elab.async false
set_option linter.all false
set_option maxRecDepth 100000
set_option maxHeartbeats 4000000
namespace Sk
open PySem PySem.Spec PyProof.Rows L2
open Evl (Ex)
abbrev LD := List (PyData × List PyData)
abbrev HQ := (Sg → LD → Prop) → Sg → LD → Prop
def putL : LD → PyData → PyData → LD
  | [], d, x => [(d, [x])]
  | kv :: L, d, x => if keyN kv.1 = keyN d then (kv.1, kv.2 ++ [x]) :: L else kv :: putL L d x
abbrev QE (K : PySem.W.Frag) (G B : Hp) (z : GEnt) (kv : PyData × List PyData) : Prop := z.1 = keyN kv.1 ∧ KeyOk kv.1 ∧ Dp K G z.2.1 kv.1 ∧ ∃ a vs, z.2.2 = V.ref a ∧ B a = some (.lst vs) ∧ DpAll K G vs kv.2
def NstD (K : PySem.W.Frag) (w : World) (G B : Hp) (p : Addr) (L : LD) : Prop := ∃ (o : Obj) (xs : List GEnt), B p = some (GDo w p (o, xs)) ∧ (V.ref p :: xs.map (·.2.2)).Nodup ∧ Paired (QE K G B) xs L
section
variable {K : PySem.W.Frag} {w : World} {f F : Fr} {O : Addr → Prop} {B G G' H H' : Hp} {s : Sg} {σ : L2.St} {a b c p : Addr} {o : Obj} {xs : List GEnt} {L : LD} {d x : PyData} {y v : V} {vs : List V}
theorem QE.ex {z : GEnt} {kv : PyData × List PyData} (h : QE K G B z kv) (e : Ex G G') : QE K G' B z kv := by
  obtain ⟨h1, h2, h3, a, vs, h4, h5, h6⟩ := h
  exact ⟨h1, h2, Dp.ex e _ h3, a, vs, h4, h5, Dp.exAll e _ h6⟩
theorem NstD.ex (h : NstD K w G B p L) (e : Ex G G') : NstD K w G' B p L := by
  obtain ⟨o, xs, h1, h2, h3⟩ := h
  exact ⟨o, xs, h1, h2, paired_mono h3 fun a b q => QE.ex q e⟩
theorem RelB.doneR (R : RelB K f F O B G s σ H) {op : HO} (hp : B p = some op) : ∃ G', Ex G G' ∧ (∀ a o, a ≠ p → B a = some o → G' a = some o) ∧ G' p = none ∧ Rel K (fo f F O) G' s σ H ∧ (∀ (i : Nat) (q : PV), s.sl[i]? = some (some q) → q.mut = true → σ[i]? ≠ some (some (V.ref p))) := by
  have hpn : B p ≠ none := by rw [hp]; intro z; cases z
  have gpn : G p = none := R.gn hp
  let G1 : Hp := fun a => if a = p then G a else (B a).or (G a)
  have e1 : Ex G G1 := fun a o h => by
    show (if a = p then G a else (B a).or (G a)) = some o
    by_cases q : a = p
    · rw [if_pos q]; exact h
    · rw [if_neg q]
      cases w : B a with
      | none => exact h
      | some u => rw [R.gn w] at h; cases h
  have g1 : ∀ a o, a ≠ p → B a = some o → G1 a = some o := fun a o ne h => by
    show (if a = p then G a else (B a).or (G a)) = some o
    rw [if_neg ne, h]; rfl
  have nB : ∀ {a : Addr}, B a = none → G1 a = G a := fun {a} h => by
    show (if a = p then G a else (B a).or (G a)) = G a
    rw [h]; split <;> rfl
  have gp : G1 p = none := by
    show (if p = p then G p else (B p).or (G p)) = none
    rw [if_pos rfl]; exact gpn
  have bO : ∀ {a : Addr}, ¬ (O a ∨ B a ≠ none) → B a = none := fun {a} h => by
    cases q : B a with
    | none => rfl
    | some u => exact absurd (Or.inr (by rw [q]; intro z; cases z)) h
  have R1 : Rel K (fo f F O) G1 s σ H := {
    gh := fun a o h => by
      have h : (if a = p then G a else (B a).or (G a)) = some o := h
      by_cases q : a = p
      · rw [if_pos q] at h; exact R.r.gh a o h
      · rw [if_neg q] at h
        cases w : B a with
        | none => rw [w] at h; exact R.r.gh a o h
        | some u => rw [w] at h; cases h; exact R.at w
    fh := fun a o m h => R.r.fh a o m (by
      show (B a).or (F.F a) = some o
      cases w : B a with
      | none => exact h
      | some u => have := (R.b a (by rw [w]; intro z; cases z)).2.2.1; rw [show F.F a = some o from h] at this; cases this)
    go := fun a h => by
      have : B a = none := by
        cases w : B a with
        | none => rfl
        | some u => exact absurd h (R.b a (by rw [w]; intro z; cases z)).2.1
      rw [nB this]; exact R.r.go a (Or.inl h)
    oh := fun a h => R.r.oh a (Or.inl h)
    mh := R.r.mh
    mo := fun h => by
      obtain ⟨x, y, z, d, e⟩ := R.r.mo h
      have c : ∀ {a : Addr}, (a = F.m ∨ a = F.l ∨ a = F.c) → (O a ∨ B a ≠ none) → O a := fun {a} w h2 => h2.elim id fun n => by
        obtain ⟨n1, n2, n3⟩ := (R.b a n).2.2.2 h
        rcases w with w | w | w
        · exact absurd w n1
        · exact absurd w n2
        · exact absurd w n3
      exact ⟨c (Or.inl rfl) x, c (Or.inr (Or.inl rfl)) y, c (Or.inr (Or.inr rfl)) z, d, e⟩
    tm := fun p hp => ⟨(R.r.tm p hp).1.elim id fun z => absurd (R.r.tm p hp).2 (R.b _ z).1, (R.r.tm p hp).2⟩
    tb := fun p hp => (R.r.tb p hp).keep (fun _ _ _ z => e1 _ _ z) rfl
    pk := fun en he => (R.pk en he).ex e1
    dr := R.r.dr
    ln := R.r.ln
    sl := fun i q hq => by
      obtain ⟨v, h1, h2⟩ := R.r.sl i q hq
      refine ⟨v, h1, ?_⟩
      have h3 : VR K (fo f (F.ups B) fun a => O a ∨ B a ≠ none) G1 H q v := by
        cases q with
        | dat d => exact Dp.ex e1 _ h2
        | drw => exact h2
        | val _ => exact h2
        | dgf _ => obtain ⟨p0, xs0, z1, z2, z3⟩ := h2; exact ⟨p0, xs0, z1, e1 _ _ z2, z3.ex e1⟩
        | abs _ => exact fun G9 e9 => h2 G9 (e1.trans e9)
        | own ds =>
          obtain ⟨b, vs, rfl, k1, k2, k3, k4, k5⟩ := h2
          exact ⟨b, vs, rfl, k1, by rw [nB (bO k3)]; exact k2, k3, k4, Dp.exAll e1 _ k5⟩
        | byr ds =>
          obtain ⟨b, vs, rfl, k1, k2, k3, k4, k5, k6⟩ := h2
          exact ⟨b, vs, rfl, k1, by rw [nB (bO k3)]; exact k2, k3, k4, Dp.exAll e1 _ k5, k6⟩
        | dct ds =>
          obtain ⟨b, vs, rfl, k1, k2, k3, k4, k5, k6⟩ := h2
          exact ⟨b, vs, rfl, k1, by rw [nB (bO k3)]; exact k2, k3, k4, k5, Dp.exAll e1 _ k6⟩
        | dcg ds =>
          obtain ⟨b, vs, rfl, k1, k2, k3, k4, k5⟩ := h2
          exact ⟨b, vs, rfl, k1, by rw [nB (bO k3)]; exact k2, k3, k4, k5.ex e1⟩
      refine h3.upB rfl rfl rfl rfl fun b u hb hn => ⟨hb, fun z => hn (Or.inl z), fun w => w.imp (fun y => ?_) id⟩
      have y : (B b).or (F.F b) = none := y
      rw [bO hn] at y; exact y
    ds := R.r.ds }
  refine ⟨G1, e1, g1, gp, R1, fun i q h1 h2 h3 => ?_⟩
  obtain ⟨v, h4, h5⟩ := R.r.sl i q h1
  rw [h3] at h4
  cases h4
  cases q with
  | dat d => cases h2
  | drw => cases h2
  | val _ => cases h2
  | dgf _ => cases h2
  | abs _ => cases h2
  | own ds => obtain ⟨p, _, e, _, _, h6, _⟩ := h5; cases e; exact h6 (Or.inr hpn)
  | byr ds => obtain ⟨p, _, e, _, _, h6, _⟩ := h5; cases e; exact h6 (Or.inr hpn)
  | dct ds => obtain ⟨p, _, e, _, _, h6, _⟩ := h5; cases e; exact h6 (Or.inr hpn)
  | dcg ds => obtain ⟨p, _, e, _, _, h6, _⟩ := h5; cases e; exact h6 (Or.inr hpn)
theorem NstD.done (R : RelB K f F O B G s σ H) (h : NstD K f.w G B p L) : ∃ G', Ex G G' ∧ Rel K (fo f F O) G' s σ H ∧ VRf K (fo f F O) G' H s σ (.dcg (L.map fun kv => (kv.1, PyData.list kv.2))) (.ref p) := by
  obtain ⟨ob, xs, hp, nd, hpr⟩ := h
  obtain ⟨G1, e1, g1, gp, R1, un⟩ := R.doneR hp
  obtain ⟨n1, n2, n3, n4⟩ := R.b p (by rw [hp]; intro z; cases z)
  have go : ∀ {us : List GEnt} {ws : LD}, V.ref p ∉ us.map (·.2.2) → Paired (QE K G B) us ws → Paired (GQ K G1) us (ws.map fun kv => (kv.1, PyData.list kv.2)) := fun {us ws} n t => by
    induction t with
    | nil => exact .nil
    | cons q _ ih =>
      rw [List.map_cons] at n
      obtain ⟨h1, h2, h3, a, vs, h4, h5, h6⟩ := q
      have ne : a ≠ p := fun e => n (by rw [h4, e]; exact List.mem_cons_self)
      refine .cons ⟨h1, h2, Dp.ex e1 _ h3, ?_⟩ (ih fun h => n (List.mem_cons_of_mem _ h))
      rw [h4]
      exact .lst (Or.inl (Or.inl (g1 _ _ ne h5))) (Dp.exAll e1 _ h6)
  exact ⟨G1, e1, R1, ⟨p, (ob, xs), rfl, R.at hp, gp, n2, Or.inl n3, GRel.of (go (List.nodup_cons.mp nd).1 hpr)⟩, fun _ i q h1 h2 h3 => un i q h1 h2 h3⟩
end
end Sk
set_option Elab.async false
set_option linter.all false
set_option maxRecDepth 100000
set_option maxHeartbeats 4000000
namespace Sk
open PySem PySem.Spec PyProof.Rows L2
open Evl (Ex)
@[simp] def qeach (g : HG) (t : HQ) (Q : Sg → LD → Prop) : List PyData → Sg → LD → Prop
  | [], s, L => Q s L
  | d :: ds, s, L => g d s fun s1 => t (qeach g t Q ds) s1 L
@[simp] def qFor (it : HI) (g : HG) (t : HQ) : HQ := fun Q s L => it s fun ds s1 => qeach g t Q ds s1 L
@[simp] def qIf (c : HT) (t : HQ) : HQ := fun Q s L => c s fun b s1 => if b = true then t Q s1 L else Q s1 L
@[simp] def qApp (tk tv : HE) : HQ := fun Q s L => tk s fun q s1 => ∃ d, q = .dat d ∧ KeyOk d ∧ L.length < 100000 ∧ (∀ kv ∈ L, kv.2.length < 100000) ∧ tv s1 fun p s2 => ∃ x, p.frz = some x ∧ Q s2 (putL L d x)
section
variable {X : Cx} {f : Fr} {e a b c : Expr} {es : List Expr} {st : Stmt} {sts rest : List Stmt} {tk tv : HE} {tt : HT} {tn : HQ} {g : HG} {ws : List Nat} {it : HI} {j : Nat} {pos : Pos}
end
end Sk
set_option Elab.async false
set_option linter.all false
set_option maxRecDepth 100000
set_option maxHeartbeats 2000000
namespace Sk
open PySem PySem.Spec PyProof.Rows L2
open Evl (Ex)
open PySem.W (Datum DatumOrd Tup T3 T4)
section
variable {X : Cx} {f : Fr} {pos : Pos}
def lenGW : List PV → (PV → Prop) → Prop := fun ps C => match ps with
  | [p] => ∃ kvs, p.dg = some kvs ∧ C (.dat (.int kvs.length))
  | _ => False
@[simp] def hiGV (t : HE) : HI := fun s C => t s fun p s1 => ∃ kvs, p.dg = some kvs ∧ C (kvs.map (·.2)) s1
end
end Sk
set_option Elab.async false
set_option linter.all false
set_option maxRecDepth 100000
set_option maxHeartbeats 2000000
namespace Sk
open PySem PySem.Spec PyProof.Rows L2
open Evl (Ex)
open Sem (wp)
open AutoSeq1 (wpAny_loadPart')
section
variable {prog : Program} {w : World} {A : Around} {E : Value → Shared → Prop} {s : Shared}
end
section
variable {prog : Program} {w : World} {A : Around} {E : Value → Shared → Prop} {s : Shared}
end
section
variable {X : Cx} {f : Fr} {a : Expr} {t : HE} {pos : Pos}
@[simp] def hiEG (t : HE) : HI := fun s C => t s fun p s1 => ∃ kvs, p.dg = some kvs ∧ C (enumD 0 (kvs.map (·.1))) s1
end
end Sk
set_option Elab.async false
set_option linter.all false
set_option maxRecDepth 100000
set_option maxHeartbeats 4000000
namespace Sk
open PySem PySem.Spec PyProof.Rows L2
open Evl (Ex)
section
variable {X : Cx} {f : Fr}
@[simp] def hiGI (t : HE) : HI := fun s C => t s fun p s1 => ∃ kvs, p.dg = some kvs ∧ C (kvs.map fun kv => PyData.tuple [kv.1, kv.2]) s1
end
end Sk
namespace Sk
open PySem PySem.Spec PyProof.Rows L2
open Evl (Ex)
section
variable {prog : Program} {w : World} {A : Around} {E : Value → Shared → Prop} {s : Shared}
end
structure ZS (h : Heap) (z TI TO i1 i2 a b : Addr) (i : Nat) : Prop where
  zz : ∃ f0 f1, IsZipF h z TI TO f0 f1 ∧ F0 f0
  ti : IsPair h TI (.ref i1) (.ref i2)
  to : ∃ x y, IsPair h TO x y
  h1 : h.IsListIter i1 a i
  h2 : h.IsListIter i2 b i
theorem ZS.keep {h h' : Heap} {z TI TO i1 i2 a b : Addr} {i : Nat} (Z : ZS h z TI TO i1 i2 a b i) (k : ∀ c ∈ [z, TI, TO, i1, i2], ∀ o, h.get? c = some o → h'.get? c = some o) : ZS h' z TI TO i1 i2 a b i := by
  obtain ⟨⟨f0, f1, hz, hf⟩, hTI, ⟨x, y, hTO⟩, h1, h2⟩ := Z
  exact ⟨⟨f0, f1, k z (by simp) _ hz, hf⟩, k TI (by simp) _ hTI, ⟨x, y, k TO (by simp) _ hTO⟩, h1.at fun o q => k i1 (by simp) o q, h2.at fun o q => k i2 (by simp) o q⟩
section
variable {X : Cx} {pins : List (Addr × Obj)} {σ : L2.St}
variable {f : Fr}
end
end Sk
set_option Elab.async false
set_option linter.all false
set_option maxRecDepth 100000
set_option maxHeartbeats 4000000
namespace Sk
open PySem PySem.Spec PyProof.Rows L2
open PySem.W (Datum DatumOrd Tup T3 T4)
open Evl (Ex)
section
variable {X : Cx} {f : Fr} {e a : Expr} {t : HE}
@[simp] def hIdxD (j : Nat) (t : HE) : HE := fun s C => (∃ p ds, s.sl[j]? = some (some p) ∧ p.lst = some ds) ∧ t s fun q s1 => ∃ p ds, ∃ d z : PyData, ∃ n, s1.sl[j]? = some (some p) ∧ p.lst = some ds ∧ q = .dat d ∧ SeqAt.shaped (.list ds) = true ∧ SeqAt.shaped d = true ∧ ds[n]? = some z ∧ PyData.eqv z d = true ∧ (∀ (m : Nat) (z' : PyData), m < n → ds[m]? = some z' → PyData.eqv z' d = false) ∧ C (.dat (.int (n : Nat))) s1
end
end Sk
set_option Elab.async false
set_option linter.all false
set_option maxRecDepth 100000
set_option maxHeartbeats 4000000
namespace Sk
open PySem PySem.Calls
section
variable {prog : Program} {w : World} {A : Around} {s : Shared} {E : Value → Shared → Prop} {xs : List RE} {k : NestedKey} {key v : Value} {d : Addr}
end
end Sk
namespace Sk
open PySem PySem.Spec PyProof.Rows L2
open Evl (Ex)
section
variable {X : Cx} {pins : List (Addr × Obj)} {σ : L2.St} {H : Hp} {s : Shared} {E : Value → Shared → Prop} {a : Addr} {y : V} {u : Value}
variable {f : Fr} {e : Expr} {es : List Expr} {ta : HA}
@[simp] def hGet2 (j : Nat) (ta : HA) : HE := fun s C => (∃ p kvs, s.sl[j]? = some (some p) ∧ p.dg = some kvs) ∧ ta s fun ps s1 => ∃ d p kvs, ps = [.dat d] ∧ s1.sl[j]? = some (some p) ∧ p.dg = some kvs ∧ KeyOk d ∧ C (.dat ((getG kvs d).getD .none)) s1
end
end Sk
set_option Elab.async false
set_option linter.all false
set_option maxRecDepth 100000
set_option maxHeartbeats 4000000
namespace Sk
open PySem PySem.Spec PyProof.Rows L2
open Evl (Ex)
@[simp] def gQ (j0 j1 j2 j3 : Nat) : HG := fun d s C => match d with
  | .tuple [x0, x1, x2, x3] => C ((((s.put j0 (.dat x0)).put j1 (.dat x1)).put j2 (.dat x2)).put j3 (.dat x3))
  | _ => False
@[simp] def gF (j0 j1 j2 j3 j4 : Nat) : HG := fun d s C => match d with
  | .tuple [x0, x1, x2, x3, x4] => C (((((s.put j0 (.dat x0)).put j1 (.dat x1)).put j2 (.dat x2)).put j3 (.dat x3)).put j4 (.dat x4))
  | _ => False
@[simp] def hFzL (t : HE) : HE := fun s C => t s fun p s1 => ∃ d, p.frz = some d ∧ C (.dat d) s1
end Sk
set_option Elab.async false
set_option linter.all false
set_option maxRecDepth 100000
set_option maxHeartbeats 4000000
namespace Sk
open PySem PySem.Spec PyProof.Rows L2
open PySem.W (Datum DatumOrd Tup T3 T4)
open Evl (Ex)
section
variable {X : Cx} {f : Fr} {e a : Expr} {t : HE}
@[simp] def hExtF (j : Nat) (t : HE) : HE := fun s C => (∃ ds, s.sl[j]? = some (some (.own ds))) ∧ t s fun p s1 => ∃ ds es, p = .dat (.list es) ∧ s1.sl[j]? = some (some (.own ds)) ∧ ds.length + es.length ≤ 100000 ∧ C (.dat .none) (s1.put j (.own (ds ++ es)))
end
@[simp] def hKeep (j : Nat) (t : HE) : HE := fun s C => match s.sl[j]? with
  | some (some (.dat d)) => t s fun p s' => C p (s'.put j (.dat d))
  | _ => t s C
end Sk
set_option Elab.async false
set_option linter.all false
set_option maxRecDepth 100000
set_option maxHeartbeats 4000000
namespace Sk
open PySem PySem.Spec PyProof.Rows L2
open Evl (Ex)
section
variable {X : Cx} {f : Fr} {e : Expr} {es : List Expr} {t : HE} {ta : HA}
@[simp] def hGetE3 (t : HE) (ta : HA) : HE := fun s C => t s fun p s1 => ∃ kvs, p.dg = some kvs ∧ ta s1 fun ps s2 => ∃ d x, ps = [.dat d, .dat x] ∧ KeyOk d ∧ C (.dat ((getG kvs d).getD x)) s2
end
end Sk
set_option maxHeartbeats 2000000
namespace Sk
open PySem PySem.Spec PyProof.Rows L2
open PySem.W (Datum DatumOrd Tup T3 T4)
open Evl (Ex)
section
variable {X : Cx} {f : Fr} {e : Expr}
@[simp] def hEmp : HE := fun s C => C (.dat (.dict [])) s
end
end Sk
set_option Elab.async false
set_option linter.all false
set_option maxRecDepth 100000
set_option maxHeartbeats 4000000
namespace Sk
open PySem PySem.Spec PyProof.Rows L2
open PySem.W (Datum DatumOrd Tup T3 T4)
open Evl (Ex)
section
variable {X : Cx} {f : Fr} {e a : Expr} {t : HE}
@[simp] def hCount (j : Nat) (t : HE) : HE := fun s C => (∃ p ds, s.sl[j]? = some (some p) ∧ p.lst = some ds) ∧ t s fun q s1 => ∃ p ds, ∃ d : PyData, s1.sl[j]? = some (some p) ∧ p.lst = some ds ∧ q = .dat d ∧ SeqAt.shaped (.list ds) = true ∧ SeqAt.shaped d = true ∧ C (.dat (.int (ds.countP fun z => PyData.eqv z d : Nat))) s1
end
end Sk
set_option Elab.async false
set_option linter.all false
set_option maxRecDepth 100000
set_option maxHeartbeats 4000000
namespace Sk
open PySem PySem.Spec PyProof.Rows L2
open PySem.W (Datum DatumOrd Tup T3 T4 EachIs)
open SeqAt
section
variable {P : Program} {w : World}
def ClsAt (P : Program) (w : World) (n : Nat) (s : Shared) (v : Value) : Prop := ∀ (A : Around) (E : Value → Shared → Prop) (Q : Bool → Shared → Prop), Q false s → wpAny (model P w) A (ofAClassStatement n v) Q E s
theorem ClsAt.flat {n : Nat} {s : Shared} {v : Value} (h : ∀ a, v ≠ .ref a) : ClsAt P w n s v := fun A E Q q => by
  cases v with
  | ref a => exact absurd rfl (h a)
  | _ => cases n <;> exact wpAny_pure q
theorem ClsAt.tuple {n : Nat} {s : Shared} {a : Addr} {o : Obj} {vs : Array Value} {m : Nat} (ho : s.heap.get? a = some o) (hc : o.cls = .type "tuple") (hd : o.data = .seq vs m) (hq : ∀ v ∈ vs.toList, ClsAt P w n s v) : ClsAt P w (n + 1) s (.ref a) := fun A E Q h => by
  have hT : s.TypeIs (.ref a) "tuple" := ⟨o, ho, hc⟩
  unfold ofAClassStatement
  refine wpAny_bind (wpAny_typeOf hT ?_)
  dsimp only
  simp only [show (("tuple" : String) == "tuple") = true by decide, if_true, Bool.not_true, Bool.false_eq_true, if_false]
  try refine wpAny_bind (wpAny_pure ?_)
  try simp only [Bool.not_true, Bool.false_eq_true, if_false]
  show wpAny _ _ (seqItems? (.ref a) >>= _) _ _ s
  refine wpAny_bind (wpAny_seqItems ho hd ?_)
  dsimp only
  refine wpAny_bind ?_
  rw [← Array.forIn_toList]
  refine wpAny_forIn_list _ (fun left r z => r.1 = none ∧ z = s ∧ ∀ v ∈ left, ClsAt P w n s v) _ (fun v left r z hz => ?_) (fun r z hz => ?_) _ _ ⟨rfl, rfl, hq⟩
  · obtain ⟨h1, rfl, h3⟩ := hz
    refine wpAny_bind (h3 v List.mem_cons_self _ _ _ ?_)
    simp only [Bool.false_eq_true, if_false]
    exact wpAny_pure ⟨rfl, rfl, fun u hu => h3 u (List.mem_cons_of_mem _ hu)⟩
  · obtain ⟨h1, rfl, _⟩ := hz
    obtain ⟨r1, r2⟩ := r
    dsimp only at h1
    subst h1
    exact wpAny_pure h
def HvAt (P : Program) (w : World) (n : Nat) (s : Shared) (v : Value) : Prop := ∀ (A : Around) (E : Value → Shared → Prop) (Q : Bool → Shared → Prop), (∀ c, Q c s) → wpAny (model P w) A (hashByValue n v) Q E s
theorem HvAt.tuple {n : Nat} {s : Shared} {a : Addr} {o : Obj} {vs : Array Value} {m : Nat} (ho : s.heap.get? a = some o) (hc : o.cls = .type "tuple") (hd : o.data = .seq vs m) (hq : ∀ v ∈ vs.toList, HvAt P w n s v) : HvAt P w (n + 1) s (.ref a) := fun A E Q h => by
  have hT : s.TypeIs (.ref a) "tuple" := ⟨o, ho, hc⟩
  unfold hashByValue
  refine wpAny_bind (wpAny_specialOf hT F.slot_tuple_hash.lookup ?_)
  show wpAny _ _ (seqItems? (.ref a) >>= _) _ _ s
  refine wpAny_bind (wpAny_seqItems ho hd ?_)
  refine wpAny_bind ?_
  show wpAny _ _ (forIn vs _ _) _ _ s
  rw [← Array.forIn_toList]
  refine wpAny_forIn_list _ (fun left r z => z = s ∧ ∀ v ∈ left, HvAt P w n s v) _ (fun v left r z hz => ?_) (fun r z hz => ?_) _ _ ⟨rfl, hq⟩
  · obtain ⟨rfl, h3⟩ := hz
    refine wpAny_bind (h3 v List.mem_cons_self _ _ _ fun c => ?_)
    cases c with
    | true =>
      simp only [Bool.not_true, Bool.false_eq_true, if_false]
      exact wpAny_pure ⟨rfl, fun u hu => h3 u (List.mem_cons_of_mem _ hu)⟩
    | false =>
      simp only [Bool.not_false, if_true]
      exact wpAny_pure (wpAny_pure (h _))
  · obtain ⟨rfl, _⟩ := hz
    obtain ⟨r1, r2⟩ := r
    cases r1 with
    | none => exact wpAny_pure (h _)
    | some c => exact wpAny_pure (h _)
mutual
theorem cls_key : ∀ (k : NestedKey) (v : Value) (n : Nat) (s : Shared), NestedIs s.heap k v → k.depth ≤ n → ClsAt P w n s v
  | .none, _, n, s, x, _ => by cases x; exact .flat fun a e => by cases e
  | .num i, _, n, s, x, _ => by cases x <;> exact .flat fun a e => by cases e
  | .text y, _, n, s, x, _ => by cases x; exact .flat fun a e => by cases e
  | .tup ks, _, n, s, x, hn => by
    cases x with
    | tup hg hc hd hk =>
      simp only [NestedKey.depth] at hn
      cases n with
      | zero => omega
      | succ n => exact .tuple hg hc hd (cls_keys ks _ n s hk (by omega))
theorem cls_keys : ∀ (ks : List NestedKey) (vs : List Value) (n : Nat) (s : Shared), NestedAll s.heap ks vs → NestedKey.depthAll ks ≤ n → ∀ v ∈ vs, ClsAt P w n s v
  | [], _, n, s, x, _, v, hv => by cases x; cases hv
  | k :: ks, _, n, s, x, hn, v, hv => by
    cases x with
    | cons x1 x2 =>
      simp only [NestedKey.depthAll] at hn
      rcases List.mem_cons.mp hv with e | hv
      · rw [e]; exact cls_key k _ n s x1 (by omega)
      · exact cls_keys ks _ n s x2 (by omega) v hv
end
theorem hv_flat {n : Nat} {s : Shared} {v : Value} (h : v = .none ∨ (∃ b, v = .bool b) ∨ (∃ i t, v = .int i t) ∨ ∃ x t, v = .str x t) : HvAt P w n s v := fun A E Q q => by
  rcases h with rfl | ⟨b, rfl⟩ | ⟨i, t, rfl⟩ | ⟨x, t, rfl⟩ <;> cases n <;> exact wpAny_pure (q _)
mutual
theorem hv_key : ∀ (k : NestedKey) (v : Value) (n : Nat) (s : Shared), NestedIs s.heap k v → k.depth ≤ n → HvAt P w n s v
  | .none, _, n, s, x, _ => by cases x; exact hv_flat (.inl rfl)
  | .num i, _, n, s, x, _ => by
    cases x with
    | bool e => exact hv_flat (.inr (.inl ⟨_, rfl⟩))
    | int i t => exact hv_flat (.inr (.inr (.inl ⟨_, _, rfl⟩)))
  | .text y, _, n, s, x, _ => by cases x; exact hv_flat (.inr (.inr (.inr ⟨_, _, rfl⟩)))
  | .tup ks, _, n, s, x, hn => by
    cases x with
    | tup hg hc hd hk =>
      simp only [NestedKey.depth] at hn
      cases n with
      | zero => omega
      | succ n => exact .tuple hg hc hd (hv_keys ks _ n s hk (by omega))
theorem hv_keys : ∀ (ks : List NestedKey) (vs : List Value) (n : Nat) (s : Shared), NestedAll s.heap ks vs → NestedKey.depthAll ks ≤ n → ∀ v ∈ vs, HvAt P w n s v
  | [], _, n, s, x, _, v, hv => by cases x; cases hv
  | k :: ks, _, n, s, x, hn, v, hv => by
    cases x with
    | cons x1 x2 =>
      simp only [NestedKey.depthAll] at hn
      rcases List.mem_cons.mp hv with e | hv
      · rw [e]; exact hv_key k _ n s x1 (by omega)
      · exact hv_keys ks _ n s x2 (by omega) v hv
end
mutual
theorem nest_keep {h h' : Heap} (hk : KeepT h h') : ∀ (x : NestedKey) (v : Value), NestedIs h x v → NestedIs h' x v
  | .none, _, hx => by cases hx; exact .none
  | .num i, _, hx => by
    cases hx with
    | bool e => exact .bool e
    | int i t => exact .int _ _
  | .text x, _, hx => by cases hx; exact .text _ _
  | .tup ks, _, hx => by
    cases hx with
    | tup hg hc hd h => exact .tup (hk _ _ hg hc) hc hd (nest_keeps hk ks _ h)
theorem nest_keeps {h h' : Heap} (hk : KeepT h h') : ∀ (xs : List NestedKey) (vs : List Value), NestedAll h xs vs → NestedAll h' xs vs
  | [], _, hx => by cases hx; exact .nil
  | x :: xs, _, hx => by
    cases hx with
    | cons h1 h2 => exact .cons (nest_keep hk x _ h1) (nest_keeps hk xs _ h2)
end
end
end Sk
set_option Elab.async false
set_option linter.all false
set_option maxRecDepth 100000
set_option maxHeartbeats 4000000
namespace Sk
open PySem PySem.Spec PyProof.Rows L2
open PySem.W (Datum DatumOrd Tup T3 T4 EachIs)
open SeqAt
open Evl (Ex)
mutual
theorem readsN_imm {h : Heap} : ∀ (d : PyData) {v : Value} {as : List Addr}, imm d = true → Reads h v d as → as = []
  | .none, _, _, _, r => by cases r; rfl
  | .bool _, _, _, _, r => by cases r; rfl
  | .int _, _, _, _, r => by cases r; rfl
  | .str _, _, _, _, r => by cases r; rfl
  | .list _, _, _, i, _ => by simp [imm] at i
  | .dict _, _, _, i, _ => by simp [imm] at i
  | .tuple ds, _, _, i, r => by
    cases r with
    | tuple h1 h2 h3 h4 => exact readsN_imms ds (by simpa [imm] using i) h4
theorem readsN_imms {h : Heap} : ∀ (ds : List PyData) {vs : List Value} {as : List Addr}, immAll ds = true → ReadsAll h vs ds as → as = []
  | [], _, _, _, r => by cases r; rfl
  | d :: ds, _, _, i, r => by
    have i' : imm d = true ∧ immAll ds = true := by simpa [immAll] using i
    cases r with
    | cons h1 h2 => rw [readsN_imm d i'.1 h1, readsN_imms ds i'.2 h2]; rfl
end
section
variable {P : Program} {w : World} {A : Around} {E : Value → Shared → Prop} {s : Shared}
end
end Sk
set_option Elab.async false
set_option linter.all false
set_option maxRecDepth 100000
set_option maxHeartbeats 4000000
namespace Sk
open PySem PySem.Spec PyProof.Rows L2
open PySem.W (Datum DatumOrd Tup T3 T4 EachIs)
open SeqAt
open Evl (Ex)
class TD (α : Type) [DecidableEq α] [DatumOrd α] : Prop where
  tup : ∀ a : α, ∃ ds, Datum.toD a = PyData.tuple ds
instance {α β : Type} [DecidableEq α] [DatumOrd α] [DecidableEq β] [DatumOrd β] : TD (α × β) where
  tup := fun a => ⟨_, rfl⟩
section
variable {X : Cx} {f : Fr} {pins : List (Addr × Obj)} {σ : L2.St} {H : Hp} {s : Shared}
variable {α : Type} [DecidableEq α] [DatumOrd α] [Srt α] [KD α] [TD α]
variable {a : Expr} {ta : TE} {p p2 q pos : Pos}
end
end Sk
set_option Elab.async false
set_option linter.all false
set_option maxRecDepth 100000
set_option maxHeartbeats 4000000
namespace Sk
open PySem PySem.Spec PyProof.Rows L2
open Evl (Ex)
section
variable {X : Cx} {f : Fr} {a b c : Expr}
end
end Sk
namespace Sk
open PySem PySem.Spec PyProof.Rows L2
open Evl (Ex)
section
variable {X : Cx} {f : Fr} {e a : Expr} {te : TE} {p2 p3 p4 pos : Pos}
def rRevL (K : PySem.W.Frag) : V → Hp → VK → Prop := fun x H Q => ∃ a xs, x = .ref a ∧ SqL K H a xs ∧ ∀ p, H p = none → Q (.ref p) (upd H p (.lst xs.reverse))
theorem pe_revL {k : Expr} (he : PE X e te) (hk : PE X k (tC (.int (-1)))) (hs : ∀ v l : Addr, subscripted (.Slice none none (some k) p2) false (.ref v) (.ref l) = operate [.ref v, .ref l] (getItem (.ref v) (.ref l)) := by intro _ _; with_unfolding_all rfl) : PE X (.Subscript e (.Slice none none (some k) p2) pos) (fun σ H Q => te σ H fun x H1 => rRevL X.K x H1 Q) := by
  refine ⟨fun pins s σ H Q I h => ?_⟩
  refine Subscript_ (thn (he.run pins s σ H _ I h) fun v s1 ⟨x, H1, I1, r1, q1⟩ => ?_)
  obtain ⟨a, xs, rfl, hx, q⟩ := q1
  cases r1
  refine wpAny_Slice ?_
  rw [evalPart_none]
  refine wpAny_pure ?_
  refine wpAny_pure ?_
  rw [evalPart_some]
  refine thn (hk.run pins s1 σ H1 (fun y H2 => y = .int (-1) ∧ H2 = H1) I1 ⟨rfl, rfl⟩) fun vk s3 ⟨y, H3, I3, r3, e3, e4⟩ => ?_
  subst e3 e4
  obtain ⟨t, rfl⟩ := r3
  have I4 : Inv X pins σ H3 { s3 with heap := s3.heap.push { cls := .type "slice", data := .fields #[.none, .none, .int (-1) t] } } := I3.kept (t' := s3.toks) fun b ob q => Heap.get?_push_of_some _ q
  obtain ⟨its, r, ht, hz⟩ := I4.list hx
  have hlen := r.length
  show wpAny (model X.prog X.w) X.A (subscriptTail e (.Slice none none (some k) p2) (.ref a) (.ref s3.heap.objs.size)) (EP X pins σ Q) X.xe { s3 with heap := s3.heap.push { cls := .type "slice", data := .fields #[.none, .none, .int (-1) t] } }
  refine tail_any (ops := [.ref a, .ref s3.heap.objs.size]) ht.isList.typeIs slot_list_getitem.lookup (wpAny_getItem_list_slice ht.isList (Heap.IsSliceOf.new ..) .none .none (.int (-1) t) (by decide) ?_ (by rw [List.size_toArray] <;> omega)) (hs _ _)
  rw [PySem.W.krv_pick]
  refine ⟨.ref _, _, I4.laid (t' := s3.toks) (o := .lst xs.reverse) (fun b ob q => Heap.get?_push_of_some _ q) (Nat.le_refl _) ?_, rfl, q _ (I4.hok.fresh (Nat.le_refl _))⟩
  exact ⟨by rw [List.length_reverse]; exact hz, _, 0, r.reverse, Heap.get?_push_size _ rfl⟩
theorem pe_neg1 {i : Int} (h : PE X a (tC (.int i))) : PE X (.UnaryOp .USub a pos) (tC (.int (-i))) := (pe_un un_neg h).mono fun σ H Q q => ⟨i, rfl, q⟩
@[simp] def hRevS (j : Nat) : HE := fun s C => ∃ p ds, s.sl[j]? = some (some p) ∧ p.lst = some ds ∧ C (.own ds.reverse) s
theorem hp_revS {j : Nat} {k : Expr} (h : PE X e (tVar j)) (hk : PE X k (tC (.int (-1)))) (hs : ∀ v l : Addr, subscripted (.Slice none none (some k) p2) false (.ref v) (.ref l) = operate [.ref v, .ref l] (getItem (.ref v) (.ref l)) := by intro _ _; with_unfolding_all rfl) : PE X (.Subscript e (.Slice none none (some k) p2) pos) (lf X.K f (hRevS j)) := (pe_revL h hk hs).mono fun σ H Q q => by
  obtain ⟨F, O, G, s, C, R, ⟨p, ds, hj, hl, c⟩, k⟩ := q
  obtain ⟨v, hv, VV⟩ := R.sl j _ hj
  obtain ⟨b, us, rfl, m1, m2⟩ := lst_sq VV hl R.gh
  refine ⟨_, hv, b, us, rfl, m1, fun p hp => k _ _ _ _ _ c (Ex.refl G) (R.new hp) (R.own hp m2.rev)⟩
end
end Sk
set_option Elab.async false
set_option linter.all false
set_option maxRecDepth 100000
set_option maxHeartbeats 2000000
namespace Sk
open PySem PySem.Spec PyProof.Rows L2
open Evl (Ex)
def EntK (w : World) (kv : Str × Int) (e : DictEntry) : Prop := (∃ t, e.key = .str kv.1 t) ∧ e.hash = (NestedKey.text kv.1).hash w ∧ ∃ t, e.val = .int kv.2 t
def DicK (w : World) (a : Addr) (o : Obj) (kvs : List (Str × Int)) : Prop := (a == sysModules) = false ∧ (kvs.map (·.1)).Nodup ∧ ∃ (es : Array DictEntry) (n : Nat), o = ⟨.type "dict", none, .dict es n, #[]⟩ ∧ Paired (EntK w) kvs es.toList
structure CstD (K : PySem.W.Frag) (w : World) (mg : Str → Option Value) (x : Str) (kvs : List (Str × Int)) : Prop where
  ex : ∃ (a : Addr) (o : Obj), mg x = some (.ref a) ∧ K.lookup a = some o ∧ DicK w a o kvs
theorem entsK {w : World} {h : Heap} : ∀ {kvs : List (Str × Int)} {es : List DictEntry}, Paired (EntK w) kvs es → ∃ xs : List RE, xs.map (·.1) = kvs.map (fun kv => NestedKey.text kv.1) ∧ es = xs.map (reE w) ∧ (∀ x ∈ xs, NestedIs h x.1 x.2.1 ∧ x.1.depth ≤ 8) ∧
    ∀ s : Str, (∀ i, kvs.lookup s = some i → ∃ t, gval xs (.text s) = some (.int i t)) ∧ (kvs.lookup s = none → gval xs (.text s) = none)
  | _, _, .nil => ⟨[], rfl, rfl, (fun _ q => nomatch q), fun s => ⟨fun i q => (by simp at q), fun _ => rfl⟩⟩
  | _, _, .cons (a := kv) (b := e) (l₁ := kvs) (l₂ := es) hd t => by
    obtain ⟨xs, e1, e2, e3, e4⟩ := entsK (h := h) t
    obtain ⟨⟨tk, hk⟩, hh, tv, hv⟩ := hd
    refine ⟨(.text kv.1, e.key, e.val) :: xs, by simp [e1], ?_, ?_, fun s => ?_⟩
    · rw [List.map_cons, ← e2]
      congr 1
      obtain ⟨eh, ek, ev⟩ := e
      show _ = (⟨_, _, _⟩ : DictEntry)
      simp only at hh hk hv ⊢
      rw [hh]
    · intro x hx
      rcases List.mem_cons.mp hx with rfl | hx
      · exact ⟨by rw [show ((NestedKey.text kv.1, e.key, e.val) : RE).2.1 = e.key from rfl, hk]; exact .text _ _, by simp [NestedKey.depth]⟩
      · exact e3 x hx
    · obtain ⟨f1, f2⟩ := e4 s
      by_cases q : s = kv.1
      · subst q
        refine ⟨fun i hi => ?_, fun hn => ?_⟩
        · rw [show ((kv :: kvs).lookup kv.1) = some kv.2 from by simp [List.lookup]] at hi
          cases hi
          exact ⟨tv, by unfold gval; simp [hv]⟩
        · simp [List.lookup] at hn
      · have q' : (s == kv.1) = false := by simpa using q
        have g : gval ((.text kv.1, e.key, e.val) :: xs) (.text s) = gval xs (.text s) := by
          unfold gval
          rw [List.find?_cons]
          have : decide ((NestedKey.text kv.1) = NestedKey.text s) = false := decide_eq_false fun z => q (NestedKey.text.inj z).symm
          simp only [this]
        have l : (kv :: kvs).lookup s = kvs.lookup s := by
          obtain ⟨a, b⟩ := kv
          simp only [List.lookup]
          rw [show (s == a) = false from q']
        rw [g, l]
        exact ⟨f1, f2⟩
theorem DicK.at {w : World} {K : PySem.W.Frag} {h : Heap} {a : Addr} {o : Obj} {kvs : List (Str × Int)} (X : K.In h) (l : K.lookup a = some o) (d : DicK w a o kvs) : ∃ xs : List RE, GAt w h a xs ∧ ∀ s : Str, (∀ i, kvs.lookup s = some i → ∃ t, gval xs (.text s) = some (.int i t)) ∧ (kvs.lookup s = none → gval xs (.text s) = none) := by
  obtain ⟨_, nd, es, n, rfl, p⟩ := d
  obtain ⟨xs, e1, e2, e3, e4⟩ := entsK (h := h) p
  refine ⟨xs, ⟨e3, ?_, _, es, n, X _ _ l, ⟨rfl, rfl, rfl⟩, rfl, e2⟩, e4⟩
  rw [e1]
  have : kvs.map (fun kv => NestedKey.text kv.1) = (kvs.map (·.1)).map NestedKey.text := by rw [List.map_map]; rfl
  rw [this]
  exact List.Pairwise.map _ (fun a b h z => h (NestedKey.text.inj z)) nd
def rKGet3 (K : PySem.W.Frag) (w : World) (kvs : List (Str × Int)) : V → List V → Hp → VK → Prop := fun x vs H Q => ∃ a o s z, x = .ref a ∧ vs = [.str s, z] ∧ K.lookup a = some o ∧ DicK w a o kvs ∧ Q (match kvs.lookup s with | some i => .int i | none => z) H
theorem mt_kget3 {X : Cx} {kvs : List (Str × Int)} (hu : X.A.units + 64 < cLine) : MtR X "dict.get" (rKGet3 X.K X.w kvs) := by
  intro pins s σ H x vs v us Q I rx rv h
  obtain ⟨a, o, k, z, rfl, rfl, l, d, q⟩ := h
  obtain rfl : v = Value.ref a := rx
  obtain ⟨u1, u2, rfl, r1, r2⟩ := vals2 rv
  obtain ⟨t, rfl⟩ := (show ∃ t, u1 = Value.str k t from r1)
  obtain ⟨xs, m, e⟩ := d.at I.kIn l
  obtain ⟨f1, f2⟩ := e k
  refine gdget (k := .text k) (by omega) (.text _ _) (by simp [NestedKey.depth]) d.1 m ?_
  cases hl : kvs.lookup k with
  | none =>
    rw [hl] at q
    rw [f2 hl]
    exact ⟨z, H, I.tok _, r2, q⟩
  | some i =>
    rw [hl] at q
    obtain ⟨t2, e2⟩ := f1 i hl
    rw [e2]
    exact ⟨.int i, H, I.tok _, ⟨t2, rfl⟩, q⟩
def tKM (K : PySem.W.Frag) (w : World) (kvs : List (Str × Int)) (r : V → List V → Hp → VK → Prop) (to : TE) (t : TA) : TE := fun σ H Q => to σ H fun x H1 => (∃ a o, x = .ref a ∧ K.lookup a = some o ∧ DicK w a o kvs) ∧ t σ H1 fun vs H2 => r x vs H2 Q
theorem pe_km {X : Cx} {kvs : List (Str × Int)} {o e : Expr} {es : List Expr} {t : TA} {to : TE} {name : Str} {apos cpos : Pos} {id : String} {r : V → List V → Hp → VK → Prop} (slot : Slot "dict" name id) (hty : typeOf (.builtin id) = pure (.type "method_descriptor")) (hm : MtR X id r) (ho : PE X o to) (ha : PA X (e :: es) t)
    (hbase : attributeBase o name X.env (eval o X.env) = eval o X.env := by rfl)
    (hfew : ((backTo cpos (starEach (e :: es) X.env)).all (fun x => !x.1) && (backToKw cpos (keywordEach [] X.env)).all (fun x => x.1.isSome)
      && decide ((e :: es).length + ([] : List Keyword).length + (if ([] : List Keyword).isEmpty then 0 else 1) < 30)) = true := by rfl)
    (hline : (apos.endLine == cpos.line) = true := by rfl) (hs : starEach (e :: es) X.env = (false, eval e X.env) :: starEach es X.env := by rfl) (hplain : (backTo cpos (starEach es X.env)).any (·.1) = false := by rfl) :
    PE X (.Call (.Attribute o name apos) (e :: es) [] cpos) (tKM X.K X.w kvs r to t) := by
  refine ⟨fun pins s σ H Q I h => ?_⟩
  refine wpAny_Call_method_late hbase hfew hline rfl (thn (ho.run pins s σ H _ I h) fun v s1 ⟨x, H1, I1, r1, ⟨b, ob, ex, g1, g2⟩, q1⟩ => ?_)
  subst ex
  obtain rfl : v = Value.ref b := r1
  obtain ⟨xs, m, _⟩ := g2.at I1.kIn g1
  refine ⟨"dict", id, PySem.F.plainAttrs_dict, slot, hty, m.typeIs, fun z hz => ?_, ?_⟩
  · cases hz
    obtain ⟨_, _, ob, _, _, k1, k2, _⟩ := m
    exact ⟨ob, k1, k2.2.1⟩
  have hA := ha.run cpos pins s1 σ H1 _ I1 q1
  rw [hs] at hA ⊢
  refine Calls.callWith_builtin (by show (false || (backTo cpos (starEach es X.env)).any (·.1)) = false; rw [hplain] <;> rfl) (Calls.evalArgs_plain ?_)
  exact thn hA fun us s2 ⟨vs, H2, I2, r2, q2⟩ => hm pins s2 σ H2 (.ref b) vs _ us Q I2 rfl r2 q2
def kgV (d : PyData) : Option Int → PyData
  | some i => .int i
  | none => d
def kgW (kvs : List (Str × Int)) : List PV → (PV → Prop) → Prop := fun ps C => match ps with
  | [.dat (.str k), .dat d] => C (.dat (kgV d (kvs.lookup k)))
  | _ => False
@[simp] theorem kgW_at {kvs : List (Str × Int)} {k : Str} {d : PyData} {C : PV → Prop} : kgW kvs [.dat (.str k), .dat d] C ↔ C (.dat (kgV d (kvs.lookup k))) := Iff.rfl
@[simp] theorem kgV_some {d : PyData} {i : Int} : kgV d (some i) = .int i := rfl
@[simp] theorem kgV_none {d : PyData} : kgV d none = d := rfl
@[simp] def hKGet (kvs : List (Str × Int)) (ta : HA) : HE := fun s C => ta s fun ps s1 => kgW kvs ps fun p => C p s1
theorem hp_kget {X : Cx} {f : Fr} {kvs : List (Str × Int)} {x : Str} {p apos cpos : Pos} {e : Expr} {es : List Expr} {ta : HA} (h : CstD X.K X.w X.mg x kvs) (hu : X.A.units + 64 < cLine) (hg : Gl X x) (ha : PA X (e :: es) (lfA X.K f ta)) (hdb : (x == ("__debug__" : Str)) = false := by decide)
    (hbase : attributeBase (.Name x p) "get" X.env (eval (.Name x p) X.env) = eval (.Name x p) X.env := by rfl)
    (hfew : ((backTo cpos (starEach (e :: es) X.env)).all (fun x => !x.1) && (backToKw cpos (keywordEach [] X.env)).all (fun x => x.1.isSome)
      && decide ((e :: es).length + ([] : List Keyword).length + (if ([] : List Keyword).isEmpty then 0 else 1) < 30)) = true := by rfl)
    (hline : (apos.endLine == cpos.line) = true := by rfl) (hs : starEach (e :: es) X.env = (false, eval e X.env) :: starEach es X.env := by rfl) (hplain : (backTo cpos (starEach es X.env)).any (·.1) = false := by rfl) :
    PE X (.Call (.Attribute (.Name x p) "get" apos) (e :: es) [] cpos) (lf X.K f (hKGet kvs ta)) := by
  obtain ⟨a, o, hm, l, d⟩ := h.ex
  refine (pe_km (kvs := kvs) PySem.F.slot_dict_get PySem.F.type_dict_get (mt_kget3 (kvs := kvs) hu) (pe_glob (v := .ref a) hg hm rfl hdb) ha hbase hfew hline hs hplain).mono fun σ H Q q => ?_
  obtain ⟨F, O, G, s, C, R, ht, k⟩ := q
  refine ⟨⟨a, o, rfl, l, d⟩, F, O, G, s, _, R, ht, fun ps s1 G1 H1 vs c1 e1 R1 V1 => ?_⟩
  unfold kgW at c1
  split at c1
  · rename_i kk dd
    have c2 := c1
    cases V1 with
    | cons v1 V1 =>
      cases V1 with
      | cons v2 V1 =>
        cases V1
        have v1 : Dp X.K G1 _ (.str kk) := v1
        have v2 : Dp X.K G1 _ dd := v2
        cases v1
        refine ⟨a, o, kk, _, rfl, rfl, l, d, ?_⟩
        cases hl : kvs.lookup kk with
        | none => rw [hl] at c2; exact k _ _ _ _ _ c2 e1 R1 (vrf_dat v2)
        | some i => rw [hl] at c2; exact k _ _ _ _ _ c2 e1 R1 (vrf_dat (.int _))
  · exact c1.elim
end Sk
set_option Elab.async false
set_option linter.all false
set_option maxRecDepth 100000
set_option maxHeartbeats 2000000
namespace Sk
open PySem PySem.Spec PyProof.Rows L2
open Evl (Ex)
@[simp] def hRoom (j : Nat) : HE := fun s C => s.sl[j]? = some (some .drw) ∧ ∀ r : Int, C (.dat (.int r)) s
@[simp] def hPutRoom (j : Nat) (t : HE) : HS := fun D s => t s fun p s1 => s1.sl[j]? = some (some .drw) ∧ (∃ i : Int, p = .dat (.int i)) ∧ D.nx s1
section
variable {X : Cx} {f : Fr} {e v : Expr} {st : Stmt} {j : Nat} {t : HE}
theorem hp_room (h : PE X e (tDGet (tVar j) (tC (.str "room")))) : PE X e (lf X.K f (hRoom j)) := h.mono fun σ H Q q => by
  obtain ⟨F, O, G, s, C, R, ⟨hj, hC⟩, k⟩ := q
  obtain ⟨v, e0, on, rfl⟩ := R.sl j _ hj
  obtain ⟨at', cs, ls, rest, hmm, a0, an, hc, hcl, hcb, hl, hll, hlb, ⟨rr, rfl⟩, hcn⟩ := R.dr on
  exact ⟨.ref _, e0, _, .int rr, rfl, dget_of hmm v_room, k _ _ _ _ _ (hC rr) (Ex.refl G) R (vrf_dat (.int _))⟩
theorem hs_room (hv : PE X v (lf X.K f t)) (h : ∀ {tv : TE}, PE X v tv → PS X st (sDPut (tVar j) (tC (.str "room")) tv)) : PS X st (lfS X.K f (hPutRoom j t)) := (h hv).mono fun D σ H q => by
  obtain ⟨F, O, G, s, D', R, ht, im⟩ := q
  refine ⟨F, O, G, s, _, R, ht, fun p s1 G1 H1 w c1 e1 R1 V1 => ?_⟩
  obtain ⟨hj, ⟨i, rfl⟩, hD⟩ := c1
  cases vr_int V1.1
  obtain ⟨v, e0, on, rfl⟩ := R1.sl j _ hj
  obtain ⟨f', Gc, x1, x2, x3, x4, x5, R', x6, x7, _, back⟩ := spH_core (k := 1) (ps := [.drw]) (vs := [.ref (fo f F O).m]) R1 (.cons ⟨on, rfl⟩ .nil) rfl (by simp [PV.isD])
  obtain ⟨v', e', on', ev⟩ := R'.sl 0 .drw rfl
  have em : f'.m = (fo f F O).m := by
    simp at e'
    rw [ev] at e'
    exact (V.ref.inj e').symm
  obtain ⟨at', cs, ls, rest, hmm, a0, an, hc, hcl, hcb, hl, hll, hlb, ⟨rr, rfl⟩, hcn⟩ := R'.dr on'
  have ml : f'.l ≠ f'.m := fun z => by rw [← z, hl] at hmm; cases hmm
  have mc : f'.c ≠ f'.m := fun z => by rw [← z, hc] at hmm; cases hmm
  have R2 := R'.drawn on' (H' := upd H1 f'.m (.dK (dkv f'.c f'.l at' (rmL i)))) (n' := s1.n) ⟨at', cs, ls, rmL i, upd_same, a0, an, by rw [upd_ne mc]; exact hc, hcl, hcb, by rw [upd_ne ml]; exact hl, hll, hlb, ⟨i, rfl⟩, hcn⟩ fun a o n1 n2 h => by rw [upd_ne n1]; exact h
  obtain ⟨G2, e2, R3, _⟩ := back (.dat .none) s1.n Gc _ .non (fun _ => rfl) (Ex.refl _) R2 .non
  have hmm' : H1 (fo f F O).m = some (.dK (dkv f'.c f'.l at' (rmL rr))) := em ▸ hmm
  refine ⟨_, e0, (fo f F O).m, _, rfl, DPut.k (k := .inr "room") hmm' (big_dkv (by simp)), ?_⟩
  rw [put_room, ← em]
  exact im.nx _ _ _ _ (e1.trans e2) R3 hD
end
end Sk
set_option Elab.async false
set_option linter.all false
set_option maxRecDepth 100000
set_option maxHeartbeats 2000000
namespace Sk
open PySem PySem.Spec PyProof.Rows L2
open Evl (Ex)
theorem Has.void {P : Program} {w : World} {T : Tbs} {K : PySem.W.Frag} {mg : Str → Option Value} {base : Heap} {k : Nat} {fa : Addr} {fd : FuncData} {x : Str} {st : Stmt} {N ps : List Str} {sp : HSp} (Fn : Fun K x x st fa fd) (hm : mg x = some (.ref fa)) (b : Binds K fd ps []) (S : FnScope N ps (defScope st)) (hk : 0 < k)
    (no : ∀ pvs n C, sp pvs n C → False) : Has P w T K mg base k x ps.length sp := by
  obtain ⟨k, rfl⟩ : ∃ j, k = j + 1 := ⟨k - 1, by omega⟩
  refine ⟨fa, fd, ps, rfl, gn_ok Fn S vals_len (fun cdv ecd A outer s H vs Q E hgd hr h => ?_), hm, Fn.kp, b⟩
  obtain ⟨f, G, n, pvs, C, _, _, _, _, _, R, _, hk, hsp, _⟩ := h
  exact (no _ _ _ hsp).elim
end Sk
set_option Elab.async false
set_option linter.all false
set_option maxRecDepth 100000
set_option maxHeartbeats 2000000
namespace Sk
open PySem PySem.Spec PyProof.Rows L2
open PySem.W (Datum DatumOrd Tup T3 T4)
open Evl (Ex)
@[simp] def c_BARS : PyData := (.tuple [(.str "stop"), (.str "spin"), (.str "out"), (.str "own"), (.str "beside"), (.str "hide"), (.str "as")])
@[simp] def c_HIDDEN : PyData := (.str "")
@[simp] def c_LETTERS : PyData := (.str "abcdefghijklmnopqrstuvwxyz")
@[simp] def c_MOST_DEEDS : PyData := (.int 8)
@[simp] def c_MOST_LETTERS : PyData := (.int 6)
@[simp] def c_MOST_NODES : PyData := (.int 300)
def letters : Str := "abcdefghijklmnopqrstuvwxyz"
def bars : List Str := ["stop", "spin", "out", "own", "beside", "hide", "as"]
def isWordS (z : Str) : Bool := decide (1 ≤ z.length) && decide (z.length ≤ 6) && !decide (z ∈ bars) && z.cps.toList.all fun c => decide (c ∈ letters.cps)
def isWordD : PyData → Bool
  | .str z => isWordS z
  | _ => false
def sp_is_word_e81331 : HSp := fun ps n C => ∃ d, ps = [.dat d] ∧ (∀ z, d = .str z → z.length ≤ sizeLine) ∧ C (.dat (.bool (isWordD d))) n
def h_is_word_e81331 : HS :=
    (hSeq (hIfS (hOr (hNot (hB (hC isiW (hL 0 (fun s C => hNil s fun ps s2 => C (.val (.ty "str") :: ps) s2))))) (hOr (hNot (hB (hChain leW leW (hE (hK (.int 1))) (hE (hC lenW (hL 0 hNil))) (hE (hK c_MOST_LETTERS))))) (hB (hC (inP false) (hL 0 (hE (hK c_BARS) hNil)))))) (hRet (hK (.bool false))) hNext)
    (hRet (hC (allW fun bs => bs.all id) (hE (hLc (hiS (hV 0)) (gN 1) hYes (hC inS (hL 1 (hE (hK c_LETTERS) hNil))) [1]) hNil))))
theorem rd_is_word_e81331 : ∀ pvs n C, pvs.length = 1 → sp_is_word_e81331 pvs n C → h_is_word_e81331 ⟨fun s => C (.dat .none) s.n, fun p s => C p s.n, fun _ => False, fun _ => False⟩ ⟨pvs.map some ++ List.replicate (2 - pvs.length) none, n⟩ := by
  intro pvs n C _ h
  obtain ⟨d, rfl, hz, c⟩ := h
  unfold h_is_word_e81331
  cases d with
  | str z =>
    simp
    refine ⟨hz z rfl, ?_⟩
    by_cases h1 : (z.length : Int) < 1
    · exact Or.inl ⟨h1, by
        have e : isWordD (.str z) = false := by
          have : ¬ 1 ≤ z.length := by omega
          simp [isWordD, isWordS, this]
        rw [e] at c; exact c⟩
    refine Or.inr ⟨by omega, ?_⟩
    by_cases h2 : (6 : Int) < z.length
    · exact Or.inl ⟨h2, by
        have e : isWordD (.str z) = false := by
          have : ¬ z.length ≤ 6 := by omega
          simp [isWordD, isWordS, this]
        rw [e] at c; exact c⟩
    refine Or.inr ⟨by omega, inP_D z bars rfl rfl (by decide) ?_⟩
    have l1 : 1 ≤ z.length := by omega
    have l2 : z.length ≤ 6 := by omega
    by_cases h3 : z ∈ bars
    · refine Or.inr ⟨by simp [h3], ?_⟩
      have e : isWordD (.str z) = false := by simp [isWordD, isWordS, h3]
      rw [e] at c; exact c
    · refine Or.inl ⟨by simp [h3], ?_⟩
      have e : isWordD (.str z) = z.cps.toList.all fun x => decide (x ∈ letters.cps) := by simp [isWordD, isWordS, h3, l1, l2]
      rw [e] at c
      refine lcs_map (fun c => PyData.str ⟨#[c]⟩) (fun x => .bool (decide (x ∈ letters.cps))) (fun a _ K hK => ?_) [] _ (by simp; show z.length ≤ 100000; omega) ?_
      · simp
        refine hK _ ?_
        simp
      · simp
        refine allW_b (bs := z.cps.toList.map fun x => decide (x ∈ letters.cps)) (by simp) ?_
        simpa [List.all_map, Function.comp] using c
  | _ => simpa [isWordD] using c
end Sk
set_option Elab.async false
set_option linter.all false
set_option maxRecDepth 100000
set_option maxHeartbeats 2000000
namespace Sk
open PySem PySem.Spec PyProof.Rows L2
open PySem.W (Datum DatumOrd Tup T3 T4)
open Evl (Ex)
def isNumD : PyData → Int → Bool
  | .int i, m => decide (0 ≤ i) && decide (i < m)
  | _, _ => false
def isEmptyD : PyData → Bool
  | .str z => decide (z = "")
  | _ => false
def isMoveD : PyData → Int → Bool
  | .tuple [a, b], m => isNumD b m && (isWordD a || isEmptyD a)
  | _, _ => false
end Sk
set_option Elab.async false
set_option linter.all false
set_option maxRecDepth 100000
set_option maxHeartbeats 2000000
namespace Sk
open PySem PySem.Spec PyProof.Rows L2
open PySem.W (Datum DatumOrd Tup T3 T4)
open Evl (Ex)
def mvOf : PyData → Str × Int
  | .tuple [.str s, .int i] => (s, i)
  | _ => ("", 0)
def chainLt (xs : List (Str × Int)) : Bool := (xs.zip (xs.drop 1)).all fun p => DatumOrd.lt p.1 p.2
def isRowD : PyData → Int → Bool
  | .tuple ds, m => ds.all (isMoveD · m) && chainLt (ds.map mvOf)
  | _, _ => false
theorem cut1_none (ds : List PyData) : cutD ds (some 1) none = ds.drop 1 := by
  unfold cutD
  rw [show HT.sIx ds.length 0 (some 1) = min 1 ds.length from HT.sIx_nat ds.length 0 1, HT.sIx_none]
  cases ds with
  | nil => rfl
  | cons x r =>
    have : min 1 (x :: r).length = 1 := by rw [List.length_cons]; omega
    rw [this]
    show (List.take ((x :: r).length - 1) r) = r
    rw [List.length_cons, Nat.add_sub_cancel]
    exact List.take_length
theorem zipD_map {α β : Type} (e : α → PyData) (e' : β → PyData) : ∀ (xs : List α) (ys : List β), zipD (xs.map e) (ys.map e') = (xs.zip ys).map fun p => .tuple [e p.1, e' p.2]
  | [], _ => by simp [zipD]
  | _ :: _, [] => by simp [zipD]
  | x :: xs, y :: ys => by simp [zipD, zipD_map e e' xs ys]
end Sk
set_option Elab.async false
set_option linter.all false
set_option maxRecDepth 100000
set_option maxHeartbeats 2000000
namespace Sk
open PySem PySem.Spec PyProof.Rows L2
open PySem.W (Datum DatumOrd Tup T3 T4)
open Evl (Ex)
abbrev Mch := Tup (Tup (Str × Int))
def Mch.rows (M : Mch) : List (List (Str × Int)) := M.items.map Tup.items
def rowDeeds (r : List (Str × Int)) : List Str := (r.filter fun p => decide (p.1 ≠ ("" : Str))).map (·.1)
def Mch.deeds (M : Mch) : List Str := (M.rows.map rowDeeds).flatten
def Mch.size (M : Mch) : Nat := (M.rows.map List.length).sum
end Sk
set_option Elab.async false
set_option linter.all false
set_option maxRecDepth 100000
set_option maxHeartbeats 2000000
namespace Sk
open PySem PySem.Spec PyProof.Rows L2
open PySem.W (Datum DatumOrd Tup T3 T4)
open Evl (Ex)
structure MOk (M : Mch) : Prop where
  lo : 1 ≤ M.items.length
  hi : M.items.length ≤ 300
  mv : ∀ r ∈ M.items, ∀ p ∈ r.items, 0 ≤ p.2 ∧ p.2 < M.items.length ∧ (isWordS p.1 = true ∨ p.1 = ("" : Str))
  up : ∀ r ∈ M.items, Rising r.items
  ds : (sortU M.deeds).length ≤ 8
  sz : M.size ≤ 40000
theorem MOk.row {M : Mch} (h : MOk M) : ∀ r ∈ M.rows, r.length ≤ 40000 := fun r hr => by
  have gen : ∀ (rs : List (List (Str × Int))), r ∈ rs → r.length ≤ (rs.map List.length).sum := fun rs => by
    induction rs with
    | nil => intro h; cases h
    | cons q rs ih =>
      intro h
      rw [List.map_cons, List.sum_cons]
      rcases List.mem_cons.mp h with rfl | h
      · omega
      · have := ih h; omega
  exact Nat.le_trans (gen _ hr) h.sz
theorem word_len {z : Str} (h : isWordS z = true ∨ z = ("" : Str)) : z.length ≤ sizeLine := by
  rcases h with h | rfl
  · unfold isWordS at h
    simp at h
    have := h.1.1.2
    rw [sizeLine_eq]; omega
  · exact Nat.zero_le _
theorem isMove_ok {p : Str × Int} {m : Int} (h0 : 0 ≤ p.2) (h1 : p.2 < m) (h2 : isWordS p.1 = true ∨ p.1 = ("" : Str)) : isMoveD (Datum.toD p) m = true := by
  show (isNumD (.int p.2) m && (isWordD (.str p.1) || isEmptyD (.str p.1))) = true
  simp [isNumD, isWordD, isEmptyD, h0, h1, h2]
theorem chain_ok : ∀ {xs : List (Str × Int)}, Rising xs → chainLt xs = true
  | [], _ => rfl
  | [x], _ => rfl
  | x :: y :: r, h => by
    have h1 : DatumOrd.lt x y = true := (List.pairwise_cons.mp h).1 y List.mem_cons_self
    have ih := chain_ok (xs := y :: r) (List.pairwise_cons.mp h).2
    unfold chainLt at ih ⊢
    simp only [List.drop_succ_cons, List.drop_zero, List.zip_cons_cons, List.all_cons, h1, Bool.true_and] at ih ⊢
    exact ih
theorem MOk.isRow {M : Mch} (h : MOk M) {r : Tup (Str × Int)} (hr : r ∈ M.items) : isRowD (Datum.toD r) M.items.length = true := by
  show ((r.items.map Datum.toD).all (isMoveD · M.items.length) && chainLt ((r.items.map Datum.toD).map mvOf)) = true
  have e : (r.items.map Datum.toD).map mvOf = r.items := by
    rw [List.map_map]
    exact List.map_id'' (fun p => rfl) _
  rw [e, chain_ok (h.up r hr), Bool.and_true, List.all_eq_true]
  intro d hd
  obtain ⟨p, hp, rfl⟩ := List.mem_map.mp hd
  obtain ⟨a, b, c⟩ := h.mv r hr p hp
  exact isMove_ok a b c
inductive Reach (M : Mch) : Int → Prop
  | start : Reach M 0
  | step {x : Int} {r : List (Str × Int)} {p : Str × Int} : Reach M x → M.rows[x.toNat]? = some r → p ∈ r → Reach M p.2
end Sk
set_option Elab.async false
set_option linter.all false
set_option maxRecDepth 100000
set_option maxHeartbeats 2000000
namespace Sk
open PySem PySem.Spec PyProof.Rows L2
open PySem.W (Datum DatumOrd Tup T3 T4)
open Evl (Ex)
structure Going (M : Mch) (ex : Int → Prop) (ks ws : List Int) : Prop where
  nd : ks.Nodup
  rng : ∀ k ∈ ks, 0 ≤ k ∧ k < M.items.length
  rch : ∀ k ∈ ks, Reach M k
  sub : ∀ x ∈ ws, x ∈ ks
  zero : (0 : Int) ∈ ks
  cl : ∀ x ∈ ks, x ∉ ws → ¬ ex x → ∀ r, M.rows[x.toNat]? = some r → ∀ p ∈ r, p.2 ∈ ks
theorem Going.small {M : Mch} {ex : Int → Prop} {ks ws : List Int} (h : Going M ex ks ws) : ks.length ≤ M.items.length := by
  have := nodup_le ks ((List.range M.items.length).map fun i => ((i : Nat) : Int)) h.nd fun k hk => by
    obtain ⟨a, b⟩ := h.rng k hk
    exact List.mem_map.mpr ⟨k.toNat, List.mem_range.mpr (by omega), by omega⟩
  simpa using this
end Sk
set_option Elab.async false
set_option linter.all false
set_option maxRecDepth 100000
set_option maxHeartbeats 2000000
namespace Sk
open PySem PySem.Spec PyProof.Rows L2
open PySem.W (Datum DatumOrd Tup T3 T4)
open Evl (Ex)
theorem cmul {i j : Int} (h : i.natAbs < 2 ^ 100) (h2 : j.natAbs < 2 ^ 100) : CMulW i j := wide_mul h h2 (by decide) (by decide) (by decide)
abbrev sp__law_mixed_2d863d : HSp := spMixed
def h__law_mixed_2d863d : HS :=
    (hSeq (hAsg (hC addW (hE (hC addW (hE (hC modW (hE (hC mulW' (hE (hC mulW' (hL 0 (hE (hC addW (hE (hK (.int 1)) (hE (hC mulW' (hE (hK (.int 2)) (hL 1 hNil))) hNil))) hNil))) (hE (hK (.int 48271)) hNil))) (hE (hK (.int 2147483647)) hNil))) (hE (hC mulW' (hE (hC mulW' (hE (hK (.int 7919)) (hL 1 hNil))) (hL 1 hNil))) hNil))) (hE (hC mulW' (hE (hK (.int 104729)) (hL 1 hNil))) hNil))) 2)
    (hRet (hC fdivW (hE (hC modW (hE (hC mulW' (hL 2 (hE (hK (.int 69621)) hNil))) (hE (hK (.int 2147483629)) hNil))) (hE (hK (.int 7)) hNil)))))
theorem rd__law_mixed_2d863d : ∀ pvs n C, pvs.length = 2 → sp__law_mixed_2d863d pvs n C → h__law_mixed_2d863d ⟨fun s => C (.dat .none) s.n, fun p s => C p s.n, fun _ => False, fun _ => False⟩ ⟨pvs.map some ++ List.replicate (3 - pvs.length) none, n⟩ := by
  intro pvs n C _ h
  obtain ⟨c, k, rfl, c0, c1, k0, k1, q⟩ := h
  unfold h__law_mixed_2d863d
  have a1 : 0 ≤ c * (1 + 2 * k) := Int.mul_nonneg c0 (by omega)
  have a2 : c * (1 + 2 * k) ≤ 4294967296 * 1073741825 := Int.mul_le_mul (by omega) (by omega) (by omega) (by decide)
  have b0 : 0 ≤ 7919 * k * k := Int.mul_nonneg (by omega) k0
  have b1 : 7919 * k * k ≤ (7919 * 536870912) * 536870912 := Int.mul_le_mul (by omega) (by omega) (by omega) (by decide)
  have m0 : 0 ≤ c * (1 + 2 * k) * 48271 % 2147483647 := Int.emod_nonneg _ (by decide)
  have m1 : c * (1 + 2 * k) * 48271 % 2147483647 < 2147483647 := Int.emod_lt_of_pos _ (by decide)
  generalize hx : c * (1 + 2 * k) = x at *
  generalize hy : 7919 * k * k = y at *
  generalize hz : x * 48271 % 2147483647 = z at *
  simp [hx, hy, hz]
  have e2 : (2 : Nat) ^ 100 = 1267650600228229401496703205376 := by decide
  have n0 : 0 ≤ (z + y + 104729 * k) * 69621 % 2147483629 := Int.emod_nonneg _ (by decide)
  have n1 : (z + y + 104729 * k) * 69621 % 2147483629 < 2147483629 := Int.emod_lt_of_pos _ (by decide)
  refine ⟨cmul (by rw [e2]; omega) (by rw [e2]; omega), cmul (by rw [e2]; omega) (by rw [e2]; omega), cmul (by rw [e2]; omega) (by rw [e2]; omega), cmul (by rw [e2]; omega) (by rw [e2]; omega), cmul (by rw [e2]; omega) (by rw [e2]; omega), cmul (by rw [e2]; omega) (by rw [e2]; omega), cmul (by rw [e2]; omega) (by rw [e2]; omega), wide_div (b := 10) (by decide) (by decide) (by decide) (by decide), q _ ?_ ?_⟩
  · exact Int.ediv_nonneg n0 (by decide)
  · generalize (z + y + 104729 * k) * 69621 % 2147483629 = u at *
    omega
abbrev sp__law_folded_8cf898 : HSp := spFolded
theorem atI_int {cs : List Int} {i : Int} (h0 : 0 ≤ i) (h1 : i < cs.length) : ∃ x, atI (cs.map PyData.int) i = some (.int x) ∧ x ∈ cs ∧ ixN cs.length i = some i.toNat := by
  have hl : i.toNat < cs.length := by omega
  refine ⟨cs[i.toNat], ?_, List.getElem_mem hl, ?_⟩
  · unfold atI ixN
    rw [List.length_map, if_pos h0, if_pos (by omega)]
    show (cs.map PyData.int)[i.toNat]? = _
    rw [List.getElem?_map, List.getElem?_eq_getElem hl]; rfl
  · unfold ixN
    rw [if_pos h0, if_pos h1]
def Cells (cs : List Int) : Prop := cs.length = 64 ∧ ∀ x ∈ cs, 0 ≤ x ∧ x < 2147483647
theorem Cells.set {cs : List Int} (h : Cells cs) {j : Nat} {x : Int} (h0 : 0 ≤ x) (h1 : x < 2147483647) : Cells (cs.set j x) := ⟨by rw [List.length_set]; exact h.1, fun y hy => by
  rcases List.mem_or_eq_of_mem_set hy with hy | rfl
  · exact h.2 y hy
  · exact ⟨h0, h1⟩⟩
theorem fold1 {D : HD} {p0 : Option PV} {n : Nat} : ∀ (ns : List Int) (i : Nat) (cs : List Int) (o2 o3 : Option PV), Cells cs → i + ns.length ≤ 1000 → (∀ (cs' : List Int) (o2' o3' : Option PV), Cells cs' → D.nx ⟨[p0, some (.own (cs'.map .int)), o2', o3'], n⟩) →
    each (gP 2 3) (hSetL 1 (hC modW (hE (hC addW (hE (hC mulW' (hE (hC ixW (hL 1 (hE (hC modW (hL 2 (hE (hK (.int 64)) hNil))) hNil))) (hE (hK (.int 48271)) hNil))) (hL 3 hNil))) (hE (hK (.int 2147483647)) hNil))) (hC modW (hL 2 (hE (hK (.int 64)) hNil)))) D (enumD i (ns.map .int)) ⟨[p0, some (.own (cs.map .int)), o2, o3], n⟩ := by
  intro ns
  induction ns with
  | nil => intro i cs o2 o3 hc _ fin; exact fin cs o2 o3 hc
  | cons x ns ih =>
    intro i cs o2 o3 hc hi fin
    have m0 : 0 ≤ (i : Int) % 64 := Int.emod_nonneg _ (by decide)
    have m1 : (i : Int) % 64 < 64 := Int.emod_lt_of_pos _ (by decide)
    obtain ⟨y, h1, h2, h3⟩ := atI_int (cs := cs) m0 (by rw [hc.1]; exact m1)
    obtain ⟨y0, y1⟩ := hc.2 y h2
    have e2 : (2 : Nat) ^ 100 = 1267650600228229401496703205376 := by decide
    have r0 : 0 ≤ (y * 48271 + x) % 2147483647 := Int.emod_nonneg _ (by decide)
    have r1 : (y * 48271 + x) % 2147483647 < 2147483647 := Int.emod_lt_of_pos _ (by decide)
    simp [enumD, h1]
    refine ⟨cmul (by rw [e2]; omega) (by rw [e2]; omega), _, h3, ?_⟩
    have e : ((cs.map PyData.int).set ((i : Int) % 64).toNat (.int ((y * 48271 + x) % 2147483647))) = (cs.set ((i : Int) % 64).toNat ((y * 48271 + x) % 2147483647)).map .int := by rw [List.map_set]
    rw [e]
    have hi' : i + (ns.length + 1) ≤ 1000 := by simpa using hi
    exact ih (i + 1) _ _ _ (hc.set r0 r1) (by omega) fin
theorem fold2 {D : HD} {p0 : Option PV} {n : Nat} : ∀ (ks : List Nat) (cs : List Int) (o2 o3 : Option PV), Cells cs → (∀ k ∈ ks, k < 63) → (∀ (cs' : List Int) (o2' o3' : Option PV), Cells cs' → D.nx ⟨[p0, some (.own (cs'.map .int)), o2', o3'], n⟩) →
    each (gN 2) (hSetL 1 (hC modW (hE (hC addW (hE (hC ixW (hL 1 (hL 2 hNil))) (hE (hC mulW' (hE (hC ixW (hL 1 (hE (hC subW (hL 2 (hE (hK (.int 1)) hNil))) hNil))) (hE (hK (.int 16807)) hNil))) hNil))) (hE (hK (.int 2147483647)) hNil))) (hV 2)) D (ks.map fun i => .int (1 + (i : Nat))) ⟨[p0, some (.own (cs.map .int)), o2, o3], n⟩ := by
  intro ks
  induction ks with
  | nil => intro cs o2 o3 hc _ fin; exact fin cs o2 o3 hc
  | cons k ks ih =>
    intro cs o2 o3 hc hk fin
    have k1 := hk k List.mem_cons_self
    obtain ⟨y, h1, h2, h3⟩ := atI_int (cs := cs) (i := 1 + (k : Int)) (by omega) (by rw [hc.1]; omega)
    obtain ⟨x, g1, g2, g3⟩ := atI_int (cs := cs) (i := (k : Int)) (by omega) (by rw [hc.1]; omega)
    obtain ⟨y0, y1⟩ := hc.2 y h2
    obtain ⟨x0, x1⟩ := hc.2 x g2
    have e2 : (2 : Nat) ^ 100 = 1267650600228229401496703205376 := by decide
    have r0 : 0 ≤ (y + x * 16807) % 2147483647 := Int.emod_nonneg _ (by decide)
    have r1 : (y + x * 16807) % 2147483647 < 2147483647 := Int.emod_lt_of_pos _ (by decide)
    have ek : (1 : Int) + k - 1 = k := by omega
    simp [h1, ek, g1]
    refine ⟨cmul (by rw [e2]; omega) (by rw [e2]; omega), _, h3, ?_⟩
    have e : ((cs.map PyData.int).set (1 + (k : Int)).toNat (.int ((y + x * 16807) % 2147483647))) = (cs.set (1 + (k : Int)).toNat ((y + x * 16807) % 2147483647)).map .int := by rw [List.map_set]
    rw [e]
    exact ih _ _ _ (hc.set r0 r1) (fun q hq => hk q (List.mem_cons_of_mem _ hq)) fin
def h__law_folded_8cf898 : HS :=
    (hSeq (hAsg (hLc (hiR1 (hE (hK (.int 64)) hNil)) (gN 2) hYes (hC addW (hE (hK (.int 17)) (hL 2 hNil))) [2]) 1)
    (hSeq (hFor (hiE (hE (hV 0) hNil)) (gP 2 3) (hSetL 1 (hC modW (hE (hC addW (hE (hC mulW' (hE (hC ixW (hL 1 (hE (hC modW (hL 2 (hE (hK (.int 64)) hNil))) hNil))) (hE (hK (.int 48271)) hNil))) (hL 3 hNil))) (hE (hK (.int 2147483647)) hNil))) (hC modW (hL 2 (hE (hK (.int 64)) hNil)))))
    (hSeq (hFor (hiR2 (hE (hK (.int 1)) (hE (hK (.int 64)) hNil))) (gN 2) (hSetL 1 (hC modW (hE (hC addW (hE (hC ixW (hL 1 (hL 2 hNil))) (hE (hC mulW' (hE (hC ixW (hL 1 (hE (hC subW (hL 2 (hE (hK (.int 1)) hNil))) hNil))) (hE (hK (.int 16807)) hNil))) hNil))) (hE (hK (.int 2147483647)) hNil))) (hV 2)))
    (hRet (hM 1)))))
theorem rd__law_folded_8cf898 : ∀ pvs n C, pvs.length = 1 → sp__law_folded_8cf898 pvs n C → h__law_folded_8cf898 ⟨fun s => C (.dat .none) s.n, fun p s => C p s.n, fun _ => False, fun _ => False⟩ ⟨pvs.map some ++ List.replicate (4 - pvs.length) none, n⟩ := by
  intro pvs n C _ h
  obtain ⟨ns, rfl, hn, q⟩ := h
  unfold h__law_folded_8cf898
  simp [rngD]
  refine lcs_map (fun i : Nat => PyData.int (i : Nat)) (fun i => .int (17 + (i : Nat))) (fun a _ K hK => ?_) [] _ (by simp) ?_
  · simp
    refine hK _ ?_
    simp
  · simp only [List.nil_append]
    have e : (List.range 64).map (fun i : Nat => PyData.int (17 + (i : Nat))) = ((List.range 64).map fun i : Nat => (17 : Int) + (i : Nat)).map .int := by simp
    rw [e]
    refine fold1 ns 0 _ _ _ ⟨by simp, fun x hx => ?_⟩ (by omega) fun cs o2 o3 hc => ?_
    · obtain ⟨i, hi, rfl⟩ := List.mem_map.mp hx
      have := List.mem_range.mp hi
      omega
    · simp [rngD]
      refine fold2 (List.range 63) cs _ _ hc (fun k hk => List.mem_range.mp hk) fun cs' o2' o3' hc' => ?_
      simp
      exact q cs' hc'.1 hc'.2
end Sk
set_option Elab.async false
set_option linter.all false
set_option maxRecDepth 100000
set_option maxHeartbeats 4000000
namespace Sk
open PySem PySem.Spec PyProof.Rows L2
open PySem.W (Datum DatumOrd Tup T3 T4)
open Evl (Ex)
open TL (tl tl_append tl_join joinL)
def Lets (z : Str) : Prop := ∀ c ∈ z.cps.toList, c ∈ letters.cps
theorem letter_at (i : Int) : ∃ c, atI (letters.cps.toList) (i % 26) = some c ∧ c ∈ letters.cps := by
  have m0 : 0 ≤ i % 26 := Int.emod_nonneg _ (by decide)
  have m1 : i % 26 < 26 := Int.emod_lt_of_pos _ (by decide)
  have hl : (i % 26).toNat < letters.cps.toList.length := by
    have : letters.cps.toList.length = 26 := by decide
    omega
  refine ⟨letters.cps.toList[(i % 26).toNat], ?_, Array.mem_toList_iff.mp (List.getElem_mem hl)⟩
  unfold atI ixN
  have : letters.cps.toList.length = 26 := by decide
  rw [if_pos m0, if_pos (by omega)]
  exact List.getElem?_eq_getElem hl
theorem lets_append {a b : Str} (ha : Lets a) (hb : Lets b) : Lets (a ++ b) := fun c hc => by
  have e : (a ++ b).cps.toList = a.cps.toList ++ b.cps.toList := tl_append a b
  rw [e] at hc
  rcases List.mem_append.mp hc with h | h
  · exact ha c h
  · exact hb c h
theorem lets_one {c : Nat} (h : c ∈ letters.cps) : Lets ⟨#[c]⟩ := fun x hx => by
  simp at hx
  subst hx; exact h
theorem lets_cut {a : Str} {lo hi : Option Int} (ha : Lets a) : Lets (cutS a lo hi) := fun c hc => by
  unfold cutS at hc
  exact ha c (List.mem_of_mem_drop (List.mem_of_mem_take (by simpa using hc)))
theorem join_tl (ys : List Str) : (Txt.join ("" : Str) ys).cps.toList = (ys.map tl).flatten := by
  rw [TL.join_eq]
  show tl (Str.join ("" : Str) ys) = _
  rw [tl_join]
  have gen : ∀ ps : List (List Nat), joinL (tl ("" : Str)) ps = ps.flatten := by
    intro ps
    induction ps with
    | nil => rfl
    | cons p ps ih =>
      cases ps with
      | nil => simp [joinL]
      | cons q r =>
        show p ++ (tl ("" : Str) ++ joinL (tl ("" : Str)) (q :: r)) = _
        rw [ih]; rfl
  exact gen _
theorem join_lets : ∀ ys : List Str, (∀ y ∈ ys, Lets y ∧ y.length = 1) → Lets (Txt.join ("" : Str) ys) ∧ (Txt.join ("" : Str) ys).length = ys.length := fun ys h => by
  have e : (Txt.join ("" : Str) ys).cps.toList = (ys.map tl).flatten := by
    rw [TL.join_eq]
    show tl (Str.join ("" : Str) ys) = _
    rw [tl_join]
    have gen : ∀ ps : List (List Nat), joinL (tl ("" : Str)) ps = ps.flatten := by
      intro ps
      induction ps with
      | nil => rfl
      | cons p ps ih =>
        cases ps with
        | nil => simp [joinL]
        | cons q r =>
          show p ++ (tl ("" : Str) ++ joinL (tl ("" : Str)) (q :: r)) = _
          rw [ih]; rfl
    exact gen _
  constructor
  · intro c hc
    rw [e] at hc
    obtain ⟨l, hl, hcl⟩ := List.mem_flatten.mp hc
    obtain ⟨y, hy, rfl⟩ := List.mem_map.mp hl
    exact (h y hy).1 c hcl
  · have e2 : (Txt.join ("" : Str) ys).length = (ys.map tl).flatten.length := by rw [← e]; rfl
    rw [e2, List.length_flatten, List.map_map]
    clear e e2
    induction ys with
    | nil => rfl
    | cons y ys ih =>
      have h1 : (tl y).length = 1 := (h y List.mem_cons_self).2
      have ih := ih fun z hz => h z (List.mem_cons_of_mem _ hz)
      simp only [List.map_cons, List.sum_cons, Function.comp, List.length_cons] at ih ⊢
      omega
theorem cut_hi {a : Str} {h : Int} (h0 : 0 ≤ h) : (cutS a none (some h)).length = min h.toNat a.length := by
  unfold cutS
  have e : HT.sIx a.length a.length (some h) = min h.toNat a.length := by
    have := HT.sIx_nat a.length a.length h.toNat
    rw [← this]; congr 2; omega
  rw [HT.sIx_none, e]
  have : a.length = a.cps.toList.length := rfl
  show ((a.cps.toList.drop 0).take (min h.toNat a.length - 0)).toArray.size = _
  simp
  have : a.length = a.cps.size := rfl
  omega
theorem cut_both {a : Str} {l h : Int} (l0 : 0 ≤ l) (lh : l ≤ h) (ha : h ≤ a.length) : (cutS a (some l) (some h)).length = (h - l).toNat := by
  unfold cutS
  have e : HT.sIx a.length a.length (some h) = h.toNat := by
    have := HT.sIx_nat a.length a.length h.toNat
    rw [show ((h.toNat : Nat) : Int) = h by omega] at this
    rw [this]; omega
  have e1 : HT.sIx a.length 0 (some l) = l.toNat := by
    have := HT.sIx_nat a.length 0 l.toNat
    rw [show ((l.toNat : Nat) : Int) = l by omega] at this
    rw [this]; omega
  rw [e, e1]
  have z : a.length = a.cps.size := rfl
  show ((a.cps.toList.drop l.toNat).take (h.toNat - l.toNat)).toArray.size = _
  simp
  omega
def fixW (w : Str) : Str := if w ∈ bars then ("zz" : Str) ++ cutS w none (some 1) ++ ("z" : Str) else w
def GoodW (w : Str) : Prop := Lets w ∧ 1 ≤ w.length ∧ w.length ≤ 6
theorem len_app (a b : Str) : (a ++ b).length = a.length + b.length := by
  show (a ++ b).cps.size = a.cps.size + b.cps.size
  have : (a ++ b).cps = a.cps ++ b.cps := rfl
  rw [this, Array.size_append]
theorem word_of {w : Str} (h : GoodW w) (hb : w ∉ bars) : isWordS w = true := by
  unfold isWordS
  simp only [Bool.and_eq_true, decide_eq_true_eq, Bool.not_eq_true', decide_eq_false_iff_not, List.all_eq_true]
  exact ⟨⟨⟨h.2.1, h.2.2⟩, hb⟩, h.1⟩
theorem fix_word {w : Str} (h : GoodW w) : isWordS (fixW w) = true := by
  unfold fixW
  split
  · rename_i hb
    have lz : ∀ c, c ∈ ("z" : Str).cps.toList → c ∈ letters.cps := by decide +kernel
    have lzz : ∀ c, c ∈ ("zz" : Str).cps.toList → c ∈ letters.cps := by decide +kernel
    have c1 : (cutS w none (some 1)).length = min 1 w.length := cut_hi (by decide)
    have ln : (("zz" : Str) ++ cutS w none (some 1) ++ ("z" : Str)).length = 4 := by
      have a : ("zz" : Str).length = 2 := rfl
      have b : ("z" : Str).length = 1 := rfl
      have := h.2.1
      rw [len_app, len_app, c1, a, b]
      omega
    refine word_of ⟨lets_append (lets_append lzz (lets_cut h.1)) lz, by rw [ln]; decide, by rw [ln]; decide⟩ fun hm => ?_
    have hd : (("zz" : Str) ++ cutS w none (some 1) ++ ("z" : Str)).cps.toList.head? = some 122 := by
      show (tl _).head? = _
      rw [tl_append, tl_append]; rfl
    have hall : ∀ x ∈ bars, x.cps.toList.head? ≠ some 122 := by decide
    exact hall _ hm hd
  · rename_i hb
    exact word_of h hb
abbrev wordBody : HS := (hSeq (hAsg (hC ixW (hL 2 (hE (hC modW (hE (hC addW (hL 3 (hE (hC mulW' (hL 7 (hL 11 hNil))) hNil))) (hE (hK (.int 26)) hNil))) hNil))) 12)
    (hIfS (hB (hC (eqP false) (hL 4 (hE (hK (.int 3)) hNil)))) (hDrop (hApp 10 (hC addW (hL 12 (hE (hSl 8 hNo (hPt (hC modW (hE (hC mulW' (hL 11 (hL 7 hNil))) (hE (hK (.int 6)) hNil))))) hNil))))) (hDrop (hApp 10 (hC addW (hE (hC addW (hE (hSl 8 hNo (hPt (hV 6))) (hL 12 hNil))) (hE (hSl 8 (hPt (hC addW (hL 6 (hE (hK (.int 1)) hNil)))) (hPt (hV 5))) hNil)))))))
def lcAt (i : Int) : Nat := (atI (letters.cps.toList) (i % 26)).getD 0
def wdS (base : Str) (start way sz at' v : Int) (k : Nat) : Str := if way = 3 then (⟨#[lcAt (start + v * (k : Nat))]⟩ : Str) ++ cutS base none (some ((k : Int) * v % 6)) else cutS base none (some at') ++ (⟨#[lcAt (start + v * (k : Nat))]⟩ : Str) ++ cutS base (some (at' + 1)) (some (1 + sz))
theorem word_loop {D : HD} {n : Nat} {many start way sz at' v : Int} {base : Str} (bl : Lets base) (bn : base.length = 8) (s0 : 0 ≤ start) (s1 : start < 26) (z0 : 0 ≤ sz) (z1 : sz < 6) (t0 : 0 ≤ at') (t1 : at' < 1 + sz) (v0 : 1 ≤ v) (v1 : v ≤ 25) : ∀ (ks js : List Nat) (o11 o12 : Option PV), (∀ k ∈ ks, k < 12) → (∀ w ∈ js.map (wdS base start way sz at' v), GoodW w) → js.length + ks.length ≤ 1000 →
    (∀ (o11' o12' : Option PV), (∀ w ∈ (js ++ ks).map (wdS base start way sz at' v), GoodW w) → D.nx ⟨[some .drw, some (.dat (.int many)), some (.dat (.str "abcdefghijklmnopqrstuvwxyz")), some (.dat (.int start)), some (.dat (.int way)), some (.dat (.int (1 + sz))), some (.dat (.int at')), some (.dat (.int v)), some (.dat (.str base)), none, some (.own (((js ++ ks).map (wdS base start way sz at' v)).map .str)), o11', o12', none, none], n⟩) →
    each (gN 11) wordBody D (ks.map fun i => PyData.int ((i : Nat) : Int)) ⟨[some .drw, some (.dat (.int many)), some (.dat (.str "abcdefghijklmnopqrstuvwxyz")), some (.dat (.int start)), some (.dat (.int way)), some (.dat (.int (1 + sz))), some (.dat (.int at')), some (.dat (.int v)), some (.dat (.str base)), none, some (.own ((js.map (wdS base start way sz at' v)).map .str)), o11, o12, none, none], n⟩ := by
  intro ks
  induction ks with
  | nil => intro js o11 o12 _ hg _ fin; simpa using fin o11 o12 (by simpa using hg)
  | cons k ks ih =>
    intro js o11 o12 hk hg hl fin
    have k12 := hk k List.mem_cons_self
    have e2 : (2 : Nat) ^ 100 = 1267650600228229401496703205376 := by decide
    have kv0 : 0 ≤ v * (k : Int) := Int.mul_nonneg (by omega) (by omega)
    have kv1 : v * (k : Int) ≤ 25 * 12 := Int.mul_le_mul (by omega) (by omega) (by omega) (by omega)
    obtain ⟨c, hc, hcl⟩ := letter_at (start + v * k)
    have hl' : js.length + (ks.length + 1) ≤ 1000 := by simpa using hl
    have L26 : ("abcdefghijklmnopqrstuvwxyz" : Str).length ≤ 100000 := by decide +kernel
    have ec : lcAt (start + v * k) = c := by unfold lcAt; rw [hc]; rfl
    have next : ∀ (w : Str), w = wdS base start way sz at' v k → GoodW w → each (gN 11) wordBody D (ks.map fun i => PyData.int ((i : Nat) : Int)) ⟨[some .drw, some (.dat (.int many)), some (.dat (.str "abcdefghijklmnopqrstuvwxyz")), some (.dat (.int start)), some (.dat (.int way)), some (.dat (.int (1 + sz))), some (.dat (.int at')), some (.dat (.int v)), some (.dat (.str base)), none, some (.own ((js.map (wdS base start way sz at' v)).map .str ++ [.str w])), some (.dat (.int (k : Nat))), some (.dat (.str ⟨#[c]⟩)), none, none], n⟩ := fun w hwe hw => by
      have e : (js.map (wdS base start way sz at' v)).map PyData.str ++ [.str w] = ((js ++ [k]).map (wdS base start way sz at' v)).map .str := by rw [hwe]; simp
      rw [e]
      refine ih (js ++ [k]) _ _ (fun q hq => hk q (List.mem_cons_of_mem _ hq)) (fun y hy => ?_) (by simp; omega) fun a b h2 => ?_
      · rw [List.map_append] at hy
        rcases List.mem_append.mp hy with hy | hy
        · exact hg y hy
        · rw [List.mem_singleton.mp hy, ← hwe]; exact hw
      · have z := fin a b (by simpa using h2)
        simpa using z
    have hc' : atI ("abcdefghijklmnopqrstuvwxyz" : Str).cps.toList ((start + v * k) % 26) = some c := hc
    have bs : base.length ≤ sizeLine := by rw [bn]; decide
    have m0 : 0 ≤ (k : Int) * v % 6 := Int.emod_nonneg _ (by decide)
    have m1 : (k : Int) * v % 6 < 6 := Int.emod_lt_of_pos _ (by decide)
    have one : (⟨#[c]⟩ : Str).length = 1 := rfl
    have g1 : GoodW ((⟨#[c]⟩ : Str) ++ cutS base none (some ((k : Int) * v % 6))) := by
      refine ⟨lets_append (lets_one hcl) (lets_cut bl), ?_⟩
      rw [len_app, one, cut_hi m0, bn]
      omega
    have g2 : GoodW (cutS base none (some at') ++ (⟨#[c]⟩ : Str) ++ cutS base (some (at' + 1)) (some (1 + sz))) := by
      refine ⟨lets_append (lets_append (lets_cut bl) (lets_one hcl)) (lets_cut bl), ?_⟩
      rw [len_app, len_app, one, cut_hi t0, bn, cut_both (by omega) (by omega) (by rw [bn]; omega)]
      omega
    have l1 := g1.2.2
    have l2 := g2.2.2
    rw [len_app] at l1
    rw [len_app, len_app] at l2
    simp only [List.map_map] at next
    simp [hc']
    refine ⟨cmul (by rw [e2]; omega) (by rw [e2]; omega), L26, ?_⟩
    by_cases hw : way = 3
    · refine Or.inr ⟨hw, cmul (by rw [e2]; omega) (by rw [e2]; omega), bs, by omega, by omega, next _ (by unfold wdS; rw [if_pos hw, ec]) g1⟩
    · refine Or.inl ⟨hw, bs, by omega, bs, by rw [len_app]; omega, by omega, next _ (by unfold wdS; rw [if_neg hw, ec]) g2⟩
abbrev sp__law_draw_a6e186 : HSp := spDraw
def ltN (i : Nat) : Nat := 97 + i % 26
def wL (s sz a v k : Nat) (w3 : Bool) : List Nat :=
  let base := (List.range 8).map fun i => ltN (s + 5 * i)
  if w3 then ltN (s + v * k) :: base.take (k * v % 6) else base.take a ++ [ltN (s + v * k)] ++ (base.drop (a + 1)).take (sz - a)
def barsL : List (List Nat) := bars.map fun z => z.cps.toList
def encL (w : List Nat) : Nat := w.foldl (fun a c => a * 128 + c) 1
def barsP : List (Nat × List Nat) := [(511522800, [115, 116, 111, 112]), (511456494, [115, 112, 105, 110]), (3930868, [111, 117, 116]), (3931118, [111, 119, 110]), (7792655757925, [98, 101, 115, 105, 100, 101]), (488272485, [104, 105, 100, 101]), (28915, [97, 115])]
def isBarE (w : List Nat) : Bool := barsP.any fun p => Nat.beq p.1 (encL w) && decide (p.2 = w)
theorem isBarE_iff (w : List Nat) : isBarE w = true ↔ w ∈ barsL := by
  have h1 : barsP.map (·.2) = barsL := by decide +kernel
  have h2 : ∀ p ∈ barsP, p.1 = encL p.2 := by decide +kernel
  unfold isBarE
  rw [List.any_eq_true, ← h1, List.mem_map]
  constructor
  · rintro ⟨p, hp, e⟩
    rw [Bool.and_eq_true] at e
    exact ⟨p, hp, of_decide_eq_true e.2⟩
  · rintro ⟨p, hp, e⟩
    refine ⟨p, hp, ?_⟩
    rw [Bool.and_eq_true]
    exact ⟨by rw [h2 p hp, e]; exact Nat.beq_refl _, decide_eq_true e⟩
def fixE (w : List Nat) : Nat := if isBarE w then encL ([122, 122] ++ w.take 1 ++ [122]) else encL w
def undB : List Nat → Bool
  | [] => true
  | x :: xs => !xs.any (Nat.beq x) && undB xs
theorem undB_nodup : ∀ {xs : List Nat}, undB xs = true → xs.Nodup
  | [], _ => List.nodup_nil
  | x :: xs, h => by
    unfold undB at h
    rw [Bool.and_eq_true, Bool.not_eq_true'] at h
    refine List.nodup_cons.mpr ⟨fun hm => ?_, undB_nodup h.2⟩
    have := List.any_eq_false.mp h.1 x hm
    exact this (Nat.beq_refl x)
def chkWs (s : Nat) : Bool := (List.range 6).all fun sz => (List.range (sz + 1)).all fun a => [1, 3, 7, 11, 17, 25].all fun v => undB ((List.range 12).map fun k => fixE (wL s sz a v k false))
def chkW : Bool := (List.range 26).all chkWs
def chkW3 : Bool := (List.range 26).all fun s => [1, 3, 7, 11, 17, 25].all fun v => undB ((List.range 12).map fun k => fixE (wL s 0 0 v k true))
theorem chkW_0 : chkWs 0 = true := by decide +kernel
theorem chkW_1 : chkWs 1 = true := by decide +kernel
theorem chkW_2 : chkWs 2 = true := by decide +kernel
theorem chkW_3 : chkWs 3 = true := by decide +kernel
theorem chkW_4 : chkWs 4 = true := by decide +kernel
theorem chkW_5 : chkWs 5 = true := by decide +kernel
theorem chkW_6 : chkWs 6 = true := by decide +kernel
theorem chkW_7 : chkWs 7 = true := by decide +kernel
theorem chkW_8 : chkWs 8 = true := by decide +kernel
theorem chkW_9 : chkWs 9 = true := by decide +kernel
theorem chkW_10 : chkWs 10 = true := by decide +kernel
theorem chkW_11 : chkWs 11 = true := by decide +kernel
theorem chkW_12 : chkWs 12 = true := by decide +kernel
theorem chkW_13 : chkWs 13 = true := by decide +kernel
theorem chkW_14 : chkWs 14 = true := by decide +kernel
theorem chkW_15 : chkWs 15 = true := by decide +kernel
theorem chkW_16 : chkWs 16 = true := by decide +kernel
theorem chkW_17 : chkWs 17 = true := by decide +kernel
theorem chkW_18 : chkWs 18 = true := by decide +kernel
theorem chkW_19 : chkWs 19 = true := by decide +kernel
theorem chkW_20 : chkWs 20 = true := by decide +kernel
theorem chkW_21 : chkWs 21 = true := by decide +kernel
theorem chkW_22 : chkWs 22 = true := by decide +kernel
theorem chkW_23 : chkWs 23 = true := by decide +kernel
theorem chkW_24 : chkWs 24 = true := by decide +kernel
theorem chkW_25 : chkWs 25 = true := by decide +kernel
theorem chkW_ok : chkW = true := by
  have e : List.range 26 = [0, 1, 2, 3, 4, 5, 6, 7, 8, 9, 10, 11, 12, 13, 14, 15, 16, 17, 18, 19, 20, 21, 22, 23, 24, 25] := by decide +kernel
  unfold chkW
  rw [e]
  simp only [List.all_cons, List.all_nil, chkW_0, chkW_1, chkW_2, chkW_3, chkW_4, chkW_5, chkW_6, chkW_7, chkW_8, chkW_9, chkW_10, chkW_11, chkW_12, chkW_13, chkW_14, chkW_15, chkW_16, chkW_17, chkW_18, chkW_19, chkW_20, chkW_21, chkW_22, chkW_23, chkW_24, chkW_25, Bool.and_self]
theorem chkW3_ok : chkW3 = true := by decide +kernel
theorem lcAt_eq (n : Nat) : lcAt (n : Int) = ltN n := by
  have el : letters.cps.toList = (List.range 26).map fun i => 97 + i := by decide +kernel
  have hm : n % 26 < 26 := Nat.mod_lt _ (by decide)
  unfold lcAt ltN
  rw [el]
  have e : (n : Int) % 26 = ((n % 26 : Nat) : Int) := by omega
  rw [e]
  unfold atI ixN
  rw [List.length_map, List.length_range, if_pos (by omega), if_pos (by omega)]
  show (((List.range 26).map fun i => 97 + i)[((n % 26 : Nat) : Int).toNat]?).getD 0 = _
  rw [Int.toNat_natCast, List.getElem?_map, List.getElem?_range hm]; rfl
theorem cut_hi_l {a : Str} {h : Nat} : (cutS a none (some (h : Int))).cps.toList = a.cps.toList.take h := by
  unfold cutS
  rw [HT.sIx_none, HT.sIx_nat]
  show (((a.cps.toList.drop 0).take (min h a.length - 0)).toArray).toList = _
  have z : a.length = a.cps.toList.length := by simp [Str.length]
  simp only [List.drop_zero, Nat.sub_zero]
  rw [z]
  rcases Nat.le_total h a.cps.toList.length with q | q
  · rw [Nat.min_eq_left q]
  · rw [Nat.min_eq_right q, List.take_of_length_le q, List.take_length]
theorem cut_both_l {a : Str} {l h : Nat} (hl : l ≤ a.length) (hh : h ≤ a.length) : (cutS a (some (l : Int)) (some (h : Int))).cps.toList = (a.cps.toList.drop l).take (h - l) := by
  unfold cutS
  rw [HT.sIx_nat, HT.sIx_nat, Nat.min_eq_left hl, Nat.min_eq_left hh]
theorem words_und {base : Str} {start way sz at' v many : Int} (bt : base.cps.toList = (List.range 8).map fun i : Nat => lcAt (start + 5 * (i : Nat))) (s0 : 0 ≤ start) (s1 : start < 26) (z0 : 0 ≤ sz) (z1 : sz < 6) (t0 : 0 ≤ at') (t1 : at' < 1 + sz) (hv : v ∈ ([1, 3, 7, 11, 17, 25] : List Int)) (hm : many ≤ 12) :
    (((List.range many.toNat).map (wdS base start way sz at' v)).map fixW).Nodup := by
  obtain ⟨s, rfl⟩ : ∃ s : Nat, start = s := ⟨start.toNat, by omega⟩
  obtain ⟨z, rfl⟩ : ∃ z : Nat, sz = z := ⟨sz.toNat, by omega⟩
  obtain ⟨a, rfl⟩ : ∃ a : Nat, at' = a := ⟨at'.toNat, by omega⟩
  have v0 : 0 ≤ v := by simp at hv; omega
  obtain ⟨w, rfl⟩ : ∃ w : Nat, v = w := ⟨v.toNat, by omega⟩
  have hw : w ∈ ([1, 3, 7, 11, 17, 25] : List Nat) := by simp at hv ⊢; omega
  have bt' : base.cps.toList = (List.range 8).map fun i => ltN (s + 5 * i) := by
    rw [bt]
    apply List.map_congr_left
    intro i _
    rw [← lcAt_eq]
    congr 1
  have bn : base.length = 8 := by
    have : base.length = base.cps.toList.length := by simp [Str.length]
    rw [this, bt']; simp
  have ew : ∀ k : Nat, (wdS base s way z a w k).cps.toList = wL s z a w k (decide (way = 3)) := fun k => by
    have em : lcAt ((s : Int) + (w : Int) * (k : Nat)) = ltN (s + w * k) := by
      rw [← lcAt_eq]
      congr 1
    unfold wdS wL
    rw [em]
    by_cases h3 : way = 3
    · rw [if_pos h3, if_pos (decide_eq_true h3)]
      have e1 : ((k : Int) * (w : Int) % 6) = ((k * w % 6 : Nat) : Int) := by
        rw [Int.natCast_emod, Int.natCast_mul]; rfl
      rw [e1]
      show tl (_ ++ _) = _
      rw [tl_append]
      show [ltN (s + w * k)] ++ (cutS base none _).cps.toList = _
      rw [cut_hi_l, bt']; rfl
    · rw [if_neg h3, if_neg (by simp [h3])]
      show tl (_ ++ _ ++ _) = _
      rw [tl_append, tl_append]
      show (cutS base none _).cps.toList ++ [ltN (s + w * k)] ++ (cutS base _ _).cps.toList = _
      have e1 : (a : Int) + 1 = ((a + 1 : Nat) : Int) := by omega
      have e2 : 1 + (z : Int) = ((z + 1 : Nat) : Int) := by omega
      rw [e1, e2, cut_hi_l, cut_both_l (by omega) (by omega), bt', show z + 1 - (a + 1) = z - a by omega]
  have inj : ∀ x y : Str, x.cps.toList = y.cps.toList → x = y := fun x y h => by
    cases x; cases y
    congr 1
    exact Array.toList_inj.mp h
  have eE : ∀ x : Str, encL (fixW x).cps.toList = fixE x.cps.toList := fun x => by
    have hb : x ∈ bars ↔ isBarE x.cps.toList = true := by
      rw [isBarE_iff]
      unfold barsL
      rw [List.mem_map]
      exact ⟨fun h => ⟨x, h, rfl⟩, fun ⟨y, h, e⟩ => inj y x e ▸ h⟩
    unfold fixW fixE
    by_cases h : x ∈ bars
    · rw [if_pos h, if_pos (hb.mp h)]
      congr 1
      show tl (_ ++ _ ++ _) = _
      rw [tl_append, tl_append]
      have e1 : (1 : Int) = ((1 : Nat) : Int) := rfl
      show tl ("zz" : Str) ++ (cutS x none (some 1)).cps.toList ++ tl ("z" : Str) = _
      rw [e1, cut_hi_l]; rfl
    · rw [if_neg h, if_neg fun z => h (hb.mpr z)]
  have ends : ∀ w3 : Bool, (List.range 12).all (fun k => true) = true → undB ((List.range 12).map fun k => fixE (wL s (if w3 then 0 else z) (if w3 then 0 else a) w k w3)) = true := fun w3 _ => by
    cases w3 with
    | true =>
      have := chkW3_ok
      unfold chkW3 at this
      rw [List.all_eq_true] at this
      have := this s (List.mem_range.mpr (by omega))
      rw [List.all_eq_true] at this
      exact this w hw
    | false =>
      have := chkW_ok
      unfold chkW at this
      rw [List.all_eq_true] at this
      have := this s (List.mem_range.mpr (by omega))
      unfold chkWs at this
      rw [List.all_eq_true] at this
      have := this z (List.mem_range.mpr (by omega))
      rw [List.all_eq_true] at this
      have := this a (List.mem_range.mpr (by omega))
      rw [List.all_eq_true] at this
      exact this w hw
  have e3 : ∀ k, wL s (if decide (way = 3) then 0 else z) (if decide (way = 3) then 0 else a) w k (decide (way = 3)) = wL s z a w k (decide (way = 3)) := fun k => by
    cases decide (way = 3) <;> rfl
  have nd := undB_nodup (ends (decide (way = 3)) (by simp))
  have nd2 : ((List.range many.toNat).map fun k => fixE (wL s z a w k (decide (way = 3)))).Nodup := by
    refine List.Pairwise.sublist (List.Sublist.map _ ?_) (show List.Nodup _ by simpa only [e3] using nd)
    exact List.range_sublist.mpr (by omega)
  have nd3 : (((List.range many.toNat).map (wdS base s way z a w)).map fun x => encL (fixW x).cps.toList).Nodup := by
    rw [List.map_map]
    have : ((fun x => encL (fixW x).cps.toList) ∘ wdS base s way z a w) = fun k => fixE (wL s z a w k (decide (way = 3))) := by
      funext k
      show encL (fixW (wdS base s way z a w k)).cps.toList = _
      rw [eE, ew]
    rw [this]; exact nd2
  have nd4 : ((((List.range many.toNat).map (wdS base s way z a w)).map fixW).map fun x => encL x.cps.toList).Nodup := by rw [List.map_map]; exact nd3
  exact List.Pairwise.of_map _ (fun x y h e => h (by rw [e])) nd4
theorem words_nob {base : Str} {start way sz at' v : Int} (bt : base.cps.toList = (List.range 8).map fun i : Nat => lcAt (start + 5 * (i : Nat))) (s0 : 0 ≤ start) (s1 : start < 26) (z0 : 0 ≤ sz) (z1 : sz < 6) (t0 : 0 ≤ at') (t1 : at' < 1 + sz) (hv : v ∈ ([1, 3, 7, 11, 17, 25] : List Int)) (k : Nat) : fixW (wdS base start way sz at' v k) ≠ ("nobody" : Str) := by
  obtain ⟨s, rfl⟩ : ∃ s : Nat, start = s := ⟨start.toNat, by omega⟩
  obtain ⟨z, rfl⟩ : ∃ z : Nat, sz = z := ⟨sz.toNat, by omega⟩
  obtain ⟨a, rfl⟩ : ∃ a : Nat, at' = a := ⟨at'.toNat, by omega⟩
  have v0 : 0 ≤ v := by simp at hv; omega
  obtain ⟨w, rfl⟩ : ∃ w : Nat, v = w := ⟨v.toNat, by omega⟩
  have hw : w ∈ ([1, 3, 7, 11, 17, 25] : List Nat) := by simp at hv ⊢; omega
  have bt' : base.cps.toList = (List.range 8).map fun i => ltN (s + 5 * i) := by
    rw [bt]
    apply List.map_congr_left
    intro i _
    rw [← lcAt_eq]
    congr 1
  have bn : base.length = 8 := by
    have : base.length = base.cps.toList.length := by simp [Str.length]
    rw [this, bt']; simp
  have ew : ∀ k : Nat, (wdS base s way z a w k).cps.toList = wL s z a w k (decide (way = 3)) := fun k => by
    have em : lcAt ((s : Int) + (w : Int) * (k : Nat)) = ltN (s + w * k) := by
      rw [← lcAt_eq]
      congr 1
    unfold wdS wL
    rw [em]
    by_cases h3 : way = 3
    · rw [if_pos h3, if_pos (decide_eq_true h3)]
      have e1 : ((k : Int) * (w : Int) % 6) = ((k * w % 6 : Nat) : Int) := by
        rw [Int.natCast_emod, Int.natCast_mul]; rfl
      rw [e1]
      show tl (_ ++ _) = _
      rw [tl_append]
      show [ltN (s + w * k)] ++ (cutS base none _).cps.toList = _
      rw [cut_hi_l, bt']; rfl
    · rw [if_neg h3, if_neg (by simp [h3])]
      show tl (_ ++ _ ++ _) = _
      rw [tl_append, tl_append]
      show (cutS base none _).cps.toList ++ [ltN (s + w * k)] ++ (cutS base _ _).cps.toList = _
      have e1 : (a : Int) + 1 = ((a + 1 : Nat) : Int) := by omega
      have e2 : 1 + (z : Int) = ((z + 1 : Nat) : Int) := by omega
      rw [e1, e2, cut_hi_l, cut_both_l (by omega) (by omega), bt', show z + 1 - (a + 1) = z - a by omega]
  intro e
  unfold fixW at e
  split at e
  · have e2 : tl (("zz" : Str) ++ cutS (wdS base s way z a w k) none (some 1) ++ ("z" : Str)) = tl ("nobody" : Str) := congrArg tl e
    rw [tl_append, tl_append] at e2
    have e3 := congrArg List.head? e2
    have h1 : tl ("zz" : Str) = [122, 122] := rfl
    have h2 : tl ("nobody" : Str) = [110, 111, 98, 111, 100, 121] := rfl
    rw [h1, h2] at e3
    simp at e3
  · have e2 : wL s z a w k (decide (way = 3)) = [110, 111, 98, 111, 100, 121] := by rw [← ew, e]; rfl
    have ss : s < 26 := by omega
    have az : a ≤ z := by omega
    have z6 : z < 6 := by omega
    cases h3 : decide (way = 3) with
    | false =>
      rw [h3] at e2
      have l := congrArg List.length e2
      simp [wL] at l
      have z5 : z = 5 := by omega
      subst z5
      have ha : a = 0 ∨ a = 1 ∨ a = 2 ∨ a = 3 ∨ a = 4 ∨ a = 5 := by omega
      rcases ha with rfl | rfl | rfl | rfl | rfl | rfl <;> (simp [wL, ltN, List.range_succ] at e2; omega)
    | true =>
      rw [h3] at e2
      have l := congrArg List.length e2
      simp [wL] at l
      generalize ht : k * w % 6 = t at e2 l
      have t5 : t = 5 := by omega
      subst t5
      simp [wL, ltN, List.range_succ, ht] at e2
      omega
theorem words_good {base : Str} {start way sz at' v : Int} (bt : base.cps.toList = (List.range 8).map fun i : Nat => lcAt (start + 5 * (i : Nat))) (s0 : 0 ≤ start) (s1 : start < 26) (z0 : 0 ≤ sz) (z1 : sz < 6) (t0 : 0 ≤ at') (t1 : at' < 1 + sz) (hv : v ∈ ([1, 3, 7, 11, 17, 25] : List Int)) (k : Nat) : fixW (wdS base start way sz at' v k) ≠ ("good" : Str) := by
  obtain ⟨s, rfl⟩ : ∃ s : Nat, start = s := ⟨start.toNat, by omega⟩
  obtain ⟨z, rfl⟩ : ∃ z : Nat, sz = z := ⟨sz.toNat, by omega⟩
  obtain ⟨a, rfl⟩ : ∃ a : Nat, at' = a := ⟨at'.toNat, by omega⟩
  have v0 : 0 ≤ v := by simp at hv; omega
  obtain ⟨w, rfl⟩ : ∃ w : Nat, v = w := ⟨v.toNat, by omega⟩
  have hw : w ∈ ([1, 3, 7, 11, 17, 25] : List Nat) := by simp at hv ⊢; omega
  have bt' : base.cps.toList = (List.range 8).map fun i => ltN (s + 5 * i) := by
    rw [bt]
    apply List.map_congr_left
    intro i _
    rw [← lcAt_eq]
    congr 1
  have bn : base.length = 8 := by
    have : base.length = base.cps.toList.length := by simp [Str.length]
    rw [this, bt']; simp
  have ew : ∀ k : Nat, (wdS base s way z a w k).cps.toList = wL s z a w k (decide (way = 3)) := fun k => by
    have em : lcAt ((s : Int) + (w : Int) * (k : Nat)) = ltN (s + w * k) := by
      rw [← lcAt_eq]
      congr 1
    unfold wdS wL
    rw [em]
    by_cases h3 : way = 3
    · rw [if_pos h3, if_pos (decide_eq_true h3)]
      have e1 : ((k : Int) * (w : Int) % 6) = ((k * w % 6 : Nat) : Int) := by
        rw [Int.natCast_emod, Int.natCast_mul]; rfl
      rw [e1]
      show tl (_ ++ _) = _
      rw [tl_append]
      show [ltN (s + w * k)] ++ (cutS base none _).cps.toList = _
      rw [cut_hi_l, bt']; rfl
    · rw [if_neg h3, if_neg (by simp [h3])]
      show tl (_ ++ _ ++ _) = _
      rw [tl_append, tl_append]
      show (cutS base none _).cps.toList ++ [ltN (s + w * k)] ++ (cutS base _ _).cps.toList = _
      have e1 : (a : Int) + 1 = ((a + 1 : Nat) : Int) := by omega
      have e2 : 1 + (z : Int) = ((z + 1 : Nat) : Int) := by omega
      rw [e1, e2, cut_hi_l, cut_both_l (by omega) (by omega), bt', show z + 1 - (a + 1) = z - a by omega]
  intro e
  unfold fixW at e
  split at e
  · have e2 : tl (("zz" : Str) ++ cutS (wdS base s way z a w k) none (some 1) ++ ("z" : Str)) = tl ("good" : Str) := congrArg tl e
    rw [tl_append, tl_append] at e2
    have e3 := congrArg List.head? e2
    have h1 : tl ("zz" : Str) = [122, 122] := rfl
    have h2 : tl ("good" : Str) = [103, 111, 111, 100] := rfl
    rw [h1, h2] at e3
    simp at e3
  · have e2 : wL s z a w k (decide (way = 3)) = [103, 111, 111, 100] := by rw [← ew, e]; rfl
    have ss : s < 26 := by omega
    have az : a ≤ z := by omega
    have z6 : z < 6 := by omega
    cases h3 : decide (way = 3) with
    | false =>
      rw [h3] at e2
      have l := congrArg List.length e2
      simp [wL] at l
      have z5 : z = 3 := by omega
      subst z5
      have ha : a = 0 ∨ a = 1 ∨ a = 2 ∨ a = 3 := by omega
      rcases ha with rfl | rfl | rfl | rfl <;> (simp [wL, ltN, List.range_succ] at e2; omega)
    | true =>
      rw [h3] at e2
      have l := congrArg List.length e2
      simp [wL] at l
      generalize ht : k * w % 6 = t at e2 l
      have t5 : t = 3 := by omega
      subst t5
      simp [wL, ltN, List.range_succ, ht] at e2
      omega
def sp__law_words_aaf2f6 : HSp := fun ps n C => ∃ many : Int, ps = [.drw, .dat (.int many)] ∧ 0 ≤ many ∧ many ≤ 12 ∧ n < 134217728 ∧ ∀ ws : List Str, (ws.length : Int) = many → (∀ w ∈ ws, isWordS w = true) → ws.Nodup → (∀ w ∈ ws, w ≠ ("nobody" : Str) ∧ w ≠ ("good" : Str)) → C (.own (ws.map .str)) (n + 5)
def h__law_words_aaf2f6 : HS :=
    (hSeq (hAsg (hK (.str "abcdefghijklmnopqrstuvwxyz")) 2)
    (hSeq (fun D s => (hTup (hE (hCall sp__law_draw_a6e186 2 (hL 0 (hE (hK (.int 26)) hNil))) (hE (hCall sp__law_draw_a6e186 2 (hL 0 (hE (hK (.int 4)) hNil))) hNil))) s fun p s1 => ∃ d, p.frz = some d ∧ (gP 3 4) d s1 D.nx)
    (hSeq (hAsg (hC addW (hE (hK (.int 1)) (hE (hCall sp__law_draw_a6e186 2 (hL 0 (hE (hK (.int 6)) hNil))) hNil))) 5)
    (hSeq (hAsg (hCall sp__law_draw_a6e186 2 (hL 0 (hL 5 hNil))) 6)
    (hSeq (hAsg (hC ixW (hE (hLst (hE (hK (.int 1)) (hE (hK (.int 3)) (hE (hK (.int 7)) (hE (hK (.int 11)) (hE (hK (.int 17)) (hE (hK (.int 25)) hNil))))))) (hE (hCall sp__law_draw_a6e186 2 (hL 0 (hE (hK (.int 6)) hNil))) hNil))) 7)
    (hSeq (hAsg (hC (joinW "") (hE (hLc (hiR1 (hE (hK (.int 8)) hNil)) (gN 9) hYes (hC ixW (hL 2 (hE (hC modW (hE (hC addW (hL 3 (hE (hC mulW' (hE (hK (.int 5)) (hL 9 hNil))) hNil))) (hE (hK (.int 26)) hNil))) hNil))) [9]) hNil)) 8)
    (hSeq (hAsg (hLst hNil) 10)
    (hSeq (hFor (hiR1 (hL 1 hNil)) (gN 11) (hSeq (hAsg (hC ixW (hL 2 (hE (hC modW (hE (hC addW (hL 3 (hE (hC mulW' (hL 7 (hL 11 hNil))) hNil))) (hE (hK (.int 26)) hNil))) hNil))) 12)
    (hIfS (hB (hC (eqP false) (hL 4 (hE (hK (.int 3)) hNil)))) (hDrop (hApp 10 (hC addW (hL 12 (hE (hSl 8 hNo (hPt (hC modW (hE (hC mulW' (hL 11 (hL 7 hNil))) (hE (hK (.int 6)) hNil))))) hNil))))) (hDrop (hApp 10 (hC addW (hE (hC addW (hE (hSl 8 hNo (hPt (hV 6))) (hL 12 hNil))) (hE (hSl 8 (hPt (hC addW (hL 6 (hE (hK (.int 1)) hNil)))) (hPt (hV 5))) hNil))))))))
    (hSeq (hAsg (hLst (hE (hK (.str "stop")) (hE (hK (.str "spin")) (hE (hK (.str "out")) (hE (hK (.str "own")) (hE (hK (.str "beside")) (hE (hK (.str "hide")) (hE (hK (.str "as")) hNil)))))))) 13)
    (hRet (hLc (hiL (hV 10)) (gN 14) hYes (hIf (hB (hC (inP true) (hL 14 (hL 13 hNil)))) (hV 14) (hC addW (hE (hC addW (hE (hK (.str "zz")) (hE (hSl 14 hNo (hPt (hK (.int 1)))) hNil))) (hE (hK (.str "z")) hNil)))) [14])))))))))))
theorem rd__law_words_aaf2f6 : ∀ pvs n C, pvs.length = 2 → sp__law_words_aaf2f6 pvs n C → h__law_words_aaf2f6 ⟨fun s => C (.dat .none) s.n, fun p s => C p s.n, fun _ => False, fun _ => False⟩ ⟨pvs.map some ++ List.replicate (15 - pvs.length) none, n⟩ := by
  intro pvs n C _ h
  obtain ⟨many, rfl, m0, m1, hn, q⟩ := h
  unfold h__law_words_aaf2f6
  have drw : ∀ (k : Int) (n : Nat) (C : PV → Nat → Prop), 0 < k → k ≤ 1000000 → n < 268435456 → (∀ i : Int, 0 ≤ i → i < k → C (.dat (.int i)) (n + 1)) → spDraw [.drw, .dat (.int k)] n C := fun k n C a b c d => ⟨k, rfl, a, b, c, d⟩
  simp only [hSeq, hAsg, hK, Sg.put, List.map_cons, List.map_nil, List.length_cons, List.length_nil, List.cons_append, List.nil_append, List.set_cons_succ, List.set_cons_zero, List.replicate, hTup, hC, hE, hCall, hL, hNil, List.getElem?_cons_zero, List.getElem?_cons_succ]
  simp [dats]
  refine drw 26 n _ (by decide) (by decide) (by omega) fun start s0 s1 => ?_
  simp
  refine drw 4 _ _ (by decide) (by decide) (by omega) fun way w0 w1 => ?_
  simp
  refine drw 6 _ _ (by decide) (by decide) (by omega) fun sz z0 z1 => ?_
  simp
  refine drw (1 + sz) _ _ (by omega) (by omega) (by omega) fun at' t0 t1 => ?_
  refine drw 6 _ _ (by decide) (by decide) (by omega) fun st q0 q1 => ?_
  obtain ⟨v, hv, hvm, _⟩ := atI_int (cs := [1, 3, 7, 11, 17, 25]) q0 q1
  have v1 : 1 ≤ v ∧ v ≤ 25 := by
    simp at hvm
    omega
  refine ⟨_, rfl, (ix_lst (ds := [.int 1, .int 3, .int 7, .int 11, .int 17, .int 25])).mpr ⟨_, hv, ?_⟩⟩
  have e2 : (2 : Nat) ^ 100 = 1267650600228229401496703205376 := by decide
  -- the base
  let lt : Int → Str := fun i => ⟨#[(atI (letters.cps.toList) (i % 26)).getD 0]⟩
  have hlt : ∀ i, atI (letters.cps.toList) (i % 26) = some ((atI (letters.cps.toList) (i % 26)).getD 0) ∧ Lets (lt i) ∧ (lt i).length = 1 := fun i => by
    obtain ⟨c, h1, h2⟩ := letter_at i
    refine ⟨by rw [h1]; rfl, ?_, rfl⟩
    show Lets ⟨#[_]⟩
    rw [h1]; exact lets_one h2
  refine lcs_map (fun i : Nat => PyData.int (0 + (i : Nat))) (fun i => .str (lt (start + 5 * (i : Nat)))) (fun a ha K hK => ?_) [] _ (by simp) ?_
  · have ha' := List.mem_range.mp ha
    simp
    refine ⟨cmul (by decide) (by rw [e2]; omega), by show (26 : Nat) ≤ 100000; decide, _, (hlt _).1, hK _ ?_⟩
    simp
  have hys : ∀ y ∈ (List.range 8).map fun i : Nat => lt (start + 5 * (i : Nat)), Lets y ∧ y.length = 1 := fun y hy => by
    obtain ⟨i, _, rfl⟩ := List.mem_map.mp hy
    exact (hlt _).2
  obtain ⟨bl, bn⟩ := join_lets _ hys
  have bn : (Txt.join ("" : Str) ((List.range 8).map fun i : Nat => lt (start + 5 * (i : Nat)))).length = 8 := by rw [bn]; simp
  simp
  refine ⟨(List.range 8).map fun i : Nat => lt (start + 5 * (i : Nat)), by simp, ?_, ?_⟩
  · have e3 : ((List.range 8).map fun i : Nat => lt (start + 5 * (i : Nat))).map Str.length = List.replicate 8 1 := by
      rw [List.map_map, List.eq_replicate_iff]
      exact ⟨by simp, fun b hb => by
        obtain ⟨i, _, rfl⟩ := List.mem_map.mp hb
        exact (hlt _).2.2⟩
    rw [e3]
    have : ("" : Str).length = 0 := rfl
    rw [this]; simp
  have bt : (Txt.join ("" : Str) ((List.range 8).map fun i : Nat => lt (start + 5 * (i : Nat)))).cps.toList = (List.range 8).map fun i : Nat => lcAt (start + 5 * (i : Nat)) := by
    rw [join_tl, List.map_map]
    rfl
  generalize Txt.join ("" : Str) ((List.range 8).map fun i : Nat => lt (start + 5 * (i : Nat))) = base at bl bn bt
  refine ⟨⟨by omega, by omega⟩, ?_⟩
  have er : rngD 0 many.toNat = (List.range many.toNat).map fun i => PyData.int ((i : Nat) : Int) := by simp [rngD]
  rw [er]
  refine word_loop bl bn s0 s1 z0 z1 t0 t1 v1.1 v1.2 (List.range many.toNat) [] none none (fun k hk => by have := List.mem_range.mp hk; omega) (fun w hw => by cases hw) (by simp; omega) fun o11 o12 hg => ?_
  rw [List.nil_append] at hg ⊢
  have und := words_und bt s0 s1 z0 z1 t0 t1 hvm (way := way) m1
  have nob : ∀ w ∈ ((List.range many.toNat).map (wdS base start way sz at' v)).map fixW, w ≠ ("nobody" : Str) ∧ w ≠ ("good" : Str) := fun w hw => by
    obtain ⟨u, hu, rfl⟩ := List.mem_map.mp hw
    obtain ⟨k, _, rfl⟩ := List.mem_map.mp hu
    exact ⟨words_nob bt s0 s1 z0 z1 t0 t1 hvm (way := way) k, words_good bt s0 s1 z0 z1 t0 t1 hvm (way := way) k⟩
  generalize hws : (List.range many.toNat).map (wdS base start way sz at' v) = ws at hg und nob ⊢
  have hl' : ws.length = many.toNat := by rw [← hws]; simp
  simp [dats]
  refine lcs_map (fun w : Str => PyData.str w) (fun w => .str (fixW w)) (fun w hw K hK => ?_) [] _ (by simp; omega) ?_
  · have gw := hg w hw
    simp
    refine inP_D w bars rfl rfl (by decide) ?_
    have wl : w.length ≤ sizeLine := by
      have := gw.2.2
      rw [sizeLine_eq]; omega
    by_cases hb : w ∈ bars
    · simp [hb]
      have c1 : (cutS w none (some 1)).length = min 1 w.length := cut_hi (by decide)
      have a : ("zz" : Str).length = 2 := rfl
      have b : ("z" : Str).length = 1 := rfl
      refine ⟨wl, by omega, by rw [len_app]; omega, ?_⟩
      have e : fixW w = ("zz" : Str) ++ cutS w none (some 1) ++ ("z" : Str) := by unfold fixW; rw [if_pos hb]
      rw [← e]
      refine hK _ ?_
      simp
    · simp [hb]
      have e : fixW w = w := by unfold fixW; rw [if_neg hb]
      rw [e] at hK
      refine hK _ ?_
      simp
  · simp
    have e : (ws.map fun w => PyData.str (fixW w)) = (ws.map fixW).map .str := by simp
    rw [e]
    refine q _ (by simp; omega) (fun w hw => ?_) und nob
    obtain ⟨u, hu, rfl⟩ := List.mem_map.mp hw
    exact fix_word (hg u hu)
end Sk
set_option Elab.async false
set_option linter.all false
set_option maxRecDepth 100000
set_option maxHeartbeats 4000000
namespace Sk
open PySem PySem.Spec PyProof.Rows L2
open PySem.W (Datum DatumOrd Tup T3 T4)
open Evl (Ex)
def VM (many : Int) (ws : List Str) (p : Str × Int) : Prop := 0 ≤ p.2 ∧ p.2 < many ∧ (p.1 ∈ ws ∨ p.1 = ("" : Str))
theorem drw' (k : Int) (n : Nat) (C : PV → Nat → Prop) : 0 < k → k ≤ 1000000 → n < 268435456 → (∀ i : Int, 0 ≤ i → i < k → C (.dat (.int i)) (n + 1)) → spDraw [.drw, .dat (.int k)] n C := fun a b c d => ⟨k, rfl, a, b, c, d⟩
theorem atI_str {ws : List Str} {i : Int} (h0 : 0 ≤ i) (h1 : i < ws.length) : ∃ x, atI (ws.map PyData.str) i = some (.str x) ∧ x ∈ ws := by
  have hl : i.toNat < ws.length := by omega
  refine ⟨ws[i.toNat], ?_, List.getElem_mem hl⟩
  unfold atI ixN
  rw [List.length_map, if_pos h0, if_pos (by omega)]
  show (ws.map PyData.str)[i.toNat]? = _
  rw [List.getElem?_map, List.getElem?_eq_getElem hl]; rfl
theorem rows_flat {ws : List Str} {many : Int} {M : Mch} (h : ∀ r ∈ M.items, ∀ p ∈ r.items, VM many ws p) : ∀ x ∈ M.deeds, x ∈ ws := fun x hx => by
  unfold Mch.deeds Mch.rows rowDeeds at hx
  obtain ⟨l, hl, hxl⟩ := List.mem_flatten.mp hx
  rw [List.map_map] at hl
  obtain ⟨r, hr, rfl⟩ := List.mem_map.mp hl
  obtain ⟨p, hp, rfl⟩ := List.mem_map.mp hxl
  obtain ⟨hp1, hp2⟩ := List.mem_filter.mp hp
  have hp2 := of_decide_eq_true hp2
  exact (h r hr p hp1).2.2.resolve_right hp2
end Sk
set_option Elab.async false
set_option linter.all false
set_option maxRecDepth 100000
set_option maxHeartbeats 4000000
namespace Sk
open PySem PySem.Spec PyProof.Rows L2
open PySem.W (Datum DatumOrd Tup T3 T4)
open Evl (Ex)
theorem mem_deeds {M : Mch} {x : Str} : x ∈ M.deeds ↔ ∃ r ∈ M.items, x ∈ rowDeeds r.items := by
  simp only [Mch.deeds, Mch.rows, List.mem_flatten, List.mem_map]
  constructor
  · rintro ⟨_, ⟨_, ⟨r, hr, rfl⟩, rfl⟩, hx⟩
    exact ⟨r, hr, hx⟩
  · rintro ⟨r, hr, hx⟩
    exact ⟨_, ⟨r.items, ⟨r, hr, rfl⟩, rfl⟩, hx⟩
end Sk
set_option Elab.async false
set_option linter.all false
set_option maxRecDepth 100000
set_option maxHeartbeats 4000000
namespace Sk
open PySem PySem.Spec PyProof.Rows L2
open PySem.W (Datum DatumOrd Tup T3 T4)
open Evl (Ex)
@[simp] theorem add_ol {ds es : List PyData} {C : PV → Prop} : addW [.own ds, .dat (.list es)] C ↔ ds.length + es.length ≤ 100000 ∧ C (.own (ds ++ es)) := by simp [addW]
theorem rng_len {L : Nat} {ks : List Int} (nd : ks.Nodup) (h : ∀ k ∈ ks, 0 ≤ k ∧ k < L) : ks.length ≤ L := by
  have := nodup_le ks ((List.range L).map fun i => ((i : Nat) : Int)) nd fun k hk => by
    obtain ⟨a, b⟩ := h k hk
    exact List.mem_map.mpr ⟨k.toNat, List.mem_range.mpr (by omega), by omega⟩
  simpa using this
end Sk
set_option Elab.async false
set_option linter.all false
set_option maxRecDepth 100000
set_option maxHeartbeats 4000000
namespace Sk
open PySem PySem.Spec PyProof.Rows L2
open PySem.W (Datum DatumOrd Tup T3 T4)
open Evl (Ex)
structure ShowOk (d : PyData) : Prop where
  sh : d.showable = true
  hd : d.hasDict = false
  dp : d.depth ≤ 100
  lf : d.leavesShort 13 = true
  wt : d.weight ≤ 2 ^ 20
theorem repr_ok {d : PyData} {p : PV} {C : PV → Prop} (h : ShowOk d) (e : p.frz = some d) (c : C (.dat (.str d.shown))) : reprW [p] C := ⟨d, e, h.sh, Or.inl h.hd, h.dp, PyData.shown_fits (by decide) (by decide) h.lf h.wt, c⟩
structure ShowAll (ds : List PyData) (k w : Nat) : Prop where
  sh : PyData.showableAll ds = true
  hd : PyData.hasDictAll ds = false
  dp : PyData.depthAll ds ≤ k
  lf : PyData.leavesShortAll 13 ds = true
  wt : PyData.weightAll ds ≤ w
theorem ShowAll.nil {k w : Nat} : ShowAll [] k w := ⟨rfl, rfl, Nat.zero_le _, rfl, Nat.zero_le _⟩
theorem ShowAll.cons {d : PyData} {ds : List PyData} {k w v : Nat} (h1 : d.showable = true) (h2 : d.hasDict = false) (h3 : d.depth ≤ k) (h4 : d.leavesShort 13 = true) (h5 : d.weight ≤ v) (t : ShowAll ds k w) : ShowAll (d :: ds) k (v + 1 + w) where
  sh := by simp only [PyData.showableAll, h1, t.sh, Bool.and_self]
  hd := by simp only [PyData.hasDictAll, h2, t.hd, Bool.or_self]
  dp := by simp only [PyData.depthAll]; exact Nat.max_le.mpr ⟨h3, t.dp⟩
  lf := by simp only [PyData.leavesShortAll, h4, t.lf, Bool.and_self]
  wt := by
    have := t.wt
    simp only [PyData.weightAll]
    omega
theorem ShowAll.list {ds : List PyData} {k w : Nat} (h : ShowAll ds k w) (hk : k ≤ 99) (hw : w ≤ 2 ^ 20) : ShowOk (.list ds) where
  sh := by simp only [PyData.showable]; exact h.sh
  hd := by simp only [PyData.hasDict]; exact h.hd
  dp := by
    have := h.dp
    simp only [PyData.depth]
    omega
  lf := by simp only [PyData.leavesShort]; exact h.lf
  wt := by
    have := h.wt
    simp only [PyData.weight]
    omega
theorem ShowAll.tup {ds : List PyData} {k w : Nat} (h : ShowAll ds k w) (hk : k ≤ 99) (hw : w ≤ 2 ^ 20) : ShowOk (.tuple ds) where
  sh := by simp only [PyData.showable]; exact h.sh
  hd := by simp only [PyData.hasDict]; exact h.hd
  dp := by
    have := h.dp
    simp only [PyData.depth]
    omega
  lf := by simp only [PyData.leavesShort]; exact h.lf
  wt := by
    have := h.wt
    simp only [PyData.weight]
    omega
theorem word_small {z : Str} (h : isWordS z = true) : (∀ c ∈ z.cps.toList, c < 16 ^ 8) ∧ z.length ≤ 6 := by
  unfold isWordS at h
  simp only [Bool.and_eq_true, decide_eq_true_eq, List.all_eq_true] at h
  obtain ⟨⟨⟨_, h1⟩, _⟩, h2⟩ := h
  refine ⟨fun c hc => ?_, h1⟩
  have hl : ∀ c ∈ letters.cps, c < 16 ^ 8 := by decide +kernel
  exact hl c (by simpa using h2 c hc)
theorem show_words : ∀ {xs : List Str}, (∀ x ∈ xs, isWordS x = true) → ShowAll (xs.map .str) 0 (7 * xs.length)
  | [], _ => .nil
  | x :: xs, h => by
    obtain ⟨h1, h2⟩ := word_small (h x List.mem_cons_self)
    have z := ShowAll.cons (d := .str x) (v := 6) (by simp only [PyData.showable]) (by simp only [PyData.hasDict]) (by simp only [PyData.depth]; omega) (by simp only [PyData.leavesShort, List.all_eq_true, decide_eq_true_eq]; exact h1) (by simp only [PyData.weight]; exact h2) (show_words (xs := xs) fun y hy => h y (List.mem_cons_of_mem _ hy))
    rw [show 7 * (x :: xs).length = 6 + 1 + 7 * xs.length by simp only [List.length_cons]; omega]
    exact z
end Sk
set_option Elab.async false
set_option linter.all false
set_option maxRecDepth 100000
set_option maxHeartbeats 4000000
namespace Sk
open PySem PySem.Spec PyProof.Rows L2
open PySem.W (Datum DatumOrd Tup T3 T4)
open Evl (Ex)
end Sk
namespace Sk
open PySem PySem.Spec PyProof.Rows L2
open PySem.W (Datum DatumOrd Tup T3 T4)
open Evl (Ex)
end Sk
set_option Elab.async false
set_option linter.all false
set_option maxRecDepth 100000
set_option maxHeartbeats 2000000
namespace Sk
open PySem PySem.Spec PyProof.Rows L2
open PySem.W (Datum DatumOrd Tup T3 T4)
def rowAt (M : Mch) (x : Int) : List (Str × Int) := match M.items[x.toNat]? with
  | some r => r.items
  | none => []
def atO (o : List Int) (i : Int) : Int := (o[i.toNat]?).getD 0
structure OrdOk (n : Nat) (o : List Int) : Prop where
  len : o.length = n
  nd : o.Nodup
  rng : ∀ x ∈ o, 0 ≤ x ∧ x < n
  hd : o.head? = some 0
theorem nodup_all {n : Nat} {o : List Int} (len : o.length = n) (nd : o.Nodup) (rng : ∀ x ∈ o, 0 ≤ x ∧ x < n) {x : Int} (h0 : 0 ≤ x) (h1 : x < n) : x ∈ o := by
  apply Classical.byContradiction
  intro hx
  have := rng_len (L := n) (ks := x :: o) (List.nodup_cons.mpr ⟨hx, nd⟩) fun k hk => by
    rcases List.mem_cons.mp hk with rfl | hk
    · exact ⟨h0, h1⟩
    · exact rng k hk
  simp at this
  omega
section
variable {n : Nat} {o o2 : List Int} {M : Mch} {x y : Int}
theorem OrdOk.mem (h : OrdOk n o) (h0 : 0 ≤ x) (h1 : x < n) : x ∈ o := nodup_all h.len h.nd h.rng h0 h1
theorem rowAt_mem {p : Str × Int} (h : p ∈ rowAt M x) : ∃ r ∈ M.items, p ∈ r.items := by
  unfold rowAt at h
  split at h
  · rename_i r hr
    exact ⟨r, List.mem_of_getElem? hr, h⟩
  · cases h
theorem rowAt_of {r : Tup (Str × Int)} (h : M.items[x.toNat]? = some r) : rowAt M x = r.items := by unfold rowAt; rw [h]
theorem rowAt_mv (ok : MOk M) {p : Str × Int} (h : p ∈ rowAt M x) : 0 ≤ p.2 ∧ p.2 < M.items.length ∧ (isWordS p.1 = true ∨ p.1 = ("" : Str)) := by
  obtain ⟨r, hr, hp⟩ := rowAt_mem h
  exact ok.mv r hr p hp
def RowsLe (k : Nat) (M : Mch) : Prop := ∀ r ∈ M.items, r.items.length ≤ k
theorem rowAt_le {k : Nat} (h : RowsLe k M) : (rowAt M x).length ≤ k := by
  unfold rowAt
  split
  · rename_i r hr
    exact h r (List.mem_of_getElem? hr)
  · exact Nat.zero_le _
theorem mem_rowDeeds {r : List (Str × Int)} {w : Str} : w ∈ rowDeeds r ↔ w ≠ "" ∧ ∃ p ∈ r, p.1 = w := by
  unfold rowDeeds
  rw [List.mem_map]
  constructor
  · rintro ⟨p, hp, rfl⟩
    obtain ⟨h1, h2⟩ := List.mem_filter.mp hp
    exact ⟨of_decide_eq_true h2, p, h1, rfl⟩
  · rintro ⟨h, p, hp, rfl⟩
    exact ⟨p, List.mem_filter.mpr ⟨hp, decide_eq_true h⟩, rfl⟩
theorem mem_deeds' {w : Str} : w ∈ M.deeds ↔ w ≠ "" ∧ ∃ r ∈ M.items, ∃ p ∈ r.items, p.1 = w := by
  rw [mem_deeds]
  constructor
  · rintro ⟨r, hr, h⟩
    obtain ⟨h1, p, hp, e⟩ := mem_rowDeeds.mp h
    exact ⟨h1, r, hr, p, hp, e⟩
  · rintro ⟨h1, r, hr, p, hp, e⟩
    exact ⟨r, hr, mem_rowDeeds.mpr ⟨h1, p, hp, e⟩⟩
def rngI (n : Nat) : List Int := (List.range n).map fun i => ((i : Nat) : Int)
theorem mem_rngI : x ∈ rngI n ↔ 0 ≤ x ∧ x < n := by
  unfold rngI
  rw [List.mem_map]
  constructor
  · rintro ⟨i, hi, rfl⟩
    have := List.mem_range.mp hi
    omega
  · rintro ⟨h0, h1⟩
    exact ⟨x.toNat, List.mem_range.mpr (by omega), by omega⟩
theorem rngI_rising : Rising (rngI n) := by
  unfold rngI Rising
  rw [List.pairwise_map]
  refine List.Pairwise.imp (fun {a b} h => ?_) List.pairwise_lt_range
  show decide ((a : Int) < b) = true
  exact decide_eq_true (by omega)
theorem rngI_len : (rngI n).length = n := by unfold rngI; rw [List.length_map, List.length_range]
end
end Sk
set_option Elab.async false
set_option linter.all false
set_option maxRecDepth 100000
set_option maxHeartbeats 4000000
namespace Sk
open PySem PySem.Spec PyProof.Rows L2
open PySem.W (Datum DatumOrd Tup T3 T4)
open Evl (Ex)
def simk (R : Int → Int → Bool) (M : Mch) (x y : Int) : Bool := (rowAt M x).all fun p => (rowAt M y).any fun q => decide (q.1 = p.1) && R p.2 q.2
def ek (M : Mch) : Nat → Int → Int → Bool
  | 0, _, _ => true
  | k + 1, x, y => ek M k x y && (simk (ek M k) M x y && simk (ek M k) M y x)
def InR (M : Mch) (x : Int) : Prop := 0 ≤ x ∧ x < M.items.length
def Rng (M : Mch) : Prop := ∀ x, ∀ p ∈ rowAt M x, InR M p.2
theorem MOk.rng {M : Mch} (ok : MOk M) : Rng M := fun x p hp => ⟨(rowAt_mv ok hp).1, (rowAt_mv ok hp).2.1⟩
theorem simk_iff {R : Int → Int → Bool} {M : Mch} {x y : Int} : simk R M x y = true ↔ ∀ p ∈ rowAt M x, ∃ q ∈ rowAt M y, q.1 = p.1 ∧ R p.2 q.2 = true := by
  unfold simk
  simp only [List.all_eq_true, List.any_eq_true, Bool.and_eq_true, decide_eq_true_eq]
section
variable {M : Mch} {x y z : Int}
theorem ek_succ {k : Nat} : ek M (k + 1) x y = true ↔ ek M k x y = true ∧ simk (ek M k) M x y = true ∧ simk (ek M k) M y x = true := by
  show (_ && (_ && _)) = true ↔ _
  simp only [Bool.and_eq_true]
theorem ek_refl : ∀ (k : Nat) (x : Int), ek M k x x = true
  | 0, _ => rfl
  | k + 1, x => by
    have h : simk (ek M k) M x x = true := simk_iff.mpr fun p hp => ⟨p, hp, rfl, ek_refl k _⟩
    exact ek_succ.mpr ⟨ek_refl k x, h, h⟩
theorem ek_symm : ∀ {k : Nat} {x y : Int}, ek M k x y = true → ek M k y x = true
  | 0, _, _, _ => rfl
  | k + 1, x, y, h => by
    obtain ⟨h1, h2, h3⟩ := ek_succ.mp h
    exact ek_succ.mpr ⟨ek_symm h1, h3, h2⟩
theorem ek_trans : ∀ {k : Nat} {x y z : Int}, ek M k x y = true → ek M k y z = true → ek M k x z = true
  | 0, _, _, _, _, _ => rfl
  | k + 1, x, y, z, h, g => by
    obtain ⟨h1, h2, h3⟩ := ek_succ.mp h
    obtain ⟨g1, g2, g3⟩ := ek_succ.mp g
    have key : ∀ {a b c : Int}, simk (ek M k) M a b = true → simk (ek M k) M b c = true → simk (ek M k) M a c = true := fun {a b c} ha hb => simk_iff.mpr fun p hp => by
      obtain ⟨q, hq, e, r⟩ := simk_iff.mp ha p hp
      obtain ⟨q2, hq2, e2, r2⟩ := simk_iff.mp hb q hq
      exact ⟨q2, hq2, e2.trans e, ek_trans r r2⟩
    exact ek_succ.mpr ⟨ek_trans h1 g1, key h2 g2, key g3 h3⟩
theorem ek_le {j k : Nat} (h : j ≤ k) : ek M k x y = true → ek M j x y = true := by
  induction h with
  | refl => exact id
  | step _ ih => exact fun e => ih (ek_succ.mp e).1
def Bis (M : Mch) (x y : Int) : Prop := ∀ k, ek M k x y = true
theorem Bis.refl (x : Int) : Bis M x x := fun k => ek_refl k x
theorem Bis.symm (h : Bis M x y) : Bis M y x := fun k => ek_symm (h k)
theorem Bis.trans (h : Bis M x y) (g : Bis M y z) : Bis M x z := fun k => ek_trans (h k) (g k)
def Stab (M : Mch) (K : Nat) : Prop := ∀ x y, InR M x → InR M y → ek M K x y = true → ek M (K + 1) x y = true
theorem Stab.succ {K : Nat} (rg : Rng M) (h : Stab M K) : Stab M (K + 1) := fun x y hx hy e => by
  obtain ⟨_, e2, e3⟩ := ek_succ.mp e
  have key : ∀ {a b : Int}, simk (ek M K) M a b = true → simk (ek M (K + 1)) M a b = true := fun {a b} ha => simk_iff.mpr fun p hp => by
    obtain ⟨q, hq, e, r⟩ := simk_iff.mp ha p hp
    exact ⟨q, hq, e, h _ _ (rg _ _ hp) (rg _ _ hq) r⟩
  exact ek_succ.mpr ⟨e, key e2, key e3⟩
theorem Stab.bis {K : Nat} (rg : Rng M) (h : Stab M K) (hx : InR M x) (hy : InR M y) : Bis M x y ↔ ek M K x y = true := by
  refine ⟨fun b => b K, fun e k => ?_⟩
  have st : ∀ j, Stab M (K + j) := fun j => by
    induction j with
    | zero => exact h
    | succ j ih => exact ih.succ rg
  have up : ∀ j, ek M (K + j) x y = true := fun j => by
    induction j with
    | zero => exact e
    | succ j ih => exact st j x y hx hy ih
  exact ek_le (Nat.le_add_left k K) (up k)
def prs (M : Mch) : List (Int × Int) := (rngI M.items.length).flatMap fun x => (rngI M.items.length).map fun y => (x, y)
theorem mem_prs {p : Int × Int} : p ∈ prs M ↔ InR M p.1 ∧ InR M p.2 := by
  unfold prs InR
  rw [List.mem_flatMap]
  constructor
  · rintro ⟨x, hx, hp⟩
    obtain ⟨y, hy, rfl⟩ := List.mem_map.mp hp
    exact ⟨mem_rngI.mp hx, mem_rngI.mp hy⟩
  · rintro ⟨h1, h2⟩
    exact ⟨p.1, mem_rngI.mpr h1, List.mem_map.mpr ⟨p.2, mem_rngI.mpr h2, rfl⟩⟩
end
noncomputable def bisB (M : Mch) (x y : Int) : Bool := @decide (Bis M x y) (Classical.propDecidable _)
noncomputable def reps0 (M : Mch) : List Int → List Int → List Int
  | acc, [] => acc
  | acc, x :: xs => reps0 M (if acc.any (fun r => bisB M r x) = true then acc else acc ++ [x]) xs
structure RepOk (M : Mch) (xs rs : List Int) : Prop where
  sub : ∀ r ∈ rs, r ∈ xs
  cov : ∀ x ∈ xs, ∃ r ∈ rs, Bis M r x
  df : rs.Pairwise fun a b => ¬ Bis M a b
noncomputable def rchL (M : Mch) : List Int := (rngI M.items.length).filter fun x => @decide (Reach M x) (Classical.propDecidable _)
noncomputable def reps (M : Mch) : List Int := reps0 M [] (rchL M)
noncomputable def cls (M : Mch) : Nat := (reps M).length
noncomputable def cl (M : Mch) (y : Int) : Int := (((reps M).findIdx fun r => bisB M r y : Nat) : Int)
section
variable {M : Mch} (ok : MOk M) {x y : Int}
include ok
end
section
variable {M : Mch} (ok : MOk M)
include ok
end
def bothM (A B : Mch) : Mch := ⟨A.items ++ B.items.map fun r => ⟨r.items.map fun p => (p.1, p.2 + A.items.length)⟩⟩
section
variable {A B : Mch} {x y : Int}
theorem both_len : (bothM A B).items.length = A.items.length + B.items.length := by
  show (A.items ++ B.items.map _).length = _
  rw [List.length_append, List.length_map]
theorem both_l (h : InR A x) : rowAt (bothM A B) x = rowAt A x := by
  obtain ⟨h0, h1⟩ := h
  have hl : x.toNat < A.items.length := by omega
  have : (bothM A B).items[x.toNat]? = some A.items[x.toNat] := by
    show (A.items ++ _)[x.toNat]? = _
    rw [List.getElem?_append_left hl, List.getElem?_eq_getElem hl]
  rw [rowAt_of this, rowAt_of (List.getElem?_eq_getElem hl)]
theorem both_r (h : InR B y) : rowAt (bothM A B) (y + A.items.length) = (rowAt B y).map fun p => (p.1, p.2 + (A.items.length : Int)) := by
  obtain ⟨h0, h1⟩ := h
  have hl : y.toNat < B.items.length := by omega
  have : (bothM A B).items[(y + A.items.length).toNat]? = some ⟨B.items[y.toNat].items.map fun p => (p.1, p.2 + (A.items.length : Int))⟩ := by
    show (A.items ++ _)[(y + A.items.length).toNat]? = _
    rw [List.getElem?_append_right (by omega), List.getElem?_map, show (y + A.items.length).toNat - A.items.length = y.toNat by omega, List.getElem?_eq_getElem hl]
    rfl
  rw [rowAt_of this, rowAt_of (List.getElem?_eq_getElem hl)]
theorem both_rng (ra : Rng A) (rb : Rng B) : Rng (bothM A B) := fun x p hp => by
  unfold InR
  rw [both_len]
  obtain ⟨r, hr, hp⟩ := rowAt_mem hp
  rcases List.mem_append.mp (show r ∈ A.items ++ B.items.map _ from hr) with h | h
  · obtain ⟨i, hi, e⟩ := List.getElem_of_mem h
    have hp : p ∈ rowAt A (i : Int) := by rw [rowAt_of (r := r) (by rw [Int.toNat_natCast, List.getElem?_eq_getElem hi, e])]; exact hp
    obtain ⟨a, b⟩ := ra _ _ hp
    omega
  · obtain ⟨r2, hr2, rfl⟩ := List.mem_map.mp h
    obtain ⟨p2, hp2, rfl⟩ := List.mem_map.mp hp
    obtain ⟨i, hi, e⟩ := List.getElem_of_mem hr2
    have hp2 : p2 ∈ rowAt B (i : Int) := by rw [rowAt_of (r := r2) (by rw [Int.toNat_natCast, List.getElem?_eq_getElem hi, e])]; exact hp2
    obtain ⟨a, b⟩ := rb _ _ hp2
    simp only
    omega
end
section
variable {M : Mch} (ok : MOk M)
include ok
end
structure Cover (B M : Mch) (φ : Int → Int) : Prop where
  z : φ 0 = 0
  rng : ∀ i, InR B i → InR M (φ i)
  out : ∀ i, InR B i → ∀ p ∈ rowAt B i, (p.1, φ p.2) ∈ rowAt M (φ i)
  inn : ∀ i, InR B i → ∀ q ∈ rowAt M (φ i), ∃ p ∈ rowAt B i, p.1 = q.1 ∧ φ p.2 = q.2
end Sk
set_option Elab.async false
set_option linter.all false
set_option maxRecDepth 100000
set_option maxHeartbeats 2000000
namespace Sk
open PySem PySem.Spec PyProof.Rows L2
open PySem.W (Datum DatumOrd Tup T3 T4)
instance {α : Type} [DecidableEq α] [Datum α] [KD α] : KD (Option (Tup α)) where
  inj a b h := by
    cases a with
    | none =>
      cases b with
      | none => rfl
      | some b => exact absurd h (by show ¬ keyN .none = NestedKey.tup _; simp [keyN])
    | some a =>
      cases b with
      | none => exact absurd h (by show ¬ NestedKey.tup _ = keyN .none; simp [keyN])
      | some b => rw [KD.inj a b h]
  imm a := by
    cases a with
    | none => rfl
    | some a => exact KD.imm a
  dep := KD.dep (Tup α)
  dle a := by
    cases a with
    | none => exact Nat.zero_le _
    | some a => exact KD.dle a
section
variable {α : Type} [DecidableEq α]
variable [Datum α] [KD α]
end
section
variable {α κ : Type} [DecidableEq α] [DecidableEq κ] [DatumOrd κ] [OrdL κ] {k : α → κ}
def RisK (k : α → κ) (xs : List α) : Prop := Rising (xs.map k)
theorem RisK.eq (inj : ∀ a b, k a = k b → a = b) {xs ys : List α} (hx : RisK k xs) (hy : RisK k ys) (h : ∀ a, a ∈ xs ↔ a ∈ ys) : xs = ys := by
  have e : xs.map k = ys.map k := Rising.eq hx hy fun c => by
    rw [List.mem_map, List.mem_map]
    exact ⟨fun ⟨a, ha, e⟩ => ⟨a, (h a).mp ha, e⟩, fun ⟨a, ha, e⟩ => ⟨a, (h a).mpr ha, e⟩⟩
  clear hx hy h
  induction xs generalizing ys with
  | nil => cases ys with
    | nil => rfl
    | cons y ys => cases e
  | cons x xs ih => cases ys with
    | nil => cases e
    | cons y ys =>
      simp only [List.map_cons, List.cons.injEq] at e
      rw [inj _ _ e.1, ih e.2]
theorem RisK.filter {xs : List α} (h : RisK k xs) (p : α → Bool) : RisK k (xs.filter p) := by
  unfold RisK Rising at *
  rw [List.pairwise_map] at *
  exact h.filter p
end
abbrev kLen (a : Tup Str) : Int × Tup Str := ((a.items.length : Int), a)
def Sub (a b : Tup Str) : Prop := ∀ w ∈ a.items, w ∈ b.items
instance (a b : Tup Str) : Decidable (Sub a b) := inferInstanceAs (Decidable (∀ w ∈ a.items, w ∈ b.items))
end Sk
set_option Elab.async false
set_option linter.all false
set_option maxRecDepth 100000
set_option maxHeartbeats 4000000
namespace Sk
open PySem PySem.Spec PyProof.Rows L2
open PySem.W (Datum DatumOrd Tup T3 T4)
open Evl (Ex)
theorem hLc_eq {it : HI} {g : HG} {tt : HT} {t : HE} {vs : List Nat} {s : Sg} {C : PV → Sg → Prop} : hLc it g tt t vs s C ↔ (it s fun ds s1 => lcs vs g tt t ds [] (s1.wipe vs) C) := Iff.rfl
end Sk
namespace Sk
open PySem PySem.Spec PyProof.Rows L2
open PySem.W (Datum DatumOrd Tup T3 T4)
open Evl (Ex)
def hid (M : Mch) (x : Int) : List Int := ((rowAt M x).filter fun p => decide (p.1 = ("" : Str))).map (·.2)
theorem mem_hid {M : Mch} {x g : Int} : g ∈ hid M x ↔ (("" : Str), g) ∈ rowAt M x := by
  unfold hid
  rw [List.mem_map]
  constructor
  · rintro ⟨p, hp, rfl⟩
    obtain ⟨h1, h2⟩ := List.mem_filter.mp hp
    have h2 : p.1 = ("" : Str) := of_decide_eq_true h2
    rw [← h2]; exact h1
  · intro h
    exact ⟨_, List.mem_filter.mpr ⟨h, by simp⟩, rfl⟩
theorem hid_rng {M : Mch} (ok : MOk M) {x g : Int} (h : g ∈ hid M x) : 0 ≤ g ∧ g < M.items.length := by
  obtain ⟨a, b, _⟩ := rowAt_mv ok (mem_hid.mp h)
  exact ⟨a, b⟩
def Post (M : Mch) (S : List Int) : Prop := ∀ y ∈ S, 0 ≤ y ∧ y < M.items.length ∧ ∃ g ∈ hid M y, g ∈ S
def Endl (M : Mch) (x : Int) : Prop := ∃ S, Post M S ∧ x ∈ S
def rnd (M : Mch) (xs : List Int) : List Int := xs.filter fun x => (hid M x).any fun g => decide (g ∈ xs)
theorem rnd_mem {M : Mch} {xs : List Int} {x : Int} : x ∈ rnd M xs ↔ x ∈ xs ∧ ∃ g ∈ hid M x, g ∈ xs := by
  unfold rnd
  rw [List.mem_filter, List.any_eq_true]
  constructor
  · rintro ⟨h, g, hg, e⟩
    exact ⟨h, g, hg, of_decide_eq_true e⟩
  · rintro ⟨h, g, hg, e⟩
    exact ⟨h, g, hg, decide_eq_true e⟩
def rnds (M : Mch) : Nat → List Int → List Int
  | 0, xs => xs
  | k + 1, xs => rnds M k (rnd M xs)
theorem rnds_fix {M : Mch} : ∀ (k : Nat) (xs : List Int), xs.length ≤ k → rnd M (rnds M k xs) = rnds M k xs
  | 0, xs, h => by
    have : xs = [] := List.length_eq_zero_iff.mp (by omega)
    subst this; rfl
  | k + 1, xs, h => by
    show rnd M (rnds M k (rnd M xs)) = rnds M k (rnd M xs)
    by_cases e : rnd M xs = xs
    · rw [e]
      have st : ∀ k, rnds M k xs = xs := fun k => by
        induction k with
        | zero => rfl
        | succ k ih => show rnds M k (rnd M xs) = xs; rw [e]; exact ih
      rw [st, e]
    · refine rnds_fix k _ ?_
      have l1 : (rnd M xs).length ≤ xs.length := List.length_filter_le _ _
      have l2 : (rnd M xs).length ≠ xs.length := fun z => e (by
        unfold rnd at z ⊢
        exact List.filter_eq_self.mpr (List.length_filter_eq_length_iff.mp z))
      omega
theorem rnds_sub {M : Mch} : ∀ (k : Nat) (xs : List Int), (rnds M k xs).Sublist xs
  | 0, xs => List.Sublist.refl _
  | k + 1, xs => (rnds_sub k (rnd M xs)).trans List.filter_sublist
theorem post_rnds {M : Mch} {S : List Int} (hS : Post M S) : ∀ (k : Nat) (xs : List Int), (∀ x ∈ S, x ∈ xs) → ∀ x ∈ S, x ∈ rnds M k xs
  | 0, xs, h => h
  | k + 1, xs, h => post_rnds hS k (rnd M xs) fun x hx => by
    obtain ⟨_, _, g, hg, h2⟩ := hS x hx
    exact rnd_mem.mpr ⟨h x hx, g, hg, h g h2⟩
theorem rnds_endl {M : Mch} {x : Int} : x ∈ rnds M M.items.length (rngI M.items.length) ↔ Endl M x := by
  have fx := rnds_fix (M := M) M.items.length (rngI M.items.length) (by rw [rngI_len]; exact Nat.le_refl _)
  constructor
  · intro h
    refine ⟨_, fun y hy => ?_, h⟩
    have h1 := mem_rngI.mp ((rnds_sub _ _).subset hy)
    rw [← fx] at hy
    obtain ⟨_, g, hg, h2⟩ := rnd_mem.mp hy
    exact ⟨h1.1, h1.2, g, hg, h2⟩
  · rintro ⟨S, hS, hx⟩
    refine post_rnds hS _ _ (fun y hy => ?_) x hx
    obtain ⟨a, b, _⟩ := hS y hy
    exact mem_rngI.mpr ⟨a, b⟩
def cnt (M : Mch) (P : List Int) (x : Int) : Nat := ((hid M x).filter fun g => decide (g ∉ P)).length
theorem cnt_zero {M : Mch} {P : List Int} {x : Int} : cnt M P x = 0 ↔ ∀ g ∈ hid M x, g ∈ P := by
  unfold cnt
  rw [List.length_eq_zero_iff, List.filter_eq_nil_iff]
  constructor
  · intro h g hg
    have := h g hg
    simpa using this
  · intro h g hg
    have := h g hg
    simpa using this
structure EInv (M : Mch) (lefts ended P : List Int) : Prop where
  len : lefts.length = M.items.length
  nd : (ended ++ P).Nodup
  rng : ∀ x ∈ ended ++ P, 0 ≤ x ∧ x < M.items.length
  cn : ∀ x : Int, 0 ≤ x → x < M.items.length → lefts[x.toNat]? = some ((cnt M P x : Nat) : Int)
  ze : ∀ x : Int, 0 ≤ x → x < M.items.length → (cnt M P x = 0 ↔ x ∈ ended ++ P)
  ds : ∀ S, Post M S → ∀ x ∈ ended ++ P, x ∉ S
structure FInv (M : Mch) (rest lefts ended P : List Int) : Prop where
  len : lefts.length = M.items.length
  nd : (ended ++ P).Nodup
  rng : ∀ x ∈ ended ++ P, 0 ≤ x ∧ x < M.items.length
  rs : rest.Nodup ∧ ∀ x ∈ rest, 0 ≤ x ∧ x < M.items.length
  cn : ∀ x : Int, 0 ≤ x → x < M.items.length → lefts[x.toNat]? = some ((cnt M P x + (if x ∈ rest then 1 else 0) : Nat) : Int)
  ze : ∀ x : Int, 0 ≤ x → x < M.items.length → (cnt M P x + (if x ∈ rest then 1 else 0) = 0 ↔ x ∈ ended ++ P)
  ds : ∀ S, Post M S → ∀ x ∈ ended ++ P, x ∉ S
theorem FInv.done {M : Mch} {lefts ended P : List Int} (h : FInv M [] lefts ended P) : EInv M lefts ended P where
  len := h.len
  nd := h.nd
  rng := h.rng
  cn := fun x h0 h1 => by have := h.cn x h0 h1; simpa using this
  ze := fun x h0 h1 => by have := h.ze x h0 h1; simpa using this
  ds := h.ds
theorem FInv.step {M : Mch} {rest lefts ended P : List Int} {x : Int} (h : FInv M (x :: rest) lefts ended P) : lefts[x.toNat]? = some ((cnt M P x + 1 : Nat) : Int) ∧ x.toNat < lefts.length ∧
    (if cnt M P x = 0 then FInv M rest (lefts.set x.toNat ((cnt M P x : Nat) : Int)) (ended ++ [x]) P else FInv M rest (lefts.set x.toNat ((cnt M P x : Nat) : Int)) ended P) := by
  obtain ⟨n1, n2⟩ := List.nodup_cons.mp h.rs.1
  have rx := h.rs.2 x List.mem_cons_self
  have lx : x.toNat < lefts.length := by rw [h.len]; omega
  have c0 := h.cn x rx.1 rx.2
  rw [if_pos List.mem_cons_self] at c0
  have z0 := h.ze x rx.1 rx.2
  rw [if_pos List.mem_cons_self] at z0
  have nx : x ∉ ended ++ P := fun z => by have := z0.mpr z; omega
  have ifx : ∀ y : Int, y ≠ x → (if y ∈ x :: rest then 1 else 0) = (if y ∈ rest then 1 else 0) := fun y hy => by
    have e3 : (y ∈ x :: rest) ↔ y ∈ rest := by
      rw [List.mem_cons]
      exact ⟨fun h => h.resolve_left hy, Or.inr⟩
    by_cases q : y ∈ rest
    · rw [if_pos q, if_pos (e3.mpr q)]
    · rw [if_neg q, if_neg fun z => q (e3.mp z)]
  have cn' : ∀ y : Int, 0 ≤ y → y < M.items.length → (lefts.set x.toNat ((cnt M P x : Nat) : Int))[y.toNat]? = some ((cnt M P y + (if y ∈ rest then 1 else 0) : Nat) : Int) := fun y h0 h1 => by
    by_cases e : y = x
    · subst e
      rw [List.getElem?_set_self lx, if_neg n1]; rfl
    · rw [List.getElem?_set_ne (by omega), ← ifx y e]
      exact h.cn y h0 h1
  refine ⟨c0, lx, ?_⟩
  by_cases hz : cnt M P x = 0
  · rw [if_pos hz]
    have mm : ∀ y, y ∈ ended ++ [x] ++ P ↔ y = x ∨ y ∈ ended ++ P := fun y => by
      simp only [List.mem_append, List.mem_singleton]
      constructor
      · rintro ((h | h) | h)
        · exact Or.inr (Or.inl h)
        · exact Or.inl h
        · exact Or.inr (Or.inr h)
      · rintro (h | h | h)
        · exact Or.inl (Or.inr h)
        · exact Or.inl (Or.inl h)
        · exact Or.inr h
    have pm : (ended ++ [x] ++ P).Perm (x :: (ended ++ P)) := by
      rw [List.append_assoc]
      exact List.perm_middle
    exact {
      len := by rw [List.length_set]; exact h.len
      nd := pm.nodup_iff.mpr (List.nodup_cons.mpr ⟨nx, h.nd⟩)
      rng := fun y hy => by
        rcases (mm y).mp hy with rfl | hy
        · exact rx
        · exact h.rng y hy
      rs := ⟨n2, fun y hy => h.rs.2 y (List.mem_cons_of_mem _ hy)⟩
      cn := cn'
      ze := fun y h0 h1 => by
        rw [mm y]
        by_cases e : y = x
        · subst e
          rw [if_neg n1, hz]
          exact ⟨fun _ => Or.inl rfl, fun _ => rfl⟩
        · rw [← ifx y e, h.ze y h0 h1]
          exact ⟨Or.inr, fun z => z.resolve_left e⟩
      ds := fun S hS y hy => by
        rcases (mm y).mp hy with rfl | hy
        · intro hs
          obtain ⟨_, _, g, hg, h2⟩ := hS y hs
          exact h.ds S hS g (List.mem_append.mpr (Or.inr (cnt_zero.mp hz g hg))) h2
        · exact h.ds S hS y hy }
  · rw [if_neg hz]
    exact {
      len := by rw [List.length_set]; exact h.len
      nd := h.nd
      rng := h.rng
      rs := ⟨n2, fun y hy => h.rs.2 y (List.mem_cons_of_mem _ hy)⟩
      cn := cn'
      ze := fun y h0 h1 => by
        by_cases e : y = x
        · subst e
          rw [if_neg n1]
          exact ⟨fun z => absurd (by omega) hz, fun z => absurd z nx⟩
        · rw [← ifx y e, h.ze y h0 h1]
      ds := h.ds }
theorem EInv.start {M : Mch} {lefts ended : List Int} (len : lefts.length = M.items.length) (cn : ∀ x : Int, 0 ≤ x → x < M.items.length → lefts[x.toNat]? = some ((hid M x).length : Int)) (he : ended = (rngI M.items.length).filter fun x => decide ((hid M x).length = 0)) : EInv M lefts ended [] := by
  have c0 : ∀ x, cnt M [] x = (hid M x).length := fun x => by
    unfold cnt
    congr 1
    exact List.filter_eq_self.mpr fun a _ => by simp
  have mem : ∀ x : Int, x ∈ ended ++ [] ↔ (0 ≤ x ∧ x < M.items.length) ∧ (hid M x).length = 0 := fun x => by
    rw [List.append_nil, he, List.mem_filter, mem_rngI, decide_eq_true_eq]
  exact {
    len := len
    nd := by rw [List.append_nil, he]; exact rngI_rising.nodup.filter _
    rng := fun x hx => ((mem x).mp hx).1
    cn := fun x h0 h1 => by rw [c0]; exact cn x h0 h1
    ze := fun x h0 h1 => by rw [c0, mem]; exact ⟨fun z => ⟨⟨h0, h1⟩, z⟩, fun z => z.2⟩
    ds := fun S hS x hx hs => by
      obtain ⟨_, _, g, hg, _⟩ := hS x hs
      have := ((mem x).mp hx).2
      rw [List.length_eq_zero_iff] at this
      rw [this] at hg; cases hg }
theorem EInv.end {M : Mch} (ok : MOk M) {lefts P : List Int} (h : EInv M lefts [] P) {x : Int} (h0 : 0 ≤ x) (h1 : x < M.items.length) : 0 < cnt M P x ↔ Endl M x := by
  constructor
  · intro hx
    refine ⟨(rngI M.items.length).filter fun y => decide (0 < cnt M P y), fun y hy => ?_, List.mem_filter.mpr ⟨mem_rngI.mpr ⟨h0, h1⟩, decide_eq_true hx⟩⟩
    obtain ⟨a, b⟩ := List.mem_filter.mp hy
    have b : 0 < cnt M P y := of_decide_eq_true b
    have ry := mem_rngI.mp a
    have : ∃ g ∈ hid M y, g ∉ P := by
      apply Classical.byContradiction
      intro z
      have : cnt M P y = 0 := cnt_zero.mpr fun g hg => by
        apply Classical.byContradiction
        intro q
        exact z ⟨g, hg, q⟩
      omega
    obtain ⟨g, hg, gp⟩ := this
    have rg := hid_rng ok hg
    refine ⟨ry.1, ry.2, g, hg, List.mem_filter.mpr ⟨mem_rngI.mpr rg, decide_eq_true ?_⟩⟩
    have := (h.ze g rg.1 rg.2)
    rcases Nat.eq_zero_or_pos (cnt M P g) with z | z
    · exact absurd (by simpa using this.mp z) gp
    · exact z
  · rintro ⟨S, hS, hx⟩
    rcases Nat.eq_zero_or_pos (cnt M P x) with z | z
    · exact absurd hx (h.ds S hS x ((h.ze x h0 h1).mp z))
    · exact z
end Sk
set_option Elab.async false
set_option linter.all false
set_option maxRecDepth 100000
set_option maxHeartbeats 4000000
namespace Sk
open PySem PySem.Spec PyProof.Rows L2
open PySem.W (Datum DatumOrd Tup T3 T4)
open Evl (Ex)
structure ShowK (d : PyData) (k w : Nat) : Prop where
  sh : d.showable = true
  hd : d.hasDict = false
  dp : d.depth ≤ k
  lf : d.leavesShort 13 = true
  wt : d.weight ≤ w
theorem ShowAll.consK {d : PyData} {ds : List PyData} {k w v : Nat} (h : ShowK d k v) (t : ShowAll ds k w) : ShowAll (d :: ds) k (v + 1 + w) := .cons h.sh h.hd h.dp h.lf h.wt t
theorem ShowAll.tupK {ds : List PyData} {k w : Nat} (h : ShowAll ds k w) : ShowK (.tuple ds) (k + 1) w where
  sh := by simp only [PyData.showable]; exact h.sh
  hd := by simp only [PyData.hasDict]; exact h.hd
  dp := by have := h.dp; simp only [PyData.depth]; omega
  lf := by simp only [PyData.leavesShort]; exact h.lf
  wt := by have := h.wt; simp only [PyData.weight]; omega
theorem ShowK.ok {d : PyData} {k w : Nat} (h : ShowK d k w) (hk : k ≤ 100) (hw : w ≤ 1048576) : ShowOk d := ⟨h.sh, h.hd, Nat.le_trans h.dp hk, h.lf, Nat.le_trans h.wt (Nat.le_trans hw (by decide))⟩
theorem ShowK.mono {d : PyData} {k w k' w' : Nat} (h : ShowK d k w) (hk : k ≤ k') (hw : w ≤ w') : ShowK d k' w' := ⟨h.sh, h.hd, Nat.le_trans h.dp hk, h.lf, Nat.le_trans h.wt hw⟩
theorem none_showK : ShowK .none 0 0 := ⟨rfl, rfl, Nat.le_refl _, rfl, Nat.le_refl _⟩
theorem word_showK {z : Str} (h : isWordS z = true ∨ z = "") : ShowK (.str z) 0 6 := by
  have h2 : (∀ c ∈ z.cps.toList, c < 16 ^ 8) ∧ z.length ≤ 6 := by
    rcases h with h | rfl
    · exact word_small h
    · have e : ("" : Str).cps.toList = [] := rfl
      rw [e]
      exact ⟨fun c hc => absurd hc List.not_mem_nil, by decide⟩
  exact ⟨by simp only [PyData.showable], by simp only [PyData.hasDict], by simp only [PyData.depth]; omega, by simp only [PyData.leavesShort, List.all_eq_true, decide_eq_true_eq]; exact h2.1, by simp only [PyData.weight]; exact h2.2⟩
theorem show_all {α : Type} {f : α → PyData} {k w : Nat} : ∀ {xs : List α}, (∀ x ∈ xs, ShowK (f x) k w) → ShowAll (xs.map f) k ((w + 1) * xs.length)
  | [], _ => .nil
  | x :: xs, h => by
    have z := ShowAll.consK (h x List.mem_cons_self) (show_all (xs := xs) fun y hy => h y (List.mem_cons_of_mem _ hy))
    rw [show (w + 1) * (x :: xs).length = w + 1 + (w + 1) * xs.length by rw [List.length_cons, Nat.mul_succ]; omega]
    exact z
end Sk
set_option Elab.async false
set_option linter.all false
set_option maxRecDepth 100000
set_option maxHeartbeats 4000000
namespace Sk
open PySem PySem.Spec PyProof.Rows L2
open PySem.W (Datum DatumOrd Tup T3 T4)
open Evl (Ex)
def offerOf (M : Mch) (x : Int) : Option (List Str) := if (rowAt M x).any (fun p => decide (p.1 = ("" : Str))) then none else some (sortU ((rowAt M x).map (·.1)))
@[simp] def noneO : Option PV := none
end Sk
namespace Sk
open PySem PySem.Spec PyProof.Rows L2
open PySem.W (Datum DatumOrd Tup T3 T4)
open Evl (Ex)
inductive Clo (M : Mch) (P : Int → Prop) : Int → Prop where
  | base {x : Int} (h : P x) : Clo M P x
  | step {x g : Int} (h : Clo M P x) (hg : g ∈ hid M x) : Clo M P g
theorem Clo.rng {M : Mch} {P : Int → Prop} (ok : MOk M) (hP : ∀ x, P x → 0 ≤ x ∧ x < M.items.length) {x : Int} (h : Clo M P x) : 0 ≤ x ∧ x < M.items.length := by
  cases h with
  | base h => exact hP _ h
  | step _ hg => exact hid_rng ok hg
theorem Clo.congr {M : Mch} {P Q : Int → Prop} (h : ∀ x, P x ↔ Q x) (x : Int) : Clo M P x ↔ Clo M Q x := by
  have e : P = Q := funext fun x => propext (h x)
  rw [e]
structure CInv (M : Mch) (P : Int → Prop) (bs : List Bool) (wt : List Int) : Prop where
  len : bs.length = M.items.length
  wtr : ∀ x ∈ wt, 0 ≤ x ∧ x < M.items.length
  wtc : ∀ x ∈ wt, Clo M P x
  met : ∀ x : Int, 0 ≤ x → bs[x.toNat]? = some true → Clo M P x
  bas : ∀ x, P x → bs[x.toNat]? = some true ∨ x ∈ wt
  clo : ∀ x : Int, 0 ≤ x → bs[x.toNat]? = some true → ∀ g ∈ hid M x, bs[g.toNat]? = some true ∨ g ∈ wt
theorem CInv.end {M : Mch} {P : Int → Prop} {bs : List Bool} (ok : MOk M) (hP : ∀ x, P x → 0 ≤ x ∧ x < M.items.length) (h : CInv M P bs []) {x : Int} : (0 ≤ x ∧ bs[x.toNat]? = some true) ↔ Clo M P x := by
  constructor
  · exact fun ⟨h0, h1⟩ => h.met x h0 h1
  · intro c
    induction c with
    | base hx => exact ⟨(hP _ hx).1, (h.bas _ hx).resolve_right List.not_mem_nil⟩
    | step _ hg ih => exact ⟨(hid_rng ok hg).1, (h.clo _ ih.1 ih.2 _ hg).resolve_right List.not_mem_nil⟩
theorem CInv.go {M : Mch} {P : Int → Prop} {bs : List Bool} {wt : List Int} {e : Int} (ok : MOk M) (h : CInv M P bs (wt ++ [e])) : CInv M P (bs.set e.toNat true) (wt ++ hid M e) := by
  have re := h.wtr e (by simp)
  have ce := h.wtc e (by simp)
  have le : e.toNat < bs.length := by rw [h.len]; omega
  have mono : ∀ j : Nat, bs[j]? = some true → (bs.set e.toNat true)[j]? = some true := fun j hj => by
    rw [List.getElem?_set]
    split
    · first | rfl | rw [if_pos le]
    · exact hj
  have back : ∀ x : Int, 0 ≤ x → (bs.set e.toNat true)[x.toNat]? = some true → x = e ∨ bs[x.toNat]? = some true := fun x h0 hx => by
    rw [List.getElem?_set] at hx
    split at hx
    · exact Or.inl (by omega)
    · exact Or.inr hx
  have self : (bs.set e.toNat true)[e.toNat]? = some true := List.getElem?_set_self le
  have lift : ∀ x, (bs[x.toNat]? = some true ∨ x ∈ wt ++ [e]) → ((bs.set e.toNat true)[x.toNat]? = some true ∨ x ∈ wt ++ hid M e) := fun x q => by
    rcases q with q | q
    · exact Or.inl (mono _ q)
    · rcases List.mem_append.mp q with q | q
      · exact Or.inr (List.mem_append.mpr (Or.inl q))
      · rw [List.mem_singleton.mp q]; exact Or.inl self
  exact {
    len := by rw [List.length_set]; exact h.len
    wtr := fun x hx => by
      rcases List.mem_append.mp hx with hx | hx
      · exact h.wtr x (List.mem_append.mpr (Or.inl hx))
      · exact hid_rng ok hx
    wtc := fun x hx => by
      rcases List.mem_append.mp hx with hx | hx
      · exact h.wtc x (List.mem_append.mpr (Or.inl hx))
      · exact .step ce hx
    met := fun x h0 hx => by
      rcases back x h0 hx with rfl | q
      · exact ce
      · exact h.met x h0 q
    bas := fun x hx => lift x (h.bas x hx)
    clo := fun x h0 hx g hg => by
      rcases back x h0 hx with rfl | q
      · exact Or.inr (List.mem_append.mpr (Or.inr hg))
      · exact lift g (h.clo x h0 q g hg) }
theorem CInv.start {M : Mch} {S : List Int} (hS : ∀ x ∈ S, 0 ≤ x ∧ x < M.items.length) : CInv M (· ∈ S) (List.replicate M.items.length false) S where
  len := List.length_replicate
  wtr := hS
  wtc := fun x hx => .base hx
  met := fun x _ h => by rw [List.getElem?_replicate] at h; split at h <;> cases h
  bas := fun x hx => Or.inr hx
  clo := fun x _ h => by rw [List.getElem?_replicate] at h; split at h <;> cases h
def sp_is_row_ab8be0 : HSp := fun ps n C => ∃ ws : List Str, ps = [.dat (.tuple (ws.map .str))] ∧ (∀ w ∈ ws, isWordS w = true) ∧ ws.length ≤ 90000 ∧ C (.dat (.bool true)) n
def h_is_row_ab8be0 : HS :=
    (hRet (hAndV (hC isiW (hL 0 (fun s C => hNil s fun ps s2 => C (.val (.ty "tuple") :: ps) s2))) (hC (allW fun bs => bs.all id) (hE (hLc (hiT (hV 0)) (gN 1) hYes (hCall sp_is_word_e81331 1 (hL 1 hNil)) [1]) hNil))))
theorem rd_is_row_ab8be0 : ∀ pvs n C, pvs.length = 1 → sp_is_row_ab8be0 pvs n C → h_is_row_ab8be0 ⟨fun s => C (.dat .none) s.n, fun p s => C p s.n, fun _ => False, fun _ => False⟩ ⟨pvs.map some ++ List.replicate (2 - pvs.length) none, n⟩ := by
  intro pvs n C _ h
  obtain ⟨ws, rfl, hw, hl, q⟩ := h
  unfold h_is_row_ab8be0
  have kT : ∀ ds, kitB (tyD (PyData.tuple ds)) "tuple" = some true := fun ds => rfl
  simp [-hLc, isiW, kT]
  refine hLc_eq.mpr ?_
  simp [-hLc]
  refine lcs_map (xs := ws) (fun w : Str => PyData.str w) (fun _ => .bool true) (fun w hx K hK => ?_) [] _ (by simp; omega) ?_
  · simp
    have e : isWordD (.str w) = true := hw w hx
    refine ⟨_, rfl, fun z hz => by cases hz; exact word_len (Or.inl (hw w hx)), ?_⟩
    rw [e]
    exact hK _ (by simp)
  · refine ⟨_, rfl, allW_b (bs := ws.map fun _ => true) ?_ ?_⟩
    · simp
    · have : (ws.map fun _ => true).all id = true := by simp
      rw [this]
      exact q
def ledP (M : Mch) (P : Int → Prop) (w : Str) : Int → Prop := Clo M fun g => ∃ x, P x ∧ (w, g) ∈ rowAt M x
def behP (M : Mch) (row : List Str) : Int → Prop := row.foldl (ledP M) (Clo M (· = 0))
theorem ledP_rng {M : Mch} (ok : MOk M) {P : Int → Prop} {w : Str} {x : Int} (h : ledP M P w x) : 0 ≤ x ∧ x < M.items.length := Clo.rng ok (fun g ⟨y, _, hg⟩ => by obtain ⟨a, b, _⟩ := rowAt_mv ok hg; exact ⟨a, b⟩) h
def gls (M : Mch) (w : Str) (x : Int) : List Int := ((rowAt M x).filter fun p => decide (p.1 = w)).map (·.2)
theorem mem_gls {M : Mch} {w : Str} {x g : Int} : g ∈ gls M w x ↔ (w, g) ∈ rowAt M x := by
  unfold gls
  rw [List.mem_map]
  constructor
  · rintro ⟨p, hp, rfl⟩
    obtain ⟨h1, h2⟩ := List.mem_filter.mp hp
    have h2 : p.1 = w := of_decide_eq_true h2
    rw [← h2]; exact h1
  · intro h
    exact ⟨_, List.mem_filter.mpr ⟨h, by simp⟩, rfl⟩
end Sk
set_option Elab.async false
set_option linter.all false
set_option maxRecDepth 100000
set_option maxHeartbeats 4000000
namespace Sk
open PySem PySem.Spec PyProof.Rows L2
open PySem.W (Datum DatumOrd Tup T3 T4)
open Evl (Ex)
def offT (M : Mch) (x : Int) : Option (Tup Str) := (offerOf M x).map Tup.mk
def Off (M : Mch) (S : List Int) (a : Tup Str) : Prop := ∃ x ∈ S, offT M x = some a
theorem Off.len {M : Mch} {S : List Int} {a : Tup Str} (le : RowsLe 60 M) (h : Off M S a) : a.items.length ≤ 60 := by
  obtain ⟨x, _, e⟩ := h
  unfold offT offerOf at e
  split at e
  · cases e
  · cases e
    have rl := rowAt_le (M := M) (x := x) le
    have sl := sortU_len ((rowAt M x).map (·.1))
    rw [List.length_map] at sl
    show (sortU ((rowAt M x).map (·.1))).length ≤ 60
    omega
end Sk
set_option Elab.async false
set_option linter.all false
set_option maxRecDepth 100000
set_option maxHeartbeats 4000000
namespace Sk
open PySem PySem.Spec PyProof.Rows L2
open PySem.W (Datum DatumOrd Tup T3 T4)
open Evl (Ex)
end Sk
namespace Sk
open PySem PySem.Spec PyProof.Rows L2
open PySem.W (Datum DatumOrd Tup T3 T4)
open Evl (Ex)
def hidR (r : List (Str × Int)) : List Int := (r.filter fun p => decide (p.1 = ("" : Str))).map (·.2)
def rndH (H : List (List Int)) (xs : List Int) : List Int := xs.filter fun x => ((H[x.toNat]?).getD []).any fun g => decide (g ∈ xs)
def rndsH (H : List (List Int)) : Nat → List Int → List Int
  | 0, xs => xs
  | k + 1, xs => rndsH H k (rndH H xs)
theorem hid_run {M : Mch} {H : List (List Int)} (e : (M.items.map fun r => hidR r.items) = H) (x : Int) : hid M x = (H[x.toNat]?).getD [] := by
  rw [← e, List.getElem?_map]
  unfold hid rowAt
  cases h : M.items[x.toNat]? <;> rfl
theorem rnds_run {M : Mch} {H : List (List Int)} (e : (M.items.map fun r => hidR r.items) = H) : ∀ (k : Nat) (xs : List Int), rnds M k xs = rndsH H k xs
  | 0, _ => rfl
  | k + 1, xs => by
    show rnds M k (rnd M xs) = rndsH H k (rndH H xs)
    have : rnd M xs = rndH H xs := by
      unfold rnd rndH
      congr 1
      funext x
      rw [hid_run e x]
    rw [this, rnds_run e k]
theorem endl_run {M : Mch} {H : List (List Int)} {ys : List Int} (e : (M.items.map fun r => hidR r.items) = H) (h : rndsH H H.length (rngI H.length) = ys) (x : Int) : x ∈ ys ↔ Endl M x := by
  have hl : H.length = M.items.length := by rw [← e, List.length_map]
  rw [← rnds_endl, ← hl, rnds_run e, h]
theorem word_ne {a : Str} (h : isWordS a = true) : a ≠ "" := fun e => by
  subst e
  exact absurd h (by decide +kernel)
theorem endl_rng {M : Mch} {x : Int} (h : Endl M x) : 0 ≤ x ∧ x < M.items.length := by
  obtain ⟨S, hS, hx⟩ := h
  obtain ⟨a, b, _⟩ := hS x hx
  exact ⟨a, b⟩
section
variable {a b : Str} (ha : isWordS a = true) (hb : isWordS b = true) (hab : DatumOrd.lt a b = true)
include ha hb hab
end
end Sk
set_option Elab.async false
set_option linter.all false
set_option maxRecDepth 100000
set_option maxHeartbeats 4000000
namespace Sk
open PySem PySem.Spec PyProof.Rows L2
open PySem.W (Datum DatumOrd Tup T3 T4)
open Evl (Ex)
theorem lcs_sub {α : Type} {vs : List Nat} {g : HG} {tt : HT} {t : HE} {sl : List (Option PV)} {c N : Nat} (e : α → PyData) : ∀ (xs : List α) (acc : List PyData) (n : Nat) (C : PV → Sg → Prop),
    (∀ a ∈ xs, ∀ n, n ≤ N → ∀ K : Bool → Sg → Prop, (∀ n' s2, n' ≤ n + c → s2.wipe vs = ⟨sl, n'⟩ → K false s2) → (∀ n' s2, n' ≤ n + c → (∀ K2 : PV → Sg → Prop, (∀ s3, s3.wipe vs = ⟨sl, n'⟩ → K2 (.dat (e a)) s3) → t s2 K2) → K true s2) → g (e a) ⟨sl, n⟩ fun s1 => tt s1 K) → n + c * xs.length ≤ N → acc.length + xs.length ≤ 100000 →
    (∀ (bs : List α) (n' : Nat), bs.Sublist xs → n' ≤ n + c * xs.length → C (.own (acc ++ bs.map e)) ⟨sl, n'⟩) → lcs vs g tt t (xs.map e) acc ⟨sl, n⟩ C := by
  intro xs
  induction xs with
  | nil => intro acc n C _ _ _ fin; simpa using fin [] n (List.Sublist.refl _) (by simp)
  | cons a xs ih =>
    intro acc n C h hN hl fin
    have hl' : acc.length + (xs.length + 1) ≤ 100000 := by simpa using hl
    have hN' : n + c * (xs.length + 1) ≤ N := by simpa using hN
    rw [Nat.mul_succ] at hN'
    show g (e a) ⟨sl, n⟩ fun s1 => tt s1 fun b s2 => if b = true then t s2 fun p s3 => ∃ x, p.frz = some x ∧ acc.length < 100000 ∧ lcs vs g tt t (xs.map e) (acc ++ [x]) (s3.wipe vs) C else lcs vs g tt t (xs.map e) acc (s2.wipe vs) C
    refine h a List.mem_cons_self n (by omega) _ (fun n' s2 hn' hs => ?_) fun n' s2 hn' ht => ?_
    · rw [if_neg Bool.false_ne_true, hs]
      refine ih _ n' C (fun a' ha' => h a' (List.mem_cons_of_mem _ ha')) (by omega) (by omega) fun bs n2 h1 h2 => ?_
      exact fin bs n2 (h1.cons a) (by simp only [List.length_cons, Nat.mul_succ]; omega)
    · rw [if_pos rfl]
      refine ht _ fun s3 hs => ⟨e a, rfl, by omega, ?_⟩
      rw [hs]
      refine ih _ n' C (fun a' ha' => h a' (List.mem_cons_of_mem _ ha')) (by omega) (by simp; omega) fun bs n2 h1 h2 => ?_
      have := fin (a :: bs) n2 (h1.cons₂ a) (by simp only [List.length_cons, Nat.mul_succ]; omega)
      simpa using this
def sp__law_set_82be62 : HSp := fun ps n C => ∃ ws : List Str, ps = [.drw, .dat (.list (ws.map .str))] ∧ ws.Nodup ∧ ws.length ≤ 100 ∧ n < 134217728 ∧ ∀ (L : List Str) (n' : Nat), Rising L → (∀ w ∈ L, w ∈ ws) → L.length ≤ ws.length → n' ≤ n + ws.length → C (.dat (.tuple (L.map .str))) n'
def h__law_set_82be62 : HS :=
    (hRet (hC tupW (hE (hC (sortA (Str)) (hE (hLc (hiL (hV 1)) (gN 2) (hB (hC (eqP false) (hE (hCall sp__law_draw_a6e186 2 (hL 0 (hE (hK (.int 2)) hNil))) (hE (hK (.int 0)) hNil)))) (hV 2) [2]) hNil)) hNil)))
theorem rd__law_set_82be62 : ∀ pvs n C, pvs.length = 2 → sp__law_set_82be62 pvs n C → h__law_set_82be62 ⟨fun s => C (.dat .none) s.n, fun p s => C p s.n, fun _ => False, fun _ => False⟩ ⟨pvs.map some ++ List.replicate (3 - pvs.length) none, n⟩ := by
  intro pvs n C _ h
  obtain ⟨ws, rfl, nd, hl, hn, q⟩ := h
  unfold h__law_set_82be62
  simp [-hLc]
  refine hLc_eq.mpr ?_
  simp [-hLc]
  refine lcs_sub (c := 1) (N := 200000000) (fun w : Str => PyData.str w) ws [] _ _ (fun w hw n hN K hF hT => ?_) (by omega) (by simp; omega) fun L n' hL hn' => ?_
  · simp
    refine drw' 2 _ _ (by decide) (by decide) (by omega) fun a a0 a1 => ?_
    refine ⟨_, rfl, eq_int.mpr ?_⟩
    by_cases ha : a = 0
    · refine Or.inr ⟨by simp [ha], ?_⟩
      exact hT (n + 1) _ (by omega) fun K2 hK2 => by simp; exact hK2 _ (by simp)
    · refine Or.inl ⟨by simp [ha], ?_⟩
      exact hF (n + 1) _ (by omega) (by simp)
  · simp only [List.nil_append]
    refine ⟨_, rfl, L, rfl, ?_⟩
    simp
    refine q (sortL L) n' (sortL_rising (nd.sublist hL)) (fun w hw => hL.subset (mem_sortL.mp hw)) ?_ (by omega)
    rw [sortL_len]; exact hL.length_le
theorem mok_of' {found : List (Tup (Str × Int))} {many : Int} {ws : List Str} {k : Nat} (hk : k ≤ 60) (h0 : 1 ≤ found.length) (h1 : found.length ≤ 300) (hm : (found.length : Int) = many) (hw : ws.length ≤ 8) (hws : ∀ w ∈ ws, isWordS w = true) (hv : ∀ r ∈ found, (∀ p ∈ r.items, VM many ws p) ∧ Rising r.items ∧ r.items.length ≤ k) : MOk (Tup.mk found) := by
  refine ⟨h0, h1, fun r hr p hp => ?_, fun r hr => (hv r hr).2.1, ?_, ?_⟩
  · obtain ⟨x0, x1, x2⟩ := (hv r hr).1 p hp
    refine ⟨x0, by show p.2 < ((found.length : Nat) : Int); omega, x2.imp (fun z => hws _ z) id⟩
  · have sub := rows_flat (M := Tup.mk found) fun r hr => (hv r hr).1
    have := nodup_le _ ws (sortU_rising (Mch.deeds (Tup.mk found))).nodup fun x hx => sub x (mem_sortU.mp hx)
    omega
  · have gen : ∀ fs : List (Tup (Str × Int)), (∀ r ∈ fs, r.items.length ≤ 60) → ((fs.map Tup.items).map List.length).sum ≤ 60 * fs.length := fun fs => by
      induction fs with
      | nil => intro _; simp
      | cons f fs ih =>
        intro h
        have := ih fun r hr => h r (List.mem_cons_of_mem _ hr)
        have := h f List.mem_cons_self
        simp only [List.map_cons, List.sum_cons, List.length_cons]
        omega
    have := gen found fun r hr => Nat.le_trans (hv r hr).2.2 hk
    show ((found.map Tup.items).map List.length).sum ≤ 40000
    omega
end Sk
set_option Elab.async false
set_option linter.all false
set_option maxRecDepth 100000
set_option maxHeartbeats 4000000
namespace Sk
open PySem PySem.Spec PyProof.Rows L2
open PySem.W (Datum DatumOrd Tup T3 T4)
open Evl (Ex)
end Sk
namespace Sk
open PySem PySem.Spec PyProof.Rows L2
open PySem.W (Datum DatumOrd Tup T3 T4)
open Evl (Ex)
theorem behP_clo {M : Mch} (r : List Str) {x g : Int} (h : behP M r x) (hg : g ∈ hid M x) : behP M r g := by
  rcases List.eq_nil_or_concat r with rfl | ⟨r', w, rfl⟩
  · exact Clo.step h hg
  · have e : behP M (r' ++ [w]) = ledP M (behP M r') w := by unfold behP; rw [List.foldl_append]; rfl
    rw [List.concat_eq_append] at h ⊢
    rw [e] at h ⊢
    exact Clo.step h hg
theorem behP_rng {M : Mch} (ok : MOk M) : ∀ (row : List Str) (P : Int → Prop), (∀ x, P x → 0 ≤ x ∧ x < M.items.length) → ∀ x, row.foldl (ledP M) P x → 0 ≤ x ∧ x < M.items.length
  | [], P, h => h
  | w :: row, P, h => behP_rng ok row (ledP M P w) fun x c => ledP_rng ok c
theorem behP_rng' {M : Mch} (ok : MOk M) {row : List Str} {x : Int} (h : behP M row x) : 0 ≤ x ∧ x < M.items.length := behP_rng ok row _ (fun y c => Clo.rng ok (fun z hz => by rw [hz]; have := ok.lo; omega) c) x h
end Sk
set_option Elab.async false
set_option linter.all false
set_option maxRecDepth 100000
set_option maxHeartbeats 4000000
namespace Sk
open PySem PySem.Spec PyProof.Rows L2
open PySem.W (Datum DatumOrd Tup T3 T4)
open Evl (Ex)
def sp_is_rising_757f86 : HSp := fun ps n C => ∃ ws : List Str, (ps = [.dat (.tuple (ws.map .str))] ∨ ps = [.dat (.list (ws.map .str))]) ∧ Rising ws ∧ ws.length ≤ 90000 ∧ C (.dat (.bool true)) n
theorem rising_chain {ws : List Str} (h : Rising ws) : ((ws.zip (ws.drop 1)).map fun p => DatumOrd.lt p.1 p.2).all id = true := by
  unfold Rising at h
  induction ws with
  | nil => rfl
  | cons a ws ih =>
    rw [List.pairwise_cons] at h
    cases ws with
    | nil => rfl
    | cons b ws =>
      have := ih h.2
      simp only [List.drop_succ_cons, List.drop_zero, List.zip_cons_cons, List.map_cons, List.all_cons] at this ⊢
      rw [this, Bool.and_true]
      exact h.1 b List.mem_cons_self
def h_is_rising_757f86 : HS :=
    (hRet (hC (allW fun bs => bs.all id) (hE (hLc (hiZ (hE (hV 0) (hE (hSl 0 (hPt (hK (.int 1))) hNo) hNil))) (gP 1 2) hYes (hC (ltA (Str)) (hL 1 (hL 2 hNil))) [1, 2]) hNil)))
theorem rd_is_rising_757f86 : ∀ pvs n C, pvs.length = 1 → sp_is_rising_757f86 pvs n C → h_is_rising_757f86 ⟨fun s => C (.dat .none) s.n, fun p s => C p s.n, fun _ => False, fun _ => False⟩ ⟨pvs.map some ++ List.replicate (3 - pvs.length) none, n⟩ := by
  intro pvs n C _ h
  obtain ⟨ws, hp, hr, hl, q⟩ := h
  have e2 : zipD (ws.map PyData.str) (cutD (ws.map PyData.str) (some 1) none) = (ws.zip (ws.drop 1)).map fun p => .tuple [.str p.1, .str p.2] := by
    rw [cut1_none, ← List.map_drop, zipD_map]
  rcases hp with rfl | rfl
  all_goals
    unfold h_is_rising_757f86
    simp [-hLc]
    refine hLc_eq.mpr ?_
    simp [-hLc]
    rw [e2]
    refine lcs_map (xs := ws.zip (ws.drop 1)) (fun p : Str × Str => PyData.tuple [.str p.1, .str p.2]) (fun p => .bool (DatumOrd.lt p.1 p.2)) (fun a _ K hK => ?_) [] _ (by simp [List.length_zip]; omega) ?_
    · simp
      refine ⟨a.1, a.2, rfl, rfl, ?_⟩
      exact hK _ (by simp)
    · simp
      refine allW_b (bs := (ws.zip (ws.drop 1)).map fun p => DatumOrd.lt p.1 p.2) (by simp) ?_
      rw [rising_chain hr]
      exact q
def IsSet (ws : List Str) : Prop := (∀ w ∈ ws, isWordS w = true) ∧ ws.length ≤ 8 ∧ Rising ws
def sp_is_set_136706 : HSp := fun ps n C => ∃ ws : List Str, ps = [.dat (.tuple (ws.map .str))] ∧ IsSet ws ∧ C (.dat (.bool true)) n
def h_is_set_136706 : HS :=
    (hRet (hAndV (hCall sp_is_row_ab8be0 1 (hL 0 hNil)) (hAndV (hC leW (hE (hC lenW (hL 0 hNil)) (hE (hK c_MOST_DEEDS) hNil))) (hCall sp_is_rising_757f86 1 (hL 0 hNil)))))
theorem rd_is_set_136706 : ∀ pvs n C, pvs.length = 1 → sp_is_set_136706 pvs n C → h_is_set_136706 ⟨fun s => C (.dat .none) s.n, fun p s => C p s.n, fun _ => False, fun _ => False⟩ ⟨pvs.map some ++ List.replicate (1 - pvs.length) none, n⟩ := by
  intro pvs n C _ h
  obtain ⟨ws, rfl, hs, q⟩ := h
  unfold h_is_set_136706
  have h8 := hs.2.1
  simp
  refine ⟨ws, rfl, hs.1, by omega, Or.inr ⟨rfl, ?_⟩⟩
  exact Or.inr ⟨by omega, ws, Or.inl rfl, hs.2.2, by omega, q⟩
end Sk
set_option Elab.async false
set_option linter.all false
set_option maxRecDepth 100000
set_option maxHeartbeats 4000000
namespace Sk
open PySem PySem.Spec PyProof.Rows L2
open PySem.W (Datum DatumOrd Tup T3 T4)
open Evl (Ex)
def Ls (v : PV) (ds : List PyData) : Prop := v = .own ds ∨ v = .dat (.list ds)
theorem Ls.own {ds : List PyData} : Ls (.own ds) ds := Or.inl rfl
theorem Ls.dat {ds : List PyData} : Ls (.dat (.list ds)) ds := Or.inr rfl
theorem Ls.frz {v : PV} {ds : List PyData} (h : Ls v ds) : v.frz = some (.list ds) := by rcases h with rfl | rfl <;> rfl
theorem Ls.seq {v : PV} {ds : List PyData} (h : Ls v ds) : v.seq = some ds := by rcases h with rfl | rfl <;> rfl
theorem Off.own {M : Mch} {S : List Int} {a : Tup Str} (ok : MOk M) (h : Off M S a) : ∀ w ∈ a.items, w ∈ sortU M.deeds := by
  obtain ⟨x, _, e⟩ := h
  unfold offT offerOf at e
  split at e
  · cases e
  · rename_i hn
    cases e
    intro w hw
    obtain ⟨p, hp, rfl⟩ := List.mem_map.mp (mem_sortU.mp hw)
    rw [mem_sortU]
    unfold Mch.deeds Mch.rows rowDeeds
    unfold rowAt at hp hn
    cases q : M.items[x.toNat]? with
    | none => rw [q] at hp; cases hp
    | some r =>
      rw [q] at hp hn
      refine List.mem_flatten.mpr ⟨(r.items.filter fun p => decide (p.1 ≠ ("" : Str))).map (·.1), ?_, ?_⟩
      · rw [List.map_map]
        exact List.mem_map.mpr ⟨r, List.mem_of_getElem? q, rfl⟩
      · refine List.mem_map.mpr ⟨p, List.mem_filter.mpr ⟨hp, decide_eq_true fun e => hn ?_⟩, rfl⟩
        exact List.any_eq_true.mpr ⟨p, hp, decide_eq_true e⟩
end Sk
set_option Elab.async false
set_option linter.all false
set_option maxRecDepth 100000
set_option maxHeartbeats 4000000
namespace Sk
open PySem PySem.Spec PyProof.Rows L2
open PySem.W (Datum DatumOrd Tup T3 T4)
open Evl (Ex)
end Sk
namespace Sk
open PySem PySem.Spec PyProof.Rows L2
open PySem.W (Datum DatumOrd Tup T3 T4)
open Evl (Ex)
section
variable {a b c : Str} (ha : isWordS a = true) (hb : isWordS b = true) (hc : isWordS c = true) (hab : DatumOrd.lt a b = true) (hac : DatumOrd.lt a c = true) (hbc : DatumOrd.lt b c = true)
include ha hb hc hab hac hbc
end
end Sk
set_option Elab.async false
set_option linter.all false
set_option maxRecDepth 100000
set_option maxHeartbeats 4000000
namespace Sk
open PySem PySem.Spec PyProof.Rows L2
open PySem.W (Datum DatumOrd Tup T3 T4)
open Evl (Ex)
end Sk
namespace Sk
open PySem PySem.Spec PyProof.Rows L2
open PySem.W (Datum DatumOrd Tup T3 T4)
inductive Dst (M : Mch) (g : Int → Prop) : Nat → Int → Prop where
  | base {x : Int} (h : g x) : Dst M g 0 x
  | hid {k : Nat} {x y : Int} (h0 : 0 ≤ x) (h : y ∈ Sk.hid M x) (d : Dst M g k y) : Dst M g k x
  | deed {k : Nat} {x y : Int} {w : Str} (h0 : 0 ≤ x) (hw : w ≠ "") (h : (w, y) ∈ rowAt M x) (d : Dst M g k y) : Dst M g (k + 1) x
def MinD (M : Mch) (g : Int → Prop) (k : Nat) (x : Int) : Prop := Dst M g k x ∧ ∀ j, j < k → ¬ Dst M g j x
def Seed (M : Mch) (g : Int → Prop) (s : Nat) (x : Int) : Prop := (s = 0 ∧ g x) ∨ ∃ (k : Nat) (w : Str) (y : Int), s = k + 1 ∧ 0 ≤ x ∧ w ≠ "" ∧ (w, y) ∈ rowAt M x ∧ Dst M g k y
structure LInv (M : Mch) (g : Int → Prop) (st : Int → Option Nat) (W : List Int) (s : Nat) : Prop where
  i1 : ∀ x j, st x = some j → j < s ∧ MinD M g j x
  i2 : ∀ x j, j < s → Dst M g j x → st x ≠ none
  i3 : ∀ x ∈ W, Dst M g s x
  i4 : ∀ x, Seed M g s x → x ∈ W ∨ st x ≠ none
structure JInv (M : Mch) (g : Int → Prop) (st : Int → Option Nat) (W L : List Int) (s : Nat) : Prop where
  j1 : ∀ x j, st x = some j → j ≤ s ∧ MinD M g j x
  j2 : ∀ x j, j < s → Dst M g j x → st x ≠ none
  j3 : ∀ x ∈ W, Dst M g s x
  jl : ∀ x ∈ L, Dst M g (s + 1) x
  j4 : ∀ x, Seed M g s x → x ∈ W ∨ st x ≠ none
  j5 : ∀ x p, st x = some s → 0 ≤ p → x ∈ Sk.hid M p → p ∈ W ∨ st p ≠ none
  j6 : ∀ (x p : Int) (w : Str), st x = some s → 0 ≤ p → w ≠ "" → (w, x) ∈ rowAt M p → p ∈ L
theorem LInv.go {M : Mch} {g : Int → Prop} {st : Int → Option Nat} {W : List Int} {s : Nat} (h : LInv M g st W s) : JInv M g st W [] s where
  j1 := fun x j e => ⟨Nat.le_of_lt (h.i1 x j e).1, (h.i1 x j e).2⟩
  j2 := h.i2
  j3 := h.i3
  jl := fun x hx => by cases hx
  j4 := h.i4
  j5 := fun x p e _ _ => absurd (h.i1 x s e).1 (Nat.lt_irrefl _)
  j6 := fun x p w e _ _ _ => absurd (h.i1 x s e).1 (Nat.lt_irrefl _)
theorem JInv.all {M : Mch} {g : Int → Prop} {st : Int → Option Nat} {L : List Int} {s : Nat} (h : JInv M g st [] L s) : ∀ k x, k ≤ s → Dst M g k x → st x ≠ none := by
  intro k x hk d
  rcases Nat.lt_or_ge k s with q | q
  · exact h.j2 x k q d
  · have e : k = s := by omega
    subst e
    have gen : ∀ i z, Dst M g i z → i = k → st z ≠ none := by
      intro i z dz
      induction dz with
      | base hz => intro e; exact (h.j4 _ (Or.inl ⟨e.symm, hz⟩)).resolve_left List.not_mem_nil
      | @hid i z y z0 hy dy ih =>
        intro e
        cases q2 : st y with
        | none => exact absurd q2 (ih e)
        | some j =>
          obtain ⟨jl, jm⟩ := h.j1 y j q2
          rcases Nat.lt_or_ge j k with q3 | q3
          · exact h.j2 z j q3 (.hid z0 hy jm.1)
          · have e3 : j = k := by omega
            subst e3
            exact (h.j5 y z q2 z0 hy).resolve_left List.not_mem_nil
      | @deed i z y w z0 hw hy dy ih =>
        intro e
        exact (h.j4 z (Or.inr ⟨i, w, y, e.symm, z0, hw, hy, dy⟩)).resolve_left List.not_mem_nil
    exact gen k x d rfl
theorem JInv.next {M : Mch} {g : Int → Prop} {st : Int → Option Nat} {L : List Int} {s : Nat} (h : JInv M g st [] L s) : LInv M g st L (s + 1) where
  i1 := fun x j e => ⟨Nat.lt_succ_of_le (h.j1 x j e).1, (h.j1 x j e).2⟩
  i2 := fun x j hj d => h.all j x (Nat.le_of_lt_succ hj) d
  i3 := h.jl
  i4 := fun x hs => by
    rcases hs with ⟨e, _⟩ | ⟨k, w, y, e, x0, hw, hy, dy⟩
    · cases e
    · have ek : k = s := by omega
      subst ek
      cases q : st y with
      | none => exact absurd q (h.all k y (Nat.le_refl _) dy)
      | some j =>
        obtain ⟨jl, jm⟩ := h.j1 y j q
        rcases Nat.lt_or_ge j k with q3 | q3
        · exact Or.inr (h.all (j + 1) x (by omega) (.deed x0 hw hy jm.1))
        · have e3 : j = k := by omega
          subst e3
          exact Or.inl (h.j6 y x w q x0 hw hy)
theorem LInv.end {M : Mch} {g : Int → Prop} {st : Int → Option Nat} {s : Nat} (h : LInv M g st [] s) : ∀ k x, Dst M g k x → st x ≠ none := by
  intro k x d
  induction d with
  | @base z hz =>
    cases s with
    | zero => exact (h.i4 z (Or.inl ⟨rfl, hz⟩)).resolve_left List.not_mem_nil
    | succ s => exact h.i2 z 0 (Nat.succ_pos _) (.base hz)
  | @hid i z y z0 hy dy ih =>
    cases q : st y with
    | none => exact absurd q ih
    | some j =>
      obtain ⟨jl, jm⟩ := h.i1 y j q
      exact h.i2 z j jl (.hid z0 hy jm.1)
  | @deed i z y w z0 hw hy dy ih =>
    cases q : st y with
    | none => exact absurd q ih
    | some j =>
      obtain ⟨jl, jm⟩ := h.i1 y j q
      rcases Nat.lt_or_ge (j + 1) s with q3 | q3
      · exact h.i2 z (j + 1) q3 (.deed z0 hw hy jm.1)
      · exact (h.i4 z (Or.inr ⟨j, w, y, by omega, z0, hw, hy, jm.1⟩)).resolve_left List.not_mem_nil
theorem JInv.put {M : Mch} {g : Int → Prop} {st st' : Int → Option Nat} {W L A B : List Int} {s : Nat} {e : Int} (h : JInv M g st (W ++ [e]) L s) (he : st e = none) (h1 : st' e = some s) (h2 : ∀ x, x ≠ e → st' x = st x)
    (hA : ∀ p, p ∈ A ↔ 0 ≤ p ∧ e ∈ Sk.hid M p) (hB : ∀ p, p ∈ B ↔ 0 ≤ p ∧ ∃ w, w ≠ ("" : Str) ∧ (w, e) ∈ rowAt M p) : JInv M g st' (W ++ A) (L ++ B) s := by
  have de : Dst M g s e := h.j3 e (by simp)
  have mono : ∀ x, st x ≠ none → st' x ≠ none := fun x q => by
    by_cases z : x = e
    · rw [z, h1]; simp
    · rw [h2 x z]; exact q
  have ofor : ∀ x, (x ∈ W ++ [e] ∨ st x ≠ none) → (x ∈ W ++ A ∨ st' x ≠ none) := fun x q => by
    rcases q with q | q
    · rcases List.mem_append.mp q with q | q
      · exact Or.inl (List.mem_append.mpr (Or.inl q))
      · exact Or.inr (by rw [List.mem_singleton.mp q, h1]; simp)
    · exact Or.inr (mono x q)
  exact {
    j1 := fun x j q => by
      by_cases z : x = e
      · rw [z, h1] at q
        cases q
        rw [z]
        exact ⟨Nat.le_refl _, de, fun i hi d => h.j2 e i hi d he⟩
      · rw [h2 x z] at q
        exact h.j1 x j q
    j2 := fun x j hj d => mono x (h.j2 x j hj d)
    j3 := fun x hx => by
      rcases List.mem_append.mp hx with hx | hx
      · exact h.j3 x (List.mem_append.mpr (Or.inl hx))
      · exact .hid ((hA x).mp hx).1 ((hA x).mp hx).2 de
    jl := fun x hx => by
      rcases List.mem_append.mp hx with hx | hx
      · exact h.jl x hx
      · obtain ⟨x0, w, hw, hr⟩ := (hB x).mp hx
        exact .deed x0 hw hr de
    j4 := fun x hs => ofor x (h.j4 x hs)
    j5 := fun x p q p0 hp => by
      by_cases z : x = e
      · subst z
        exact Or.inl (List.mem_append.mpr (Or.inr ((hA p).mpr ⟨p0, hp⟩)))
      · rw [h2 x z] at q
        exact ofor p (h.j5 x p q p0 hp)
    j6 := fun x p w q p0 hw hr => by
      by_cases z : x = e
      · subst z
        exact List.mem_append.mpr (Or.inr ((hB p).mpr ⟨p0, w, hw, hr⟩))
      · rw [h2 x z] at q
        exact List.mem_append.mpr (Or.inl (h.j6 x p w q p0 hw hr)) }
def IsRow (r : List Str) : Prop := ∀ w ∈ r, isWordS w = true
def GoodFrom (M : Mch) (g : Int → Prop) (P : Int → Prop) (r : List Str) : Prop := ∃ x, r.foldl (ledP M) P x ∧ g x
def MinS (M : Mch) (g : Int → Prop) (P : Int → Prop) (k : Nat) : Prop := (∃ x, P x ∧ Dst M g k x) ∧ ∀ j, j < k → ¬ ∃ x, P x ∧ Dst M g j x
def Best (M : Mch) (g : Int → Prop) (P : Int → Prop) (r : List Str) : Prop := IsRow r ∧ GoodFrom M g P r ∧ ∀ r', IsRow r' → GoodFrom M g P r' → kLen (Tup.mk r) = kLen (Tup.mk r') ∨ DatumOrd.lt (kLen (Tup.mk r)) (kLen (Tup.mk r')) = true
def HClo (M : Mch) (P : Int → Prop) : Prop := ∀ x y, P x → y ∈ Sk.hid M x → P y
theorem HClo.clo {M : Mch} {P : Int → Prop} : HClo M (Clo M P) := fun x y h hy => .step h hy
theorem HClo.led {M : Mch} {P : Int → Prop} {w : Str} : HClo M (ledP M P w) := HClo.clo
theorem Clo.nonneg {M : Mch} (ok : MOk M) {P : Int → Prop} (hP : ∀ x, P x → 0 ≤ x) {x : Int} (h : Clo M P x) : 0 ≤ x := by
  cases h with
  | base h => exact hP _ h
  | step _ hg => exact (hid_rng ok hg).1
theorem clo_dst {M : Mch} (ok : MOk M) {g : Int → Prop} {P : Int → Prop} (hP : ∀ x, P x → 0 ≤ x) {k : Nat} {x : Int} (h : Clo M P x) : Dst M g k x → ∃ y, P y ∧ Dst M g k y := by
  induction h with
  | base h => exact fun d => ⟨_, h, d⟩
  | step hc hg ih => exact fun d => ih (.hid (hc.nonneg ok hP) hg d)
theorem led_from {M : Mch} {P : Int → Prop} (hP : ∀ x, P x → 0 ≤ x) {w : Str} (ok : MOk M) : ∀ x, (∃ y, P y ∧ (w, x) ∈ rowAt M y) → 0 ≤ x := fun x ⟨y, _, h⟩ => (rowAt_mv ok h).1
theorem good_dst {M : Mch} (ok : MOk M) {g : Int → Prop} : ∀ {r : List Str} {P : Int → Prop}, (∀ x, P x → 0 ≤ x) → IsRow r → GoodFrom M g P r → ∃ x, P x ∧ Dst M g r.length x
  | [], P, _, _, ⟨x, hx, hg⟩ => ⟨x, hx, .base hg⟩
  | w :: r, P, hP, hr, ⟨x, hx, hg⟩ => by
    obtain ⟨y, hy, d⟩ := good_dst ok (r := r) (P := ledP M P w) (fun x h => (ledP_rng ok h).1) (fun v hv => hr v (List.mem_cons_of_mem _ hv)) ⟨x, hx, hg⟩
    obtain ⟨z, ⟨u, hu, he⟩, d2⟩ := clo_dst ok (led_from hP ok) hy d
    exact ⟨u, hu, .deed (hP u hu) (word_ne (hr w List.mem_cons_self)) he d2⟩
theorem dst_led {M : Mch} (ok : MOk M) {g : Int → Prop} {k : Nat} {x : Int} (d : Dst M g (k + 1) x) : ∀ {P : Int → Prop}, HClo M P → P x → ∃ w, isWordS w = true ∧ ∃ y, ledP M P w y ∧ Dst M g k y := by
  generalize hk : k + 1 = i at d
  induction d with
  | base _ => cases hk
  | @hid j z y z0 hy dy ih => intro P hc hp; exact ih hk hc (hc z y hp hy)
  | @deed j z y w z0 hw hy dy ih =>
    intro P hc hp
    have e : j = k := by omega
    subst e
    exact ⟨w, (rowAt_mv ok hy).2.2.resolve_right hw, y, .base ⟨z, hp, hy⟩, dy⟩
theorem dst0 {M : Mch} {g : Int → Prop} {x : Int} (d : Dst M g 0 x) : ∀ {P : Int → Prop}, HClo M P → P x → ∃ y, P y ∧ g y := by
  generalize hk : 0 = i at d
  induction d with
  | base h => intro P _ hp; exact ⟨_, hp, h⟩
  | hid _ hy dy ih => intro P hc hp; exact ih hk hc (hc _ _ hp hy)
  | deed _ _ _ _ _ => cases hk
end Sk
set_option Elab.async false
set_option linter.all false
set_option maxRecDepth 100000
set_option maxHeartbeats 4000000
namespace Sk
open PySem PySem.Spec PyProof.Rows L2
open PySem.W (Datum DatumOrd Tup T3 T4)
open Evl (Ex)
abbrev Ev := Str × Int × Int
def evs : Nat → List (Tup (Str × Int)) → List Ev
  | _, [] => []
  | k, r :: rs => (r.items.map fun p => (p.1, p.2, ((k : Nat) : Int))) ++ evs (k + 1) rs
theorem evs_len : ∀ {rs : List (Tup (Str × Int))} {k m : Nat}, (∀ r ∈ rs, r.items.length ≤ m) → (evs k rs).length ≤ m * rs.length
  | [], k, m, _ => by simp [evs]
  | r :: rs, k, m, h => by
    unfold evs
    rw [List.length_append, List.length_map, List.length_cons, Nat.mul_succ]
    have := h r List.mem_cons_self
    have := evs_len (k := k + 1) fun r hr => h r (List.mem_cons_of_mem _ hr)
    omega
def FewMv (M : Mch) : Prop := (evs 0 M.items).length * M.items.length ≤ 30000 ∧ RowsLe 60 M
theorem rowAt_in {M : Mch} {x : Int} {p : Str × Int} (h : p ∈ rowAt M x) : x < M.items.length := by
  unfold rowAt at h
  cases q : M.items[x.toNat]? with
  | none => rw [q] at h; cases h
  | some r =>
    have := (List.getElem?_eq_some_iff.mp q).1
    omega
end Sk
set_option Elab.async false
set_option linter.all false
set_option maxRecDepth 100000
set_option maxHeartbeats 4000000
namespace Sk
open PySem PySem.Spec PyProof.Rows L2
open PySem.W (Datum DatumOrd Tup T3 T4)
open Evl (Ex)
def IsLeast (st : Int → Option Nat) (S : List Int) (k : Nat) : Prop := (∃ x ∈ S, st x = some k) ∧ ∀ x ∈ S, ∀ j, st x = some j → k ≤ j
theorem IsLeast.uniq {st : Int → Option Nat} {S : List Int} {j k : Nat} (h : IsLeast st S j) (h' : IsLeast st S k) : j = k := by
  obtain ⟨⟨x, hx, ex⟩, a⟩ := h
  obtain ⟨⟨y, hy, ey⟩, b⟩ := h'
  have := a y hy k ey
  have := b x hx j ex
  omega
theorem MinD.down {M : Mch} {g : Int → Prop} {k : Nat} {x : Int} (h : MinD M g (k + 1) x) : ∃ y, MinD M g k y := by
  obtain ⟨d, m⟩ := h
  generalize e : k + 1 = i at d m
  revert m
  induction d with
  | base _ => cases e
  | hid h0 hy dy ih => exact fun m => ih e fun j hj dj => m j hj (.hid h0 hy dj)
  | @deed i' x' y' w h0 hw hy dy ih =>
    intro m
    have e' : k = i' := by omega
    subst e'
    exact ⟨y', dy, fun j hj dj => m (j + 1) (by omega) (.deed h0 hw hy dj)⟩
theorem Dst.rng {M : Mch} {g : Int → Prop} (hg : ∀ x, g x → 0 ≤ x ∧ x < M.items.length) {k : Nat} {x : Int} (d : Dst M g k x) : 0 ≤ x ∧ x < M.items.length := by
  cases d with
  | base h => exact hg x h
  | hid h0 hy _ => exact ⟨h0, rowAt_in (mem_hid.mp hy)⟩
  | deed h0 _ hy _ => exact ⟨h0, rowAt_in hy⟩
theorem MinD.uniq {M : Mch} {g : Int → Prop} {j k : Nat} {x : Int} (h : MinD M g j x) (h' : MinD M g k x) : j = k := by
  rcases Nat.lt_or_ge j k with q | q
  · exact absurd h.1 (h'.2 j q)
  · rcases Nat.lt_or_ge k j with q2 | q2
    · exact absurd h'.1 (h.2 k q2)
    · omega
theorem minD_lt {M : Mch} {g : Int → Prop} (hg : ∀ x, g x → 0 ≤ x ∧ x < M.items.length) {k : Nat} {x : Int} (h : MinD M g k x) : k < M.items.length := by
  have key : ∀ k x, MinD M g k x → ∃ ys : List Int, ys.length = k + 1 ∧ ys.Nodup ∧ ∀ y ∈ ys, ∃ j, j ≤ k ∧ MinD M g j y := fun k => by
    induction k with
    | zero => exact fun x h => ⟨[x], rfl, by simp, fun y hy => ⟨0, Nat.le_refl _, by rw [List.mem_singleton.mp hy]; exact h⟩⟩
    | succ k ih =>
      intro x h
      obtain ⟨y, hy⟩ := h.down
      obtain ⟨ys, l, nd, al⟩ := ih y hy
      refine ⟨x :: ys, by simp [l], List.nodup_cons.mpr ⟨fun hx => ?_, nd⟩, fun z hz => ?_⟩
      · obtain ⟨j, hj, mj⟩ := al x hx
        have := mj.uniq h
        omega
      · rcases List.mem_cons.mp hz with rfl | hz
        · exact ⟨k + 1, Nat.le_refl _, h⟩
        · obtain ⟨j, hj, mj⟩ := al z hz
          exact ⟨j, by omega, mj⟩
  obtain ⟨ys, l, nd, al⟩ := key k x h
  have := rng_len nd fun y hy => by
    obtain ⟨j, _, mj⟩ := al y hy
    exact mj.1.rng hg
  omega
theorem MinS.lt {M : Mch} {g P : Int → Prop} (hg : ∀ x, g x → 0 ≤ x ∧ x < M.items.length) {k : Nat} (h : MinS M g P k) : k < M.items.length := by
  obtain ⟨⟨x, hx, d⟩, m⟩ := h
  exact minD_lt hg ⟨d, fun j hj dj => m j hj ⟨x, hx, dj⟩⟩
end Sk
set_option Elab.async false
set_option linter.all false
set_option maxRecDepth 100000
set_option maxHeartbeats 4000000
namespace Sk
open PySem PySem.Spec PyProof.Rows L2
open PySem.W (Datum DatumOrd Tup T3 T4)
open Evl (Ex)
abbrev RMs := List (Int × List Str)
def rlt (r s : List Str) : Bool := DatumOrd.lt (Tup.mk r) (Tup.mk s)
def rle (r s : List Str) : Prop := r = s ∨ rlt r s = true
theorem rlt_trans {a b c : List Str} (h : rlt a b = true) (h' : rlt b c = true) : rlt a c = true := lt_trans' h h'
theorem rlt_irr (a : List Str) : rlt a a = false := lt_irr _
theorem rle_trans {a b c : List Str} (h : rle a b) (h' : rle b c) : rle a c := by
  rcases h with rfl | h
  · exact h'
  · rcases h' with rfl | h'
    · exact Or.inr h
    · exact Or.inr (rlt_trans h h')
theorem rlt_rle {a b c : List Str} (h : rlt a b = true) (h' : rle b c) : rlt a c = true := by
  rcases h' with rfl | h'
  · exact h
  · exact rlt_trans h h'
def rowF (ms : RMs) (x : Int) : Option (List Str) := (ms.find? fun m => decide (m.1 = x)).map (·.2)
def putI (ms : RMs) (x : Int) (r : List Str) : RMs := if (ms.any fun m => decide (m.1 = x)) = true then ms.map (fun m => if m.1 = x then (m.1, r) else m) else ms ++ [(x, r)]
theorem rowF_mem {ms : RMs} {x : Int} : (∃ r, rowF ms x = some r) ↔ x ∈ ms.map (·.1) := by
  unfold rowF
  induction ms with
  | nil => simp
  | cons m ms ih =>
    rw [List.find?_cons, List.map_cons, List.mem_cons]
    by_cases h : m.1 = x
    · simp [h]
    · simp only [h, decide_false, ih]
      constructor
      · exact Or.inr
      · rintro (e | e)
        · exact absurd e.symm h
        · exact e
theorem rowF_put (ms : RMs) (x y : Int) (r : List Str) : rowF (putI ms x r) y = if y = x then some r else rowF ms y := by
  unfold putI
  split
  · rename_i h
    unfold rowF
    have key : ∀ ms : RMs, (∃ m ∈ ms, m.1 = x) ∨ y ≠ x → ((ms.map fun m => if m.1 = x then (m.1, r) else m).find? fun m => decide (m.1 = y)).map (·.2) = if y = x then some r else (ms.find? fun m => decide (m.1 = y)).map (·.2) := by
      intro ms
      induction ms with
      | nil => intro q; rcases q with ⟨_, h, _⟩ | q
               · cases h
               · simp [q]
      | cons m ms ih =>
        intro q
        rw [List.map_cons, List.find?_cons, List.find?_cons]
        by_cases hx : m.1 = x
        · rw [if_pos hx]
          by_cases hy : y = x
          · subst hy; simp [hx]
          · have : ¬ m.1 = y := fun e => hy (by rw [← e, hx])
            simp only [this, decide_false, if_neg hy]
            have := ih (Or.inr hy)
            rw [if_neg hy] at this
            exact this
        · rw [if_neg hx]
          by_cases hy : m.1 = y
          · have : ¬ y = x := fun e => hx (by rw [hy, e])
            simp [hy, this]
          · simp only [hy, decide_false]
            refine ih ?_
            rcases q with ⟨m', h1, h2⟩ | q
            · rcases List.mem_cons.mp h1 with rfl | h1
              · exact absurd h2 hx
              · exact Or.inl ⟨m', h1, h2⟩
            · exact Or.inr q
    refine key ms (Or.inl ?_)
    obtain ⟨m, h1, h2⟩ := List.any_eq_true.mp h
    exact ⟨m, h1, of_decide_eq_true h2⟩
  · rename_i h
    unfold rowF
    rw [List.find?_append]
    by_cases hy : y = x
    · subst hy
      rw [if_pos rfl]
      have : ms.find? (fun m => decide (m.1 = y)) = none := List.find?_eq_none.mpr fun m hm hd => h (List.any_eq_true.mpr ⟨m, hm, hd⟩)
      rw [this]
      simp
    · rw [if_neg hy]
      have : ¬ x = y := fun e => hy e.symm
      simp [this]
theorem putI_keys (ms : RMs) (x : Int) (r : List Str) : (putI ms x r).map (·.1) = if x ∈ ms.map (·.1) then ms.map (·.1) else ms.map (·.1) ++ [x] := by
  have e : (ms.any fun m => decide (m.1 = x)) = true ↔ x ∈ ms.map (·.1) := by
    rw [List.any_eq_true, List.mem_map]
    constructor
    · rintro ⟨m, h1, h2⟩; exact ⟨m, h1, of_decide_eq_true h2⟩
    · rintro ⟨m, h1, h2⟩; exact ⟨m, h1, decide_eq_true h2⟩
  unfold putI
  by_cases h : x ∈ ms.map (·.1)
  · rw [if_pos (e.mpr h), if_pos h, List.map_map]
    refine List.map_congr_left fun m _ => ?_
    show (if m.1 = x then (m.1, r) else m).1 = m.1
    split <;> rfl
  · rw [if_neg (fun z => h (e.mp z)), if_neg h, List.map_append]; rfl
theorem putI_nodup {ms : RMs} (nd : (ms.map (·.1)).Nodup) (x : Int) (r : List Str) : ((putI ms x r).map (·.1)).Nodup := by
  rw [putI_keys]
  split
  · exact nd
  · rename_i h
    exact List.nodup_append.mpr ⟨nd, by simp, fun a ha b hb e => h (by rw [List.mem_singleton.mp hb] at e; rw [← e]; exact ha)⟩
structure CE (M : Mch) (ms0 ms : RMs) (wt : List Int) (e : Int) (re : List Str) (todo : List (Str × Int)) : Prop where
  c1 : ∀ x r, rowF ms x = some r → ∃ y, rowF ms0 y = some r ∧ Clo M (· = y) x
  c2 : ∀ x r, rowF ms0 x = some r → ∃ r1, rowF ms x = some r1 ∧ rle r1 r
  c3 : ∀ x r, rowF ms x = some r → x ∈ wt ∨ (x ≠ e ∧ ∀ y ∈ hid M x, ∃ r1, rowF ms y = some r1 ∧ rle r1 r) ∨ (x = e ∧ ∀ y ∈ hid M e, (("" : Str), y) ∈ todo ∨ ∃ r1, rowF ms y = some r1 ∧ rle r1 r)
  c4 : ∀ x ∈ wt, ∃ r, rowF ms x = some r
  ce : rowF ms e = some re
  nd : (ms.map (·.1)).Nodup
structure CI (M : Mch) (ms0 ms : RMs) (wt : List Int) : Prop where
  c1 : ∀ x r, rowF ms x = some r → ∃ y, rowF ms0 y = some r ∧ Clo M (· = y) x
  c2 : ∀ x r, rowF ms0 x = some r → ∃ r1, rowF ms x = some r1 ∧ rle r1 r
  c3 : ∀ x r, rowF ms x = some r → x ∈ wt ∨ ∀ y ∈ hid M x, ∃ r1, rowF ms y = some r1 ∧ rle r1 r
  c4 : ∀ x ∈ wt, ∃ r, rowF ms x = some r
  nd : (ms.map (·.1)).Nodup
theorem CI.start {M : Mch} {ms : RMs} (nd : (ms.map (·.1)).Nodup) : CI M ms ms (ms.map (·.1)) where
  c1 := fun x r h => ⟨x, h, .base rfl⟩
  c2 := fun x r h => ⟨r, h, Or.inl rfl⟩
  c3 := fun x r h => Or.inl (rowF_mem.mp ⟨r, h⟩)
  c4 := fun x h => rowF_mem.mpr h
  nd := nd
theorem CE.done {M : Mch} {ms0 ms : RMs} {wt : List Int} {e : Int} {re : List Str} (h : CE M ms0 ms wt e re []) : CI M ms0 ms wt where
  c1 := h.c1
  c2 := h.c2
  c3 := fun x r hx => by
    rcases h.c3 x r hx with z | ⟨_, z⟩ | ⟨z1, z⟩
    · exact Or.inl z
    · exact Or.inr z
    · exact Or.inr fun y hy => by
        rw [z1] at hy
        exact (z y hy).resolve_left List.not_mem_nil
  c4 := h.c4
  nd := h.nd
theorem CE.put {M : Mch} {ms0 ms : RMs} {wt : List Int} {e g : Int} {re : List Str} {todo : List (Str × Int)} (h : CE M ms0 ms wt e re ((("" : Str), g) :: todo)) (hg : g ∈ hid M e) (k : ∀ r, rowF ms g = some r → rlt re r = true) : CE M ms0 (putI ms g re) (wt ++ [g]) e re todo := by
  have ne : e ≠ g := fun q => by
    have := k re (by rw [← q]; exact h.ce)
    rw [rlt_irr] at this
    cases this
  have low : ∀ {x r1 r}, rowF ms x = some r1 → rle r1 r → ∃ r2, rowF (putI ms g re) x = some r2 ∧ rle r2 r := fun {x r1 r} h1 h2 => by
    rw [rowF_put]
    by_cases q : x = g
    · rw [if_pos q]
      rw [q] at h1
      exact ⟨re, rfl, Or.inr (rlt_rle (k _ h1) h2)⟩
    · rw [if_neg q]
      exact ⟨r1, h1, h2⟩
  refine ⟨fun x r hx => ?_, fun x r hx => ?_, fun x r hx => ?_, fun x hx => ?_, by rw [rowF_put, if_neg ne]; exact h.ce, putI_nodup h.nd _ _⟩
  · rw [rowF_put] at hx
    by_cases q : x = g
    · rw [if_pos q] at hx
      cases hx
      obtain ⟨y, h1, h2⟩ := h.c1 e re h.ce
      rw [q]
      exact ⟨y, h1, .step h2 hg⟩
    · rw [if_neg q] at hx
      exact h.c1 x r hx
  · obtain ⟨r1, h1, h2⟩ := h.c2 x r hx
    exact low h1 h2
  · by_cases q : x = g
    · exact Or.inl (by rw [q]; simp)
    · rw [rowF_put, if_neg q] at hx
      rcases h.c3 x r hx with z | ⟨z1, z⟩ | ⟨z1, z⟩
      · exact Or.inl (List.mem_append.mpr (Or.inl z))
      · exact Or.inr (Or.inl ⟨z1, fun y hy => by obtain ⟨r1, h1, h2⟩ := z y hy; exact low h1 h2⟩)
      · refine Or.inr (Or.inr ⟨z1, fun y hy => ?_⟩)
        rcases z y hy with w | ⟨r1, h1, h2⟩
        · rcases List.mem_cons.mp w with w | w
          · injection w with _ w
            subst w
            have er : re = r := by rw [z1, h.ce] at hx; exact Option.some.inj hx
            exact Or.inr ⟨re, by rw [rowF_put, if_pos rfl], Or.inl er⟩
          · exact Or.inl w
        · exact Or.inr (low h1 h2)
  · rcases List.mem_append.mp hx with hx | hx
    · obtain ⟨r, hr⟩ := h.c4 x hx
      obtain ⟨r2, h2, _⟩ := low hr (Or.inl rfl)
      exact ⟨r2, h2⟩
    · rw [List.mem_singleton.mp hx]
      exact ⟨re, by rw [rowF_put, if_pos rfl]⟩
theorem Clo.one {M : Mch} {P : Int → Prop} {x : Int} : Clo M P x ↔ ∃ z, P z ∧ Clo M (· = z) x := by
  constructor
  · intro h
    induction h with
    | base h => exact ⟨_, h, .base rfl⟩
    | step _ hg ih =>
      obtain ⟨z, h1, h2⟩ := ih
      exact ⟨z, h1, .step h2 hg⟩
  · rintro ⟨z, h1, h2⟩
    induction h2 with
    | base h => rw [h]; exact .base h1
    | step _ hg ih => exact .step ih hg
theorem CI.end {M : Mch} {ms0 ms : RMs} (h : CI M ms0 ms []) {x y : Int} {r : List Str} (hy : rowF ms0 y = some r) (c : Clo M (· = y) x) : ∃ r1, rowF ms x = some r1 ∧ rle r1 r := by
  induction c with
  | base e => rw [e]; exact h.c2 y r hy
  | step _ hg ih =>
    obtain ⟨r1, h1, h2⟩ := ih
    obtain ⟨r2, h3, h4⟩ := (h.c3 _ _ h1).resolve_left List.not_mem_nil _ hg
    exact ⟨r2, h3, rle_trans h4 h2⟩
structure NX (cs : List (Int × List Str)) (ms : RMs) : Prop where
  n1 : ∀ x r, rowF ms x = some r → (x, r) ∈ cs
  n2 : ∀ x r, (x, r) ∈ cs → ∃ r1, rowF ms x = some r1 ∧ rle r1 r
  nd : (ms.map (·.1)).Nodup
theorem NX.nil : NX [] [] := ⟨(fun x r h => by simp [rowF] at h), (fun x r h => by cases h), List.nodup_nil⟩
theorem NX.put {cs : List (Int × List Str)} {ms : RMs} {x : Int} {r : List Str} (h : NX cs ms) (k : ∀ s, rowF ms x = some s → rlt r s = true) : NX (cs ++ [(x, r)]) (putI ms x r) := by
  refine ⟨fun y s hy => ?_, fun y s hy => ?_, putI_nodup h.nd _ _⟩
  · rw [rowF_put] at hy
    by_cases q : y = x
    · rw [if_pos q] at hy
      cases hy
      rw [q]; simp
    · rw [if_neg q] at hy
      exact List.mem_append.mpr (Or.inl (h.n1 y s hy))
  · rw [rowF_put]
    by_cases q : y = x
    · rw [if_pos q]
      rcases List.mem_append.mp hy with hy | hy
      · obtain ⟨r1, h1, h2⟩ := h.n2 y s hy
        rw [q] at h1
        exact ⟨r, rfl, Or.inr (rlt_rle (k _ h1) h2)⟩
      · cases List.mem_singleton.mp hy
        exact ⟨r, rfl, Or.inl rfl⟩
    · rw [if_neg q]
      rcases List.mem_append.mp hy with hy | hy
      · exact h.n2 y s hy
      · cases List.mem_singleton.mp hy
        exact absurd rfl q
def Bse (M : Mch) : Nat → Int → List Str → Prop
  | 0, x, r => x = 0 ∧ r = []
  | k + 1, x, r => ∃ r' w y, r = r' ++ [w] ∧ w ≠ ("" : Str) ∧ IsRow r' ∧ r'.length = k ∧ behP M r' y ∧ (w, x) ∈ rowAt M y
structure Lay (M : Mch) (k : Nat) (ms : RMs) : Prop where
  l1 : ∀ x r, rowF ms x = some r → Bse M k x r
  l2 : ∀ x r, Bse M k x r → ∃ r1, rowF ms x = some r1 ∧ rle r1 r
  nd : (ms.map (·.1)).Nodup
structure Clz (M : Mch) (k : Nat) (ms : RMs) : Prop where
  l1 : ∀ x r, rowF ms x = some r → IsRow r ∧ r.length = k ∧ behP M r x
  l2 : ∀ x r, IsRow r → r.length = k → behP M r x → ∃ r1, rowF ms x = some r1 ∧ rle r1 r
  nd : (ms.map (·.1)).Nodup
theorem rowF_zero (x : Int) : rowF [(0, [])] x = if x = 0 then some [] else none := by
  unfold rowF
  rw [List.find?_cons]
  by_cases q : x = 0
  · simp [q]
  · have : ¬ (0 : Int) = x := fun e => q e.symm
    simp [q, this]
theorem Lay.zero {M : Mch} : Lay M 0 [(0, [])] where
  l1 := fun x r h => by
    rw [rowF_zero] at h
    by_cases q : x = 0
    · rw [if_pos q] at h
      cases h
      exact ⟨q, rfl⟩
    · rw [if_neg q] at h
      cases h
  l2 := fun x r h => by
    obtain ⟨e1, e2⟩ := h
    exact ⟨[], by rw [rowF_zero, if_pos e1], Or.inl e2.symm⟩
  nd := by simp
theorem listLt_snoc (a b : List Str) (w : Str) (hl : a.length = b.length) (h : rle a b) : rle (a ++ [w]) (b ++ [w]) := by
  rcases h with rfl | h
  · exact Or.inl rfl
  · refine Or.inr ?_
    have key : ∀ (a b : List Str), a.length = b.length → PySem.W.listLt a b = true → PySem.W.listLt (a ++ [w]) (b ++ [w]) = true := by
      intro a
      induction a with
      | nil =>
        intro b hl h
        have : b = [] := List.length_eq_zero_iff.mp hl.symm
        subst this
        simp [PySem.W.listLt] at h
      | cons x a ih =>
        intro b hl h
        match b, hl, h with
        | y :: b, hl, h =>
          show PySem.W.listLt (x :: (a ++ [w])) (y :: (b ++ [w])) = true
          unfold PySem.W.listLt at h ⊢
          by_cases e : x = y
          · rw [if_pos e] at h ⊢
            exact ih b (by simpa using hl) h
          · rw [if_neg e] at h ⊢
            exact h
    exact key a b hl h
theorem Clz.next {M : Mch} (ok : MOk M) {k : Nat} {ms ms2 : RMs} {cs : List (Int × List Str)} (h : Clz M k ms) (n : NX cs ms2) (hc : ∀ x r, (x, r) ∈ cs ↔ ∃ y r' w, rowF ms y = some r' ∧ w ≠ ("" : Str) ∧ (w, x) ∈ rowAt M y ∧ r = r' ++ [w]) : Lay M (k + 1) ms2 where
  l1 := fun x r hx => by
    obtain ⟨y, r', w, h1, h2, h3, h4⟩ := (hc x r).mp (n.n1 x r hx)
    obtain ⟨a, b, c⟩ := h.l1 y r' h1
    exact ⟨r', w, y, h4, h2, a, b, c, h3⟩
  l2 := fun x r hx => by
    obtain ⟨r', w, y, rfl, h2, h3, h4, h5, h6⟩ := hx
    obtain ⟨r1, h7, h8⟩ := h.l2 y r' h3 h4 h5
    obtain ⟨r2, h9, h10⟩ := n.n2 x (r1 ++ [w]) ((hc _ _).mpr ⟨y, r1, w, h7, h2, h6, rfl⟩)
    refine ⟨r2, h9, rle_trans h10 (listLt_snoc _ _ _ ?_ h8)⟩
    rw [(h.l1 y r1 h7).2.1, h4]
  nd := n.nd
def NoGood (M : Mch) (g : Int → Prop) (k : Nat) : Prop := ∀ r, IsRow r → r.length < k → ¬ GoodFrom M g (behP M []) r
theorem good_beh {M : Mch} {g : Int → Prop} {r : List Str} : GoodFrom M g (behP M []) r ↔ ∃ x, behP M r x ∧ g x := Iff.rfl
theorem Clz.more {M : Mch} {g : Int → Prop} {k : Nat} {ms : RMs} (h : Clz M k ms) (ng : NoGood M g k) (no : ∀ x r, rowF ms x = some r → ¬ g x) : NoGood M g (k + 1) := fun r hr hl hg => by
  rcases Nat.lt_or_ge r.length k with q | q
  · exact ng r hr q hg
  · obtain ⟨y, hy, gy⟩ := good_beh.mp hg
    obtain ⟨r1, h1, _⟩ := h.l2 y r hr (by omega) hy
    exact no y r1 h1 gy
theorem dst_row {M : Mch} (ok : MOk M) {g : Int → Prop} : ∀ (k : Nat) {x : Int} {P : Int → Prop}, Dst M g k x → HClo M P → P x → ∃ r, IsRow r ∧ r.length = k ∧ GoodFrom M g P r
  | 0, x, P, d, hc, hx => by
    obtain ⟨y, hy, hg⟩ := dst0 d hc hx
    exact ⟨[], (fun w hw => by cases hw), rfl, y, hy, hg⟩
  | k + 1, x, P, d, hc, hx => by
    obtain ⟨w, hw, y, hy, dy⟩ := dst_led ok d hc hx
    obtain ⟨r, h1, h2, h3⟩ := dst_row ok k dy HClo.led hy
    exact ⟨w :: r, fun v hv => (List.mem_cons.mp hv).elim (fun e => by rw [e]; exact hw) (h1 v), by simp [h2], h3⟩
end Sk
set_option Elab.async false
set_option linter.all false
set_option maxRecDepth 100000
set_option maxHeartbeats 4000000
namespace Sk
open PySem PySem.Spec PyProof.Rows L2
open PySem.W (Datum DatumOrd Tup T3 T4)
open Evl (Ex)
def BestC (M : Mch) (g : Int → Prop) (n : Nat) (C : PV → Nat → Prop) : Prop := (∀ row, Best M g (behP M []) row → C (.dat (.tuple (row.map .str))) n) ∧ ((∀ row, IsRow row → ¬ GoodFrom M g (behP M []) row) → C (.dat .none) n)
end Sk
namespace Sk
open PySem PySem.Spec PyProof.Rows L2
open PySem.W (Datum DatumOrd Tup T3 T4)
open Evl (Ex)
end Sk
set_option Elab.async false
set_option linter.all false
set_option maxRecDepth 100000
set_option maxHeartbeats 4000000
namespace Sk
open PySem PySem.Spec PyProof.Rows L2
open PySem.W (Datum DatumOrd Tup T3 T4)
open Evl (Ex)
section
variable {a b : Str} (ha : isWordS a = true) (hb : isWordS b = true) (hab : a ≠ b)
end
end Sk
namespace Sk
open PySem PySem.Spec PyProof.Rows L2
open PySem.W (Datum DatumOrd Tup T3 T4)
open Evl (Ex)
section
variable {a b c : Str} (ha : isWordS a = true) (hb : isWordS b = true) (hc : isWordS c = true) (hab : DatumOrd.lt a b = true) (hac : DatumOrd.lt a c = true) (hbc : DatumOrd.lt b c = true)
include ha hb hc hab hac hbc
end
end Sk
set_option Elab.async false
set_option linter.all false
set_option maxRecDepth 100000
set_option maxHeartbeats 4000000
namespace Sk
open PySem PySem.Spec PyProof.Rows L2
open PySem.W (Datum DatumOrd Tup T3 T4)
open Evl (Ex)
def OneD (M : Mch) (g : Int → Prop) (d : PyData) : Prop := (∃ row, Best M g (behP M []) row ∧ d = .tuple (row.map .str)) ∨ (d = .none ∧ ∀ row, IsRow row → ¬ GoodFrom M g (behP M []) row)
theorem BestC.of {M : Mch} {g : Int → Prop} {n : Nat} {C : PV → Nat → Prop} (h : ∀ d, OneD M g d → C (.dat d) n) : BestC M g n C := ⟨fun row hb => h _ (Or.inl ⟨row, hb, rfl⟩), fun hn => h _ (Or.inr ⟨rfl, hn⟩)⟩
theorem Best.uniq {M : Mch} {g P : Int → Prop} {r s : List Str} (h : Best M g P r) (h' : Best M g P s) : r = s := by
  have inj : kLen (Tup.mk r) = kLen (Tup.mk s) → r = s := fun e => by injection (Prod.mk.inj e).2
  rcases h.2.2 s h'.1 h'.2.1 with e | l
  · exact inj e
  · rcases h'.2.2 r h.1 h.2.1 with e | l'
    · exact (inj e.symm)
    · have := lt_trans' l l'
      rw [lt_irr] at this
      cases this
theorem OneD.uniq {M : Mch} {g : Int → Prop} {d e : PyData} (h : OneD M g d) (h' : OneD M g e) : d = e := by
  rcases h with ⟨r, hr, rfl⟩ | ⟨rfl, hn⟩
  · rcases h' with ⟨s, hs, rfl⟩ | ⟨rfl, hn⟩
    · rw [hr.uniq hs]
    · exact absurd hr.2.1 (hn r hr.1)
  · rcases h' with ⟨s, hs, rfl⟩ | ⟨rfl, _⟩
    · exact absurd hs.2.1 (hn s hs.1)
    · rfl
theorem Best.len {M : Mch} (ok : MOk M) {g : Int → Prop} (hg : ∀ x, g x → 0 ≤ x ∧ x < M.items.length) {r : List Str} (h : Best M g (behP M []) r) : r.length < M.items.length := by
  obtain ⟨x, hx, d⟩ := good_dst ok (fun x h => (behP_rng' ok h).1) h.1 h.2.1
  have key : ∀ j, (∃ x, behP M [] x ∧ Dst M g j x) → ∃ k, k ≤ j ∧ MinS M g (behP M []) k := fun j => by
    induction j using Nat.strongRecOn with
    | ind j ih =>
      intro hj
      by_cases q : ∃ i, i < j ∧ ∃ x, behP M [] x ∧ Dst M g i x
      · obtain ⟨i, hi, h⟩ := q
        obtain ⟨k, hk, m⟩ := ih i hi h
        exact ⟨k, by omega, m⟩
      · exact ⟨j, Nat.le_refl _, hj, fun i hi h => q ⟨i, hi, h⟩⟩
  obtain ⟨k, hk, ms⟩ := key _ ⟨x, hx, d⟩
  have lt := ms.lt hg
  obtain ⟨y, hy, dy⟩ := ms.1
  obtain ⟨r2, h1, h2, h3⟩ := dst_row ok k dy HClo.clo hy
  rcases h.2.2 r2 h1 h3 with e | l
  · have : r = r2 := by injection (Prod.mk.inj e).2
    rw [this]; omega
  · have l : (if (r.length : Int) = (r2.length : Int) then _ else decide ((r.length : Int) < (r2.length : Int))) = true := l
    split at l
    · omega
    · have := of_decide_eq_true l
      omega
theorem OneD.show {M : Mch} (ok : MOk M) {g : Int → Prop} (hg : ∀ x, g x → 0 ≤ x ∧ x < M.items.length) {d : PyData} (h : OneD M g d) : ShowOk d := by
  rcases h with ⟨r, hr, rfl⟩ | ⟨rfl, _⟩
  · have hl := hr.len ok hg
    have hi := ok.hi
    refine (ShowAll.tupK (show_all (k := 0) (w := 6) fun x hx => word_showK (Or.inl (hr.1 x hx)))).ok (by decide) ?_
    omega
  · exact none_showK.ok (by decide) (by decide)
theorem OneD.imm {M : Mch} {g : Int → Prop} {d : PyData} (h : OneD M g d) : (PV.dat d).imm = true := by
  rcases h with ⟨r, _, rfl⟩ | ⟨rfl, _⟩
  · have : ∀ xs : List Str, immAll (xs.map .str) = true := fun xs => by
      induction xs with
      | nil => rfl
      | cons x xs ih => rw [List.map_cons, immAll, ih]; rfl
    exact this r
  · rfl
def FM (M : Mch) : Prop := MOk M ∧ RowsLe 4 M ∧ M.items.length ≤ 12
theorem FM.few {M : Mch} (h : FM M) : FewMv M := ⟨by
  have := evs_len (k := 0) (m := 4) h.2.1
  have h2 := h.2.2
  have : (evs 0 M.items).length ≤ 48 := by omega
  exact Nat.le_trans (Nat.mul_le_mul this h2) (by decide), fun r hr => Nat.le_trans (h.2.1 r hr) (by decide)⟩
end Sk
set_option Elab.async false
set_option linter.all false
set_option maxRecDepth 100000
set_option maxHeartbeats 4000000
namespace Sk
open PySem PySem.Spec PyProof.Rows L2
open PySem.W (Datum DatumOrd Tup T3 T4)
open Evl (Ex)
@[simp] def c_LONGEST : PyData := .int 12
@[simp] def c_MOST_ROWS : PyData := .int 2000
noncomputable def listP (M : Mch) (P : Int → Prop) : List Int := (rngI M.items.length).filter fun x => @decide (P x) (Classical.propDecidable _)
noncomputable def wordsL (M : Mch) (P : Int → Prop) : List Str := (sortU M.deeds).filter fun w => @decide (∃ x, P x ∧ ∃ g, (w, g) ∈ rowAt M x) (Classical.propDecidable _)
theorem wordsL_rising {M : Mch} {P : Int → Prop} : Rising (wordsL M P) := List.Pairwise.filter _ (sortU_rising _)
theorem rowAt_deed {M : Mch} {w : Str} {g x : Int} (h : (w, g) ∈ rowAt M x) (hw : w ≠ ("" : Str)) : w ∈ M.deeds := by
  unfold rowAt at h
  cases q : M.items[x.toNat]? with
  | none => rw [q] at h; cases h
  | some r =>
    rw [q] at h
    exact mem_deeds'.mpr ⟨hw, r, List.mem_of_getElem? q, (w, g), h, rfl⟩
theorem deed_ne {M : Mch} {w : Str} (h : w ∈ M.deeds) : w ≠ ("" : Str) := (mem_deeds'.mp h).1
theorem mem_wordsL {M : Mch} {P : Int → Prop} {w : Str} : w ∈ wordsL M P ↔ w ≠ ("" : Str) ∧ ∃ x, P x ∧ ∃ g, (w, g) ∈ rowAt M x := by
  unfold wordsL
  rw [List.mem_filter, mem_sortU]
  constructor
  · rintro ⟨h1, h2⟩
    exact ⟨deed_ne h1, @of_decide_eq_true _ (Classical.propDecidable _) h2⟩
  · rintro ⟨h1, h2⟩
    obtain ⟨x, _, g, hg⟩ := id h2
    exact ⟨rowAt_deed hg h1, @decide_eq_true _ (Classical.propDecidable _) h2⟩
noncomputable def lvl (M : Mch) : Nat → List (List Str)
  | 0 => [[]]
  | k + 1 => (lvl M k).flatMap fun r => (wordsL M (behP M r)).map fun w => r ++ [w]
noncomputable def allR (M : Mch) : Nat → List (List Str)
  | 0 => [[]]
  | k + 1 => allR M k ++ lvl M (k + 1)
def Done (M : Mch) (r : List Str) : Prop := IsRow r ∧ ∃ x, behP M r x
theorem behP_one {M : Mch} {r : List Str} {w : Str} : behP M (r ++ [w]) = ledP M (behP M r) w := by
  unfold behP
  rw [List.foldl_append]
  rfl
theorem led_some {M : Mch} {P : Int → Prop} {w : Str} : (∃ x, ledP M P w x) ↔ ∃ x, P x ∧ ∃ g, (w, g) ∈ rowAt M x := by
  constructor
  · rintro ⟨x, c⟩
    obtain ⟨z, ⟨y, hy, he⟩, _⟩ := Clo.one.mp c
    exact ⟨y, hy, z, he⟩
  · rintro ⟨x, hx, g, hg⟩
    exact ⟨g, .base ⟨x, hx, hg⟩⟩
theorem mem_lvl {M : Mch} (ok : MOk M) : ∀ {k : Nat} {r : List Str}, r ∈ lvl M k ↔ Done M r ∧ r.length = k
  | 0, r => by
    unfold lvl
    rw [List.mem_singleton]
    constructor
    · rintro rfl
      exact ⟨⟨(fun w hw => by cases hw), 0, .base rfl⟩, rfl⟩
    · rintro ⟨_, h⟩
      exact List.length_eq_zero_iff.mp h
  | k + 1, r => by
    unfold lvl
    rw [List.mem_flatMap]
    constructor
    · rintro ⟨s, hs, h⟩
      obtain ⟨w, hw, rfl⟩ := List.mem_map.mp h
      obtain ⟨⟨h1, h2⟩, h3⟩ := (mem_lvl ok).mp hs
      obtain ⟨h4, h5⟩ := mem_wordsL.mp hw
      obtain ⟨x, hx, g, hg⟩ := id h5
      refine ⟨⟨fun v hv => ?_, ?_⟩, by simp [h3]⟩
      · rcases List.mem_append.mp hv with hv | hv
        · exact h1 v hv
        · rw [List.mem_singleton.mp hv]; exact (rowAt_mv ok hg).2.2.resolve_right h4
      · rw [behP_one]
        exact led_some.mpr h5
    · rintro ⟨⟨h1, x, hx⟩, h3⟩
      obtain ⟨s, w, rfl⟩ : ∃ s w, r = s ++ [w] := by
        have ne : r ≠ [] := fun e => by rw [e] at h3; cases h3
        exact ⟨r.dropLast, r.getLast ne, (List.dropLast_concat_getLast ne).symm⟩
      rw [behP_one] at hx
      obtain ⟨y, hy, g, hg⟩ := led_some.mp ⟨x, hx⟩
      exact ⟨s, (mem_lvl ok).mpr ⟨⟨fun v hv => h1 v (by simp [hv]), y, hy⟩, by simpa using h3⟩, List.mem_map.mpr ⟨w, mem_wordsL.mpr ⟨word_ne (h1 w (by simp)), y, hy, g, hg⟩, rfl⟩⟩
theorem mem_allR {M : Mch} (ok : MOk M) : ∀ {k : Nat} {r : List Str}, r ∈ allR M k ↔ Done M r ∧ r.length ≤ k
  | 0, r => by
    show r ∈ lvl M 0 ↔ _
    rw [mem_lvl ok]
    constructor
    · rintro ⟨a, b⟩; exact ⟨a, by omega⟩
    · rintro ⟨a, b⟩; exact ⟨a, by omega⟩
  | k + 1, r => by
    unfold allR
    rw [List.mem_append, mem_allR ok, mem_lvl ok]
    constructor
    · rintro (⟨a, b⟩ | ⟨a, b⟩)
      · exact ⟨a, by omega⟩
      · exact ⟨a, by omega⟩
    · rintro ⟨a, b⟩
      rcases Nat.lt_or_ge k r.length with q | q
      · exact Or.inr ⟨a, by omega⟩
      · exact Or.inl ⟨a, q⟩
end Sk
set_option Elab.async false
set_option linter.all false
set_option maxRecDepth 100000
set_option maxHeartbeats 4000000
namespace Sk
open PySem PySem.Spec PyProof.Rows L2
open PySem.W (Datum DatumOrd Tup T3 T4)
open Evl (Ex)
def hids (M : Mch) : List (List Int) := M.items.map fun r => hidR r.items
theorem hids_at {M : Mch} {x : Int} : (((hids M)[x.toNat]?).getD []) = hid M x := (hid_run (M := M) rfl x).symm
def endH (H : List (List Int)) : List Int := rndsH H H.length (rngI H.length)
theorem mem_endH {M : Mch} {x : Int} : x ∈ endH (hids M) ↔ Endl M x := endl_run (M := M) (H := hids M) rfl rfl x
def nextsH (H : List (List Int)) (E : List Int) (x : Int) : List Int := ((H[x.toNat]?).getD []).filter fun g => decide (g ∈ E)
def nextH (H : List (List Int)) (E : List Int) (x : Int) : Int := (nextsH H E x).head?.getD 0
theorem endl_next {M : Mch} {x : Int} (h : Endl M x) : ∃ g, g ∈ hid M x ∧ Endl M g := by
  obtain ⟨S, hS, hx⟩ := h
  obtain ⟨_, _, g, hg, h2⟩ := hS x hx
  exact ⟨g, hg, S, hS, h2⟩
theorem nexts_cons {M : Mch} {x : Int} (h : Endl M x) : ∃ r, nextsH (hids M) (endH (hids M)) x = nextH (hids M) (endH (hids M)) x :: r ∧ nextH (hids M) (endH (hids M)) x ∈ hid M x ∧ Endl M (nextH (hids M) (endH (hids M)) x) := by
  obtain ⟨g, hg, he⟩ := endl_next h
  have hm : g ∈ nextsH (hids M) (endH (hids M)) x := List.mem_filter.mpr ⟨by rw [hids_at]; exact hg, decide_eq_true (mem_endH.mpr he)⟩
  unfold nextH
  cases q : nextsH (hids M) (endH (hids M)) x with
  | nil => rw [q] at hm; cases hm
  | cons a r =>
    have ha : a ∈ nextsH (hids M) (endH (hids M)) x := by rw [q]; exact List.mem_cons_self
    obtain ⟨h1, h2⟩ := List.mem_filter.mp ha
    rw [hids_at] at h1
    exact ⟨r, rfl, h1, mem_endH.mp (of_decide_eq_true h2)⟩
def wayH (H : List (List Int)) (E : List Int) : Nat → List Int → Int → List Int × Int
  | 0, w, g => (w, g)
  | k + 1, w, g => if g ∈ w then (w, g) else wayH H E k (w ++ [g]) (nextH H E g)
theorem wayH_done {H : List (List Int)} {E : List Int} {k : Nat} {w : List Int} {g : Int} (h : g ∈ w) : wayH H E k w g = (w, g) := by
  cases k with
  | zero => rfl
  | succ k => show (if g ∈ w then _ else _) = _; rw [if_pos h]
def Lnk (M : Mch) (w : List Int) : Prop := ∀ (i : Nat) (a b : Int), w[i]? = some a → w[i + 1]? = some b → b ∈ hid M a
theorem Lnk.one {M : Mch} {x : Int} : Lnk M [x] := fun i a b _ h2 => by simp at h2
theorem Lnk.snoc {M : Mch} {w : List Int} {y z : Int} (h : Lnk M (w ++ [y])) (hz : z ∈ hid M y) : Lnk M (w ++ [y] ++ [z]) := fun i a b h1 h2 => by
  rcases Nat.lt_or_ge (i + 1) (w ++ [y]).length with l | l
  · rw [List.getElem?_append_left l] at h2
    rw [List.getElem?_append_left (by omega)] at h1
    exact h i a b h1 h2
  · rw [List.getElem?_append_right l] at h2
    have l2 : i + 1 - (w ++ [y]).length = 0 := by
      rcases Nat.eq_zero_or_pos (i + 1 - (w ++ [y]).length) with q | q
      · exact q
      · rw [List.getElem?_eq_none (by simp at q ⊢; omega)] at h2; cases h2
    rw [l2] at h2
    have hb : b = z := by simpa using h2.symm
    have hi : i = w.length := by simp at l l2; omega
    subst hi
    rw [List.getElem?_append_left (by simp), List.getElem?_append_right (Nat.le_refl _)] at h1
    have ha : a = y := by simpa using h1.symm
    rw [ha, hb]; exact hz
theorem Lnk.take {M : Mch} {w : List Int} (h : Lnk M w) (n : Nat) : Lnk M (w.take n) := fun i a b h1 h2 => by
  rw [List.getElem?_take] at h1 h2
  split at h2
  · rw [if_pos (by omega)] at h1
    exact h i a b h1 h2
  · cases h2
theorem Lnk.drop {M : Mch} {w : List Int} (h : Lnk M w) (n : Nat) : Lnk M (w.drop n) := fun i a b h1 h2 => by
  rw [List.getElem?_drop] at h1 h2
  exact h (n + i) a b h1 h2
structure WInv (M : Mch) (x : Int) (w : List Int) (g : Int) : Prop where
  nd : w.Nodup
  en : ∀ y ∈ w, Endl M y
  gl : Endl M g
  hd : w[0]? = some x
  lk : Lnk M (w ++ [g])
theorem WInv.start {M : Mch} {x : Int} (h : Endl M x) : WInv M x [x] (nextH (hids M) (endH (hids M)) x) := by
  obtain ⟨r, _, h1, h2⟩ := nexts_cons h
  exact ⟨by simp, fun y hy => by rw [List.mem_singleton.mp hy]; exact h, h2, rfl, Lnk.snoc (w := []) Lnk.one h1⟩
theorem WInv.step {M : Mch} {x : Int} {w : List Int} {g : Int} (h : WInv M x w g) (hg : g ∉ w) : WInv M x (w ++ [g]) (nextH (hids M) (endH (hids M)) g) := by
  obtain ⟨r, _, h1, h2⟩ := nexts_cons h.gl
  refine ⟨?_, fun y hy => ?_, h2, ?_, h.lk.snoc h1⟩
  · rw [List.nodup_append]
    exact ⟨h.nd, by simp, fun a ha b hb e => by rw [List.mem_singleton.mp hb] at e; exact hg (e ▸ ha)⟩
  · rcases List.mem_append.mp hy with hy | hy
    · exact h.en y hy
    · rw [List.mem_singleton.mp hy]; exact h.gl
  · have := h.hd
    cases w with
    | nil => cases this
    | cons a w => simpa using this
theorem WInv.len {M : Mch} {x : Int} {w : List Int} {g : Int} (h : WInv M x w g) : w.length ≤ M.items.length := rng_len h.nd fun y hy => endl_rng (h.en y hy)
theorem WInv.more {M : Mch} {x : Int} {w : List Int} {g : Int} (h : WInv M x w g) (hg : g ∉ w) : w.length < M.items.length := by
  have := (h.step hg).len
  simp at this
  omega
theorem WInv.pos {M : Mch} {x : Int} {w : List Int} {g : Int} (h : WInv M x w g) : 0 < w.length := by
  have := h.hd
  cases w with
  | nil => cases this
  | cons a w => simp
theorem WInv.fin {M : Mch} {x : Int} : ∀ (k : Nat) (w : List Int) (g : Int), WInv M x w g → M.items.length ≤ k + w.length → ∃ w' g', wayH (hids M) (endH (hids M)) k w g = (w', g') ∧ WInv M x w' g' ∧ g' ∈ w'
  | 0, w, g, h, l => ⟨w, g, rfl, h, by
      apply Classical.byContradiction
      intro q
      have := h.more q
      omega⟩
  | k + 1, w, g, h, l => by
    by_cases q : g ∈ w
    · exact ⟨w, g, wayH_done q, h, q⟩
    · obtain ⟨w', g', h1, h2, h3⟩ := WInv.fin k _ _ (h.step q) (by simp; omega)
      refine ⟨w', g', ?_, h2, h3⟩
      show (if g ∈ w then _ else _) = _
      rw [if_neg q]; exact h1
structure IsCirc (M : Mch) (x : Int) (p : List Int × List Int) : Prop where
  w0 : p.1[0]? = some x
  c0 : ∃ g, p.2[0]? = some g ∧ p.1[p.1.length - 1]? = some g
  rg : ∀ y ∈ p.1 ++ p.2, 0 ≤ y ∧ y < M.items.length
  len : p.1.length + p.2.length = (once (p.1 ++ p.2)).length + 1
  ll : p.1.length + p.2.length ≤ M.items.length + 1
  l1 : Lnk M p.1
  l2 : Lnk M (p.2 ++ p.2.take 1)
end Sk
set_option Elab.async false
set_option linter.all false
set_option maxRecDepth 100000
set_option maxHeartbeats 4000000
namespace Sk
open PySem PySem.Spec PyProof.Rows L2
open PySem.W (Datum DatumOrd Tup T3 T4)
open Evl (Ex)
@[simp] theorem rIn (i n : Int) : (if false = true then !decide (0 ≤ i ∧ i < n) else decide (0 ≤ i ∧ i < n)) = decide (0 ≤ i ∧ i < n) := rfl
theorem _root_.Sk.ShowK.consK' {d e : PyData} {k v : Nat} (h : ShowK d k v) (t : ShowK e k v) : ShowK (.tuple [d, e]) (k + 1) (v + 1 + (v + 1 + 0)) := (ShowAll.consK h (ShowAll.consK t ShowAll.nil)).tupK
end Sk
namespace Sk
open PySem PySem.Spec PyProof.Rows L2
open PySem.W (Datum DatumOrd Tup T3 T4)
open Evl (Ex)
def RM (M : Mch) : Prop := MOk M ∧ RowsLe 4 M ∧ M.items.length ≤ 12
theorem RM.le {M : Mch} (h : RM M) : RowsLe 60 M := fun r hr => Nat.le_trans (h.2.1 r hr) (by decide)
end Sk
set_option Elab.async false
set_option linter.all false
set_option maxRecDepth 100000
set_option maxHeartbeats 4000000
namespace Sk
open PySem PySem.Spec PyProof.Rows L2
open PySem.W (Datum DatumOrd Tup T3 T4)
open Evl (Ex)
@[simp] theorem leng_dcg {kvs : List (PyData × PyData)} {C : PV → Prop} : lenGW [.dcg kvs] C ↔ C (.dat (.int kvs.length)) := by simp [lenGW]
@[simp] theorem leng_dgf {kvs : List (PyData × PyData)} {C : PV → Prop} : lenGW [.dgf kvs] C ↔ C (.dat (.int kvs.length)) := by simp [lenGW]
section
variable {κ : Type} [DecidableEq κ]
end
section
variable {κ : Type} [DecidableEq κ]
end
section
variable {κ : Type} [DecidableEq κ] [Datum κ] [KD κ]
end
end Sk
set_option Elab.async false
set_option linter.all false
set_option maxRecDepth 100000
set_option maxHeartbeats 4000000
namespace Sk
open PySem PySem.Spec PyProof.Rows L2
open PySem.W (Datum DatumOrd Tup T3 T4)
open Evl (Ex)
section
variable {α : Type} [DecidableEq α]
def addT (ts : List α) (c : α) : List α := if c ∈ ts then ts else ts ++ [c]
def allT (ts : List α) (ms : List (Str × α)) : List α := ms.foldl (fun ts m => addT ts m.2) ts
def ixT (ts : List α) (c : α) : Int := ((ts.idxOf c : Nat) : Int)
def rowT (ts : List α) (ms : List (Str × α)) : List (Str × Int) := sortU (ms.map fun m => (m.1, ixT ts m.2))
abbrev NSt (α : Type) := List α × List (List (Str × Int))
def nStep (g : α → List (Str × α)) (st : NSt α) : NSt α := match st.1[st.2.length]? with
  | none => st
  | some t => (allT st.1 (g t), st.2 ++ [rowT (allT st.1 (g t)) (g t)])
def nIt (g : α → List (Str × α)) (s0 : α) : Nat → NSt α
  | 0 => ([s0], [])
  | k + 1 => nStep g (nIt g s0 k)
theorem addT_mem {ts : List α} {c x : α} : x ∈ addT ts c ↔ x ∈ ts ∨ x = c := by
  unfold addT
  split
  · rename_i h
    exact ⟨Or.inl, fun z => z.elim id fun e => e ▸ h⟩
  · simp
theorem addT_nd {ts : List α} {c : α} (h : ts.Nodup) : (addT ts c).Nodup := by
  unfold addT
  split
  · exact h
  · rename_i q
    exact List.nodup_append.mpr ⟨h, by simp, fun a ha b hb e => by rw [List.mem_singleton.mp hb] at e; exact q (e ▸ ha)⟩
theorem addT_pre {ts : List α} {c : α} : ∃ more, addT ts c = ts ++ more := by
  unfold addT
  split
  · exact ⟨[], (List.append_nil _).symm⟩
  · exact ⟨[c], rfl⟩
theorem allT_cons {ts : List α} {m : Str × α} {ms : List (Str × α)} : allT ts (m :: ms) = allT (addT ts m.2) ms := rfl
theorem allT_pre : ∀ {ms : List (Str × α)} {ts : List α}, ∃ more, allT ts ms = ts ++ more
  | [], ts => ⟨[], (List.append_nil _).symm⟩
  | m :: ms, ts => by
    rw [allT_cons]
    obtain ⟨a, ha⟩ := addT_pre (ts := ts) (c := m.2)
    obtain ⟨b, hb⟩ := allT_pre (ms := ms) (ts := addT ts m.2)
    exact ⟨a ++ b, by rw [hb, ha, List.append_assoc]⟩
section
variable {g : α → List (Str × α)} {s0 : α} {U : List α}
end
end
section
variable {α : Type} [DecidableEq α] [Datum α] [KD α]
end
end Sk
set_option Elab.async false
set_option linter.all false
set_option maxRecDepth 100000
set_option maxHeartbeats 4000000
namespace Sk
open PySem PySem.Spec PyProof.Rows L2
open PySem.W (Datum DatumOrd Tup T3 T4)
open Evl (Ex)
abbrev P2 := Int × Int
structure NumQ (g : P2 → List (Str × P2)) (U : List P2) (st : P2) (ws : List Str) : Prop where
  st : st ∈ U
  cl : ∀ t ∈ U, ∀ m ∈ g t, m.2 ∈ U ∧ (m.1 ∈ ws ∨ m.1 = ("" : Str))
  ln : ∀ t ∈ U, (g t).length ≤ 100
  hi : U.length ≤ 300
  dw : ws.length ≤ 8
structure NumB (g : P2 → List (Str × P2)) (U : List P2) (st : P2) : Prop where
  big : ∃ k, 300 < (nIt g st k).1.length
  st : st ∈ U
  cl : ∀ t ∈ U, ∀ m ∈ g t, m.2 ∈ U
  ln : ∀ t ∈ U, (g t).length ≤ 100
end Sk
set_option Elab.async false
set_option linter.all false
set_option maxRecDepth 100000
set_option maxHeartbeats 4000000
namespace Sk
open PySem PySem.Spec PyProof.Rows L2
open PySem.W (Datum DatumOrd Tup T3 T4)
open Evl (Ex)
def pmL (M1 : Mch) (ws : List Str) (M2 : Mch) (t : P2) : List (Str × P2) :=
  ((rowAt M1 t.1).filter fun p => decide (p.1 ∉ ws)).map (fun p => (p.1, (p.2, t.2))) ++ ((rowAt M2 t.2).filter fun p => decide (p.1 ∉ ws)).map (fun p => (p.1, (t.1, p.2))) ++
    ((rowAt M1 t.1).filter fun p => decide (p.1 ∈ ws)).flatMap fun p => ((rowAt M2 t.2).filter fun q => decide (q.1 = p.1)).map fun q => (p.1, (p.2, q.2))
structure Side (M1 : Mch) (ws : List Str) (M2 : Mch) : Prop where
  ok1 : MOk M1
  ok2 : MOk M2
  l1 : RowsLe 10 M1
  l2 : RowsLe 10 M2
  ln : ∀ t, (pmL M1 ws M2 t).length ≤ 63
  st : ws.length ≤ 100
end Sk
set_option Elab.async false
set_option linter.all false
set_option maxRecDepth 100000
set_option maxHeartbeats 4000000
namespace Sk
open PySem PySem.Spec PyProof.Rows L2
open PySem.W (Datum DatumOrd Tup T3 T4)
open Evl (Ex)
section
variable {α : Type} [DecidableEq α] [Datum α] [KD α]
def putU (met : List α) (a : α) : List α := if a ∈ met then met else met ++ [a]
theorem putU_mem {met : List α} {a x : α} : x ∈ putU met a ↔ x ∈ met ∨ x = a := by
  unfold putU
  split
  · rename_i h
    exact ⟨Or.inl, fun z => z.elim id fun e => e ▸ h⟩
  · simp
theorem putU_nd {met : List α} {a : α} (h : met.Nodup) : (putU met a).Nodup := by
  unfold putU
  split
  · exact h
  · rename_i q
    exact List.nodup_append.mpr ⟨h, by simp, fun a ha b hb e => by rw [List.mem_singleton.mp hb] at e; exact q (e ▸ ha)⟩
end
end Sk
set_option Elab.async false
set_option linter.all false
set_option maxRecDepth 100000
set_option maxHeartbeats 4000000
namespace Sk
open PySem PySem.Spec PyProof.Rows L2
open PySem.W (Datum DatumOrd Tup T3 T4)
open Evl (Ex)
end Sk
namespace Sk
open PySem PySem.Spec PyProof.Rows L2
open PySem.W (Datum DatumOrd Tup T3 T4)
open Evl (Ex)
section
variable {g : P2 → List (Str × P2)} {s0 : P2} {U : List P2}
end
def a17 : Mch := ⟨[⟨[("a", 1)]⟩, ⟨[]⟩]⟩
end Sk
set_option Elab.async false
set_option linter.all false
set_option maxRecDepth 100000
set_option maxHeartbeats 4000000
namespace Sk
open PySem PySem.Spec PyProof.Rows L2
open PySem.W (Datum DatumOrd Tup T3 T4)
open Evl (Ex)
@[simp] def c_GOOD : PyData := (.str "good")
end Sk
namespace Sk
open PySem PySem.Spec PyProof.Rows L2
open PySem.W (Datum DatumOrd Tup T3 T4)
open Evl (Ex)
end Sk
set_option Elab.async false
set_option linter.all false
set_option maxRecDepth 100000
set_option maxHeartbeats 4000000
namespace Sk
open PySem PySem.Spec PyProof.Rows L2
open PySem.W (Datum DatumOrd Tup T3 T4)
open Evl (Ex)
def askS (M T : Mch) : List Str := sortU ((sortU M.deeds ++ sortU T.deeds).filter fun w => decide (w ≠ ("good" : Str)))
end Sk
namespace Sk
open PySem PySem.Spec PyProof.Rows L2
open PySem.W (Datum DatumOrd Tup T3 T4)
open Evl (Ex)
section
variable {κ : Type} [DecidableEq κ]
end
structure Num (M : Mch) (k c : Nat) (v : List Int) : Prop where
  len : v.length = M.items.length
  lo : ∀ x ∈ v, 0 ≤ x ∧ x < c
  on : ∀ i : Int, 0 ≤ i → i < c → i ∈ v
  eq : ∀ x y, InR M x → InR M y → (atO v x = atO v y ↔ ek M k x y = true)
  fst : ∀ x, InR M x → ∀ i, 0 ≤ i → i < atO v x → ∃ y, InR M y ∧ y < x ∧ atO v y = i
end Sk
set_option Elab.async false
set_option linter.all false
set_option maxRecDepth 100000
set_option maxHeartbeats 4000000
namespace Sk
open PySem PySem.Spec PyProof.Rows L2
open PySem.W (Datum DatumOrd Tup T3 T4)
open Evl (Ex)
def frs (v : List Int) (acc : List Int) : List (PyData × PyData) := kvD (acc.map fun r => (atO v r, PyData.int r))
end Sk
set_option maxHeartbeats 2000000
namespace Sk
open PySem PySem.Spec PyProof.Rows L2
open Evl (Ex)
@[simp] def lcsO (j : Nat) (ds0 : List PyData) (vs : List Nat) (g : HG) (tt : HT) (t : HE) : List PyData → List PyData → Sg → (PV → Sg → Prop) → Prop
  | [], acc, s, C => s.sl[j]? = some (some (.own ds0)) ∧ C (.own acc) s
  | d :: ds, acc, s, C => s.sl[j]? = some (some (.own ds0)) ∧ g d s fun s1 => tt s1 fun b s2 => if b = true then t s2 fun p s3 => ∃ x, p.frz = some x ∧ acc.length < 100000 ∧ lcsO j ds0 vs g tt t ds (acc ++ [x]) (s3.wipe vs) C else lcsO j ds0 vs g tt t ds acc (s2.wipe vs) C
@[simp] def hLcO (j : Nat) (g : HG) (tt : HT) (t : HE) (vs : List Nat) : HE := fun s C => ∃ ds0, s.sl[j]? = some (some (.own ds0)) ∧ lcsO j ds0 vs g tt t ds0 [] (s.wipe vs) C
section
variable {X : Cx} {f : Fr} {e : Expr} {t : HE} {tt : HT} {g : HG} {ws : List Nat}
end
end Sk
set_option Elab.async false
set_option linter.all false
set_option maxRecDepth 100000
set_option maxHeartbeats 4000000
namespace Sk
open PySem PySem.Spec PyProof.Rows L2
open PySem.W (Datum DatumOrd Tup T3 T4)
open Evl (Ex)
def ApK (M : Mch) (k : Nat) (ks : List (Int × Int)) : Prop := ∀ a b, (a, b) ∈ ks ↔ InR M a ∧ InR M b ∧ ek M k a b = false
end Sk
namespace Sk
open PySem PySem.Spec PyProof.Rows L2
open PySem.W (Datum DatumOrd Tup T3 T4)
open Evl (Ex)
section
variable {κ : Type} [DecidableEq κ] [Datum κ] [KD κ]
def putM (ms : List (κ × PyData)) (a : κ) (x : PyData) : List (κ × PyData) := if a ∈ ms.map (·.1) then ms.map (fun m => if m.1 = a then (m.1, x) else m) else ms ++ [(a, x)]
theorem putM_keys (ms : List (κ × PyData)) (a : κ) (x : PyData) : (putM ms a x).map (·.1) = if a ∈ ms.map (·.1) then ms.map (·.1) else ms.map (·.1) ++ [a] := by
  unfold putM
  split
  · rw [List.map_map]
    refine List.map_congr_left fun m _ => ?_
    simp only [Function.comp]
    split <;> rfl
  · rw [List.map_append]; rfl
def putAll (x : PyData) : List (κ × PyData) → List κ → List (κ × PyData)
  | ms, [] => ms
  | ms, a :: as => putAll x (putM ms a x) as
theorem putAll_mem {x : PyData} : ∀ (as : List κ) (ms : List (κ × PyData)) (b : κ), b ∈ (putAll x ms as).map (·.1) ↔ b ∈ ms.map (·.1) ∨ b ∈ as
  | [], ms, b => by simp [putAll]
  | a :: as, ms, b => by
    unfold putAll
    rw [putAll_mem as, putM_keys]
    by_cases h : a ∈ ms.map (·.1)
    · rw [if_pos h, List.mem_cons]
      constructor
      · rintro (h1 | h1)
        · exact Or.inl h1
        · exact Or.inr (Or.inr h1)
      · rintro (h1 | rfl | h1)
        · exact Or.inl h1
        · exact Or.inl h
        · exact Or.inr h1
    · rw [if_neg h, List.mem_append, List.mem_singleton, List.mem_cons, or_assoc]
theorem putAll_nd {x : PyData} : ∀ (as : List κ) (ms : List (κ × PyData)), (ms.map (·.1)).Nodup → ((putAll x ms as).map (·.1)).Nodup
  | [], _, h => h
  | a :: as, ms, h => by
    unfold putAll
    refine putAll_nd as _ ?_
    rw [putM_keys]
    split
    · exact h
    · rename_i q
      exact List.nodup_append.mpr ⟨h, by simp, fun c hc b hb e => q (by rw [← List.mem_singleton.mp hb, ← e]; exact hc)⟩
theorem putAll_val {x : PyData} {P : κ × PyData → Prop} : ∀ (as : List κ) (ms : List (κ × PyData)), (∀ m ∈ ms, P m) → (∀ a ∈ as, P (a, x)) → ∀ m ∈ putAll x ms as, P m
  | [], _, h, _ => h
  | a :: as, ms, h, g => by
    unfold putAll
    refine putAll_val as _ (fun m hm => ?_) fun b hb => g b (List.mem_cons_of_mem _ hb)
    unfold putM at hm
    split at hm
    · obtain ⟨m0, hm0, rfl⟩ := List.mem_map.mp hm
      split
      · rename_i e
        rw [e]
        exact g a List.mem_cons_self
      · exact h _ hm0
    · rcases List.mem_append.mp hm with hm | hm
      · exact h _ hm
      · rw [List.mem_singleton.mp hm]
        exact g a List.mem_cons_self
end
def new1 (M : Mch) (k : Nat) (a b : Int) : List (Int × Int) := if ek M k a b = true ∧ ek M (k + 1) a b = false then [(a, b), (b, a)] else []
def newA (M : Mch) (k : Nat) (a : Int) : List (Int × Int) := (rngI a.toNat).flatMap (new1 M k a)
def newP (M : Mch) (k : Nat) : List (Int × Int) := (rngI M.items.length).flatMap (newA M k)
theorem ek_sym' {M : Mch} {k : Nat} {a b : Int} : ek M k a b = ek M k b a := by
  cases h : ek M k b a with
  | true => exact ek_symm h
  | false =>
    cases g : ek M k a b with
    | false => rfl
    | true => rw [ek_symm g] at h; cases h
theorem mem_newP {M : Mch} {k : Nat} {a b : Int} : (a, b) ∈ newP M k ↔ InR M a ∧ InR M b ∧ ek M k a b = true ∧ ek M (k + 1) a b = false := by
  unfold newP newA
  simp only [List.mem_flatMap]
  constructor
  · rintro ⟨x, hx, y, hy, h⟩
    have hx := mem_rngI.mp hx
    have hy := mem_rngI.mp hy
    unfold new1 at h
    split at h
    · rename_i q
      rcases List.mem_cons.mp h with h | h
      · cases h; exact ⟨hx, ⟨hy.1, by omega⟩, q⟩
      · have h := List.mem_singleton.mp h
        cases h
        rw [ek_sym', ek_sym' (k := k + 1)]
        exact ⟨⟨hy.1, by omega⟩, hx, q⟩
    · cases h
  · rintro ⟨ha, hb, h1, h2⟩
    have ne : a ≠ b := fun e => by rw [e, ek_refl] at h2; cases h2
    rcases Int.lt_or_gt_of_ne ne with q | q
    · refine ⟨b, mem_rngI.mpr hb, a, mem_rngI.mpr ⟨ha.1, by omega⟩, ?_⟩
      unfold new1
      rw [if_pos ⟨ek_symm h1, by rw [ek_sym']; exact h2⟩]
      simp
    · refine ⟨a, mem_rngI.mpr ha, b, mem_rngI.mpr ⟨hb.1, by omega⟩, ?_⟩
      unfold new1
      rw [if_pos ⟨h1, h2⟩]
      simp
structure ApI (M : Mch) (k : Nat) (ms : List ((Int × Int) × PyData)) : Prop where
  nd : (ms.map (·.1)).Nodup
  ks : ApK M k (ms.map (·.1))
  vl : ∀ m ∈ ms, ∃ r : Nat, m.2 = .int ((r : Int) + 1) ∧ ek M r m.1.1 m.1.2 = true ∧ ek M (r + 1) m.1.1 m.1.2 = false
theorem ApI.next {M : Mch} {k : Nat} {ms : List ((Int × Int) × PyData)} (h : ApI M k ms) : ApI M (k + 1) (putAll (.int ((k : Int) + 1)) ms (newP M k)) where
  nd := putAll_nd _ _ h.nd
  ks := fun a b => by
    rw [putAll_mem, h.ks, mem_newP]
    constructor
    · rintro (⟨h1, h2, h3⟩ | ⟨h1, h2, h3, h4⟩)
      · refine ⟨h1, h2, ?_⟩
        cases e : ek M (k + 1) a b with
        | false => rfl
        | true => rw [(ek_succ.mp e).1] at h3; cases h3
      · exact ⟨h1, h2, h4⟩
    · rintro ⟨h1, h2, h3⟩
      cases e : ek M k a b with
      | false => exact Or.inl ⟨h1, h2, rfl⟩
      | true => exact Or.inr ⟨h1, h2, rfl, h3⟩
  vl := putAll_val _ _ h.vl fun p hp => by
    obtain ⟨_, _, h3, h4⟩ := mem_newP.mp (show (p.1, p.2) ∈ newP M k from hp)
    exact ⟨k, rfl, h3, h4⟩
theorem ApI.len {M : Mch} {k : Nat} {ms : List ((Int × Int) × PyData)} (h : ApI M k ms) : ms.length ≤ (prs M).length := by
  have := nodup_le (ms.map (·.1)) (prs M) h.nd fun p hp => by
    obtain ⟨h1, h2, _⟩ := (h.ks p.1 p.2).mp hp
    exact mem_prs.mpr ⟨h1, h2⟩
  rwa [List.length_map] at this
theorem ApI.more {M : Mch} {k : Nat} {ms ms' : List ((Int × Int) × PyData)} (h : ApI M k ms) (h' : ApI M (k + 1) ms') : ms.length ≤ ms'.length ∧ (ms'.length = ms.length → Stab M k) := by
  have sub : ∀ p ∈ ms.map (·.1), p ∈ ms'.map (·.1) := fun p hp => by
    obtain ⟨h1, h2, h3⟩ := (h.ks p.1 p.2).mp hp
    refine (h'.ks p.1 p.2).mpr ⟨h1, h2, ?_⟩
    cases e : ek M (k + 1) p.1 p.2 with
    | false => rfl
    | true => rw [(ek_succ.mp e).1] at h3; cases h3
  have l1 := nodup_le _ _ h.nd sub
  rw [List.length_map, List.length_map] at l1
  refine ⟨l1, fun e x y hx hy e1 => ?_⟩
  cases e2 : ek M (k + 1) x y with
  | true => rfl
  | false =>
    exfalso
    have m1 := (h'.ks x y).mpr ⟨hx, hy, e2⟩
    have m2 : (x, y) ∉ ms.map (·.1) := fun z => by have := ((h.ks x y).mp z).2.2; rw [e1] at this; cases this
    have := nodup_le ((x, y) :: ms.map (·.1)) _ (List.nodup_cons.mpr ⟨m2, h.nd⟩) fun p hp => by
      rcases List.mem_cons.mp hp with rfl | hp
      · exact m1
      · exact sub p hp
    rw [List.length_cons, List.length_map, List.length_map] at this
    omega
end Sk
set_option Elab.async false
set_option linter.all false
set_option maxRecDepth 100000
set_option maxHeartbeats 4000000
namespace Sk
open PySem PySem.Spec PyProof.Rows L2
open PySem.W (Datum DatumOrd Tup T3 T4)
open Evl (Ex)
def FstD (vs : List (List Int)) (x y : Int) (k : Nat) (d : PyData) : Prop := ((∀ v ∈ vs, atO v x = atO v y) ∧ d = .none) ∨ ∃ i v, vs[i]? = some v ∧ atO v x ≠ atO v y ∧ (∀ j u, j < i → vs[j]? = some u → atO u x = atO u y) ∧ d = .int ((k + i : Nat) : Int)
def RoundIs (M : Mch) (x y : Int) (d : PyData) : Prop := (Bis M x y ∧ d = .none) ∨ ∃ r : Nat, d = .int r ∧ ek M r x y = false ∧ ∀ j, j < r → ek M j x y = true
end Sk
namespace Sk
open PySem PySem.Spec PyProof.Rows L2
open PySem.W (Datum DatumOrd Tup T3 T4)
open Evl (Ex)
structure GrI (M : Mch) (v : List Int) (c : Nat) (k : Nat) (gs : List (List Int)) : Prop where
  le : gs.length ≤ c
  hd : ∀ j g, gs[j]? = some g → ∃ a r, g = a :: r ∧ InR M a ∧ atO v a = (j : Nat)
  lo : ∀ y, InR M y → y < k → atO v y < gs.length
  sz : ∀ g ∈ gs, g.length ≤ k
end Sk
set_option Elab.async false
set_option linter.all false
set_option maxRecDepth 100000
set_option maxHeartbeats 4000000
namespace Sk
open PySem PySem.Spec PyProof.Rows L2
open PySem.W (Datum DatumOrd Tup T3 T4)
open Evl (Ex)
structure CtI (M : Mch) (found : List Int) (at0 : Nat) : Prop where
  nd : found.Nodup
  rc : ∀ x ∈ found, Reach M x
  z : (0 : Int) ∈ found
  cl : ∀ i, i < at0 → ∀ x, found[i]? = some x → ∀ p ∈ rowAt M x, p.2 ∈ found
end Sk
set_option Elab.async false
set_option linter.all false
set_option maxRecDepth 100000
set_option maxHeartbeats 4000000
namespace Sk
open PySem PySem.Spec PyProof.Rows L2
open PySem.W (Datum DatumOrd Tup T3 T4)
open Evl (Ex)
structure RowC (M : Mch) (found : List Int) (x : Int) (r : List (Str × Int)) : Prop where
  up : Rising r
  le : r.length ≤ 8
  out : ∀ p ∈ r, 0 ≤ p.2 ∧ p.2 < found.length ∧ (p.1, atO found p.2) ∈ rowAt M x
  inn : ∀ q ∈ rowAt M x, ∃ p ∈ r, p.1 = q.1 ∧ atO found p.2 = q.2
end Sk
set_option Elab.async false
set_option linter.all false
set_option maxRecDepth 100000
set_option maxHeartbeats 4000000
namespace Sk
open PySem PySem.Spec PyProof.Rows L2
open PySem.W (Datum DatumOrd Tup T3 T4)
open Evl (Ex)
theorem rowsLe_mono {a b : Nat} {M : Mch} (h : RowsLe a M) (hab : a ≤ b) : RowsLe b M := fun r hr => Nat.le_trans (h r hr) hab
theorem both_le {k : Nat} {A B : Mch} (ha : RowsLe k A) (hb : RowsLe k B) : RowsLe k (bothM A B) := fun r hr => by
  rcases List.mem_append.mp (show r ∈ A.items ++ B.items.map _ from hr) with h | h
  · exact ha r h
  · obtain ⟨r2, hr2, rfl⟩ := List.mem_map.mp h
    show (r2.items.map _).length ≤ k
    rw [List.length_map]
    exact hb r2 hr2
end Sk
set_option Elab.async false
set_option linter.all false
set_option maxRecDepth 100000
set_option maxHeartbeats 4000000
namespace Sk
open PySem PySem.Spec PyProof.Rows L2
open PySem.W (Datum DatumOrd Tup T3 T4)
open Evl (Ex)
end Sk
namespace Sk
open PySem PySem.Spec PyProof.Rows L2
open PySem.W (Datum DatumOrd Tup T3 T4)
open Evl (Ex)
end Sk
set_option Elab.async false
set_option linter.all false
set_option maxRecDepth 100000
set_option maxHeartbeats 4000000
namespace Sk
open PySem PySem.Spec PyProof.Rows L2
open PySem.W (Datum DatumOrd Tup T3 T4)
open Evl (Ex)
end Sk
namespace Sk
open PySem PySem.Spec PyProof.Rows L2
open PySem.W (Datum DatumOrd Tup T3 T4)
open Evl (Ex)
end Sk
set_option Elab.async false
set_option linter.all false
set_option maxRecDepth 100000
set_option maxHeartbeats 4000000
namespace Sk
open PySem PySem.Spec PyProof.Rows L2
open PySem.W (Datum DatumOrd Tup T3 T4)
open Evl (Ex)
end Sk
namespace Sk
open PySem PySem.Spec PyProof.Rows L2
open PySem.W (Datum DatumOrd Tup T3 T4)
open Evl (Ex)
end Sk
set_option Elab.async false
set_option linter.all false
set_option maxRecDepth 100000
set_option maxHeartbeats 4000000
namespace Sk
open PySem PySem.Spec PyProof.Rows L2
open PySem.W (Datum DatumOrd Tup T3 T4)
open Evl (Ex)
def Rds (M : Mch) (vs : List (List Int)) : Prop := ∃ (ws : List (List Int)) (v : List Int) (K c : Nat), vs = ws ++ [v] ∧ ws.length = K + 1 ∧ Num M (K + 1) c v ∧ Stab M K ∧ ∀ i u, ws[i]? = some u → ∃ c, Num M i c u
theorem Rds.len {M : Mch} {vs : List (List Int)} (h : Rds M vs) {u : List Int} (hu : u ∈ vs) : u.length = M.items.length := by
  obtain ⟨ws, v, K, c, rfl, lw, hv, st, hws⟩ := h
  rcases List.mem_append.mp hu with h | h
  · obtain ⟨i, hi, e⟩ := List.getElem_of_mem h
    obtain ⟨c, hc⟩ := hws i u (by rw [List.getElem?_eq_getElem hi, e])
    exact hc.len
  · rw [List.mem_singleton.mp h]; exact hv.len
theorem Rds.is {M : Mch} {vs : List (List Int)} (rng : Rng M) (h : Rds M vs) {x y : Int} (hx : InR M x) (hy : InR M y) {d : PyData} (hd : FstD vs x y 0 d) : RoundIs M x y d := by
  obtain ⟨ws, v, K, c, rfl, lw, hv, st, hws⟩ := h
  have at_ : ∀ i u, (ws ++ [v])[i]? = some u → (atO u x = atO u y ↔ ek M i x y = true) := fun i u hu => by
    by_cases hi : i < ws.length
    · rw [List.getElem?_append_left hi] at hu
      obtain ⟨c, hc⟩ := hws i u hu
      exact hc.eq x y hx hy
    · rw [List.getElem?_append_right (by omega)] at hu
      have : i = K + 1 := by
        apply Classical.byContradiction
        intro ne
        rw [List.getElem?_eq_none (by simp; omega)] at hu
        cases hu
      subst this
      rw [lw] at hu
      simp at hu
      subst hu
      exact hv.eq x y hx hy
  rcases hd with ⟨h1, h2⟩ | ⟨i, u, h1, h2, h3, h4⟩
  · refine Or.inl ⟨?_, h2⟩
    have := (hv.eq x y hx hy).mp (h1 v (by simp))
    exact ((st.succ rng).bis rng hx hy).mpr this
  · refine Or.inr ⟨i, by rw [h4, Nat.zero_add], ?_, fun j hj => ?_⟩
    · cases e : ek M i x y with
      | false => rfl
      | true => exact absurd ((at_ i u h1).mpr e) h2
    · have li := (List.getElem?_eq_some_iff.mp h1).1
      have hj2 : j < (ws ++ [v]).length := by omega
      exact (at_ j _ (List.getElem?_eq_getElem hj2)).mp (h3 j _ hj (List.getElem?_eq_getElem hj2))
section
variable {M : Mch} {x y : Int}
open Classical in
noncomputable def rndL (M : Mch) (x y : Int) : Nat := if h : ∃ r, ek M r x y = false ∧ ∀ j, j < r → ek M j x y = true then Classical.choose h else 0
theorem rndL_eq {r : Nat} (h1 : ek M r x y = false) (h2 : ∀ j, j < r → ek M j x y = true) : rndL M x y = r := by
  have h : ∃ r, ek M r x y = false ∧ ∀ j, j < r → ek M j x y = true := ⟨r, h1, h2⟩
  unfold rndL
  rw [dif_pos h]
  obtain ⟨c1, c2⟩ := Classical.choose_spec h
  generalize Classical.choose h = r' at c1 c2
  rcases Nat.lt_trichotomy r r' with l | e | l
  · rw [c2 r l] at h1; cases h1
  · exact e.symm
  · rw [h2 r' l] at c1; cases c1
theorem ek_least : ∀ k, ek M k x y = false → ∃ r, r ≤ k ∧ ek M r x y = false ∧ ∀ j, j < r → ek M j x y = true
  | 0, h => by cases h
  | k + 1, h => by
    cases e : ek M k x y with
    | false =>
      obtain ⟨r, a, b, c⟩ := ek_least k e
      exact ⟨r, by omega, b, c⟩
    | true => exact ⟨k + 1, Nat.le_refl _, h, fun j hj => ek_le (by omega) e⟩
theorem not_bis (h : ¬ Bis M x y) : ∃ k, ek M k x y = false := by
  apply Classical.byContradiction
  intro n
  refine h fun k => ?_
  cases e : ek M k x y with
  | true => rfl
  | false => exact absurd ⟨k, e⟩ n
theorem rndL_of {k : Nat} (h : ek M k x y = false) : ¬ Bis M x y ∧ rndL M x y ≤ k ∧ 1 ≤ rndL M x y ∧ ek M (rndL M x y) x y = false ∧ ∀ j, j < rndL M x y → ek M j x y = true := by
  obtain ⟨r, a, b, c⟩ := ek_least k h
  have e := rndL_eq b c
  refine ⟨fun z => (by rw [z k] at h; cases h), by omega, ?_, by rw [e]; exact b, by rw [e]; exact c⟩
  rw [e]
  cases r with
  | zero => cases b
  | succ r => omega
theorem rndL_sp (h : ¬ Bis M x y) : 1 ≤ rndL M x y ∧ ek M (rndL M x y) x y = false ∧ ∀ j, j < rndL M x y → ek M j x y = true := by
  obtain ⟨k, hk⟩ := not_bis h
  exact (rndL_of hk).2.2
theorem rndL_sym : rndL M x y = rndL M y x := by
  by_cases h : Bis M x y
  · have n : ∀ a b, Bis M a b → rndL M a b = 0 := fun a b h => by
      unfold rndL
      rw [dif_neg]
      rintro ⟨r, h1, _⟩
      rw [h r] at h1; cases h1
    rw [n _ _ h, n _ _ h.symm]
  · obtain ⟨_, h2, h3⟩ := rndL_sp h
    exact (rndL_eq (by rw [ek_sym']; exact h2) fun j hj => by rw [ek_sym']; exact h3 j hj).symm
theorem RoundIs.eq {d : PyData} (h : RoundIs M x y d) : (Bis M x y ∧ d = .none) ∨ (¬ Bis M x y ∧ d = .int (rndL M x y : Nat)) := by
  rcases h with h | ⟨r, h1, h2, h3⟩
  · exact Or.inl h
  · exact Or.inr ⟨(rndL_of h2).1, by rw [h1, rndL_eq h2 h3]⟩
def cand (M : Mch) (x y : Int) : List (Int × Str × Int) := ((rowAt M x).map fun p => (0, p.1, p.2)) ++ (rowAt M y).map fun p => (1, p.1, p.2)
def backs (M : Mch) (x y : Int) (c : Int × Str × Int) : List Int := gls M c.2.1 (if c.1 = 0 then y else x)
def candOk (M : Mch) (r : Nat) (x y : Int) (c : Int × Str × Int) : Bool := (backs M x y c).all fun o => !ek M r c.2.2 o
theorem cand_ex {r : Nat} (h1 : ek M r x y = true) (h2 : ek M (r + 1) x y = false) : ∃ c, (cand M x y).find? (candOk M r x y) = some c := by
  cases hf : (cand M x y).find? (candOk M r x y) with
  | some c => exact ⟨c, rfl⟩
  | none =>
    exfalso
    rw [List.find?_eq_none] at hf
    have s1 : simk (ek M r) M x y = true := simk_iff.mpr fun p hp => by
      have := hf (0, p.1, p.2) (List.mem_append.mpr (Or.inl (List.mem_map.mpr ⟨p, hp, rfl⟩)))
      unfold candOk backs at this
      simp only [List.all_eq_true, Bool.not_eq_true', if_true] at this
      apply Classical.byContradiction
      intro n
      refine this fun o ho => ?_
      cases e : ek M r p.2 o with
      | false => rfl
      | true => exact absurd ⟨(p.1, o), mem_gls.mp ho, rfl, e⟩ n
    have s2 : simk (ek M r) M y x = true := simk_iff.mpr fun p hp => by
      have := hf (1, p.1, p.2) (List.mem_append.mpr (Or.inr (List.mem_map.mpr ⟨p, hp, rfl⟩)))
      unfold candOk backs at this
      simp only [List.all_eq_true, Bool.not_eq_true', show ¬ ((1 : Int) = 0) by decide, if_false] at this
      apply Classical.byContradiction
      intro n
      refine this fun o ho => ?_
      cases e : ek M r p.2 o with
      | false => rfl
      | true => exact absurd ⟨(p.1, o), mem_gls.mp ho, rfl, e⟩ n
    rw [ek_succ.mpr ⟨h1, s1, s2⟩] at h2
    cases h2
noncomputable def rwOf (M : Mch) (p : Int × Int) : Int × Str × Int := ((cand M p.1 p.2).find? (candOk M (rndL M p.1 p.2 - 1) p.1 p.2)).getD (0, "", 0)
theorem rwOf_sp {p : Int × Int} (h : ¬ Bis M p.1 p.2) : (cand M p.1 p.2).find? (candOk M (rndL M p.1 p.2 - 1) p.1 p.2) = some (rwOf M p) ∧ rwOf M p ∈ cand M p.1 p.2 ∧ candOk M (rndL M p.1 p.2 - 1) p.1 p.2 (rwOf M p) = true := by
  obtain ⟨h1, h2, h3⟩ := rndL_sp h
  obtain ⟨c, hc⟩ := cand_ex (h3 (rndL M p.1 p.2 - 1) (by omega)) (by rw [show rndL M p.1 p.2 - 1 + 1 = rndL M p.1 p.2 by omega]; exact h2)
  have e : rwOf M p = c := by unfold rwOf; rw [hc]; rfl
  rw [e]
  exact ⟨hc, List.mem_of_find?_eq_some hc, List.find?_some hc⟩
def bkP (c : Int × Str × Int) (o : Int) : Int × Int := if c.1 = 0 then (c.2.2, o) else (o, c.2.2)
noncomputable def bk (M : Mch) (p : Int × Int) : List (Int × Int) := (backs M p.1 p.2 (rwOf M p)).map (bkP (rwOf M p))
inductive Tld (M : Mch) (root : Int × Int) : Int × Int → Prop where
  | base : Tld M root root
  | step {p q : Int × Int} (h : Tld M root p) (hq : q ∈ bk M p) : Tld M root q
open Classical in
end
section
variable {A B : Mch}
def PP (A B : Mch) (p : Int × Int) : Prop := InR A p.1 ∧ InR B (p.2 - A.items.length)
theorem PP.r1 {p : Int × Int} (h : PP A B p) : rowAt (bothM A B) p.1 = rowAt A p.1 := both_l h.1
theorem PP.r2 {p : Int × Int} (h : PP A B p) : rowAt (bothM A B) p.2 = (rowAt B (p.2 - A.items.length)).map fun q => (q.1, q.2 + (A.items.length : Int)) := by
  have := both_r (A := A) h.2
  rw [show p.2 - (A.items.length : Int) + A.items.length = p.2 by omega] at this
  exact this
theorem PP.in1 {p : Int × Int} (h : PP A B p) : InR (bothM A B) p.1 := by
  obtain ⟨⟨a, b⟩, _⟩ := h
  refine ⟨a, ?_⟩
  rw [both_len]
  omega
theorem PP.in2 {p : Int × Int} (h : PP A B p) : InR (bothM A B) p.2 := by
  obtain ⟨⟨a, b⟩, c, d⟩ := h
  refine ⟨by omega, ?_⟩
  rw [both_len]
  omega
theorem bk_good (ra : Rng A) (rb : Rng B) {p q : Int × Int} (h : PP A B p) (nb : ¬ Bis (bothM A B) p.1 p.2) (hq : q ∈ bk (bothM A B) p) : PP A B q ∧ ¬ Bis (bothM A B) q.1 q.2 ∧ rndL (bothM A B) q.1 q.2 < rndL (bothM A B) p.1 p.2 := by
  obtain ⟨_, h2, h3⟩ := rwOf_sp nb
  obtain ⟨r1, _⟩ := rndL_sp nb
  unfold bk at hq
  generalize rwOf (bothM A B) p = c at h2 h3 hq
  obtain ⟨o, ho, rfl⟩ := List.mem_map.mp hq
  have ek0 := List.all_eq_true.mp h3 o ho
  have ek0 : ek (bothM A B) (rndL (bothM A B) p.1 p.2 - 1) c.2.2 o = false := by simpa using ek0
  have ho := mem_gls.mp ho
  obtain ⟨nb2, le2, _⟩ := rndL_of ek0
  rcases List.mem_append.mp h2 with hc | hc
  · obtain ⟨m, hm, rfl⟩ := List.mem_map.mp hc
    have ho : (m.1, o) ∈ rowAt (bothM A B) p.2 := ho
    rw [h.r1] at hm
    rw [h.r2] at ho
    obtain ⟨m2, hm2, e⟩ := List.mem_map.mp ho
    have e : m2.2 + (A.items.length : Int) = o := congrArg Prod.snd e
    have i2 := rb _ _ hm2
    refine ⟨⟨ra _ _ hm, ?_⟩, nb2, ?_⟩
    · show InR B (o - A.items.length)
      rw [← e, Int.add_sub_cancel]
      exact i2
    · show rndL (bothM A B) m.2 o < _
      exact Nat.lt_of_le_of_lt le2 (by omega)
  · obtain ⟨m, hm, rfl⟩ := List.mem_map.mp hc
    have ho : (m.1, o) ∈ rowAt (bothM A B) p.1 := ho
    rw [h.r1] at ho
    rw [h.r2] at hm
    obtain ⟨m2, hm2, e⟩ := List.mem_map.mp hm
    have e : m2.2 + (A.items.length : Int) = m.2 := congrArg Prod.snd e
    have i2 := rb _ _ hm2
    refine ⟨⟨ra _ _ ho, ?_⟩, fun z => nb2 z.symm, ?_⟩
    · show InR B (m.2 - A.items.length)
      rw [← e, Int.add_sub_cancel]
      exact i2
    · show rndL (bothM A B) o m.2 < _
      rw [rndL_sym]
      exact Nat.lt_of_le_of_lt le2 (by omega)
theorem tld_good (ra : Rng A) (rb : Rng B) {root p : Int × Int} (h0 : PP A B root) (n0 : ¬ Bis (bothM A B) root.1 root.2) (h : Tld (bothM A B) root p) : PP A B p ∧ ¬ Bis (bothM A B) p.1 p.2 ∧ (p = root ∨ rndL (bothM A B) p.1 p.2 < rndL (bothM A B) root.1 root.2) := by
  induction h with
  | base => exact ⟨h0, n0, Or.inl rfl⟩
  | step h hq ih =>
    obtain ⟨a, b, c⟩ := ih
    obtain ⟨a2, b2, c2⟩ := bk_good ra rb a b hq
    refine ⟨a2, b2, Or.inr ?_⟩
    rcases c with rfl | c
    · exact c2
    · exact Nat.lt_trans c2 c
abbrev LR := Int × Int × Int × Str × Int
structure RowGood (A B : Mch) (ps : List (Int × Int)) (r : LR) : Prop where
  x : InR A r.1
  y : InR B r.2.1
  s : r.2.2.1 = 0 ∨ r.2.2.1 = 1
  m0 : r.2.2.1 = 0 → r.2.2.2 ∈ rowAt A r.1
  m1 : r.2.2.1 = 1 → r.2.2.2 ∈ rowAt B r.2.1
  nw : (r.1, r.2.1) ∉ ps
  b0 : r.2.2.1 = 0 → ∀ o, (r.2.2.2.1, o) ∈ rowAt B r.2.1 → (r.2.2.2.2, o) ∈ ps
  b1 : r.2.2.1 = 1 → ∀ o, (r.2.2.2.1, o) ∈ rowAt A r.1 → (o, r.2.2.2.2) ∈ ps
def LeadFrom (A B : Mch) : List (Int × Int) → List LR → Prop
  | _, [] => True
  | ps, r :: rs => RowGood A B ps r ∧ LeadFrom A B (ps ++ [(r.1, r.2.1)]) rs
structure LeadOk (A B : Mch) (rs : List LR) : Prop where
  from_ : LeadFrom A B [] rs
  last : ∃ pre r, rs = pre ++ [r] ∧ r.1 = 0 ∧ r.2.1 = 0
  len : rs.length ≤ A.items.length * B.items.length
end
end Sk
set_option Elab.async false
set_option linter.all false
set_option maxRecDepth 100000
set_option maxHeartbeats 4000000
namespace Sk
open PySem PySem.Spec PyProof.Rows L2
open PySem.W (Datum DatumOrd Tup T3 T4)
open Evl (Ex)
open Classical in
noncomputable def rdD (M : Mch) (x y : Int) : PyData := if Bis M x y then .none else .int (rndL M x y : Nat)
theorem RoundIs.rdD {M : Mch} {x y : Int} {d : PyData} (h : RoundIs M x y d) : d = rdD M x y := by
  unfold Sk.rdD
  rcases h.eq with ⟨b, e⟩ | ⟨b, e⟩
  · rw [if_pos b, e]
  · rw [if_neg b, e]
end Sk
set_option Elab.async false
set_option linter.all false
set_option maxRecDepth 100000
set_option maxHeartbeats 4000000
namespace Sk
open PySem PySem.Spec PyProof.Rows L2
open PySem.W (Datum DatumOrd Tup T3 T4)
open Evl (Ex)
def allPP (a b : Nat) : List (Int × Int) := (rngI a).flatMap fun x => (rngI b).map fun y => (x, y + (a : Int))
theorem PP.all {A B : Mch} {p : Int × Int} (h : PP A B p) : p ∈ allPP A.items.length B.items.length := by
  obtain ⟨h1, h2⟩ := h
  refine List.mem_flatMap.mpr ⟨p.1, mem_rngI.mpr h1, List.mem_map.mpr ⟨p.2 - A.items.length, mem_rngI.mpr h2, Prod.ext rfl ?_⟩⟩
  show p.2 - (A.items.length : Int) + A.items.length = p.2
  omega
def Few (A B : Mch) : Prop := A.items.length ≤ 40 ∧ B.items.length ≤ 40 ∨ Bis (bothM A B) 0 A.items.length ∨ ∃ L : List (Int × Int), L.length ≤ 1600 ∧ ∀ p, Tld (bothM A B) (0, A.items.length) p → p ∈ L
end Sk
set_option Elab.async false
set_option linter.all false
set_option maxRecDepth 100000
set_option maxHeartbeats 4000000
namespace Sk
open PySem PySem.Spec PyProof.Rows L2
open PySem.W (Datum DatumOrd Tup T3 T4)
open Evl (Ex)
@[simp] theorem at5_0 {a b c d e : PyData} : atI [a, b, c, d, e] 0 = some a := rfl
@[simp] theorem at5_1 {a b c d e : PyData} : atI [a, b, c, d, e] 1 = some b := rfl
@[simp] theorem at5_2 {a b c d e : PyData} : atI [a, b, c, d, e] 2 = some c := rfl
@[simp] theorem at5_3 {a b c d e : PyData} : atI [a, b, c, d, e] 3 = some d := rfl
@[simp] theorem at5_4 {a b c d e : PyData} : atI [a, b, c, d, e] 4 = some e := rfl
@[simp] theorem at2_0 {a b : PyData} : atI [a, b] 0 = some a := rfl
@[simp] theorem at2_1 {a b : PyData} : atI [a, b] 1 = some b := rfl
end Sk
set_option Elab.async false
set_option linter.all false
set_option maxRecDepth 100000
set_option maxHeartbeats 4000000
namespace Sk
open PySem PySem.Spec PyProof.Rows L2
open PySem.W (Datum DatumOrd Tup T3 T4)
open Evl (Ex)
end Sk
namespace Sk
open PySem PySem.Spec PyProof.Rows L2
open PySem.W (Datum DatumOrd Tup T3 T4)
open Evl (Ex)
structure PO (A B : Mch) : Prop where
  oa : MOk A
  ob : MOk B
  la : RowsLe 9 A
  lb : RowsLe 9 B
  na : A.items.length ≤ 40
  nb : B.items.length ≤ 40
theorem PO.symm {A B : Mch} (h : PO A B) : PO B A := ⟨h.ob, h.oa, h.lb, h.la, h.nb, h.na⟩
end Sk
set_option Elab.async false
set_option linter.all false
set_option maxRecDepth 100000
set_option maxHeartbeats 4000000
namespace Sk
open PySem PySem.Spec PyProof.Rows L2
open PySem.W (Datum DatumOrd Tup T3 T4)
open Evl (Ex)
end Sk
namespace Sk
open PySem PySem.Spec PyProof.Rows L2
open PySem.W (Datum DatumOrd Tup T3 T4)
open Evl (Ex)
theorem Rds.last {M : Mch} (rng : Rng M) {vs : List (List Int)} (h : Rds M vs) : ∃ (ws : List (List Int)) (v : List Int), vs = ws ++ [v] ∧ v.length = M.items.length ∧ ∀ x y, InR M x → InR M y → (atO v x = atO v y ↔ Bis M x y) := by
  obtain ⟨ws, v, K, c, e, lw, hv, st, hws⟩ := h
  exact ⟨ws, v, e, hv.len, fun x y hx hy => (hv.eq x y hx hy).trans ((st.succ rng).bis rng hx hy).symm⟩
structure Two (A B : Mch) : Prop where
  oa : MOk A
  ob : MOk B
  la : RowsLe 60 A
  lb : RowsLe 60 B
theorem Two.rng {A B : Mch} (h : Two A B) : Rng (bothM A B) := both_rng h.oa.rng h.ob.rng
theorem Two.le {A B : Mch} (h : Two A B) : RowsLe 60 (bothM A B) := both_le h.la h.lb
theorem Two.i0 {A B : Mch} (h : Two A B) : InR (bothM A B) 0 := ⟨Int.le_refl _, by have := h.oa.lo; rw [both_len]; omega⟩
theorem Two.i1 {A B : Mch} (h : Two A B) : InR (bothM A B) A.items.length := ⟨by omega, by have := h.ob.lo; rw [both_len]; omega⟩
end Sk
set_option Elab.async false
set_option linter.all false
set_option maxRecDepth 100000
set_option maxHeartbeats 4000000
namespace Sk
open PySem PySem.Spec PyProof.Rows L2
open PySem.W (Datum DatumOrd Tup T3 T4)
open Evl (Ex)
structure PaperOk (A B : Mch) (ks : List (Int × Int)) : Prop where
  up : Rising ks
  rg : ∀ p ∈ ks, InR A p.1 ∧ InR B p.2
  z : ((0 : Int), (0 : Int)) ∈ ks
  s0 : ∀ p ∈ ks, ∀ m ∈ rowAt A p.1, ∃ m' ∈ rowAt B p.2, m'.1 = m.1 ∧ (m.2, m'.2) ∈ ks
  s1 : ∀ p ∈ ks, ∀ m ∈ rowAt B p.2, ∃ m' ∈ rowAt A p.1, m'.1 = m.1 ∧ (m'.2, m.2) ∈ ks
end Sk
set_option Elab.async false
set_option linter.all false
set_option maxRecDepth 100000
set_option maxHeartbeats 4000000
namespace Sk
open PySem PySem.Spec PyProof.Rows L2
open PySem.W (Datum DatumOrd Tup T3 T4)
open Evl (Ex)
end Sk
namespace Sk
open PySem PySem.Spec PyProof.Rows L2
open PySem.W (Datum DatumOrd Tup T3 T4)
open Evl (Ex)
end Sk
set_option Elab.async false
set_option linter.all false
set_option maxRecDepth 100000
set_option maxHeartbeats 4000000
namespace Sk
open PySem PySem.Spec PyProof.Rows L2
open PySem.W (Datum DatumOrd Tup T3 T4)
open Evl (Ex)
theorem PO.two {A B : Mch} (po : PO A B) : Two A B := ⟨po.oa, po.ob, rowsLe_mono po.la (by decide), rowsLe_mono po.lb (by decide)⟩
end Sk
namespace Sk
open PySem PySem.Spec PyProof.Rows L2
open PySem.W (Datum DatumOrd Tup T3 T4)
open Evl (Ex)
def let8 : List Str := ["a", "b", "c", "d", "e", "f", "g", "h"]
def bitsL : Nat → List Str → List Str
  | _, [] => []
  | n, w :: ws => if n % 2 = 1 then w :: bitsL (n / 2) ws else bitsL (n / 2) ws
theorem bits_sub : ∀ (ws : List Str) (n : Nat), (bitsL n ws).Sublist ws
  | [], _ => by unfold bitsL; exact List.Sublist.slnil
  | w :: ws, n => by
    unfold bitsL
    split
    · exact (bits_sub ws _).cons₂ w
    · exact (bits_sub ws _).cons w
theorem bits_hd {w : Str} {ws : List Str} (h : w ∉ ws) (k : Nat) : w ∈ bitsL k (w :: ws) ↔ k % 2 = 1 := by
  have : w ∉ bitsL (k / 2) ws := fun z => h ((bits_sub ws _).subset z)
  show w ∈ (if k % 2 = 1 then w :: bitsL (k / 2) ws else bitsL (k / 2) ws) ↔ _
  by_cases c : k % 2 = 1
  · rw [if_pos c]; simp [c]
  · rw [if_neg c]; exact ⟨fun z => absurd z this, fun z => absurd z c⟩
theorem bits_tl {w u : Str} {ws : List Str} (h : u ≠ w) (k : Nat) : u ∈ bitsL k (w :: ws) ↔ u ∈ bitsL (k / 2) ws := by
  show u ∈ (if k % 2 = 1 then w :: bitsL (k / 2) ws else bitsL (k / 2) ws) ↔ _
  by_cases c : k % 2 = 1
  · rw [if_pos c, List.mem_cons]; exact ⟨fun z => z.resolve_left h, Or.inr⟩
  · rw [if_neg c]
theorem bits_inj : ∀ (ws : List Str), ws.Nodup → ∀ n n' : Nat, n < 2 ^ ws.length → n' < 2 ^ ws.length → (∀ w, w ∈ bitsL n ws ↔ w ∈ bitsL n' ws) → n = n'
  | [], _, n, n', h, h', _ => by simp at h h'; omega
  | w :: ws, nd, n, n', h, h', e => by
    have nd' := List.nodup_cons.mp nd
    have a := (bits_hd nd'.1 n).symm.trans ((e w).trans (bits_hd nd'.1 n'))
    rw [List.length_cons, Nat.pow_succ] at h h'
    have b := bits_inj ws nd'.2 (n / 2) (n' / 2) (by omega) (by omega) fun u => by
      by_cases hu : u = w
      · subst hu
        exact ⟨fun z => absurd ((bits_sub ws _).subset z) nd'.1, fun z => absurd ((bits_sub ws _).subset z) nd'.1⟩
      · rw [← bits_tl hu n, ← bits_tl hu n']; exact e u
    omega
def crow (m c : Nat) : List (Str × Nat) := if c = 0 then [("a", 257), ("b", 258)] else if c ≤ 256 then (bitsL (c - 1) let8).map fun w => (w, 1) else [("a", c - 255 + (if c = 257 then m else 0))]
def offN (c : Nat) : Nat := if c = 0 then 3 else if c ≤ 256 then c - 1 else 1
theorem crow_off {m c : Nat} : (crow m c).map (·.1) = bitsL (offN c) let8 := by
  unfold crow offN
  by_cases h0 : c = 0
  · rw [if_pos h0, if_pos h0]; decide
  · rw [if_neg h0, if_neg h0]
    by_cases h1 : c ≤ 256
    · rw [if_pos h1, if_pos h1, List.map_map]; exact List.map_id' _
    · rw [if_neg h1, if_neg h1]
      show [("a" : Str)] = _
      decide
theorem crow_lo {m c : Nat} (h0 : c ≠ 0) (h1 : c ≤ 256) {p : Str × Nat} (h : p ∈ crow m c) : p.2 = 1 := by
  unfold crow at h
  rw [if_neg h0, if_pos h1] at h
  obtain ⟨w, _, rfl⟩ := List.mem_map.mp h
  rfl
theorem crow_hi {m c : Nat} (h1 : 256 < c) : crow m c = [(("a" : Str), c - 255 + (if c = 257 then m else 0))] := by
  unfold crow
  rw [if_neg (by omega), if_neg (by omega)]
theorem crow_0 {m : Nat} : crow m 0 = [(("a" : Str), 257), ("b", 258)] := rfl
theorem off_lt {c : Nat} (h : c < 300) : offN c < 256 := by
  unfold offN
  split
  · omega
  · split <;> omega
theorem crow_tgt {m c : Nat} (h : c < 300) (hm : m ≤ 89) {p : Str × Nat} (hp : p ∈ crow m c) : p.2 < 300 ∧ p.2 ≠ 0 := by
  by_cases h0 : c = 0
  · subst h0
    rw [crow_0] at hp
    simp at hp
    rcases hp with rfl | rfl <;> exact ⟨by decide, by decide⟩
  · by_cases h1 : c ≤ 256
    · rw [crow_lo h0 h1 hp]; exact ⟨by decide, by decide⟩
    · rw [crow_hi (by omega), List.mem_singleton] at hp
      subst hp
      show (c - 255 + (if c = 257 then m else 0)) < 300 ∧ (c - 255 + (if c = 257 then m else 0)) ≠ 0
      split <;> omega
structure Wd (M : Mch) (m : Nat) (X : Nat → Int) : Prop where
  row : ∀ c, c < 300 → rowAt M (X c) = (crow m c).map fun p => (p.1, X p.2)
section
variable {M : Mch} {m m' : Nat} {X Y : Nat → Int}
theorem wd_half (hX : Wd M m X) (hY : Wd M m' Y) {k c c' : Nat} (hc : c < 300) (hc' : c' < 300) (h : simk (ek M k) M (X c) (Y c') = true) : ∀ p ∈ crow m c, ∃ q ∈ crow m' c', q.1 = p.1 ∧ ek M k (X p.2) (Y q.2) = true := fun p hp => by
  obtain ⟨q, hq, e, r⟩ := simk_iff.mp h (p.1, X p.2) (by rw [hX.row c hc]; exact List.mem_map.mpr ⟨p, hp, rfl⟩)
  rw [hY.row c' hc'] at hq
  obtain ⟨q', hq', rfl⟩ := List.mem_map.mp hq
  exact ⟨q', hq', e, r⟩
theorem wd_step (hX : Wd M m X) (hY : Wd M m' Y) {k c c' : Nat} (hc : c < 300) (hc' : c' < 300) (h : ek M (k + 1) (X c) (Y c') = true) : (∀ p ∈ crow m c, ∃ q ∈ crow m' c', q.1 = p.1 ∧ ek M k (X p.2) (Y q.2) = true) ∧ ∀ q ∈ crow m' c', ∃ p ∈ crow m c, p.1 = q.1 ∧ ek M k (X p.2) (Y q.2) = true := by
  obtain ⟨_, s1, s2⟩ := ek_succ.mp h
  refine ⟨wd_half hX hY hc hc' s1, fun q hq => ?_⟩
  obtain ⟨p, hp, e, r⟩ := wd_half hY hX hc' hc s2 q hq
  exact ⟨p, hp, e, ek_symm r⟩
theorem wd_off (hX : Wd M m X) (hY : Wd M m' Y) {c c' : Nat} (hc : c < 300) (hc' : c' < 300) (h : ek M 1 (X c) (Y c') = true) : offN c = offN c' := by
  obtain ⟨s1, s2⟩ := wd_step hX hY hc hc' h
  refine bits_inj let8 (by decide) _ _ (off_lt hc) (off_lt hc') fun w => ?_
  rw [← crow_off (m := m), ← crow_off (m := m')]
  constructor
  · intro hw
    obtain ⟨p, hp, rfl⟩ := List.mem_map.mp hw
    obtain ⟨q, hq, e, _⟩ := s1 p hp
    exact List.mem_map.mpr ⟨q, hq, e⟩
  · intro hw
    obtain ⟨p, hp, rfl⟩ := List.mem_map.mp hw
    obtain ⟨q, hq, e, _⟩ := s2 p hp
    exact List.mem_map.mpr ⟨q, hq, e⟩
theorem wd_dist (hX : Wd M m X) (hY : Wd M m Y) (hm : m = 0 ∨ 50 ≤ m ∧ m ≤ 89) {c c' : Nat} (hc : c < 300) (hc' : c' < 300) (h : ek M 2 (X c) (Y c') = true) : c = c' := by
  have hm89 : m ≤ 89 := by omega
  have o := wd_off hX hY hc hc' (ek_le (by decide) h)
  obtain ⟨s1, s2⟩ := wd_step hX hY hc hc' h
  have o1 : ∀ p ∈ crow m c, ∃ q ∈ crow m c', q.1 = p.1 ∧ offN p.2 = offN q.2 := fun p hp => by
    obtain ⟨q, hq, e, r⟩ := s1 p hp
    exact ⟨q, hq, e, wd_off hX hY (crow_tgt hc hm89 hp).1 (crow_tgt hc' hm89 hq).1 r⟩
  have o2 : ∀ q ∈ crow m c', ∃ p ∈ crow m c, p.1 = q.1 ∧ offN p.2 = offN q.2 := fun q hq => by
    obtain ⟨p, hp, e, r⟩ := s2 q hq
    exact ⟨p, hp, e, wd_off hX hY (crow_tgt hc hm89 hp).1 (crow_tgt hc' hm89 hq).1 r⟩
  clear s1 s2 h
  have v0 : offN 0 = 3 := rfl
  have v1 : offN 1 = 0 := rfl
  have vlo : ∀ d, d ≠ 0 → d ≤ 256 → offN d = d - 1 := fun d h0 h1 => by unfold offN; rw [if_neg h0, if_pos h1]
  have vhi : ∀ d, 256 < d → offN d = 1 := fun d h1 => by unfold offN; rw [if_neg (by omega), if_neg (by omega)]
  have tg : ∀ d, 256 < d → d < 300 → offN (d - 255 + (if d = 257 then m else 0)) = d - 256 + (if d = 257 then m else 0) := fun d h1 h2 => by
    rw [vlo _ (by omega) (by split <;> omega)]
    omega
  have key : ∀ d d' : Nat, d < 300 → d' < 300 → offN d = offN d' → (∀ p ∈ crow m d, ∃ q ∈ crow m d', q.1 = p.1 ∧ offN p.2 = offN q.2) → (∀ q ∈ crow m d', ∃ p ∈ crow m d, p.1 = q.1 ∧ offN p.2 = offN q.2) → ¬ d < d' := fun d d' hd hd' o o1 o2 lt => by
    by_cases h0 : d = 0
    · subst h0
      by_cases h1 : d' ≤ 256
      · obtain ⟨q, hq, _, e⟩ := o1 ("a", 257) (by rw [crow_0]; simp)
        rw [crow_lo (by omega) h1 hq] at e
        exact absurd e (by decide)
      · rw [v0, vhi d' (by omega)] at o
        cases o
    · by_cases h1 : d' ≤ 256
      · rw [vlo d h0 (by omega), vlo d' (by omega) h1] at o
        omega
      · have h1 : 256 < d' := by omega
        obtain ⟨p, hp, _, e⟩ := o2 ("a", d' - 255 + (if d' = 257 then m else 0)) (by rw [crow_hi h1]; exact List.mem_singleton.mpr rfl)
        have e : offN p.2 = offN (d' - 255 + (if d' = 257 then m else 0)) := e
        rw [tg d' h1 hd'] at e
        by_cases h2 : d ≤ 256
        · rw [crow_lo h0 h2 hp, v1] at e
          omega
        · have h2 : 256 < d := by omega
          rw [crow_hi h2, List.mem_singleton] at hp
          subst hp
          have e : offN (d - 255 + (if d = 257 then m else 0)) = _ := e
          rw [tg d h2 hd] at e
          split at e <;> split at e <;> omega
  have k1 := key c c' hc hc' o o1 o2
  have k2 := key c' c hc' hc o.symm (fun p hp => by obtain ⟨q, a, b, c⟩ := o2 p hp; exact ⟨q, a, b, c.symm⟩) fun p hp => by obtain ⟨q, a, b, c⟩ := o1 p hp; exact ⟨q, a, b, c.symm⟩
  omega
theorem wd_same (hX : Wd M m X) (hY : Wd M m' Y) (hm : m ≤ 89) {S : Nat → Prop} (hS : ∀ c, S c → c < 300 ∧ crow m c = crow m' c ∧ ∀ p ∈ crow m c, S p.2) : ∀ (k : Nat) {c : Nat}, S c → ek M k (X c) (Y c) = true
  | 0, _, _ => rfl
  | k + 1, c, h => by
    obtain ⟨h1, h2, h3⟩ := hS c h
    refine ek_succ.mpr ⟨wd_same hX hY hm hS k h, simk_iff.mpr fun p hp => ?_, simk_iff.mpr fun p hp => ?_⟩
    · rw [hX.row c h1] at hp
      obtain ⟨q, hq, rfl⟩ := List.mem_map.mp hp
      exact ⟨(q.1, Y q.2), by rw [hY.row c h1, ← h2]; exact List.mem_map.mpr ⟨q, hq, rfl⟩, rfl, wd_same hX hY hm hS k (h3 q hq)⟩
    · rw [hY.row c h1, ← h2] at hp
      obtain ⟨q, hq, rfl⟩ := List.mem_map.mp hp
      exact ⟨(q.1, X q.2), by rw [hX.row c h1]; exact List.mem_map.mpr ⟨q, hq, rfl⟩, rfl, ek_symm (wd_same hX hY hm hS k (h3 q hq))⟩
theorem wd_bis (hX : Wd M m X) (hY : Wd M m Y) (hm : m = 0 ∨ 50 ≤ m ∧ m ≤ 89) {c c' : Nat} (hc : c < 300) (hc' : c' < 300) : Bis M (X c) (Y c') ↔ c = c' := by
  constructor
  · intro h; exact wd_dist hX hY hm hc hc' (h 2)
  · rintro rfl k
    exact wd_same hX hY (by omega) (S := fun c => c < 300) (fun c h => ⟨h, rfl, fun p hp => (crow_tgt h (by omega) hp).1⟩) k hc
theorem wd_root (hX : Wd M m X) (hY : Wd M m' Y) (hm : m ≤ 89) (hm' : m' ≤ 89) (ne : m ≠ m') : ¬ Bis M (X 0) (Y 0) ∧ rndL M (X 0) (Y 0) = 3 := by
  have f3 : ek M 3 (X 0) (Y 0) = false := by
    cases h : ek M 3 (X 0) (Y 0) with
    | false => rfl
    | true =>
      obtain ⟨s1, _⟩ := wd_step hX hY (by decide) (by decide) h
      obtain ⟨q, hq, e, r⟩ := s1 ("a", 257) (by rw [crow_0]; simp)
      rw [crow_0] at hq
      simp at hq
      rcases hq with rfl | rfl
      · obtain ⟨s1, _⟩ := wd_step hX hY (by decide) (by decide) r
        obtain ⟨q, hq, e, r⟩ := s1 _ (by rw [crow_hi (by decide)]; exact List.mem_singleton.mpr rfl)
        rw [crow_hi (by decide), List.mem_singleton] at hq
        subst hq
        have o : offN (2 + m) = offN (2 + m') := wd_off hX hY (by omega) (by omega) r
        unfold offN at o
        rw [if_neg (by omega), if_pos (by omega), if_neg (by omega), if_pos (by omega)] at o
        omega
      · exact absurd e (by decide)
  have one : ∀ c, (crow m c).map (·.1) = (crow m' c).map (·.1) := fun c => by rw [crow_off, crow_off]
  have t1 : ∀ c, c < 300 → ek M 1 (X c) (Y c) = true := fun c hc => by
    refine ek_succ.mpr ⟨rfl, simk_iff.mpr fun p hp => ?_, simk_iff.mpr fun p hp => ?_⟩
    · rw [hX.row c hc] at hp
      obtain ⟨q, hq, rfl⟩ := List.mem_map.mp hp
      have : q.1 ∈ (crow m' c).map (·.1) := by rw [← one]; exact List.mem_map.mpr ⟨q, hq, rfl⟩
      obtain ⟨q', hq', e⟩ := List.mem_map.mp this
      exact ⟨(q'.1, Y q'.2), by rw [hY.row c hc]; exact List.mem_map.mpr ⟨q', hq', rfl⟩, e, rfl⟩
    · rw [hY.row c hc] at hp
      obtain ⟨q, hq, rfl⟩ := List.mem_map.mp hp
      have : q.1 ∈ (crow m c).map (·.1) := by rw [one]; exact List.mem_map.mpr ⟨q, hq, rfl⟩
      obtain ⟨q', hq', e⟩ := List.mem_map.mp this
      exact ⟨(q'.1, X q'.2), by rw [hX.row c hc]; exact List.mem_map.mpr ⟨q', hq', rfl⟩, e, rfl⟩
  have t2 : ek M 2 (X 0) (Y 0) = true := by
    have i0 : (0 : Nat) < 300 := by decide
    refine ek_succ.mpr ⟨t1 0 i0, simk_iff.mpr fun p hp => ?_, simk_iff.mpr fun p hp => ?_⟩
    · rw [hX.row 0 i0] at hp
      obtain ⟨q, hq, rfl⟩ := List.mem_map.mp hp
      exact ⟨(q.1, Y q.2), by rw [hY.row 0 i0]; exact List.mem_map.mpr ⟨q, hq, rfl⟩, rfl, t1 _ (crow_tgt i0 hm hq).1⟩
    · rw [hY.row 0 i0] at hp
      obtain ⟨q, hq, rfl⟩ := List.mem_map.mp hp
      exact ⟨(q.1, X q.2), by rw [hX.row 0 i0]; exact List.mem_map.mpr ⟨q, hq, rfl⟩, rfl, ek_symm (t1 _ (crow_tgt i0 hm hq).1)⟩
  refine ⟨fun b => ?_, rndL_eq f3 fun j hj => ek_le (by omega) t2⟩
  rw [b 3] at f3
  cases f3
theorem bk_succ {p q : Int × Int} (nb : ¬ Bis M p.1 p.2) (hq : q ∈ bk M p) : ∃ w, (w, q.1) ∈ rowAt M p.1 ∧ (w, q.2) ∈ rowAt M p.2 := by
  obtain ⟨_, h2, h3⟩ := rwOf_sp nb
  unfold bk at hq
  generalize rwOf M p = c at h2 h3 hq
  obtain ⟨o, ho, rfl⟩ := List.mem_map.mp hq
  have ho := mem_gls.mp ho
  rcases List.mem_append.mp h2 with hc | hc
  · obtain ⟨u, hu, rfl⟩ := List.mem_map.mp hc
    exact ⟨u.1, hu, ho⟩
  · obtain ⟨u, hu, rfl⟩ := List.mem_map.mp hc
    exact ⟨u.1, ho, hu⟩
def wdP (m m' : Nat) : List (Nat × Nat) := [(0, 0), (257, 257), (258, 258), (2 + m, 2 + m'), (3, 3), (1, 1)]
theorem wdP_step (hm : m ≤ 89) (hm' : m' ≤ 89) {c c' : Nat} (h : (c, c') ∈ wdP m m') {p q : Str × Nat} (hp : p ∈ crow m c) (hq : q ∈ crow m' c') (e : p.1 = q.1) : (p.2, q.2) ∈ wdP m m' := by
  have lo : ∀ d d' : Nat, (c, c') = (d, d') → d ≠ 0 → d ≤ 256 → d' ≠ 0 → d' ≤ 256 → (p.2, q.2) ∈ wdP m m' := fun d d' e a b a' b' => by
    obtain ⟨rfl, rfl⟩ := Prod.mk.inj e
    rw [crow_lo a b hp, crow_lo a' b' hq]
    simp [wdP]
  unfold wdP at h
  rcases List.mem_cons.mp h with h | h
  · obtain ⟨rfl, rfl⟩ := Prod.mk.inj h
    rw [crow_0] at hp hq
    simp at hp hq
    rcases hp with rfl | rfl <;> rcases hq with rfl | rfl
    · simp [wdP]
    · exact absurd e (by decide)
    · exact absurd e (by decide)
    · simp [wdP]
  rcases List.mem_cons.mp h with h | h
  · obtain ⟨rfl, rfl⟩ := Prod.mk.inj h
    rw [crow_hi (by decide), List.mem_singleton] at hp hq
    subst hp hq
    simp [wdP]
  rcases List.mem_cons.mp h with h | h
  · obtain ⟨rfl, rfl⟩ := Prod.mk.inj h
    rw [crow_hi (by decide), List.mem_singleton] at hp hq
    subst hp hq
    simp [wdP]
  rcases List.mem_cons.mp h with h | h
  · exact lo _ _ h (by omega) (by omega) (by omega) (by omega)
  rcases List.mem_cons.mp h with h | h
  · exact lo _ _ h (by decide) (by decide) (by decide) (by decide)
  · exact lo _ _ (List.mem_singleton.mp h) (by decide) (by decide) (by decide) (by decide)
theorem wdP_lt (hm : m ≤ 89) (hm' : m' ≤ 89) {c c' : Nat} (h : (c, c') ∈ wdP m m') : c < 300 ∧ c' < 300 := by
  simp [wdP] at h
  omega
end
end Sk
set_option Elab.async false
set_option linter.all false
set_option maxRecDepth 100000
set_option maxHeartbeats 4000000
namespace Sk
open PySem PySem.Spec PyProof.Rows L2
open PySem.W (Datum DatumOrd Tup T3 T4)
open Evl (Ex)
def plc (t c : Nat) : Nat := if c = 0 then 0 else 1 + (c - 1 + t) % 299
theorem plc_lt {t c : Nat} : plc t c < 300 := by
  unfold plc
  split <;> omega
theorem plc_sur {t y : Nat} (h : y < 300) : ∃ c, c < 300 ∧ plc t c = y := by
  by_cases h0 : y = 0
  · exact ⟨0, by decide, by rw [h0]; rfl⟩
  · refine ⟨1 + (y - 1 + (299 - t % 299)) % 299, by omega, ?_⟩
    unfold plc
    rw [if_neg (by omega)]
    omega
structure Wide (t m : Nat) (M : Mch) : Prop where
  len : M.items.length = 300
  row : ∀ c, c < 300 → M.items[plc t c]? = some ⟨(crow m c).map fun p => (p.1, ((plc t p.2 : Nat) : Int))⟩
theorem map_up {ws : List Str} (h : Rising ws) (x : Int) : Rising (ws.map fun w => ((w, x) : Str × Int)) := by
  refine List.pairwise_map.mpr (h.imp fun {a b} hab => ?_)
  show (if a = b then decide (x < x) else DatumOrd.lt a b) = true
  rw [if_neg (fun e => by rw [e, lt_irr] at hab; cases hab)]
  exact hab
theorem let8_up : Rising let8 := by unfold Rising let8; decide +kernel
theorem let8_word : ∀ w ∈ let8, isWordS w = true := by decide +kernel
theorem crow_ok {t m c : Nat} (hc : c < 300) (hm : m ≤ 89) : (∀ p ∈ (crow m c).map fun p => ((p.1, ((plc t p.2 : Nat) : Int)) : Str × Int), VM 300 let8 p) ∧ Rising ((crow m c).map fun p => ((p.1, ((plc t p.2 : Nat) : Int)) : Str × Int)) ∧ ((crow m c).map fun p => ((p.1, ((plc t p.2 : Nat) : Int)) : Str × Int)).length ≤ 9 := by
  have sub : ∀ w ∈ (crow m c).map (·.1), w ∈ let8 := fun w h => by rw [crow_off] at h; exact (bits_sub _ _).subset h
  refine ⟨fun p hp => ?_, ?_, ?_⟩
  · obtain ⟨q, hq, rfl⟩ := List.mem_map.mp hp
    have := plc_lt (t := t) (c := q.2)
    exact ⟨by show (0 : Int) ≤ ((plc t q.2 : Nat) : Int); omega, by show ((plc t q.2 : Nat) : Int) < 300; omega, Or.inl (sub _ (List.mem_map.mpr ⟨q, hq, rfl⟩))⟩
  · by_cases h0 : c = 0
    · subst h0
      rw [crow_0]
      refine List.pairwise_cons.mpr ⟨fun b hb => ?_, List.pairwise_singleton _ _⟩
      have hb : b ∈ [((("b" : Str), ((plc t 258 : Nat) : Int)) : Str × Int)] := hb
      rw [List.mem_singleton] at hb
      subst hb
      rfl
    · by_cases h1 : c ≤ 256
      · unfold crow
        rw [if_neg h0, if_pos h1, List.map_map]
        exact map_up (ws := bitsL (c - 1) let8) (let8_up.sublist (bits_sub _ _)) ((plc t 1 : Nat) : Int)
      · rw [crow_hi (by omega)]
        exact List.pairwise_singleton _ _
  · have := congrArg List.length (crow_off (m := m) (c := c))
    rw [List.length_map] at this
    rw [List.length_map, this]
    have := (bits_sub let8 (offN c)).length_le
    have e : let8.length = 8 := rfl
    omega
theorem Wide.ok {t m : Nat} {M : Mch} (h : Wide t m M) (hm : m ≤ 89) : MOk M ∧ RowsLe 60 M := by
  have row : ∀ r ∈ M.items, (∀ p ∈ r.items, VM 300 let8 p) ∧ Rising r.items ∧ r.items.length ≤ 9 := fun r hr => by
    obtain ⟨i, hi, e⟩ := List.getElem_of_mem hr
    obtain ⟨c, hc, e2⟩ := plc_sur (t := t) (y := i) (by rw [← h.len]; exact hi)
    have := h.row c hc
    rw [e2, List.getElem?_eq_getElem hi, e] at this
    have this := Option.some.inj this
    subst this
    exact crow_ok hc hm
  have len := h.len
  exact ⟨mok_of' (found := M.items) (many := 300) (ws := let8) (k := 9) (by decide) (by omega) (by omega) (by omega) (by decide) let8_word row, fun r hr => Nat.le_trans (row r hr).2.2 (by decide)⟩
theorem Wide.at_ {t m : Nat} {M : Mch} (h : Wide t m M) {c : Nat} (hc : c < 300) : rowAt M ((plc t c : Nat) : Int) = (crow m c).map fun p => (p.1, ((plc t p.2 : Nat) : Int)) := by
  unfold rowAt
  rw [Int.toNat_natCast, h.row c hc]
theorem Wide.inr {t m : Nat} {M : Mch} (h : Wide t m M) {c : Nat} : InR M ((plc t c : Nat) : Int) := by
  have := plc_lt (t := t) (c := c)
  have len := h.len
  exact ⟨by omega, by omega⟩
section
variable {t t' m m' : Nat} {A B : Mch}
theorem Wide.wd1 (a : Wide t m A) : Wd (bothM A B) m fun c => ((plc t c : Nat) : Int) := ⟨fun c hc => by rw [both_l a.inr, a.at_ hc]⟩
theorem Wide.wd2 (a : Wide t m A) (b : Wide t' m' B) : Wd (bothM A B) m' fun c => ((plc t' c : Nat) : Int) + A.items.length := ⟨fun c hc => by rw [both_r b.inr, b.at_ hc, List.map_map]; rfl⟩
theorem Wide.two (a : Wide t m A) (b : Wide t' m' B) (hm : m ≤ 89) (hm' : m' ≤ 89) : Two A B := ⟨(a.ok hm).1, (b.ok hm').1, (a.ok hm).2, (b.ok hm').2⟩
theorem Wide.bis (a : Wide t m A) (b : Wide t' m B) (hm : m = 0 ∨ 50 ≤ m ∧ m ≤ 89) : Bis (bothM A B) 0 A.items.length := by
  have := (wd_bis a.wd1 (a.wd2 b) hm (c := 0) (c' := 0) (by decide) (by decide)).mpr rfl
  have e : ((plc t' 0 : Nat) : Int) + A.items.length = A.items.length := by
    show ((0 : Nat) : Int) + _ = _
    omega
  rw [e] at this
  exact this
theorem Wide.far (a : Wide t m A) (b : Wide t' m' B) (hm : m ≤ 89) (hm' : m' ≤ 89) (ne : m ≠ m') : ¬ Bis (bothM A B) 0 A.items.length ∧ rdD (bothM A B) 0 A.items.length = .int 3 := by
  have r := wd_root a.wd1 (a.wd2 b) hm hm' ne
  have e : ((plc t' 0 : Nat) : Int) + A.items.length = A.items.length := by
    show ((0 : Nat) : Int) + _ = _
    omega
  rw [e] at r
  have r : ¬ Bis (bothM A B) 0 A.items.length ∧ rndL (bothM A B) 0 A.items.length = 3 := r
  refine ⟨r.1, ?_⟩
  unfold rdD
  rw [if_neg r.1, r.2]
  rfl
theorem Wide.few (a : Wide t m A) (b : Wide t' m' B) (hm : m ≤ 89) (hm' : m' ≤ 89) (ne : m ≠ m') : Few A B := by
  have two := a.two b hm hm'
  have nb := (a.far b hm hm' ne).1
  have la := a.len
  have lb := b.len
  have ra := two.oa.rng
  have rb := two.ob.rng
  have h0 : PP A B (0, (A.items.length : Int)) := ⟨⟨Int.le_refl _, by show (0 : Int) < _; omega⟩, ⟨by show (0 : Int) ≤ (A.items.length : Int) - A.items.length; omega, by show (A.items.length : Int) - A.items.length < _; omega⟩⟩
  refine Or.inr (Or.inr ⟨(wdP m m').map fun c => (((plc t c.1 : Nat) : Int), ((plc t' c.2 : Nat) : Int) + A.items.length), by simp [wdP], fun p hp => ?_⟩)
  induction hp with
  | base =>
    refine List.mem_map.mpr ⟨(0, 0), by simp [wdP], ?_⟩
    show (((0 : Nat) : Int), ((0 : Nat) : Int) + _) = _
    exact Prod.ext rfl (by show ((0 : Nat) : Int) + (A.items.length : Int) = _; omega)
  | step h hq ih =>
    obtain ⟨c, hc, rfl⟩ := List.mem_map.mp ih
    obtain ⟨_, nb2, _⟩ := tld_good ra rb h0 nb h
    obtain ⟨w, h1, h2⟩ := bk_succ nb2 hq
    obtain ⟨l1, l2⟩ := wdP_lt hm hm' (c := c.1) (c' := c.2) hc
    have r1 := a.wd1.row (M := bothM A B) c.1 l1
    have r2 := (a.wd2 b).row c.2 l2
    have h1 := (show _ ∈ rowAt (bothM A B) ((plc t c.1 : Nat) : Int) from h1)
    rw [r1] at h1
    rw [r2] at h2
    obtain ⟨p1, hp1, e1⟩ := List.mem_map.mp h1
    obtain ⟨p2, hp2, e2⟩ := List.mem_map.mp h2
    have f1 := Prod.mk.inj e1
    have f2 := Prod.mk.inj e2
    exact List.mem_map.mpr ⟨(p1.2, p2.2), wdP_step hm hm' (c := c.1) (c' := c.2) hc hp1 hp2 (f1.1.trans f2.1.symm), Prod.ext f1.2 f2.2⟩
end
end Sk
set_option Elab.async false
set_option linter.all false
set_option maxRecDepth 100000
set_option maxHeartbeats 4000000
namespace Sk
open PySem PySem.Spec PyProof.Rows L2
open PySem.W (Datum DatumOrd Tup T3 T4)
open Evl (Ex)
end Sk
namespace Sk
open PySem PySem.Spec PyProof.Rows L2
open PySem.W (Datum DatumOrd Tup T3 T4)
open Evl (Ex)
end Sk
set_option Elab.async false
set_option linter.all false
set_option maxRecDepth 100000
set_option maxHeartbeats 4000000
namespace Sk
open PySem PySem.Spec PyProof.Rows L2
open PySem.W (Datum DatumOrd Tup T3 T4)
open Evl (Ex)
end Sk
namespace Sk
open PySem PySem.Spec PyProof.Rows L2
open PySem.W (Datum DatumOrd Tup T3 T4)
open Evl (Ex)
end Sk
set_option Elab.async false
set_option linter.all false
set_option maxRecDepth 100000
set_option maxHeartbeats 4000000
namespace Sk
open PySem PySem.Spec PyProof.Rows L2
open PySem.W (Datum DatumOrd Tup T3 T4)
open Evl (Ex)
end Sk
namespace Sk
open PySem PySem.Spec PyProof.Rows L2
open PySem.W (Datum DatumOrd Tup T3 T4)
open Evl (Ex)
abbrev RP := Tup Str × Int
def nxR (M : Mch) (many : Nat) (p : RP) : List RP := (rowAt M p.2).filterMap fun m => if m.1 = ("" : Str) then some (p.1, m.2) else if p.1.items.length < many then some (⟨p.1.items ++ [m.1]⟩, m.2) else none
theorem mem_nxR {M : Mch} {many : Nat} {p q : RP} : q ∈ nxR M many p ↔ (q.1 = p.1 ∧ q.2 ∈ hid M p.2) ∨ (p.1.items.length < many ∧ ∃ w, w ≠ ("" : Str) ∧ q.1.items = p.1.items ++ [w] ∧ (w, q.2) ∈ rowAt M p.2) := by
  unfold nxR
  rw [List.mem_filterMap]
  constructor
  · rintro ⟨m, hm, h⟩
    by_cases e : m.1 = ("" : Str)
    · rw [if_pos e] at h
      cases h
      exact Or.inl ⟨rfl, mem_hid.mpr (by rw [← e]; exact hm)⟩
    · rw [if_neg e] at h
      by_cases l : p.1.items.length < many
      · rw [if_pos l] at h
        cases h
        exact Or.inr ⟨l, m.1, e, rfl, hm⟩
      · rw [if_neg l] at h; cases h
  · obtain ⟨⟨r⟩, g⟩ := q
    rintro (⟨e, h⟩ | ⟨l, w, hw, e, h⟩)
    · have e : (⟨r⟩ : Tup Str) = p.1 := e
      exact ⟨("", g), mem_hid.mp h, by rw [if_pos rfl, e]⟩
    · have e : r = p.1.items ++ [w] := e
      exact ⟨(w, g), h, by rw [if_neg hw, if_pos l, e]⟩
def RB (p : RP) : Prop := p = (⟨[]⟩, 0)
theorem nxR_fwd {M : Mch} {many : Nat} (ok : MOk M) {p : RP} (h : Rch RB (nxR M many) p) : p.1.items.length ≤ many ∧ IsRow p.1.items ∧ behP M p.1.items p.2 := by
  induction h with
  | base h =>
    rw [show _ = _ from h]
    exact ⟨Nat.zero_le _, (fun w hw => absurd hw List.not_mem_nil), .base rfl⟩
  | step _ hy ih =>
    rename_i x y _
    obtain ⟨i1, i2, i3⟩ := ih
    rcases mem_nxR.mp hy with ⟨e, h⟩ | ⟨l, w, hw, e, h⟩
    · rw [e]
      exact ⟨i1, i2, behP_clo _ i3 h⟩
    · rw [e]
      refine ⟨by rw [List.length_append, List.length_singleton]; omega, fun v hv => ?_, ?_⟩
      · rcases List.mem_append.mp hv with hv | hv
        · exact i2 v hv
        · rw [List.mem_singleton.mp hv]; exact (rowAt_mv ok h).2.2.resolve_right hw
      · rw [behP_one]
        exact .base ⟨_, i3, h⟩
theorem nxR_bwd {M : Mch} {many : Nat} (ok : MOk M) : ∀ (k : Nat) (r : List Str) (x : Int), r.length = k → k ≤ many → IsRow r → behP M r x → Rch RB (nxR M many) (⟨r⟩, x)
  | 0, r, x, e, _, _, h => by
    have : r = [] := List.length_eq_zero_iff.mp e
    subst this
    have h2 : Clo M (· = 0) x := h
    clear h
    induction h2 with
    | base h => rw [h]; exact .base rfl
    | step _ hg ih => exact .step ih (mem_nxR.mpr (Or.inl ⟨rfl, hg⟩))
  | k + 1, r, x, e, hk, hr, h => by
    obtain ⟨s, w, rfl⟩ : ∃ s w, r = s ++ [w] := by
      have ne : r ≠ [] := fun e2 => by rw [e2] at e; cases e
      exact ⟨r.dropLast, r.getLast ne, (List.dropLast_concat_getLast ne).symm⟩
    rw [behP_one] at h
    have sl : s.length = k := by simpa using e
    have h2 : Clo M (fun g => ∃ y, behP M s y ∧ (w, g) ∈ rowAt M y) x := h
    clear h
    induction h2 with
    | base h =>
      obtain ⟨y, hy, hg⟩ := h
      exact .step (nxR_bwd ok k s y sl (by omega) (fun v hv => hr v (by simp [hv])) hy) (mem_nxR.mpr (Or.inr ⟨by show s.length < many; omega, w, word_ne (hr w (by simp)), rfl, hg⟩))
    | step _ hg ih => exact .step ih (mem_nxR.mpr (Or.inl ⟨rfl, hg⟩))
theorem nxR_iff {M : Mch} {many : Nat} (ok : MOk M) {r : List Str} : (∃ x, Rch RB (nxR M many) (⟨r⟩, x)) ↔ r ∈ allR M many := by
  rw [mem_allR ok]
  constructor
  · rintro ⟨x, h⟩
    obtain ⟨a, b, c⟩ := nxR_fwd ok h
    exact ⟨⟨b, x, c⟩, a⟩
  · rintro ⟨⟨b, x, c⟩, a⟩
    exact ⟨x, nxR_bwd ok _ r x rfl a b c⟩
structure RInv (M : Mch) (many : Nat) (met wt : List RP) (rows : List (Tup Str)) : Prop where
  wl : WL RB (nxR M many) met wt
  nd : rows.Nodup
  rw : ∀ r, r ∈ rows ↔ ∃ p ∈ met, p.1 = r
  len : wt.length ≤ 3 * met.length + 1
theorem RInv.start {M : Mch} {many : Nat} : RInv M many [] [(⟨[]⟩, 0)] [] where
  wl := ⟨List.nodup_nil, fun x hx => absurd hx List.not_mem_nil, fun x hx => .base (List.mem_singleton.mp hx), fun x hx => Or.inr (List.mem_singleton.mpr hx), fun x hx => absurd hx List.not_mem_nil⟩
  nd := List.nodup_nil
  rw := fun r => by simp
  len := Nat.le_refl _
theorem nxR_len {M : Mch} {many : Nat} {p : RP} (le : RowsLe 4 M) : (nxR M many p).length ≤ 4 := Nat.le_trans (List.length_filterMap_le _ _) (rowAt_le le)
theorem RInv.go {M : Mch} {many : Nat} {met wt : List RP} {rows : List (Tup Str)} {e : RP} (le : RowsLe 4 M) (h : RInv M many met (wt ++ [e]) rows) (he : e ∉ met) : RInv M many (met ++ [e]) (wt ++ nxR M many e) (putU rows e.1) where
  wl := h.wl.go he
  nd := putU_nd h.nd
  rw := fun r => by
    rw [putU_mem, h.rw r]
    constructor
    · rintro (⟨p, hp, e2⟩ | e2)
      · exact ⟨p, List.mem_append.mpr (Or.inl hp), e2⟩
      · exact ⟨e, by simp, e2.symm⟩
    · rintro ⟨p, hp, e2⟩
      rcases List.mem_append.mp hp with hp | hp
      · exact Or.inl ⟨p, hp, e2⟩
      · rw [List.mem_singleton.mp hp] at e2; exact Or.inr e2.symm
  len := by
    have := h.len
    have := nxR_len (many := many) (p := e) le
    simp only [List.length_append, List.length_singleton] at *
    omega
theorem RInv.sub {M : Mch} {many : Nat} {met wt : List RP} {rows : List (Tup Str)} (ok : MOk M) (h : RInv M many met wt rows) {r : Tup Str} (hr : r ∈ rows) : r.items ∈ allR M many := by
  obtain ⟨p, hp, rfl⟩ := (h.rw r).mp hr
  exact (nxR_iff ok).mp ⟨p.2, h.wl.mr p hp⟩
theorem RInv.end {M : Mch} {many : Nat} {met : List RP} {rows : List (Tup Str)} (ok : MOk M) (h : RInv M many met [] rows) {r : Tup Str} : r ∈ rows ↔ r.items ∈ allR M many := by
  refine ⟨h.sub ok, fun hr => ?_⟩
  obtain ⟨x, hx⟩ := (nxR_iff ok).mpr hr
  exact (h.rw r).mpr ⟨(⟨r.items⟩, x), h.wl.end.mpr hx, rfl⟩
end Sk
set_option Elab.async false
set_option linter.all false
set_option maxRecDepth 100000
set_option maxHeartbeats 4000000
namespace Sk
open PySem PySem.Spec PyProof.Rows L2
open PySem.W (Datum DatumOrd Tup T3 T4)
open Evl (Ex)
end Sk
namespace Sk
open PySem PySem.Spec PyProof.Rows L2
open PySem.W (Datum DatumOrd Tup T3 T4)
open Evl (Ex)
end Sk
set_option Elab.async false
set_option linter.all false
set_option maxRecDepth 100000
set_option maxHeartbeats 4000000
namespace Sk
open PySem PySem.Spec PyProof.Rows L2
open PySem.W (Datum DatumOrd Tup T3 T4)
open Evl (Ex)
theorem flatMap_cong {α β : Type} {f g : α → List β} : ∀ {xs : List α}, (∀ x ∈ xs, f x = g x) → xs.flatMap f = xs.flatMap g
  | [], _ => rfl
  | x :: xs, h => by rw [List.flatMap_cons, List.flatMap_cons, h x List.mem_cons_self, flatMap_cong fun y hy => h y (List.mem_cons_of_mem _ hy)]
def lvlP (M : Mch) : Nat → List (List Str × Int)
  | 0 => [([], 0)]
  | k + 1 => (lvlP M k).flatMap fun p => (rowAt M p.2).map fun m => (p.1 ++ [m.1], m.2)
def allP (M : Mch) : Nat → List (List Str × Int)
  | 0 => [([], 0)]
  | k + 1 => allP M k ++ lvlP M (k + 1)
structure Det (M : Mch) : Prop where
  ne : ∀ x, ∀ p ∈ rowAt M x, p.1 ≠ ("" : Str)
  up : ∀ x, Rising ((rowAt M x).map (·.1))
theorem Det.clo {M : Mch} (d : Det M) {P : Int → Prop} {x : Int} : Clo M P x ↔ P x := by
  constructor
  · intro c
    cases c with
    | base h => exact h
    | step _ hg => exact absurd rfl (d.ne _ _ (mem_hid.mp hg))
  · exact .base
theorem Det.uni {M : Mch} (d : Det M) {x g h : Int} {w : Str} (h1 : (w, g) ∈ rowAt M x) (h2 : (w, h) ∈ rowAt M x) : g = h := by
  have nd := (d.up x).nodup
  generalize rowAt M x = rs at *
  induction rs with
  | nil => cases h1
  | cons r rs ih =>
    rw [List.map_cons] at nd
    have nd' := List.nodup_cons.mp nd
    rcases List.mem_cons.mp h1 with e1 | h1
    · rcases List.mem_cons.mp h2 with e2 | h2
      · have := e1.trans e2.symm; exact (Prod.mk.inj this).2
      · exact absurd (List.mem_map.mpr ⟨_, h2, by rw [← e1]⟩) nd'.1
    · rcases List.mem_cons.mp h2 with e2 | h2
      · exact absurd (List.mem_map.mpr ⟨_, h1, by rw [← e2]⟩) nd'.1
      · exact ih h1 h2 nd'.2
theorem Det.lvl {M : Mch} (d : Det M) : ∀ k, Sk.lvl M k = (lvlP M k).map (·.1) ∧ ∀ p ∈ lvlP M k, ∀ x, behP M p.1 x ↔ x = p.2
  | 0 => ⟨rfl, fun p hp x => by
    rw [List.mem_singleton.mp hp]
    show Clo M (· = 0) x ↔ x = 0
    exact d.clo⟩
  | k + 1 => by
    obtain ⟨h1, h2⟩ := d.lvl k
    refine ⟨?_, fun p hp x => ?_⟩
    · show (Sk.lvl M k).flatMap _ = ((lvlP M k).flatMap _).map _
      rw [h1, List.flatMap_map, List.map_flatMap]
      refine flatMap_cong fun p hp => ?_
      have e : wordsL M (behP M p.1) = (rowAt M p.2).map (·.1) := wordsL_rising.eq (d.up _) fun w => by
        rw [mem_wordsL, List.mem_map]
        constructor
        · rintro ⟨_, x, hx, g, hg⟩
          rw [(h2 p hp x).mp hx] at hg
          exact ⟨_, hg, rfl⟩
        · rintro ⟨m, hm, rfl⟩
          exact ⟨d.ne _ _ hm, p.2, (h2 p hp _).mpr rfl, m.2, hm⟩
      rw [e, List.map_map, List.map_map]
      rfl
    · obtain ⟨q, hq, h⟩ := List.mem_flatMap.mp hp
      obtain ⟨m, hm, rfl⟩ := List.mem_map.mp h
      show behP M (q.1 ++ [m.1]) x ↔ x = m.2
      rw [behP_one]
      show Clo M _ x ↔ _
      rw [d.clo]
      constructor
      · rintro ⟨y, hy, hg⟩
        rw [(h2 q hq y).mp hy] at hg
        exact d.uni hg hm
      · rintro rfl
        exact ⟨q.2, (h2 q hq _).mpr rfl, hm⟩
theorem Det.all {M : Mch} (d : Det M) : ∀ k, allR M k = (allP M k).map (·.1)
  | 0 => rfl
  | k + 1 => by
    show allR M k ++ Sk.lvl M (k + 1) = (allP M k ++ lvlP M (k + 1)).map _
    rw [List.map_append, d.all k, (d.lvl (k + 1)).1]
section
variable {ds : List Str} {cs : List Int}
end
end Sk
set_option Elab.async false
set_option linter.all false
set_option maxRecDepth 100000
set_option maxHeartbeats 4000000
namespace Sk
open PySem PySem.Spec PyProof.Rows L2
open PySem.W (Datum DatumOrd Tup T3 T4)
open Evl (Ex)
@[simp] def c_MOST_SIZE : PyData := .int 200
end Sk
namespace Sk
open PySem PySem.Spec PyProof.Rows L2
open PySem.W (Datum DatumOrd Tup T3 T4)
open Evl (Ex)
structure CtS (M : Mch) (S found : List Int) (at0 : Nat) : Prop where
  pre : ∃ more, found = S ++ more ∧ more.Nodup
  rc : ∀ x ∈ found, Clo M (· ∈ S) x
  cl : ∀ i, i < at0 → ∀ x, found[i]? = some x → ∀ g ∈ hid M x, g ∈ found
  lt : at0 ≤ found.length
theorem CtS.len {M : Mch} {S found : List Int} {k : Nat} (ok : MOk M) (hS : ∀ x ∈ S, 0 ≤ x ∧ x < M.items.length) (h : CtS M S found k) : found.length ≤ S.length + M.items.length := by
  obtain ⟨more, e, nd⟩ := h.pre
  have := rng_len nd fun x hx => Clo.rng ok hS (h.rc x (by rw [e]; exact List.mem_append.mpr (Or.inr hx)))
  rw [e, List.length_append]
  omega
end Sk
set_option Elab.async false
set_option linter.all false
set_option maxRecDepth 100000
set_option maxHeartbeats 4000000
namespace Sk
open PySem PySem.Spec PyProof.Rows L2
open PySem.W (Datum DatumOrd Tup T3 T4)
open Evl (Ex)
def gsw (ds : List (Str × Int)) (w : Str) : List Int := (ds.filter fun p => decide (p.1 = w)).map (·.2)
theorem mem_gsw {ds : List (Str × Int)} {w : Str} {g : Int} : g ∈ gsw ds w ↔ (w, g) ∈ ds := by
  unfold gsw
  rw [List.mem_map]
  constructor
  · rintro ⟨p, hp, rfl⟩
    obtain ⟨h1, h2⟩ := List.mem_filter.mp hp
    have h2 : p.1 = w := of_decide_eq_true h2
    rw [← h2]; exact h1
  · intro h
    exact ⟨(w, g), List.mem_filter.mpr ⟨h, decide_eq_true rfl⟩, rfl⟩
theorem gsw_snoc {ds : List (Str × Int)} {p : Str × Int} {w : Str} : gsw (ds ++ [p]) w = if p.1 = w then gsw ds w ++ [p.2] else gsw ds w := by
  unfold gsw
  rw [List.filter_append, List.map_append]
  by_cases h : p.1 = w <;> simp [h]
def encQ (ks : List Str) (ds : List (Str × Int)) : LD := ks.map fun w => (PyData.str w, (gsw ds w).map .int)
theorem putL_in {p : Str × Int} {ds : List (Str × Int)} : ∀ {ks : List Str}, ks.Nodup → p.1 ∈ ks → putL (encQ ks ds) (.str p.1) (.int p.2) = encQ ks (ds ++ [p])
  | [], _, h => by cases h
  | k :: ks, nd, h => by
    obtain ⟨n1, n2⟩ := List.nodup_cons.mp nd
    have kk : keyN (.str k) = keyN (.str p.1) ↔ k = p.1 := ⟨fun e => KD.inj k p.1 e, fun e => by rw [e]⟩
    show (if keyN (.str k) = keyN (.str p.1) then _ else _) = _
    by_cases e : k = p.1
    · rw [if_pos (kk.mpr e)]
      show (PyData.str k, (gsw ds k).map .int ++ [.int p.2]) :: (encQ ks ds) = (PyData.str k, (gsw (ds ++ [p]) k).map .int) :: encQ ks (ds ++ [p])
      rw [gsw_snoc, if_pos e.symm, List.map_append]
      refine congrArg _ (List.map_congr_left fun w hw => ?_)
      rw [gsw_snoc, if_neg fun e2 => n1 (by rw [e, e2]; exact hw)]
    · rw [if_neg (mt kk.mp e)]
      have ih := putL_in (p := p) (ds := ds) n2 ((List.mem_cons.mp h).resolve_left (Ne.symm e))
      show (PyData.str k, (gsw ds k).map .int) :: putL (encQ ks ds) (.str p.1) (.int p.2) = (PyData.str k, (gsw (ds ++ [p]) k).map .int) :: encQ ks (ds ++ [p])
      rw [ih, gsw_snoc, if_neg (Ne.symm e)]
theorem putL_out {p : Str × Int} {ds : List (Str × Int)} (h0 : gsw ds p.1 = []) : ∀ {ks : List Str}, p.1 ∉ ks → putL (encQ ks ds) (.str p.1) (.int p.2) = encQ (ks ++ [p.1]) (ds ++ [p])
  | [], _ => by
    show [(PyData.str p.1, [PyData.int p.2])] = [(PyData.str p.1, (gsw (ds ++ [p]) p.1).map .int)]
    rw [gsw_snoc, if_pos rfl, h0]; rfl
  | k :: ks, h => by
    have e : ¬ k = p.1 := fun e => h (by rw [e]; exact List.mem_cons_self)
    have kk : ¬ keyN (.str k) = keyN (.str p.1) := fun e2 => e (KD.inj k p.1 e2)
    show (if keyN (.str k) = keyN (.str p.1) then _ else _) = _
    rw [if_neg kk]
    have ih := putL_out h0 (ks := ks) fun h2 => h (List.mem_cons_of_mem _ h2)
    show (PyData.str k, (gsw ds k).map .int) :: putL (encQ ks ds) (.str p.1) (.int p.2) = (PyData.str k, (gsw (ds ++ [p]) k).map .int) :: encQ (ks ++ [p.1]) (ds ++ [p])
    rw [ih, gsw_snoc, if_neg (Ne.symm e)]
structure KI (ks : List Str) (ds : List (Str × Int)) : Prop where
  nd : ks.Nodup
  mm : ∀ w, w ∈ ks ↔ ∃ g, (w, g) ∈ ds
theorem KI.put {ks : List Str} {ds : List (Str × Int)} (h : KI ks ds) (p : Str × Int) : putL (encQ ks ds) (.str p.1) (.int p.2) = encQ (addT ks p.1) (ds ++ [p]) ∧ KI (addT ks p.1) (ds ++ [p]) := by
  refine ⟨?_, addT_nd h.nd, fun w => ?_⟩
  · unfold addT
    by_cases e : p.1 ∈ ks
    · rw [if_pos e]; exact putL_in h.nd e
    · rw [if_neg e]
      refine putL_out (List.eq_nil_iff_forall_not_mem.mpr fun g hg => e ((h.mm _).mpr ⟨g, mem_gsw.mp hg⟩)) e
  · rw [addT_mem, h.mm]
    constructor
    · rintro (⟨g, hg⟩ | rfl)
      · exact ⟨g, List.mem_append.mpr (Or.inl hg)⟩
      · exact ⟨p.2, by simp⟩
    · rintro ⟨g, hg⟩
      rcases List.mem_append.mp hg with hg | hg
      · exact Or.inl ⟨g, hg⟩
      · exact Or.inr (congrArg (·.1) (List.mem_singleton.mp hg))
theorem KI.len {ks : List Str} {ds : List (Str × Int)} (h : KI ks ds) : ks.length ≤ ds.length := by
  have := nodup_le ks (ds.map (·.1)) h.nd fun w hw => by
    obtain ⟨g, hg⟩ := (h.mm w).mp hw
    exact List.mem_map.mpr ⟨(w, g), hg, rfl⟩
  rwa [List.length_map] at this
noncomputable def plG (M : Mch) (P : Tup Int) : List (Str × Tup Int) := (wordsL M (· ∈ P.items)).map fun w => (w, ⟨listP M (ledP M (· ∈ P.items) w)⟩)
end Sk
set_option Elab.async false
set_option linter.all false
set_option maxRecDepth 100000
set_option maxHeartbeats 4000000
namespace Sk
open PySem PySem.Spec PyProof.Rows L2
open PySem.W (Datum DatumOrd Tup T3 T4)
open Evl (Ex)
def rowJ {α : Type} [DecidableEq α] (ts : List α) (ms : List (Str × α)) : List (Str × Int) := ms.map fun m => (m.1, ixT ts m.2)
abbrev PlSt := List (Tup Int) × List (List (Str × Int))
noncomputable def pStep (M : Mch) (st : PlSt) : PlSt := match st.1[st.2.length]? with
  | none => st
  | some t => (allT st.1 (plG M t), st.2 ++ [rowJ (allT st.1 (plG M t)) (plG M t)])
noncomputable def pIt (M : Mch) : Nat → PlSt
  | 0 => ([⟨listP M (Clo M (· ∈ ([0] : List Int)))⟩], [])
  | k + 1 => pStep M (pIt M k)
def BigP (M : Mch) : Prop := ∃ k, 200 < (pIt M k).1.length
def FinP (M : Mch) (k : Nat) : Prop := (pIt M k).1.length ≤ (pIt M k).2.length ∧ (pIt M k).1.length ≤ 200
theorem pStep_at {M : Mch} {st : PlSt} {t : Tup Int} (h : st.1[st.2.length]? = some t) : pStep M st = (allT st.1 (plG M t), st.2 ++ [rowJ (allT st.1 (plG M t)) (plG M t)]) := by
  unfold pStep
  rw [h]
theorem pStep_no {M : Mch} {st : PlSt} (h : st.1.length ≤ st.2.length) : pStep M st = st := by
  unfold pStep
  rw [List.getElem?_eq_none h]
theorem allT_le {α : Type} [DecidableEq α] {ts : List α} {ms : List (Str × α)} : ts.length ≤ (allT ts ms).length := by
  obtain ⟨more, e⟩ := allT_pre (ms := ms) (ts := ts)
  rw [e, List.length_append]
  omega
theorem pIt_mono {M : Mch} {k : Nat} : ∀ m, (pIt M k).1.length ≤ (pIt M (m + k)).1.length
  | 0 => by rw [Nat.zero_add]; exact Nat.le_refl _
  | m + 1 => by
    have ih := pIt_mono (M := M) (k := k) m
    rw [show m + 1 + k = m + k + 1 by omega]
    show _ ≤ (pStep M (pIt M (m + k))).1.length
    rcases Nat.lt_or_ge (pIt M (m + k)).2.length (pIt M (m + k)).1.length with l | l
    · rw [pStep_at (List.getElem?_eq_getElem l)]
      exact Nat.le_trans ih allT_le
    · rw [pStep_no l]; exact ih
theorem pIt_fix {M : Mch} {k : Nat} (h : (pIt M k).1.length ≤ (pIt M k).2.length) : ∀ m, pIt M (m + k) = pIt M k
  | 0 => by rw [Nat.zero_add]
  | m + 1 => by
    rw [show m + 1 + k = m + k + 1 by omega]
    show pStep M (pIt M (m + k)) = _
    rw [pIt_fix h m]
    exact pStep_no h
theorem FinP.uniq {M : Mch} {k k' : Nat} (h : FinP M k) (h' : FinP M k') : pIt M k = pIt M k' := by
  rcases Nat.le_total k k' with l | l
  · have := pIt_fix h.1 (k' - k)
    rw [show k' - k + k = k' by omega] at this
    exact this.symm
  · have := pIt_fix h'.1 (k - k')
    rw [show k - k' + k' = k by omega] at this
    exact this
theorem FinP.small {M : Mch} {k : Nat} (h : FinP M k) : ¬ BigP M := fun ⟨j, hj⟩ => by
  have h2 := h.2
  rcases Nat.le_total k j with l | l
  · have := pIt_fix h.1 (j - k)
    rw [show j - k + k = j by omega] at this
    rw [this] at hj
    omega
  · have := pIt_mono (M := M) (k := j) (k - j)
    rw [show k - j + j = k by omega] at this
    omega
end Sk
set_option Elab.async false
set_option linter.all false
set_option maxRecDepth 100000
set_option maxHeartbeats 4000000
namespace Sk
open PySem PySem.Spec PyProof.Rows L2
open PySem.W (Datum DatumOrd Tup T3 T4)
open Evl (Ex)
end Sk
namespace Sk
open PySem PySem.Spec PyProof.Rows L2
open PySem.W (Datum DatumOrd Tup T3 T4)
open Evl (Ex)
end Sk
set_option Elab.async false
set_option linter.all false
set_option maxRecDepth 100000
set_option maxHeartbeats 4000000
namespace Sk
open PySem PySem.Spec PyProof.Rows L2
open PySem.W (Datum DatumOrd Tup T3 T4)
open Evl (Ex)
end Sk
namespace Sk
open PySem PySem.Spec PyProof.Rows L2
open PySem.W (Datum DatumOrd Tup T3 T4)
open Evl (Ex)
def sg (k : Nat) : Tup Int := ⟨[(k : Int)]⟩
end Sk
set_option Elab.async false
set_option linter.all false
set_option maxRecDepth 100000
set_option maxHeartbeats 4000000
namespace Sk
open PySem PySem.Spec PyProof.Rows L2
open PySem.W (Datum DatumOrd Tup T3 T4)
open Evl (Ex)
end Sk
namespace Sk
open PySem PySem.Spec PyProof.Rows L2
open PySem.W (Datum DatumOrd Tup T3 T4)
open Evl (Ex)
end Sk
set_option Elab.async false
set_option linter.all false
set_option maxRecDepth 100000
set_option maxHeartbeats 4000000
namespace Sk
open PySem PySem.Spec PyProof.Rows L2
open PySem.W (Datum DatumOrd Tup T3 T4)
open Evl (Ex)
def rowOf : PyData → Tup (Str × Int)
  | .tuple ms => ⟨ms.map mvOf⟩
  | _ => ⟨[]⟩
def mchOf (ds : List PyData) : Mch := ⟨ds.map rowOf⟩
def isMachD : PyData → Bool
  | .tuple ds => decide (1 ≤ ds.length) && (decide (ds.length ≤ 300) && (ds.all (isRowD · ds.length) && decide ((sortU (mchOf ds).deeds).length ≤ 8)))
  | _ => false
def FitD (d : PyData) : Prop := ∀ ds, d = .tuple ds → ds.length ≤ 300 → ∀ r ∈ ds, ∀ ms, r = .tuple ms → ms.length ≤ 100 ∧ ∀ z x, .tuple [.str z, x] ∈ ms → z.length ≤ sizeLine
theorem mch_of {M : Mch} : mchOf (M.items.map Datum.toD) = M := by
  unfold mchOf
  rw [List.map_map]
  have : ∀ rs : List (Tup (Str × Int)), rs.map (rowOf ∘ Datum.toD) = rs := fun rs => by
    induction rs with
    | nil => rfl
    | cons r rs ih =>
      rw [List.map_cons, ih]
      have : (r.items.map Datum.toD).map mvOf = r.items := by
        rw [List.map_map]
        exact List.map_id'' (fun p => rfl) _
      show (⟨(r.items.map Datum.toD).map mvOf⟩ : Tup (Str × Int)) :: rs = _
      rw [this]
  rw [this]
theorem isMach_ok {M : Mch} (ok : MOk M) : isMachD (Datum.toD M) = true := by
  show (decide (1 ≤ (M.items.map Datum.toD).length) && (decide ((M.items.map Datum.toD).length ≤ 300) && ((M.items.map Datum.toD).all (isRowD · (M.items.map Datum.toD).length) && decide ((sortU (mchOf (M.items.map Datum.toD)).deeds).length ≤ 8)))) = true
  rw [mch_of, List.length_map]
  have h1 := ok.lo
  have h2 := ok.hi
  have h3 := ok.ds
  have h4 : (M.items.map Datum.toD).all (isRowD · M.items.length) = true := List.all_eq_true.mpr fun d hd => by
    obtain ⟨r, hr, rfl⟩ := List.mem_map.mp hd
    exact ok.isRow hr
  rw [h4, decide_eq_true h1, decide_eq_true h2, decide_eq_true h3]
  rfl
theorem fit_ok {M : Mch} (ok : MOk M) (le : RowsLe 60 M) : FitD (Datum.toD M) := fun ds e _ r hr ms e2 => by
  have e : M.items.map Datum.toD = ds := PyData.tuple.inj e
  subst e
  obtain ⟨t, ht, rfl⟩ := List.mem_map.mp hr
  have e2 : t.items.map Datum.toD = ms := PyData.tuple.inj e2
  subst e2
  refine ⟨by rw [List.length_map]; exact Nat.le_trans (le t ht) (by decide), fun z x hz => ?_⟩
  obtain ⟨p, hp, e3⟩ := List.mem_map.mp hz
  have e3 : PyData.tuple [.str p.1, .int p.2] = .tuple [.str z, x] := e3
  simp at e3
  rw [← e3.1]
  exact word_len (ok.mv t ht p hp).2.2
end Sk
set_option Elab.async false
set_option linter.all false
set_option maxRecDepth 100000
set_option maxHeartbeats 4000000
namespace Sk
open PySem PySem.Spec PyProof.Rows L2
open PySem.W (Datum DatumOrd Tup T3 T4)
open Evl (Ex)
structure Ask83 (M T : Mch) : Prop where
  ok1 : MOk M
  ok2 : MOk T
  l1 : RowsLe 10 M
  l2 : RowsLe 10 T
end Sk
set_option Elab.async false
set_option linter.all false
set_option maxRecDepth 100000
set_option maxHeartbeats 4000000
namespace Sk
open PySem PySem.Spec PyProof.Rows L2
open PySem.W (Datum DatumOrd Tup T3 T4)
open Evl (Ex)
end Sk
namespace Sk
open PySem PySem.Spec PyProof.Rows L2
open PySem.W (Datum DatumOrd Tup T3 T4)
open Evl (Ex)
section
variable {a b : Nat}
end
end Sk
set_option Elab.async false
set_option linter.all false
set_option maxRecDepth 100000
set_option maxHeartbeats 4000000
namespace Sk
open PySem PySem.Spec PyProof.Rows L2
open PySem.W (Datum DatumOrd Tup T3 T4)
open Evl (Ex)
structure Fine83 (M T : Mch) : Prop where
  A : Ask83 M T
  h : 8 < (askS M T).length ∨ ((askS M T).length ≤ 8 ∧ Side M (askS M T) T ∧ M.items.length * T.items.length ≤ 300)
section
variable {M T : Mch} {n : Nat} {C : PV → Nat → Prop}
theorem Ask83.fit (A : Ask83 M T) : FitD (Datum.toD M) ∧ FitD (Datum.toD T) ∧ (isMachD (Datum.toD M) && isMachD (Datum.toD T)) = true :=
  ⟨fit_ok A.ok1 fun r hr => Nat.le_trans (A.l1 r hr) (by decide), fit_ok A.ok2 fun r hr => Nat.le_trans (A.l2 r hr) (by decide), by rw [isMach_ok A.ok1, isMach_ok A.ok2]; rfl⟩
end
end Sk
set_option Elab.async false
set_option linter.all false
set_option maxRecDepth 100000
set_option maxHeartbeats 4000000
namespace Sk
open PySem PySem.Spec PyProof.Rows L2
open PySem.W (Datum DatumOrd Tup T3 T4)
open Evl (Ex)
end Sk
set_option maxHeartbeats 2000000
namespace Sk
open PySem PySem.Spec PyProof.Rows L2
@[simp] def c_MOST_DEEP : PyData := (.int 40)
@[simp] def c_MOST_STEPS : PyData := (.int 10)
def c_LONG_forms : List (Str × Int) := [("stop", 1), ("spin", 1), ("name", 2), ("then", 3), ("out", 3), ("own", 3), ("beside", 4), ("hide", 3), ("as", 3)]
def c_LONG_surroundings : List (Str × Int) := [("then", 2), ("out", 2), ("own", 2), ("beside", 3), ("hide", 2), ("as", 2)]
end Sk
set_option Elab.async false
set_option linter.all false
set_option maxRecDepth 100000
set_option maxHeartbeats 4000000
namespace Sk
open PySem PySem.Spec PyProof.Rows L2
open PySem.W (Datum DatumOrd Tup T3 T4)
open Evl (Ex)
inductive Hd where
  | stop | spin
  | name (w : Str)
  | thn (w : Str) (h : Hd)
  | out (a b : Hd)
  | own (a b : Hd)
  | bes (a : Hd) (s : List Str) (b : Hd)
  | hid (a : Hd) (s : List Str)
  | cal (a : Hd) (ps : List (Str × Str))
def setD (s : List Str) : PyData := .tuple (s.map .str)
def prD (p : Str × Str) : PyData := .tuple [.str p.1, .str p.2]
def prsD (ps : List (Str × Str)) : PyData := .tuple (ps.map prD)
def Hd.toD : Hd → PyData
  | .stop => .tuple [.str "stop"]
  | .spin => .tuple [.str "spin"]
  | .name w => .tuple [.str "name", .str w]
  | .thn w h => .tuple [.str "then", .str w, h.toD]
  | .out a b => .tuple [.str "out", a.toD, b.toD]
  | .own a b => .tuple [.str "own", a.toD, b.toD]
  | .bes a s b => .tuple [.str "beside", a.toD, setD s, b.toD]
  | .hid a s => .tuple [.str "hide", a.toD, setD s]
  | .cal a ps => .tuple [.str "as", a.toD, prsD ps]
def Hd.kids : Hd → List Hd
  | .thn _ h => [h]
  | .out a b => [a, b]
  | .own a b => [a, b]
  | .bes a _ b => [a, b]
  | .hid a _ => [a]
  | .cal a _ => [a]
  | _ => []
def Hd.size : Hd → Nat
  | .thn _ h => h.size + 1
  | .out a b => a.size + b.size + 1
  | .own a b => a.size + b.size + 1
  | .bes a _ b => a.size + b.size + 1
  | .hid a _ => a.size + 1
  | .cal a _ => a.size + 1
  | _ => 1
def Hd.deep : Hd → Nat
  | .thn _ h => h.deep + 1
  | .out a b => max a.deep b.deep + 1
  | .own a b => max a.deep b.deep + 1
  | .bes a _ b => max a.deep b.deep + 1
  | .hid a _ => a.deep + 1
  | .cal a _ => a.deep + 1
  | _ => 1
def IsPrs (ps : List (Str × Str)) : Prop := (∀ p ∈ ps, isWordS p.1 = true ∧ isWordS p.2 = true) ∧ ps.length ≤ 8 ∧ Rising (ps.map (·.1))
def Hd.Ok : Hd → Prop
  | .stop => True
  | .spin => True
  | .name w => isWordS w = true
  | .thn w h => isWordS w = true ∧ h.Ok
  | .out a b => a.Ok ∧ b.Ok
  | .own a b => a.Ok ∧ b.Ok
  | .bes a s b => a.Ok ∧ IsSet s ∧ b.Ok
  | .hid a s => a.Ok ∧ IsSet s
  | .cal a ps => a.Ok ∧ IsPrs ps
def Hd.Fit (h : Hd) : Prop := h.size ≤ 200 ∧ h.deep ≤ 40
instance (h : Hd) : Decidable h.Fit := inferInstanceAs (Decidable (_ ∧ _))
theorem Hd.size_pos (h : Hd) : 1 ≤ h.size := by cases h <;> simp [Hd.size]
theorem Hd.deep_pos (h : Hd) : 1 ≤ h.deep := by cases h <;> simp [Hd.deep]
theorem Hd.size_kids (h : Hd) : h.size = 1 + (h.kids.map Hd.size).sum := by cases h <;> simp [Hd.size, Hd.kids] <;> omega
theorem Hd.ok_kids {h : Hd} (ok : h.Ok) : ∀ k ∈ h.kids, k.Ok := by
  cases h <;> simp [Hd.Ok, Hd.kids] at ok ⊢ <;> simp_all
theorem Hd.kids_len (h : Hd) : h.kids.length ≤ 2 := by cases h <;> simp [Hd.kids]
theorem Hd.deep_le {h : Hd} {n m : Nat} (k : n + h.deep ≤ m + 1) : ∀ c ∈ h.kids, n + 1 + c.deep ≤ m + 1 := by
  cases h <;> simp [Hd.deep, Hd.kids] at k ⊢ <;> omega
theorem Hd.deep_of {h : Hd} {n m : Nat} (n1 : n ≤ m) (k : ∀ c ∈ h.kids, n + 1 + c.deep ≤ m + 1) : n + h.deep ≤ m + 1 := by
  cases h <;> simp [Hd.deep, Hd.kids] at k ⊢ <;> omega
theorem imm_strs (s : List Str) : immAll (s.map .str) = true := by
  induction s with
  | nil => rfl
  | cons a s ih => simp [immAll, imm, ih]
theorem imm_prs (ps : List (Str × Str)) : immAll (ps.map prD) = true := by
  induction ps with
  | nil => rfl
  | cons a s ih => simp [immAll, imm, ih, prD]
theorem Hd.imm (h : Hd) : Sk.imm h.toD = true := by
  induction h <;> simp [Hd.toD, Sk.imm, immAll, setD, prsD, imm_strs, imm_prs, *]
theorem plain_strs (s : List Str) : PyData.plainAll (s.map .str) = true := by
  induction s with
  | nil => rfl
  | cons a s ih => simp [PyData.plainAll, PyData.plain, ih]
theorem plain_prs (ps : List (Str × Str)) : PyData.plainAll (ps.map prD) = true := by
  induction ps with
  | nil => rfl
  | cons a s ih => simp [PyData.plainAll, PyData.plain, ih, prD]
theorem Hd.plain (h : Hd) : h.toD.plain = true := by
  induction h <;> simp [Hd.toD, PyData.plain, PyData.plainAll, setD, prsD, plain_strs, plain_prs, *]
theorem depth_strs (s : List Str) : PyData.depthAll (s.map .str) = 0 := by
  induction s with
  | nil => rfl
  | cons a s ih => simp [PyData.depthAll, PyData.depth, ih]
theorem depth_prs (ps : List (Str × Str)) : PyData.depthAll (ps.map prD) ≤ 1 := by
  induction ps with
  | nil => simp [PyData.depthAll]
  | cons a s ih => simp [PyData.depthAll, PyData.depth, prD]; omega
theorem Hd.depth (h : Hd) : h.toD.depth ≤ h.deep + 2 := by
  induction h with
  | cal a ps ih =>
    have := depth_prs ps
    simp [Hd.toD, PyData.depth, PyData.depthAll, prsD, Hd.deep]; omega
  | _ => simp [Hd.toD, PyData.depth, PyData.depthAll, setD, depth_strs, Hd.deep] <;> omega
def sp_is_pairs_02c5d9 : HSp := fun ps n C => ∃ xs, ps = [.dat (prsD xs)] ∧ IsPrs xs ∧ C (.dat (.bool true)) n
def prB : HS := (hIfS (hOr (hNot (hB (hC isiW (hL 1 (fun s C => hNil s fun ps s2 => C (.val (.ty "tuple") :: ps) s2))))) (hOr (hB (hC (eqP true) (hE (hC lenW (hL 1 hNil)) (hE (hK (.int 2)) hNil)))) (hNot (hB (hC (allW fun bs => bs.all id) (hE (hLc (hiT (hV 1)) (gN 2) hYes (hCall sp_is_word_e81331 1 (hL 2 hNil)) [2]) hNil)))))) (hRet (hK (.bool false))) hNext)
theorem pr_loop {D : HD} {o0 : Option PV} {n : Nat} : ∀ (xs : List (Str × Str)) (o1 : Option PV), (∀ p ∈ xs, isWordS p.1 = true ∧ isWordS p.2 = true) → (∀ o1', D.nx ⟨[o0, o1', none], n⟩) → each (gN 1) prB D (xs.map prD) ⟨[o0, o1, none], n⟩
  | [], o1, _, q => q o1
  | p :: xs, o1, h, q => by
    rw [List.map_cons, each]
    obtain ⟨h1, h2⟩ := h p List.mem_cons_self
    have ih := pr_loop (D := D) (o0 := o0) (n := n) xs (some (.dat (prD p))) (fun p hp => h p (List.mem_cons_of_mem _ hp)) q
    generalize each (gN 1) prB D (xs.map prD) = T at ih
    unfold prB
    simp only [gN, prD] at ih ⊢
    simp [-hLc]
    refine hLc_eq.mpr ?_
    simp [-lcs]
    refine lcs_map (xs := [p.1, p.2]) PyData.str (fun _ => .bool true) (fun w hw K hK => ?_) [] _ (by simp) ?_
    · have hw' : isWordS w = true := by
        rcases List.mem_cons.mp hw with rfl | hw
        · exact h1
        · rw [List.mem_singleton.mp hw]; exact h2
      simp
      refine ⟨_, rfl, ?_, ?_⟩
      · intro z hz
        cases hz
        exact word_len (Or.inl hw')
      · show K (.dat (.bool (isWordS w))) _
        rw [hw']
        exact hK _ (by simp)
    · refine ⟨_, rfl, allW_b (bs := [true, true]) rfl ?_⟩
      simp
      exact ih
def h_is_pairs_02c5d9 : HS :=
    (hSeq (hIfS (hOr (hNot (hB (hC isiW (hL 0 (fun s C => hNil s fun ps s2 => C (.val (.ty "tuple") :: ps) s2))))) (hB (hC gtW (hE (hC lenW (hL 0 hNil)) (hE (hK c_MOST_DEEDS) hNil))))) (hRet (hK (.bool false))) hNext)
    (hSeq (hFor (hiT (hV 0)) (gN 1) (hIfS (hOr (hNot (hB (hC isiW (hL 1 (fun s C => hNil s fun ps s2 => C (.val (.ty "tuple") :: ps) s2))))) (hOr (hB (hC (eqP true) (hE (hC lenW (hL 1 hNil)) (hE (hK (.int 2)) hNil)))) (hNot (hB (hC (allW fun bs => bs.all id) (hE (hLc (hiT (hV 1)) (gN 2) hYes (hCall sp_is_word_e81331 1 (hL 2 hNil)) [2]) hNil)))))) (hRet (hK (.bool false))) hNext))
    (hRet (hCall sp_is_rising_757f86 1 (hE (hLc (hiT (hV 0)) (gN 1) hYes (hC ixW (hL 1 (hE (hK (.int 0)) hNil))) [1]) hNil)))))
theorem rd_is_pairs_02c5d9 : ∀ pvs n C, pvs.length = 1 → sp_is_pairs_02c5d9 pvs n C → h_is_pairs_02c5d9 ⟨fun s => C (.dat .none) s.n, fun p s => C p s.n, fun _ => False, fun _ => False⟩ ⟨pvs.map some ++ List.replicate (3 - pvs.length) none, n⟩ := by
  intro pvs n C _ h
  obtain ⟨xs, rfl, ok, q⟩ := h
  obtain ⟨h1, h2, h3⟩ := ok
  unfold h_is_pairs_02c5d9
  simp [prsD, -each, -hLc]
  refine Or.inl ⟨by omega, ?_⟩
  refine pr_loop (D := { nx := _, rt := _, bk := _, ct := _ }) xs none h1 fun o1 => ?_
  simp only [hRet]
  simp [-hLc]
  refine hLc_eq.mpr ?_
  simp [-lcs]
  refine lcs_map (xs := xs) prD (fun p => .str p.1) (fun p hp K hK => ?_) [] _ (by simp; omega) ?_
  · simp [prD]
    exact hK _ (by simp)
  · refine ⟨_, rfl, xs.map (·.1), Or.inr ?_, h3, by rw [List.length_map]; omega, q⟩
    rw [List.nil_append, List.map_map]; rfl
@[simp] theorem nw_0_1 : ((("stop" : Str)) = ("spin" : Str)) = False := eq_false (by decide)
@[simp] theorem nw_0_2 : ((("stop" : Str)) = ("name" : Str)) = False := eq_false (by decide)
@[simp] theorem nw_0_3 : ((("stop" : Str)) = ("then" : Str)) = False := eq_false (by decide)
@[simp] theorem nw_0_4 : ((("stop" : Str)) = ("out" : Str)) = False := eq_false (by decide)
@[simp] theorem nw_0_5 : ((("stop" : Str)) = ("own" : Str)) = False := eq_false (by decide)
@[simp] theorem nw_0_6 : ((("stop" : Str)) = ("beside" : Str)) = False := eq_false (by decide)
@[simp] theorem nw_0_7 : ((("stop" : Str)) = ("hide" : Str)) = False := eq_false (by decide)
@[simp] theorem nw_0_8 : ((("stop" : Str)) = ("as" : Str)) = False := eq_false (by decide)
@[simp] theorem nw_1_0 : ((("spin" : Str)) = ("stop" : Str)) = False := eq_false (by decide)
@[simp] theorem nw_1_2 : ((("spin" : Str)) = ("name" : Str)) = False := eq_false (by decide)
@[simp] theorem nw_1_3 : ((("spin" : Str)) = ("then" : Str)) = False := eq_false (by decide)
@[simp] theorem nw_1_4 : ((("spin" : Str)) = ("out" : Str)) = False := eq_false (by decide)
@[simp] theorem nw_1_5 : ((("spin" : Str)) = ("own" : Str)) = False := eq_false (by decide)
@[simp] theorem nw_1_6 : ((("spin" : Str)) = ("beside" : Str)) = False := eq_false (by decide)
@[simp] theorem nw_1_7 : ((("spin" : Str)) = ("hide" : Str)) = False := eq_false (by decide)
@[simp] theorem nw_1_8 : ((("spin" : Str)) = ("as" : Str)) = False := eq_false (by decide)
@[simp] theorem nw_2_0 : ((("name" : Str)) = ("stop" : Str)) = False := eq_false (by decide)
@[simp] theorem nw_2_1 : ((("name" : Str)) = ("spin" : Str)) = False := eq_false (by decide)
@[simp] theorem nw_2_3 : ((("name" : Str)) = ("then" : Str)) = False := eq_false (by decide)
@[simp] theorem nw_2_4 : ((("name" : Str)) = ("out" : Str)) = False := eq_false (by decide)
@[simp] theorem nw_2_5 : ((("name" : Str)) = ("own" : Str)) = False := eq_false (by decide)
@[simp] theorem nw_2_6 : ((("name" : Str)) = ("beside" : Str)) = False := eq_false (by decide)
@[simp] theorem nw_2_7 : ((("name" : Str)) = ("hide" : Str)) = False := eq_false (by decide)
@[simp] theorem nw_2_8 : ((("name" : Str)) = ("as" : Str)) = False := eq_false (by decide)
@[simp] theorem nw_3_0 : ((("then" : Str)) = ("stop" : Str)) = False := eq_false (by decide)
@[simp] theorem nw_3_1 : ((("then" : Str)) = ("spin" : Str)) = False := eq_false (by decide)
@[simp] theorem nw_3_2 : ((("then" : Str)) = ("name" : Str)) = False := eq_false (by decide)
@[simp] theorem nw_3_4 : ((("then" : Str)) = ("out" : Str)) = False := eq_false (by decide)
@[simp] theorem nw_3_5 : ((("then" : Str)) = ("own" : Str)) = False := eq_false (by decide)
@[simp] theorem nw_3_6 : ((("then" : Str)) = ("beside" : Str)) = False := eq_false (by decide)
@[simp] theorem nw_3_7 : ((("then" : Str)) = ("hide" : Str)) = False := eq_false (by decide)
@[simp] theorem nw_3_8 : ((("then" : Str)) = ("as" : Str)) = False := eq_false (by decide)
@[simp] theorem nw_4_0 : ((("out" : Str)) = ("stop" : Str)) = False := eq_false (by decide)
@[simp] theorem nw_4_1 : ((("out" : Str)) = ("spin" : Str)) = False := eq_false (by decide)
@[simp] theorem nw_4_2 : ((("out" : Str)) = ("name" : Str)) = False := eq_false (by decide)
@[simp] theorem nw_4_3 : ((("out" : Str)) = ("then" : Str)) = False := eq_false (by decide)
@[simp] theorem nw_4_5 : ((("out" : Str)) = ("own" : Str)) = False := eq_false (by decide)
@[simp] theorem nw_4_6 : ((("out" : Str)) = ("beside" : Str)) = False := eq_false (by decide)
@[simp] theorem nw_4_7 : ((("out" : Str)) = ("hide" : Str)) = False := eq_false (by decide)
@[simp] theorem nw_4_8 : ((("out" : Str)) = ("as" : Str)) = False := eq_false (by decide)
@[simp] theorem nw_5_0 : ((("own" : Str)) = ("stop" : Str)) = False := eq_false (by decide)
@[simp] theorem nw_5_1 : ((("own" : Str)) = ("spin" : Str)) = False := eq_false (by decide)
@[simp] theorem nw_5_2 : ((("own" : Str)) = ("name" : Str)) = False := eq_false (by decide)
@[simp] theorem nw_5_3 : ((("own" : Str)) = ("then" : Str)) = False := eq_false (by decide)
@[simp] theorem nw_5_4 : ((("own" : Str)) = ("out" : Str)) = False := eq_false (by decide)
@[simp] theorem nw_5_6 : ((("own" : Str)) = ("beside" : Str)) = False := eq_false (by decide)
@[simp] theorem nw_5_7 : ((("own" : Str)) = ("hide" : Str)) = False := eq_false (by decide)
@[simp] theorem nw_5_8 : ((("own" : Str)) = ("as" : Str)) = False := eq_false (by decide)
@[simp] theorem nw_6_0 : ((("beside" : Str)) = ("stop" : Str)) = False := eq_false (by decide)
@[simp] theorem nw_6_1 : ((("beside" : Str)) = ("spin" : Str)) = False := eq_false (by decide)
@[simp] theorem nw_6_2 : ((("beside" : Str)) = ("name" : Str)) = False := eq_false (by decide)
@[simp] theorem nw_6_3 : ((("beside" : Str)) = ("then" : Str)) = False := eq_false (by decide)
@[simp] theorem nw_6_4 : ((("beside" : Str)) = ("out" : Str)) = False := eq_false (by decide)
@[simp] theorem nw_6_5 : ((("beside" : Str)) = ("own" : Str)) = False := eq_false (by decide)
@[simp] theorem nw_6_7 : ((("beside" : Str)) = ("hide" : Str)) = False := eq_false (by decide)
@[simp] theorem nw_6_8 : ((("beside" : Str)) = ("as" : Str)) = False := eq_false (by decide)
@[simp] theorem nw_7_0 : ((("hide" : Str)) = ("stop" : Str)) = False := eq_false (by decide)
@[simp] theorem nw_7_1 : ((("hide" : Str)) = ("spin" : Str)) = False := eq_false (by decide)
@[simp] theorem nw_7_2 : ((("hide" : Str)) = ("name" : Str)) = False := eq_false (by decide)
@[simp] theorem nw_7_3 : ((("hide" : Str)) = ("then" : Str)) = False := eq_false (by decide)
@[simp] theorem nw_7_4 : ((("hide" : Str)) = ("out" : Str)) = False := eq_false (by decide)
@[simp] theorem nw_7_5 : ((("hide" : Str)) = ("own" : Str)) = False := eq_false (by decide)
@[simp] theorem nw_7_6 : ((("hide" : Str)) = ("beside" : Str)) = False := eq_false (by decide)
@[simp] theorem nw_7_8 : ((("hide" : Str)) = ("as" : Str)) = False := eq_false (by decide)
@[simp] theorem nw_8_0 : ((("as" : Str)) = ("stop" : Str)) = False := eq_false (by decide)
@[simp] theorem nw_8_1 : ((("as" : Str)) = ("spin" : Str)) = False := eq_false (by decide)
@[simp] theorem nw_8_2 : ((("as" : Str)) = ("name" : Str)) = False := eq_false (by decide)
@[simp] theorem nw_8_3 : ((("as" : Str)) = ("then" : Str)) = False := eq_false (by decide)
@[simp] theorem nw_8_4 : ((("as" : Str)) = ("out" : Str)) = False := eq_false (by decide)
@[simp] theorem nw_8_5 : ((("as" : Str)) = ("own" : Str)) = False := eq_false (by decide)
@[simp] theorem nw_8_6 : ((("as" : Str)) = ("beside" : Str)) = False := eq_false (by decide)
@[simp] theorem nw_8_7 : ((("as" : Str)) = ("hide" : Str)) = False := eq_false (by decide)
@[simp] theorem lkF_0 : c_LONG_forms.lookup ("stop" : Str) = some 1 := by decide +kernel
@[simp] theorem lkF_1 : c_LONG_forms.lookup ("spin" : Str) = some 1 := by decide +kernel
@[simp] theorem lkF_2 : c_LONG_forms.lookup ("name" : Str) = some 2 := by decide +kernel
@[simp] theorem lkF_3 : c_LONG_forms.lookup ("then" : Str) = some 3 := by decide +kernel
@[simp] theorem lkF_4 : c_LONG_forms.lookup ("out" : Str) = some 3 := by decide +kernel
@[simp] theorem lkF_5 : c_LONG_forms.lookup ("own" : Str) = some 3 := by decide +kernel
@[simp] theorem lkF_6 : c_LONG_forms.lookup ("beside" : Str) = some 4 := by decide +kernel
@[simp] theorem lkF_7 : c_LONG_forms.lookup ("hide" : Str) = some 3 := by decide +kernel
@[simp] theorem lkF_8 : c_LONG_forms.lookup ("as" : Str) = some 3 := by decide +kernel
@[simp] theorem lkS_0 : c_LONG_surroundings.lookup ("then" : Str) = some 2 := by decide +kernel
@[simp] theorem lkS_1 : c_LONG_surroundings.lookup ("out" : Str) = some 2 := by decide +kernel
@[simp] theorem lkS_2 : c_LONG_surroundings.lookup ("own" : Str) = some 2 := by decide +kernel
@[simp] theorem lkS_3 : c_LONG_surroundings.lookup ("beside" : Str) = some 3 := by decide +kernel
@[simp] theorem lkS_4 : c_LONG_surroundings.lookup ("hide" : Str) = some 2 := by decide +kernel
@[simp] theorem lkS_5 : c_LONG_surroundings.lookup ("as" : Str) = some 2 := by decide +kernel
@[simp] theorem in2 {a b c : Str} {C : PV → Prop} : inP false [.dat (.str a), .dat (.tuple [.str b, .str c])] C ↔ C (.dat (.bool (decide (a = b) || decide (a = c)))) := by
  have h : ∀ b : Str, PyData.eqv (.str b) (.str a) = decide (a = b) := fun b => (show PyData.eqv (.str b) (.str a) = decide (b = a) from Datum.eqv b a).trans (decide_eq_decide.mpr ⟨Eq.symm, Eq.symm⟩)
  simp [inP, h, PyData.plain, PyData.plainAll, PyData.depth, PyData.depthAll]
@[simp] theorem eq_emp {neg : Bool} {x : PyData} {xs : List PyData} {C : PV → Prop} : eqP neg [.dat (.tuple (x :: xs)), .dat (.tuple [])] C ↔ PyData.plainAll (x :: xs) = true ∧ C (.dat (.bool neg)) := by
  have ev : PyData.eqv (.tuple (x :: xs)) (.tuple []) = false := by simp [PyData.eqv, PyData.eqvAll]
  constructor
  · rintro ⟨d, e, h1, h2, h, _, _, c⟩
    cases h1
    cases h2
    rw [ev] at c
    refine ⟨h, ?_⟩
    cases neg <;> exact c
  · rintro ⟨h, c⟩
    refine ⟨_, _, rfl, rfl, h, rfl, ?_, ?_⟩
    · have : PyData.depth (.tuple []) ≤ 60 := by simp [PyData.depth, PyData.depthAll]
      omega
    · rw [ev]
      cases neg <;> exact c
theorem atI_k {ds : List PyData} {i : Nat} {d : PyData} (h : ds[i]? = some d) : atI ds (i : Int) = some d := by
  have hl : i < ds.length := (List.getElem?_eq_some_iff.mp h).1
  unfold atI ixN
  rw [if_pos (by omega), if_pos (by omega)]
  simpa using h
@[simp] theorem at0 {a : PyData} {l : List PyData} : atI (a :: l) 0 = some a := atI_k (i := 0) rfl
@[simp] theorem at1 {a b : PyData} {l : List PyData} : atI (a :: b :: l) 1 = some b := atI_k (i := 1) rfl
@[simp] theorem at2 {a b c : PyData} {l : List PyData} : atI (a :: b :: c :: l) 2 = some c := atI_k (i := 2) rfl
@[simp] theorem at3 {a b c d : PyData} {l : List PyData} : atI (a :: b :: c :: d :: l) 3 = some d := atI_k (i := 3) rfl
def sp_is_form_19433f : HSp := fun ps n C => ∃ h : Hd, ps = [.dat h.toD] ∧ h.Ok ∧ C (.dat (.bool true)) n
theorem word_yes {w : Str} {n : Nat} {C : PV → Nat → Prop} (h : isWordS w = true) (q : C (.dat (.bool true)) n) : sp_is_word_e81331 [.dat (.str w)] n C := ⟨_, rfl, fun z hz => (by cases hz; exact word_len (Or.inl h)), by rw [show isWordD (.str w) = true from h]; exact q⟩
theorem set_yes {s : List Str} {n : Nat} {C : PV → Nat → Prop} (h : IsSet s) (q : C (.dat (.bool true)) n) : sp_is_set_136706 [.dat (setD s)] n C := ⟨s, rfl, h, q⟩
theorem prs_yes {s : List (Str × Str)} {n : Nat} {C : PV → Nat → Prop} (h : IsPrs s) (q : C (.dat (.bool true)) n) : sp_is_pairs_02c5d9 [.dat (prsD s)] n C := ⟨s, rfl, h, q⟩
def h_is_form_19433f : HS :=
    (hSeq (hIfS (hOr (hNot (hB (hC isiW (hL 0 (fun s C => hNil s fun ps s2 => C (.val (.ty "tuple") :: ps) s2))))) (hOr (hB (hC (eqP false) (hL 0 (hE (hTup hNil) hNil)))) (hNot (hB (hC isiW (hE (hC ixW (hL 0 (hE (hK (.int 0)) hNil))) (fun s C => hNil s fun ps s2 => C (.val (.ty "str") :: ps) s2))))))) (hRet (hK (.bool false))) hNext)
    (hSeq (hIfS (hB (hC (eqP true) (hE (hKGet c_LONG_forms (hE (hC ixW (hL 0 (hE (hK (.int 0)) hNil))) (hE (hK (.int 0)) hNil))) (hE (hC lenW (hL 0 hNil)) hNil)))) (hRet (hK (.bool false))) hNext)
    (hSeq (hIfS (hB (hC (inP false) (hE (hC ixW (hL 0 (hE (hK (.int 0)) hNil))) (hE (hTup (hE (hK (.str "name")) (hE (hK (.str "then")) hNil))) hNil)))) (hRet (hCall sp_is_word_e81331 1 (hE (hC ixW (hL 0 (hE (hK (.int 1)) hNil))) hNil))) hNext)
    (hSeq (hIfS (hB (hC (inP false) (hE (hC ixW (hL 0 (hE (hK (.int 0)) hNil))) (hE (hTup (hE (hK (.str "beside")) (hE (hK (.str "hide")) hNil))) hNil)))) (hRet (hCall sp_is_set_136706 1 (hE (hC ixW (hL 0 (hE (hK (.int 2)) hNil))) hNil))) hNext)
    (hRet (hOrV (hC (eqP true) (hE (hC ixW (hL 0 (hE (hK (.int 0)) hNil))) (hE (hK (.str "as")) hNil))) (hCall sp_is_pairs_02c5d9 1 (hE (hC ixW (hL 0 (hE (hK (.int 2)) hNil))) hNil))))))))
theorem rd_is_form_19433f : ∀ pvs n C, pvs.length = 1 → sp_is_form_19433f pvs n C → h_is_form_19433f ⟨fun s => C (.dat .none) s.n, fun p s => C p s.n, fun _ => False, fun _ => False⟩ ⟨pvs.map some ++ List.replicate (1 - pvs.length) none, n⟩ := by
  intro pvs n C _ h
  obtain ⟨h, rfl, ok, q⟩ := h
  unfold h_is_form_19433f
  have pl := h.plain
  cases h <;> simp only [Hd.toD, Hd.Ok, PyData.plain] at ok pl ⊢ <;> simp
  case stop => exact ⟨pl, q⟩
  case spin => exact ⟨pl, q⟩
  case name => exact ⟨pl, word_yes ok q⟩
  case thn => exact ⟨pl, word_yes ok.1 q⟩
  case out => exact ⟨pl, q⟩
  case own => exact ⟨pl, q⟩
  case bes => exact ⟨pl, set_yes ok.2.1 q⟩
  case hid => exact ⟨pl, set_yes ok.2 q⟩
  case cal => exact ⟨pl, prs_yes ok.2 q⟩
def sp_beneath_d59fd4 : HSp := fun ps n C => ∃ h : Hd, ps = [.dat h.toD] ∧ C (.own (h.kids.map Hd.toD)) n
def h_beneath_d59fd4 : HS :=
    (hSeq (hIfS (hB (hC (eqP false) (hE (hC ixW (hL 0 (hE (hK (.int 0)) hNil))) (hE (hK (.str "then")) hNil)))) (hRet (hLst (hE (hC ixW (hL 0 (hE (hK (.int 2)) hNil))) hNil))) hNext)
    (hSeq (hIfS (hB (hC (inP false) (hE (hC ixW (hL 0 (hE (hK (.int 0)) hNil))) (hE (hTup (hE (hK (.str "out")) (hE (hK (.str "own")) hNil))) hNil)))) (hRet (hLst (hE (hC ixW (hL 0 (hE (hK (.int 1)) hNil))) (hE (hC ixW (hL 0 (hE (hK (.int 2)) hNil))) hNil)))) hNext)
    (hSeq (hIfS (hB (hC (eqP false) (hE (hC ixW (hL 0 (hE (hK (.int 0)) hNil))) (hE (hK (.str "beside")) hNil)))) (hRet (hLst (hE (hC ixW (hL 0 (hE (hK (.int 1)) hNil))) (hE (hC ixW (hL 0 (hE (hK (.int 3)) hNil))) hNil)))) hNext)
    (hRet (hIf (hB (hC (inP false) (hE (hC ixW (hL 0 (hE (hK (.int 0)) hNil))) (hE (hTup (hE (hK (.str "hide")) (hE (hK (.str "as")) hNil))) hNil)))) (hLst (hE (hC ixW (hL 0 (hE (hK (.int 1)) hNil))) hNil)) (hLst hNil))))))
theorem rd_beneath_d59fd4 : ∀ pvs n C, pvs.length = 1 → sp_beneath_d59fd4 pvs n C → h_beneath_d59fd4 ⟨fun s => C (.dat .none) s.n, fun p s => C p s.n, fun _ => False, fun _ => False⟩ ⟨pvs.map some ++ List.replicate (1 - pvs.length) none, n⟩ := by
  intro pvs n C _ h
  obtain ⟨h, rfl, q⟩ := h
  unfold h_beneath_d59fd4
  cases h <;> simp only [Hd.toD, Hd.kids, List.map_cons, List.map_nil] at q ⊢ <;> simp <;> exact q
end Sk
set_option Elab.async false
set_option linter.all false
set_option maxRecDepth 100000
set_option maxHeartbeats 4000000
namespace Sk
open PySem PySem.Spec PyProof.Rows L2
open PySem.W (Datum DatumOrd Tup T3 T4)
open Evl (Ex)
def sp_is_hand_dc24ee : HSp := fun ps n C => ∃ h : Hd, ps = [.dat h.toD] ∧ h.Ok ∧ C (.dat (.bool (decide h.Fit))) n
def wD (x : Hd × Nat) : PyData := .tuple [x.1.toD, .int x.2]
def sumS (ws : List (Hd × Nat)) : Nat := (ws.map fun x => x.1.size).sum
theorem plain_wD (ws : List (Hd × Nat)) : PyData.plainAll (ws.map wD) = true := by
  induction ws with
  | nil => rfl
  | cons a s ih => simp [PyData.plainAll, PyData.plain, ih, wD, Hd.plain]
theorem eqL {neg : Bool} {ds : List PyData} {C : PV → Prop} (h : PyData.plainAll ds = true) (c : C (.dat (.bool (if neg then !ds.isEmpty else ds.isEmpty)))) : eqP neg [.own ds, .dat (.list [])] C := by
  refine ⟨_, _, rfl, rfl, h, rfl, ?_, ?_⟩
  · have : PyData.depth (.list []) ≤ 60 := by simp [PyData.depth, PyData.depthAll]
    omega
  · rw [eqv_nil]; exact c
structure HaI (h : Hd) (n m : Nat) (s : Sg) : Prop where
  ex : ∃ (ws : List (Hd × Nat)) (k : Nat) (o3 o4 : Option PV), s = ⟨[some (.dat h.toD), some (.own (ws.map wD)), some (.dat (.int k)), o3, o4, none], n⟩ ∧ (∀ x ∈ ws, x.1.Ok) ∧ k ≤ 200 ∧ m = sumS ws ∧ (h.Fit ↔ k + sumS ws ≤ 200 ∧ ∀ x ∈ ws, x.2 + x.1.deep ≤ 41) ∧ ws.length ≤ 2 * k + 1
def h_is_hand_dc24ee : HS :=
    (hSeq (hAsg (hLst (hE (hTup (hE (hV 0) (hE (hK (.int 1)) hNil))) hNil)) 1)
    (hSeq (hAsg (hK (.int 0)) 2)
    (hSeq (hWhile (hB (hC (eqP true) (hL 1 (hE (hLst hNil) hNil)))) (hSeq (fun D s => (hPop 1) s fun p s1 => ∃ d, p.frz = some d ∧ (gP 3 4) d s1 D.nx)
    (hSeq (hAug (fun i j => i + j) 2 (hK (.int 1)))
    (hSeq (hIfS (hOr (hB (hC gtW (hL 2 (hE (hK c_MOST_SIZE) hNil)))) (hOr (hB (hC gtW (hL 4 (hE (hK c_MOST_DEEP) hNil)))) (hNot (hB (hCall sp_is_form_19433f 1 (hL 3 hNil)))))) (hRet (hK (.bool false))) hNext)
    (hDrop (hExt 1 (hLc (hiL (hCall sp_beneath_d59fd4 1 (hL 3 hNil))) (gN 5) hYes (hTup (hE (hV 5) (hE (hC addW (hL 4 (hE (hK (.int 1)) hNil))) hNil))) [5])))))))
    (hRet (hK (.bool true))))))
theorem rd_is_hand_dc24ee : ∀ pvs n C, pvs.length = 1 → sp_is_hand_dc24ee pvs n C → h_is_hand_dc24ee ⟨fun s => C (.dat .none) s.n, fun p s => C p s.n, fun _ => False, fun _ => False⟩ ⟨pvs.map some ++ List.replicate (6 - pvs.length) none, n⟩ := by
  intro pvs n C _ h
  obtain ⟨h, rfl, ok, q⟩ := h
  unfold h_is_hand_dc24ee
  simp only [hSeq, hAsg]
  show hLst _ _ _
  simp [-hWhile]
  refine hWhile_by (J := HaI h n) (m := h.size) ⟨[(h, 1)], 0, none, none, by simp [wD], by simpa using ok, by omega, by simp [sumS], ?_, by simp⟩ ?_
  · simp [Hd.Fit, sumS]; omega
  intro m s hs
  obtain ⟨ws, k, o3, o4, rfl, okw, k2, rfl, fit, len⟩ := hs
  simp
  refine eqL (plain_wD ws) ?_
  have no : ¬ h.Fit → C (.dat (.bool false)) n := fun nf => by rw [decide_eq_false nf] at q; exact q
  rcases List.eq_nil_or_concat ws with rfl | ⟨ws', ⟨x, d⟩, rfl⟩
  · simp
    rw [decide_eq_true (fit.mpr ⟨by simp [sumS]; omega, by simp⟩)] at q
    exact q
  rw [List.concat_eq_append] at *
  have es : sumS (ws' ++ [(x, d)]) = sumS ws' + x.size := by simp [sumS]
  have xp := x.size_pos
  have okx : x.Ok := okw (x, d) (by simp)
  rw [es] at fit
  simp
  refine ⟨_, ⟨_, _, ⟨rfl, rfl⟩, rfl⟩, ?_⟩
  simp only [wD]
  by_cases k1 : 200 < k + 1
  · exact Or.inr ⟨by omega, no fun f => by have := (fit.mp f).1; omega⟩
  refine Or.inl ⟨by omega, ?_⟩
  simp
  by_cases d1 : 40 < d
  · refine Or.inr ⟨by omega, no fun f => ?_⟩
    have := (fit.mp f).2 (x, d) (by simp)
    have := x.deep_pos
    simp only at *
    omega
  refine Or.inl ⟨by omega, ?_⟩
  refine ⟨x, rfl, okx, Or.inr ⟨rfl, x, rfl, ?_⟩⟩
  show lcs _ _ _ _ (x.kids.map Hd.toD) _ _ _
  have kl := x.kids_len
  have sk := x.size_kids
  refine lcs_map (xs := x.kids) Hd.toD (fun c => wD (c, d + 1)) (fun c hc K hK => ?_) [] _ (by simp; omega) ?_
  · simp
    exact hK _ (by simp)
  have sm : sumS (ws' ++ x.kids.map fun c => (c, d + 1)) = sumS ws' + (x.kids.map Hd.size).sum := by simp [sumS, Function.comp_def]
  refine ⟨ws'.map wD, _, rfl, rfl, ?_, sumS (ws' ++ x.kids.map fun c => (c, d + 1)), by omega, ?_⟩
  · simp at len ⊢; omega
  refine ⟨ws' ++ x.kids.map fun c => (c, d + 1), k + 1, some (.dat x.toD), some (.dat (.int d)), ?_, fun y hy => ?_, by omega, rfl, ?_, ?_⟩
  · simp [Function.comp_def]
  · rcases List.mem_append.mp hy with hy | hy
    · exact okw y (List.mem_append_left _ hy)
    · obtain ⟨c, hc, rfl⟩ := List.mem_map.mp hy
      exact x.ok_kids okx c hc
  · rw [fit, sm]
    constructor
    · rintro ⟨f1, f2⟩
      refine ⟨by omega, fun y hy => ?_⟩
      rcases List.mem_append.mp hy with hy | hy
      · exact f2 y (List.mem_append_left _ hy)
      · obtain ⟨c, hc, rfl⟩ := List.mem_map.mp hy
        exact Hd.deep_le (m := 40) (f2 (x, d) (by simp)) c hc
    · rintro ⟨f1, f2⟩
      refine ⟨by omega, fun y hy => ?_⟩
      rcases List.mem_append.mp hy with hy | hy
      · exact f2 y (List.mem_append_left _ hy)
      · rw [List.mem_singleton.mp hy]
        exact Hd.deep_of (m := 40) (by omega) fun c hc => f2 (c, d + 1) (List.mem_append_right _ (List.mem_map.mpr ⟨c, hc, rfl⟩))
  · simp at len ⊢; omega
def sp_need_hand_c39ac1 : HSp := fun ps n C => ∃ h : Hd, ps = [.dat h.toD] ∧ h.Ok ∧ h.Fit ∧ C (.dat .none) n
def h_need_hand_c39ac1 : HS :=
    (hIfS (hNot (hB (hCall sp_is_hand_dc24ee 1 (hL 0 hNil)))) hNever hNext)
theorem rd_need_hand_c39ac1 : ∀ pvs n C, pvs.length = 1 → sp_need_hand_c39ac1 pvs n C → h_need_hand_c39ac1 ⟨fun s => C (.dat .none) s.n, fun p s => C p s.n, fun _ => False, fun _ => False⟩ ⟨pvs.map some ++ List.replicate (1 - pvs.length) none, n⟩ := by
  intro pvs n C _ h
  obtain ⟨h, rfl, ok, fit, q⟩ := h
  unfold h_need_hand_c39ac1
  simp
  exact ⟨h, rfl, ok, by rw [decide_eq_true fit], q⟩
def spX_need_hand_c39ac1 : HSpX := fun ps n C Z => ∃ h : Hd, ps = [.dat h.toD] ∧ h.Ok ∧ (h.Fit → C (.dat .none) n) ∧ (¬ h.Fit → Z "BadHand" n)
def hX_need_hand_c39ac1 (Z : HX) : HS :=
    (hIfS (hNot (hB (hCall sp_is_hand_dc24ee 1 (hL 0 hNil)))) (hRaise "BadHand" Z) hNext)
theorem rdX_need_hand_c39ac1 : ∀ pvs n C Z, pvs.length = 1 → spX_need_hand_c39ac1 pvs n C Z → hX_need_hand_c39ac1 (fun x s => Z x s.n) ⟨fun s => C (.dat .none) s.n, fun p s => C p s.n, fun _ => False, fun _ => False⟩ ⟨pvs.map some ++ List.replicate (1 - pvs.length) none, n⟩ := by
  intro pvs n C Z _ h
  obtain ⟨h, rfl, ok, q1, q2⟩ := h
  unfold hX_need_hand_c39ac1
  simp
  refine ⟨h, rfl, ok, ?_⟩
  by_cases f : h.Fit
  · exact Or.inr ⟨by rw [decide_eq_true f], q1 f⟩
  · exact Or.inl ⟨by rw [decide_eq_false f], q2 f⟩
end Sk
set_option Elab.async false
set_option linter.all false
set_option maxRecDepth 100000
set_option maxHeartbeats 4000000
namespace Sk
open PySem PySem.Spec PyProof.Rows L2
open PySem.W (Datum DatumOrd Tup T3 T4)
open Evl (Ex)
inductive St where
  | thn (w : Str)
  | out (h : Hd)
  | own (h : Hd)
  | bes (s : List Str) (h : Hd)
  | hid (s : List Str)
  | cal (ps : List (Str × Str))
def St.toD : St → PyData
  | .thn w => .tuple [.str "then", .str w]
  | .out h => .tuple [.str "out", h.toD]
  | .own h => .tuple [.str "own", h.toD]
  | .bes s h => .tuple [.str "beside", setD s, h.toD]
  | .hid s => .tuple [.str "hide", setD s]
  | .cal ps => .tuple [.str "as", prsD ps]
def St.Ok : St → Prop
  | .thn w => isWordS w = true
  | .out h => h.Ok ∧ h.Fit
  | .own h => h.Ok ∧ h.Fit
  | .bes s h => IsSet s ∧ h.Ok ∧ h.Fit
  | .hid s => IsSet s
  | .cal ps => IsPrs ps
def put1 (h : Hd) : St → Hd
  | .thn w => .thn w h
  | .out k => .out h k
  | .own k => .own h k
  | .bes s k => .bes h s k
  | .hid s => .hid h s
  | .cal ps => .cal h ps
def puts (h : Hd) (ss : List St) : Hd := ss.foldl put1 h
theorem St.plain (s : St) : s.toD.plain = true := by
  cases s <;> simp [St.toD, PyData.plain, PyData.plainAll, setD, prsD, plain_strs, plain_prs, Hd.plain]
theorem St.depth {s : St} (h : s.Ok) : s.toD.depth ≤ 43 := by
  cases s with
  | cal ps =>
    have := depth_prs ps
    simp [St.toD, PyData.depth, PyData.depthAll, prsD]; omega
  | out k => have := k.depth; have := h.2.2; simp [St.toD, PyData.depth, PyData.depthAll]; omega
  | own k => have := k.depth; have := h.2.2; simp [St.toD, PyData.depth, PyData.depthAll]; omega
  | bes s k => have := k.depth; have := h.2.2.2; simp [St.toD, PyData.depth, PyData.depthAll, setD, depth_strs]; omega
  | _ => simp [St.toD, PyData.depth, PyData.depthAll, setD, depth_strs]
theorem St.imm (s : St) : Sk.imm s.toD = true := by
  cases s <;> simp [St.toD, Sk.imm, immAll, setD, prsD, imm_strs, imm_prs, Hd.imm]
theorem put1_ok {h : Hd} {s : St} (h1 : h.Ok) (h2 : s.Ok) : (put1 h s).Ok := by
  cases s <;> simp [put1, Hd.Ok, St.Ok] at h2 ⊢ <;> simp_all
theorem puts_ok : ∀ {ss : List St} {h : Hd}, h.Ok → (∀ s ∈ ss, s.Ok) → (puts h ss).Ok
  | [], _, h1, _ => h1
  | s :: ss, _, h1, h2 => puts_ok (ss := ss) (put1_ok h1 (h2 s List.mem_cons_self)) fun t ht => h2 t (List.mem_cons_of_mem _ ht)
theorem put1_mono (h : Hd) (s : St) : h.size ≤ (put1 h s).size ∧ h.deep ≤ (put1 h s).deep := by cases s <;> simp [put1, Hd.size, Hd.deep] <;> omega
theorem puts_mono : ∀ (ss : List St) (h : Hd), h.size ≤ (puts h ss).size ∧ h.deep ≤ (puts h ss).deep
  | [], h => ⟨Nat.le_refl _, Nat.le_refl _⟩
  | s :: ss, h => by
    have a := put1_mono h s
    have b := puts_mono ss (put1 h s)
    exact ⟨Nat.le_trans a.1 b.1, Nat.le_trans a.2 b.2⟩
theorem puts_fit {h : Hd} {ss : List St} (f : (puts h ss).Fit) : h.Fit := ⟨Nat.le_trans (puts_mono ss h).1 f.1, Nat.le_trans (puts_mono ss h).2 f.2⟩
theorem hand_yes {h : Hd} {n : Nat} {C : PV → Nat → Prop} (ok : h.Ok) (f : h.Fit) (q : C (.dat (.bool true)) n) : sp_is_hand_dc24ee [.dat h.toD] n C := ⟨h, rfl, ok, by rw [decide_eq_true f]; exact q⟩
def sp_is_step_74c82a : HSp := fun ps n C => ∃ s : St, ps = [.dat s.toD] ∧ s.Ok ∧ C (.dat (.bool true)) n
def h_is_step_74c82a : HS :=
    (hSeq (hIfS (hOr (hNot (hB (hC isiW (hL 0 (fun s C => hNil s fun ps s2 => C (.val (.ty "tuple") :: ps) s2))))) (hOr (hB (hC (eqP false) (hL 0 (hE (hTup hNil) hNil)))) (hNot (hB (hC isiW (hE (hC ixW (hL 0 (hE (hK (.int 0)) hNil))) (fun s C => hNil s fun ps s2 => C (.val (.ty "str") :: ps) s2))))))) (hRet (hK (.bool false))) hNext)
    (hSeq (hIfS (hB (hC (eqP true) (hE (hKGet c_LONG_surroundings (hE (hC ixW (hL 0 (hE (hK (.int 0)) hNil))) (hE (hK (.int 0)) hNil))) (hE (hC lenW (hL 0 hNil)) hNil)))) (hRet (hK (.bool false))) hNext)
    (hSeq (hIfS (hB (hC (eqP false) (hE (hC ixW (hL 0 (hE (hK (.int 0)) hNil))) (hE (hK (.str "then")) hNil)))) (hRet (hCall sp_is_word_e81331 1 (hE (hC ixW (hL 0 (hE (hK (.int 1)) hNil))) hNil))) hNext)
    (hSeq (hIfS (hB (hC (inP false) (hE (hC ixW (hL 0 (hE (hK (.int 0)) hNil))) (hE (hTup (hE (hK (.str "out")) (hE (hK (.str "own")) hNil))) hNil)))) (hRet (hCall sp_is_hand_dc24ee 1 (hE (hC ixW (hL 0 (hE (hK (.int 1)) hNil))) hNil))) hNext)
    (hSeq (hIfS (hB (hC (eqP false) (hE (hC ixW (hL 0 (hE (hK (.int 0)) hNil))) (hE (hK (.str "as")) hNil)))) (hRet (hCall sp_is_pairs_02c5d9 1 (hE (hC ixW (hL 0 (hE (hK (.int 1)) hNil))) hNil))) hNext)
    (hRet (hAndV (hCall sp_is_set_136706 1 (hE (hC ixW (hL 0 (hE (hK (.int 1)) hNil))) hNil)) (hOrV (hC (eqP false) (hE (hC ixW (hL 0 (hE (hK (.int 0)) hNil))) (hE (hK (.str "hide")) hNil))) (hCall sp_is_hand_dc24ee 1 (hE (hC ixW (hL 0 (hE (hK (.int 2)) hNil))) hNil))))))))))
theorem rd_is_step_74c82a : ∀ pvs n C, pvs.length = 1 → sp_is_step_74c82a pvs n C → h_is_step_74c82a ⟨fun s => C (.dat .none) s.n, fun p s => C p s.n, fun _ => False, fun _ => False⟩ ⟨pvs.map some ++ List.replicate (1 - pvs.length) none, n⟩ := by
  intro pvs n C _ h
  obtain ⟨h, rfl, ok, q⟩ := h
  unfold h_is_step_74c82a
  have pl := h.plain
  cases h <;> simp only [St.toD, St.Ok, PyData.plain] at ok pl ⊢ <;> simp
  case thn => exact ⟨pl, word_yes ok q⟩
  case out => exact ⟨pl, hand_yes ok.1 ok.2 q⟩
  case own => exact ⟨pl, hand_yes ok.1 ok.2 q⟩
  case bes => exact ⟨pl, set_yes ok.1 (Or.inr ⟨rfl, hand_yes ok.2.1 ok.2.2 q⟩)⟩
  case hid => exact ⟨pl, set_yes ok (Or.inr ⟨rfl, q⟩)⟩
  case cal => exact ⟨pl, prs_yes ok q⟩
def sp_need_surroundings_42129f : HSp := fun ps n C => ∃ ss : List St, ps = [.dat (.tuple (ss.map St.toD))] ∧ (∀ s ∈ ss, s.Ok) ∧ ss.length ≤ 10 ∧ C (.dat .none) n
def h_need_surroundings_42129f : HS :=
    (hIfS (hOr (hNot (hB (hC isiW (hL 0 (fun s C => hNil s fun ps s2 => C (.val (.ty "tuple") :: ps) s2))))) (hOr (hB (hC gtW (hE (hC lenW (hL 0 hNil)) (hE (hK c_MOST_STEPS) hNil)))) (hNot (hB (hC (allW fun bs => bs.all id) (hE (hLc (hiT (hV 0)) (gN 1) hYes (hCall sp_is_step_74c82a 1 (hL 1 hNil)) [1]) hNil)))))) hNever hNext)
theorem rd_need_surroundings_42129f : ∀ pvs n C, pvs.length = 1 → sp_need_surroundings_42129f pvs n C → h_need_surroundings_42129f ⟨fun s => C (.dat .none) s.n, fun p s => C p s.n, fun _ => False, fun _ => False⟩ ⟨pvs.map some ++ List.replicate (2 - pvs.length) none, n⟩ := by
  intro pvs n C _ h
  obtain ⟨ss, rfl, ok, hl, q⟩ := h
  unfold h_need_surroundings_42129f
  simp [-hLc]
  refine ⟨by omega, ?_⟩
  refine hLc_eq.mpr ?_
  simp [-lcs]
  refine lcs_map (xs := ss) St.toD (fun _ => .bool true) (fun s hs K hK => ?_) [] _ (by simp; omega) ?_
  · simp
    exact ⟨s, rfl, ok s hs, hK _ (by simp)⟩
  · refine ⟨_, rfl, allW_b (bs := ss.map fun _ => true) (by simp) ?_⟩
    simp
    exact q
def sp_put_one_0dbed4 : HSp := fun ps n C => ∃ (h : Hd) (s : St), ps = [.dat h.toD, .dat s.toD] ∧ C (.dat (put1 h s).toD) n
def h_put_one_0dbed4 : HS :=
    (hSeq (hIfS (hB (hC (eqP false) (hE (hC ixW (hL 1 (hE (hK (.int 0)) hNil))) (hE (hK (.str "then")) hNil)))) (hRet (hTup (hE (hK (.str "then")) (hE (hC ixW (hL 1 (hE (hK (.int 1)) hNil))) (hE (hV 0) hNil))))) hNext)
    (hRet (hC addTW (hE (hTup (hE (hC ixW (hL 1 (hE (hK (.int 0)) hNil))) (hE (hV 0) hNil))) (hE (hSl 1 (hPt (hK (.int 1))) hNo) hNil)))))
theorem rd_put_one_0dbed4 : ∀ pvs n C, pvs.length = 2 → sp_put_one_0dbed4 pvs n C → h_put_one_0dbed4 ⟨fun s => C (.dat .none) s.n, fun p s => C p s.n, fun _ => False, fun _ => False⟩ ⟨pvs.map some ++ List.replicate (2 - pvs.length) none, n⟩ := by
  intro pvs n C _ h
  obtain ⟨h, s, rfl, q⟩ := h
  unfold h_put_one_0dbed4
  cases s <;> simp only [St.toD, put1, Hd.toD] at q ⊢ <;> simp
  all_goals first | exact q | (simp [addTW, cut1_none]; exact q)
def sp_put_round_d1447a : HSp := fun _ _ _ => False
def h_put_round_d1447a : HS :=
    (hSeq (hDrop (hCall sp_need_hand_c39ac1 1 (hL 0 hNil)))
    (hSeq (hDrop (hCall sp_need_surroundings_42129f 1 (hL 1 hNil)))
    (hSeq (hFor (hiT (hV 1)) (gN 2) (hAsg (hCall sp_put_one_0dbed4 2 (hL 0 (hL 2 hNil))) 0))
    (hSeq (hDrop (hCall sp_need_hand_c39ac1 1 (hL 0 hNil)))
    (hRet (hM 0))))))
theorem rd_put_round_d1447a : ∀ pvs n C, pvs.length = 2 → sp_put_round_d1447a pvs n C → h_put_round_d1447a ⟨fun s => C (.dat .none) s.n, fun p s => C p s.n, fun _ => False, fun _ => False⟩ ⟨pvs.map some ++ List.replicate (3 - pvs.length) none, n⟩ := by
  intro pvs n C _ h
  exact h.elim
abbrev prB80 : HS := (hAsg (hCall sp_put_one_0dbed4 2 (hL 0 (hL 2 hNil))) 0)
theorem put_loop {D : HD} {o1 : Option PV} {n : Nat} : ∀ (ss : List St) (h : Hd) (o2 : Option PV), (∀ o2', D.nx ⟨[some (.dat (puts h ss).toD), o1, o2'], n⟩) → each (gN 2) prB80 D (ss.map St.toD) ⟨[some (.dat h.toD), o1, o2], n⟩
  | [], h, o2, q => q o2
  | s :: ss, h, o2, q => by
    rw [List.map_cons, each]
    have ih := put_loop (D := D) (o1 := o1) (n := n) ss (put1 h s) (some (.dat s.toD)) q
    generalize each (gN 2) prB80 D (ss.map St.toD) = T at ih
    simp
    exact ⟨h, s, rfl, ih⟩
def spX_put_round_d1447a : HSpX := fun ps n C Z => ∃ (h : Hd) (ss : List St), ps = [.dat h.toD, .dat (.tuple (ss.map St.toD))] ∧ h.Ok ∧ (∀ s ∈ ss, s.Ok) ∧ ss.length ≤ 10 ∧ ((puts h ss).Fit → C (.dat (puts h ss).toD) n) ∧ (¬ (puts h ss).Fit → Z "BadHand" n)
def hX_put_round_d1447a (Z : HX) : HS :=
    (hSeq (hDrop (hCallX spX_need_hand_c39ac1 1 Z (hL 0 hNil)))
    (hSeq (hDrop (hCall sp_need_surroundings_42129f 1 (hL 1 hNil)))
    (hSeq (hFor (hiT (hV 1)) (gN 2) (hAsg (hCall sp_put_one_0dbed4 2 (hL 0 (hL 2 hNil))) 0))
    (hSeq (hDrop (hCallX spX_need_hand_c39ac1 1 Z (hL 0 hNil)))
    (hRet (hM 0))))))
theorem rdX_put_round_d1447a : ∀ pvs n C Z, pvs.length = 2 → spX_put_round_d1447a pvs n C Z → hX_put_round_d1447a (fun x s => Z x s.n) ⟨fun s => C (.dat .none) s.n, fun p s => C p s.n, fun _ => False, fun _ => False⟩ ⟨pvs.map some ++ List.replicate (3 - pvs.length) none, n⟩ := by
  intro pvs n C Z _ h
  obtain ⟨h, ss, rfl, ok, oks, hl, q1, q2⟩ := h
  unfold hX_put_round_d1447a
  simp [-each]
  refine ⟨h, rfl, ok, fun _ => ?_, fun f => q2 fun z => f (puts_fit z)⟩
  refine ⟨ss, rfl, oks, hl, ?_⟩
  refine put_loop (D := { nx := _, rt := _, bk := _, ct := _ }) ss h none fun o2 => ?_
  simp
  exact ⟨puts h ss, rfl, puts_ok ok oks, q1, q2⟩
end Sk
set_option Elab.async false
set_option linter.all false
set_option maxRecDepth 100000
set_option maxHeartbeats 4000000
namespace Sk
open PySem PySem.Spec PyProof.Rows L2
open PySem.W (Datum DatumOrd Tup T3 T4)
open Evl (Ex)
theorem lcs_p {α β : Type} {vs : List Nat} {g : HG} {t : HE} {sl : List (Option PV)} {P : α → β → Prop} {toD : β → PyData} {c N : Nat} (e : α → PyData) : ∀ (xs : List α) (acc : List PyData) (n : Nat) (C : PV → Sg → Prop),
    (∀ a ∈ xs, ∀ n, n ≤ N → ∀ K : PV → Sg → Prop, (∀ (b : β) (n' : Nat) (s3 : Sg), P a b → n' ≤ n + c → s3.wipe vs = ⟨sl, n'⟩ → K (.dat (toD b)) s3) → g (e a) ⟨sl, n⟩ fun s1 => t s1 K) → n + c * xs.length ≤ N → acc.length + xs.length ≤ 100000 →
    (∀ (bs : List β) (n' : Nat), Paired P xs bs → n' ≤ n + c * xs.length → C (.own (acc ++ bs.map toD)) ⟨sl, n'⟩) → lcs vs g hYes t (xs.map e) acc ⟨sl, n⟩ C := by
  intro xs
  induction xs with
  | nil => intro acc n C _ _ _ fin; simpa using fin [] n .nil (by simp)
  | cons a xs ih =>
    intro acc n C h hN hl fin
    have hl' : acc.length + (xs.length + 1) ≤ 100000 := by simpa using hl
    have hN' : n + c * (xs.length + 1) ≤ N := by simpa using hN
    rw [Nat.mul_succ] at hN'
    show g (e a) ⟨sl, n⟩ fun s1 => hYes s1 fun b s2 => if b = true then t s2 fun p s3 => ∃ x, p.frz = some x ∧ acc.length < 100000 ∧ lcs vs g hYes t (xs.map e) (acc ++ [x]) (s3.wipe vs) C else lcs vs g hYes t (xs.map e) acc (s2.wipe vs) C
    refine h a List.mem_cons_self n (by omega) _ fun b n' s3 hb hn' hs => ⟨_, rfl, by omega, ?_⟩
    rw [hs]
    refine ih _ _ _ (fun a ha => h a (List.mem_cons_of_mem _ ha)) (by omega) (by simp; omega) fun bs n2 hp h3 => ?_
    have := fin (b :: bs) n2 (.cons hb hp) (by simp only [List.length_cons, Nat.mul_succ]; omega)
    simpa using this
def sp__law_pairs_79411b : HSp := fun ps n C => ∃ ws : List Str, ps = [.drw, .dat (.list (ws.map .str))] ∧ ws.Nodup ∧ ws.length ≤ 8 ∧ (∀ w ∈ ws, isWordS w = true) ∧ n < 134217728 ∧ ∀ (L : List (Str × Str)) (n' : Nat), IsPrs L → n' ≤ n + 16 → C (.dat (prsD L)) n'
def h__law_pairs_79411b : HS :=
    (hSeq (hAsg (hC (sortA (Str)) (hE (hLc (hiL (hV 1)) (gN 3) (hB (hC (eqP false) (hE (hCall sp__law_draw_a6e186 2 (hL 0 (hE (hK (.int 2)) hNil))) (hE (hK (.int 0)) hNil)))) (hV 3) [3]) hNil)) 2)
    (hRet (hC tupW (hE (hLc (hiL (hV 2)) (gN 3) hYes (hTup (hE (hV 3) (hE (hC ixW (hL 1 (hE (hCall sp__law_draw_a6e186 2 (hL 0 (hE (hC lenW (hL 1 hNil)) hNil))) hNil))) hNil))) [3]) hNil))))
theorem rd__law_pairs_79411b : ∀ pvs n C, pvs.length = 2 → sp__law_pairs_79411b pvs n C → h__law_pairs_79411b ⟨fun s => C (.dat .none) s.n, fun p s => C p s.n, fun _ => False, fun _ => False⟩ ⟨pvs.map some ++ List.replicate (4 - pvs.length) none, n⟩ := by
  intro pvs n C _ h
  obtain ⟨ws, rfl, nd, hl, hw, hn, q⟩ := h
  unfold h__law_pairs_79411b
  simp [-hLc]
  refine hLc_eq.mpr ?_
  simp [-hLc]
  refine lcs_sub (c := 1) (N := 200000000) (fun w : Str => PyData.str w) ws [] _ _ (fun w hw n hN K hF hT => ?_) (by omega) (by simp; omega) fun L n' hL hn' => ?_
  · simp
    refine drw' 2 _ _ (by decide) (by decide) (by omega) fun a a0 a1 => ?_
    refine ⟨_, rfl, eq_int.mpr ?_⟩
    by_cases ha : a = 0
    · refine Or.inr ⟨by simp [ha], ?_⟩
      exact hT (n + 1) _ (by omega) fun K2 hK2 => by simp; exact hK2 _ (by simp)
    · refine Or.inl ⟨by simp [ha], ?_⟩
      exact hF (n + 1) _ (by omega) (by simp)
  · simp only [List.nil_append]
    refine ⟨_, rfl, L, rfl, ?_⟩
    have sl := sortL_len L
    have ll := hL.length_le
    simp [-hLc]
    refine hLc_eq.mpr ?_
    simp [-lcs]
    refine lcs_p (P := fun (a : Str) (b : Str × Str) => b.1 = a ∧ b.2 ∈ ws) (toD := prD) (c := 1) (N := 200000000) PyData.str (sortL L) [] _ _ (fun a ha n hN K hK => ?_) (by omega) (by simp; omega) fun bs n2 hp h3 => ?_
    · have ha' : a ∈ ws := hL.subset (mem_sortL.mp ha)
      have pos : 0 < ws.length := List.length_pos_of_mem ha'
      simp
      refine drw' _ _ _ (by omega) (by omega) (by omega) fun i i0 i1 => ?_
      obtain ⟨x, e1, e2⟩ := atI_str (ws := ws) i0 i1
      simp
      refine ⟨_, e1, hK (a, x) (n + 1) _ ⟨rfl, e2⟩ (by omega) (by simp)⟩
    · simp
      have pr : ∀ {xs : List Str} {bs : List (Str × Str)}, Paired (fun (a : Str) (b : Str × Str) => b.1 = a ∧ b.2 ∈ ws) xs bs → bs.map (·.1) = xs ∧ ∀ b ∈ bs, b.1 ∈ xs ∧ b.2 ∈ ws := fun {xs bs} h => by
        induction h with
        | nil => exact ⟨rfl, fun b h => by cases h⟩
        | cons h _ ih =>
          refine ⟨by rw [List.map_cons, ih.1, h.1], fun b hb => ?_⟩
          rcases List.mem_cons.mp hb with rfl | hb
          · exact ⟨by rw [h.1]; exact List.mem_cons_self, h.2⟩
          · exact ⟨List.mem_cons_of_mem _ (ih.2 b hb).1, (ih.2 b hb).2⟩
      obtain ⟨p1, p2⟩ := pr hp
      have pl : bs.length = (sortL L).length := by rw [← p1, List.length_map]
      refine q bs n2 ⟨fun b hb => ⟨hw _ (hL.subset (mem_sortL.mp (p2 b hb).1)), hw _ (p2 b hb).2⟩, by omega, ?_⟩ (by omega)
      rw [p1]
      exact sortL_rising (nd.sublist hL)
end Sk
set_option Elab.async false
set_option linter.all false
set_option maxRecDepth 100000
set_option maxHeartbeats 4000000
namespace Sk
open PySem PySem.Spec PyProof.Rows L2
open PySem.W (Datum DatumOrd Tup T3 T4)
open Evl (Ex)
structure WsOk (ws ns : List Str) : Prop where
  nd : ws.Nodup
  l8 : ws.length ≤ 8
  hw : ∀ w ∈ ws, isWordS w = true
  nl : ns.length ≤ 100
  hn : ∀ w ∈ ns, isWordS w = true
theorem WsOk.none {ws ns : List Str} (W : WsOk ws ns) : WsOk ws [] := ⟨W.nd, W.l8, W.hw, Nat.zero_le _, fun _ h => by cases h⟩
def sp__law_hand_3892a5 : Nat → HSp
  | 0 => fun _ _ _ => False
  | d + 1 => fun ps n C => ∃ (ws ns : List Str) (k : Int), ps = [.drw, .dat (.list (ws.map .str)), .dat (.list (ns.map .str)), .dat (.int k)] ∧ WsOk ws ns ∧ k ≤ d + 1 ∧ n + 40 * 2 ^ (d + 1) ≤ 100000000 ∧
    ∀ (h : Hd) (n' : Nat), h.Ok → (h.deep : Int) ≤ max k 1 → n' + 40 ≤ n + 40 * 2 ^ (d + 1) → C (.dat h.toD) n'
def h__law_hand_3892a5 (d : Nat) : HS :=
    (hSeq (hPutRoom 0 (hC subW (hE (hRoom 0) (hE (hK (.int 1)) hNil))))
    (hSeq (hAsg (hIf (hAnd (hB (hC gtW (hL 3 (hE (hK (.int 1)) hNil)))) (hB (hC gtW (hE (hRoom 0) (hE (hK (.int 0)) hNil))))) (hCall sp__law_draw_a6e186 2 (hL 0 (hE (hK (.int 13)) hNil))) (hC addW (hE (hK (.int 11)) (hE (hCall sp__law_draw_a6e186 2 (hL 0 (hE (hK (.int 2)) hNil))) hNil)))) 4)
    (hSeq (hIfS (hAnd (hB (hC ltW (hL 4 (hE (hK (.int 5)) hNil)))) (hB (hC (eqP true) (hL 1 (hE (hLst hNil) hNil))))) (hRet (hTup (hE (hK (.str "then")) (hE (hC ixW (hL 1 (hE (hCall sp__law_draw_a6e186 2 (hL 0 (hE (hC lenW (hL 1 hNil)) hNil))) hNil))) (hE (hCall (sp__law_hand_3892a5 d) 4 (hL 0 (hL 1 (hL 2 (hE (hC subW (hL 3 (hE (hK (.int 1)) hNil))) hNil))))) hNil))))) hNext)
    (hSeq (hIfS (hB (hC ltW (hL 4 (hE (hK (.int 7)) hNil)))) (hRet (hTup (hE (hK (.str "own")) (hE (hCall (sp__law_hand_3892a5 d) 4 (hL 0 (hL 1 (hL 2 (hE (hC subW (hL 3 (hE (hK (.int 1)) hNil))) hNil))))) (hE (hCall (sp__law_hand_3892a5 d) 4 (hL 0 (hL 1 (hL 2 (hE (hC subW (hL 3 (hE (hK (.int 1)) hNil))) hNil))))) hNil))))) hNext)
    (hSeq (hIfS (hB (hC ltW (hL 4 (hE (hK (.int 11)) hNil)))) (hSeq (hAsg (hIf (hB (hC (eqP false) (hE (hCall sp__law_draw_a6e186 2 (hL 0 (hE (hK (.int 8)) hNil))) (hE (hK (.int 0)) hNil)))) (hV 2) (hLst hNil)) 5)
    (hSeq (hAsg (hCall (sp__law_hand_3892a5 d) 4 (hL 0 (hL 1 (hL 5 (hE (hC subW (hL 3 (hE (hK (.int 1)) hNil))) hNil))))) 6)
    (hSeq (hIfS (hB (hC (eqP false) (hL 4 (hE (hK (.int 7)) hNil)))) (hRet (hTup (hE (hK (.str "out")) (hE (hV 6) (hE (hCall (sp__law_hand_3892a5 d) 4 (hL 0 (hL 1 (hL 5 (hE (hC subW (hL 3 (hE (hK (.int 1)) hNil))) hNil))))) hNil))))) hNext)
    (hSeq (hIfS (hB (hC (eqP false) (hL 4 (hE (hK (.int 8)) hNil)))) (hRet (hTup (hE (hK (.str "beside")) (hE (hV 6) (hE (hCall sp__law_set_82be62 2 (hL 0 (hL 1 hNil))) (hE (hCall (sp__law_hand_3892a5 d) 4 (hL 0 (hL 1 (hL 5 (hE (hC subW (hL 3 (hE (hK (.int 1)) hNil))) hNil))))) hNil)))))) hNext)
    (hRet (hIf (hB (hC (eqP false) (hL 4 (hE (hK (.int 9)) hNil)))) (hTup (hE (hK (.str "hide")) (hE (hV 6) (hE (hCall sp__law_set_82be62 2 (hL 0 (hL 1 hNil))) hNil)))) (hTup (hE (hK (.str "as")) (hE (hV 6) (hE (hCall sp__law_pairs_79411b 2 (hL 0 (hL 1 hNil))) hNil)))))))))) hNext)
    (hSeq (hIfS (hAnd (hB (hC (eqP true) (hL 2 (hE (hLst hNil) hNil)))) (hB (hC (eqP false) (hL 4 (hE (hK (.int 11)) hNil))))) (hRet (hTup (hE (hK (.str "name")) (hE (hC ixW (hL 2 (hE (hCall sp__law_draw_a6e186 2 (hL 0 (hE (hC lenW (hL 2 hNil)) hNil))) hNil))) hNil)))) hNext)
    (hRet (hIf (hB (hC (eqP false) (hE (hCall sp__law_draw_a6e186 2 (hL 0 (hE (hK (.int 8)) hNil))) (hE (hK (.int 0)) hNil)))) (hTup (hE (hK (.str "spin")) hNil)) (hTup (hE (hK (.str "stop")) hNil))))))))))
def lh_6 (d : Nat) : HS := (hRet (hIf (hB (hC (eqP false) (hE (hCall sp__law_draw_a6e186 2 (hL 0 (hE (hK (.int 8)) hNil))) (hE (hK (.int 0)) hNil)))) (hTup (hE (hK (.str "spin")) hNil)) (hTup (hE (hK (.str "stop")) hNil))))
def lh_5 (d : Nat) : HS := (hSeq (hIfS (hAnd (hB (hC (eqP true) (hL 2 (hE (hLst hNil) hNil)))) (hB (hC (eqP false) (hL 4 (hE (hK (.int 11)) hNil))))) (hRet (hTup (hE (hK (.str "name")) (hE (hC ixW (hL 2 (hE (hCall sp__law_draw_a6e186 2 (hL 0 (hE (hC lenW (hL 2 hNil)) hNil))) hNil))) hNil)))) hNext) (lh_6 d))
def lh_4 (d : Nat) : HS := (hSeq (hIfS (hB (hC ltW (hL 4 (hE (hK (.int 11)) hNil)))) (hSeq (hAsg (hIf (hB (hC (eqP false) (hE (hCall sp__law_draw_a6e186 2 (hL 0 (hE (hK (.int 8)) hNil))) (hE (hK (.int 0)) hNil)))) (hV 2) (hLst hNil)) 5) (hSeq (hAsg (hCall (sp__law_hand_3892a5 d) 4 (hL 0 (hL 1 (hL 5 (hE (hC subW (hL 3 (hE (hK (.int 1)) hNil))) hNil))))) 6) (hSeq (hIfS (hB (hC (eqP false) (hL 4 (hE (hK (.int 7)) hNil)))) (hRet (hTup (hE (hK (.str "out")) (hE (hV 6) (hE (hCall (sp__law_hand_3892a5 d) 4 (hL 0 (hL 1 (hL 5 (hE (hC subW (hL 3 (hE (hK (.int 1)) hNil))) hNil))))) hNil))))) hNext) (hSeq (hIfS (hB (hC (eqP false) (hL 4 (hE (hK (.int 8)) hNil)))) (hRet (hTup (hE (hK (.str "beside")) (hE (hV 6) (hE (hCall sp__law_set_82be62 2 (hL 0 (hL 1 hNil))) (hE (hCall (sp__law_hand_3892a5 d) 4 (hL 0 (hL 1 (hL 5 (hE (hC subW (hL 3 (hE (hK (.int 1)) hNil))) hNil))))) hNil)))))) hNext) (hRet (hIf (hB (hC (eqP false) (hL 4 (hE (hK (.int 9)) hNil)))) (hTup (hE (hK (.str "hide")) (hE (hV 6) (hE (hCall sp__law_set_82be62 2 (hL 0 (hL 1 hNil))) hNil)))) (hTup (hE (hK (.str "as")) (hE (hV 6) (hE (hCall sp__law_pairs_79411b 2 (hL 0 (hL 1 hNil))) hNil)))))))))) hNext) (lh_5 d))
def lh_3 (d : Nat) : HS := (hSeq (hIfS (hB (hC ltW (hL 4 (hE (hK (.int 7)) hNil)))) (hRet (hTup (hE (hK (.str "own")) (hE (hCall (sp__law_hand_3892a5 d) 4 (hL 0 (hL 1 (hL 2 (hE (hC subW (hL 3 (hE (hK (.int 1)) hNil))) hNil))))) (hE (hCall (sp__law_hand_3892a5 d) 4 (hL 0 (hL 1 (hL 2 (hE (hC subW (hL 3 (hE (hK (.int 1)) hNil))) hNil))))) hNil))))) hNext) (lh_4 d))
def lh_2 (d : Nat) : HS := (hSeq (hIfS (hAnd (hB (hC ltW (hL 4 (hE (hK (.int 5)) hNil)))) (hB (hC (eqP true) (hL 1 (hE (hLst hNil) hNil))))) (hRet (hTup (hE (hK (.str "then")) (hE (hC ixW (hL 1 (hE (hCall sp__law_draw_a6e186 2 (hL 0 (hE (hC lenW (hL 1 hNil)) hNil))) hNil))) (hE (hCall (sp__law_hand_3892a5 d) 4 (hL 0 (hL 1 (hL 2 (hE (hC subW (hL 3 (hE (hK (.int 1)) hNil))) hNil))))) hNil))))) hNext) (lh_3 d))
def lh_1 (d : Nat) : HS := (hSeq (hAsg (hIf (hAnd (hB (hC gtW (hL 3 (hE (hK (.int 1)) hNil)))) (hB (hC gtW (hE (hRoom 0) (hE (hK (.int 0)) hNil))))) (hCall sp__law_draw_a6e186 2 (hL 0 (hE (hK (.int 13)) hNil))) (hC addW (hE (hK (.int 11)) (hE (hCall sp__law_draw_a6e186 2 (hL 0 (hE (hK (.int 2)) hNil))) hNil)))) 4) (lh_2 d))
def lh_0 (d : Nat) : HS := (hSeq (hPutRoom 0 (hC subW (hE (hRoom 0) (hE (hK (.int 1)) hNil)))) (lh_1 d))
theorem lh_eq (d : Nat) : h__law_hand_3892a5 d = (lh_0 d) := rfl
abbrev DC (C : PV → Nat → Prop) : HD := ⟨fun s => C (.dat .none) s.n, fun p s => C p s.n, fun _ => False, fun _ => False⟩
theorem sub_hand {d n : Nat} {ws ns : List Str} {k : Int} {C : PV → Nat → Prop} (W : WsOk ws ns) (hk : 1 < k) (hd : k ≤ d + 1) (b : n + 40 * 2 ^ d ≤ 100000000) (q : ∀ (h : Hd) (n' : Nat), h.Ok → (h.deep : Int) + 1 ≤ k → n' + 40 ≤ n + 40 * 2 ^ d → C (.dat h.toD) n') :
    sp__law_hand_3892a5 d [.drw, .dat (.list (ws.map .str)), .dat (.list (ns.map .str)), .dat (.int (k - 1))] n C := by
  cases d with
  | zero => omega
  | succ e => exact ⟨ws, ns, k - 1, rfl, W, by omega, b, fun h n' ok dp b => q h n' ok (by omega) b⟩
abbrev sH (ws ns : List Str) (k w : Int) (n : Nat) : Sg := ⟨[some .drw, some (.dat (.list (ws.map .str))), some (.dat (.list (ns.map .str))), some (.dat (.int k)), some (.dat (.int w)), none, none], n⟩
theorem eqLd {neg : Bool} {ds : List PyData} {C : PV → Prop} (h : PyData.plainAll ds = true) (c : C (.dat (.bool (if neg then !ds.isEmpty else ds.isEmpty)))) : eqP neg [.dat (.list ds), .dat (.list [])] C := by
  refine ⟨_, _, rfl, rfl, h, rfl, ?_, ?_⟩
  · have : PyData.depth (.list []) ≤ 60 := by simp [PyData.depth, PyData.depthAll]
    omega
  · rw [eqv_nil]; exact c
def Fin (d N : Nat) (k : Int) (C : PV → Nat → Prop) : Prop := ∀ (h : Hd) (n' : Nat), h.Ok → (h.deep : Int) ≤ max k 1 → n' + 40 ≤ N + 40 * 2 ^ (d + 1) → C (.dat h.toD) n'
section
variable {d n N : Nat} {ws ns : List Str} {k w : Int} {C : PV → Nat → Prop}
theorem two_pow (d : Nat) : 2 ^ (d + 1) = 2 * 2 ^ d ∧ 1 ≤ 2 ^ d := ⟨by rw [Nat.pow_succ]; omega, Nat.one_le_two_pow⟩
theorem lh6 (b : N + 40 * 2 ^ (d + 1) ≤ 100000000) (hn : n ≤ N + 2) (fin : Fin d N k C) : lh_6 d (DC C) (sH ws ns k w n) := by
  obtain ⟨p1, p2⟩ := two_pow d
  unfold lh_6
  simp
  refine drw' 8 _ _ (by decide) (by decide) (by omega) fun a a0 a1 => ?_
  simp
  by_cases ha : a = 0
  · exact Or.inr ⟨ha, fin .spin _ trivial (by simp [Hd.deep]; omega) (by omega)⟩
  · exact Or.inl ⟨ha, fin .stop _ trivial (by simp [Hd.deep]; omega) (by omega)⟩
def lhI2 (d : Nat) : HS := (hSeq (hIfS (hB (hC (eqP false) (hL 4 (hE (hK (.int 7)) hNil)))) (hRet (hTup (hE (hK (.str "out")) (hE (hV 6) (hE (hCall (sp__law_hand_3892a5 d) 4 (hL 0 (hL 1 (hL 5 (hE (hC subW (hL 3 (hE (hK (.int 1)) hNil))) hNil))))) hNil))))) hNext) (hSeq (hIfS (hB (hC (eqP false) (hL 4 (hE (hK (.int 8)) hNil)))) (hRet (hTup (hE (hK (.str "beside")) (hE (hV 6) (hE (hCall sp__law_set_82be62 2 (hL 0 (hL 1 hNil))) (hE (hCall (sp__law_hand_3892a5 d) 4 (hL 0 (hL 1 (hL 5 (hE (hC subW (hL 3 (hE (hK (.int 1)) hNil))) hNil))))) hNil)))))) hNext) (hRet (hIf (hB (hC (eqP false) (hL 4 (hE (hK (.int 9)) hNil)))) (hTup (hE (hK (.str "hide")) (hE (hV 6) (hE (hCall sp__law_set_82be62 2 (hL 0 (hL 1 hNil))) hNil)))) (hTup (hE (hK (.str "as")) (hE (hV 6) (hE (hCall sp__law_pairs_79411b 2 (hL 0 (hL 1 hNil))) hNil))))))))
def lhI1 (d : Nat) : HS := (hSeq (hAsg (hCall (sp__law_hand_3892a5 d) 4 (hL 0 (hL 1 (hL 5 (hE (hC subW (hL 3 (hE (hK (.int 1)) hNil))) hNil))))) 6) (lhI2 d))
def lhI (d : Nat) : HS := (hSeq (hAsg (hIf (hB (hC (eqP false) (hE (hCall sp__law_draw_a6e186 2 (hL 0 (hE (hK (.int 8)) hNil))) (hE (hK (.int 0)) hNil)))) (hV 2) (hLst hNil)) 5) (lhI1 d))
theorem lh4_eq (d : Nat) : lh_4 d = (hSeq (hIfS (hB (hC ltW (hL 4 (hE (hK (.int 11)) hNil)))) (lhI d) hNext) (lh_5 d)) := rfl
theorem lh5 (W : WsOk ws ns) (b : N + 40 * 2 ^ (d + 1) ≤ 100000000) (hn : n ≤ N + 2) (fin : Fin d N k C) : lh_5 d (DC C) (sH ws ns k w n) := by
  obtain ⟨p1, p2⟩ := two_pow d
  have r := lh6 (d := d) (ws := ws) (ns := ns) (w := w) b hn fin
  unfold lh_5
  generalize lh_6 d = T at r
  simp
  refine eqLd (plain_strs ns) ?_
  cases ns with
  | nil => exact Or.inl ⟨rfl, r⟩
  | cons x0 ns =>
    refine Or.inr ⟨rfl, ?_⟩
    by_cases h11 : w = 11
    · refine Or.inr ⟨h11, ?_⟩
      have hnl := W.nl
      refine drw' _ _ _ (by simp) (by omega) (by omega) fun i i0 i1 => ?_
      obtain ⟨x, e1, e2⟩ := atI_str (ws := x0 :: ns) i0 i1
      rw [List.map_cons] at e1
      simp
      refine ⟨_, e1, fin (.name x) _ (W.hn x e2) (by simp [Hd.deep]; omega) (by omega)⟩
    · exact Or.inl ⟨h11, r⟩
abbrev DN (nx : Sg → Prop) (C : PV → Nat → Prop) : HD := ⟨nx, fun p s => C p s.n, fun _ => False, fun _ => False⟩
theorem lhI2_ok {nx : Sg → Prop} {ss : List Str} {v5 : PV} {h1 : Hd} (W : WsOk ws ns) (Ws : WsOk ws ss) (h5 : v5 = .dat (.list (ss.map .str)) ∨ v5 = .own (ss.map .str)) (hk : 1 < k) (hd : k ≤ d + 1) (b : N + 40 * 2 ^ (d + 1) ≤ 100000000) (ok1 : h1.Ok) (dp1 : (h1.deep : Int) + 1 ≤ k) (hn : n + 40 ≤ N + 3 + 40 * 2 ^ d) (fin : Fin d N k C) :
    lhI2 d (DN nx C) ⟨[some .drw, some (.dat (.list (ws.map .str))), some (.dat (.list (ns.map .str))), some (.dat (.int k)), some (.dat (.int w)), some v5, some (.dat h1.toD)], n⟩ := by
  obtain ⟨p1, p2⟩ := two_pow d
  have l8 := W.l8
  unfold lhI2
  simp
  by_cases w7 : w = 7
  · refine Or.inr ⟨w7, ?_⟩
    rcases h5 with rfl | rfl
    all_goals
      simp
      refine sub_hand Ws hk hd (by omega) fun h2 n2 ok2 dp2 c2 => ?_
      first
      | exact ⟨h2.imm, _, rfl, fin (.out h1 h2) _ ⟨ok1, ok2⟩ (by simp [Hd.deep]; omega) (by omega)⟩
      | exact ⟨_, rfl, fin (.out h1 h2) _ ⟨ok1, ok2⟩ (by simp [Hd.deep]; omega) (by omega)⟩
      | exact fin (.out h1 h2) _ ⟨ok1, ok2⟩ (by simp [Hd.deep]; omega) (by omega)
  refine Or.inl ⟨w7, ?_⟩
  by_cases w8 : w = 8
  · refine Or.inr ⟨w8, ?_⟩
    refine ⟨ws, rfl, W.nd, by omega, by omega, fun L n1 hL sub ll c1 => ?_⟩
    simp
    rcases h5 with rfl | rfl
    all_goals
      simp
      refine sub_hand Ws hk hd (by omega) fun h2 n2 ok2 dp2 c2 => ?_
      first
      | exact ⟨h2.imm, _, rfl, fin (.bes h1 L h2) _ ⟨ok1, ⟨fun w hw => W.hw w (sub w hw), by omega, hL⟩, ok2⟩ (by simp [Hd.deep]; omega) (by omega)⟩
      | exact ⟨_, rfl, fin (.bes h1 L h2) _ ⟨ok1, ⟨fun w hw => W.hw w (sub w hw), by omega, hL⟩, ok2⟩ (by simp [Hd.deep]; omega) (by omega)⟩
  refine Or.inl ⟨w8, ?_⟩
  by_cases w9 : w = 9
  · refine Or.inr ⟨w9, ?_⟩
    refine ⟨ws, rfl, W.nd, by omega, by omega, fun L n1 hL sub ll c1 => ?_⟩
    exact ⟨_, rfl, fin (.hid h1 L) _ ⟨ok1, fun w hw => W.hw w (sub w hw), by omega, hL⟩ (by simp [Hd.deep]; omega) (by omega)⟩
  refine Or.inl ⟨w9, ?_⟩
  refine ⟨ws, rfl, W.nd, W.l8, W.hw, by omega, fun L n1 hL c1 => ?_⟩
  exact ⟨_, rfl, fin (.cal h1 L) _ ⟨ok1, hL⟩ (by simp [Hd.deep]; omega) (by omega)⟩
theorem lhI1_ok {nx : Sg → Prop} {ss : List Str} {v5 : PV} (W : WsOk ws ns) (Ws : WsOk ws ss) (h5 : v5 = .dat (.list (ss.map .str)) ∨ v5 = .own (ss.map .str)) (hk : 1 < k) (hd : k ≤ d + 1) (b : N + 40 * 2 ^ (d + 1) ≤ 100000000) (hn : n ≤ N + 3) (fin : Fin d N k C) :
    lhI1 d (DN nx C) ⟨[some .drw, some (.dat (.list (ws.map .str))), some (.dat (.list (ns.map .str))), some (.dat (.int k)), some (.dat (.int w)), some v5, none], n⟩ := by
  obtain ⟨p1, p2⟩ := two_pow d
  have r := fun h1 n1 ok1 dp1 (hn : n1 + 40 ≤ N + 3 + 40 * 2 ^ d) => lhI2_ok (nx := nx) (n := n1) (w := w) (h1 := h1) W Ws h5 hk hd b ok1 dp1 hn fin
  unfold lhI1
  generalize lhI2 d = T at r
  rcases h5 with rfl | rfl
  all_goals
    simp
    refine sub_hand Ws hk hd (by omega) fun h1 n1 ok1 dp1 c1 => ?_
    first
    | exact ⟨h1.imm, r h1 n1 ok1 dp1 (by omega)⟩
    | exact r h1 n1 ok1 dp1 (by omega)
theorem lhI_ok {nx : Sg → Prop} (W : WsOk ws ns) (hk : 1 < k) (hd : k ≤ d + 1) (b : N + 40 * 2 ^ (d + 1) ≤ 100000000) (hn : n ≤ N + 2) (fin : Fin d N k C) : lhI d (DN nx C) (sH ws ns k w n) := by
  obtain ⟨p1, p2⟩ := two_pow d
  have r1 := lhI1_ok (nx := nx) (n := n + 1) (w := w) W W (Or.inl rfl) hk hd b (by omega) fin
  have r2 := lhI1_ok (nx := nx) (n := n + 1) (w := w) W W.none (Or.inr rfl) hk hd b (by omega) fin
  unfold lhI
  generalize lhI1 d = T at r1 r2
  simp
  refine drw' 8 _ _ (by decide) (by decide) (by omega) fun a a0 a1 => ?_
  simp
  by_cases ha : a = 0
  · exact Or.inr ⟨ha, r1⟩
  · exact Or.inl ⟨ha, r2⟩
theorem lh4 (W : WsOk ws ns) (hw : 11 ≤ w ∨ 1 < k) (hd : k ≤ d + 1) (b : N + 40 * 2 ^ (d + 1) ≤ 100000000) (hn : n ≤ N + 2) (fin : Fin d N k C) : lh_4 d (DC C) (sH ws ns k w n) := by
  have r := lh5 (d := d) (w := w) W b hn fin
  rw [lh4_eq]
  generalize lh_5 d = T at r
  by_cases h : 11 ≤ w
  · simp
    exact Or.inl ⟨h, r⟩
  · have r2 := lhI_ok (nx := T (DC C)) (w := w) W (by omega) hd b hn fin
    generalize lhI d = T2 at r2
    simp
    exact Or.inr ⟨by omega, r2⟩
theorem lh3 (W : WsOk ws ns) (hw : 11 ≤ w ∨ 1 < k) (hd : k ≤ d + 1) (b : N + 40 * 2 ^ (d + 1) ≤ 100000000) (hn : n ≤ N + 2) (fin : Fin d N k C) : lh_3 d (DC C) (sH ws ns k w n) := by
  obtain ⟨p1, p2⟩ := two_pow d
  have r := lh4 (d := d) (w := w) W hw hd b hn fin
  unfold lh_3
  generalize lh_4 d = T at r
  simp
  by_cases h : 7 ≤ w
  · exact Or.inl ⟨h, r⟩
  have hk : 1 < k := by omega
  refine Or.inr ⟨by omega, ?_⟩
  refine sub_hand W hk hd (by omega) fun h1 n1 ok1 dp1 c1 => ⟨_, rfl, ?_⟩
  refine sub_hand W hk hd (by omega) fun h2 n2 ok2 dp2 c2 => ⟨_, rfl, ?_⟩
  exact fin (.own h1 h2) _ ⟨ok1, ok2⟩ (by simp [Hd.deep]; omega) (by omega)
theorem lh2 (W : WsOk ws ns) (hw : 11 ≤ w ∨ 1 < k) (hd : k ≤ d + 1) (b : N + 40 * 2 ^ (d + 1) ≤ 100000000) (hn : n ≤ N + 2) (fin : Fin d N k C) : lh_2 d (DC C) (sH ws ns k w n) := by
  obtain ⟨p1, p2⟩ := two_pow d
  have r := lh3 (d := d) (w := w) W hw hd b hn fin
  unfold lh_2
  generalize lh_3 d = T at r
  simp
  by_cases h : 5 ≤ w
  · exact Or.inl ⟨h, r⟩
  refine Or.inr ⟨by omega, ?_⟩
  refine eqLd (plain_strs ws) ?_
  by_cases he : ws = []
  · exact Or.inl ⟨by simp [he], r⟩
  have hk : 1 < k := by omega
  have pos : 0 < ws.length := List.length_pos_iff.mpr he
  have l8 := W.l8
  refine Or.inr ⟨by simp [he], ?_⟩
  refine drw' _ _ _ (by omega) (by omega) (by omega) fun i i0 i1 => ?_
  obtain ⟨x, e1, e2⟩ := atI_str (ws := ws) i0 i1
  simp
  refine ⟨_, e1, ?_⟩
  refine sub_hand W hk hd (by omega) fun h1 n1 ok1 dp1 c1 => ⟨_, rfl, ?_⟩
  exact fin (.thn x h1) _ ⟨W.hw x e2, ok1⟩ (by simp [Hd.deep]; omega) (by omega)
end
theorem rd__law_hand_3892a5 : ∀ (d : Nat) pvs n C, pvs.length = 4 → sp__law_hand_3892a5 (d + 1) pvs n C → h__law_hand_3892a5 d ⟨fun s => C (.dat .none) s.n, fun p s => C p s.n, fun _ => False, fun _ => False⟩ ⟨pvs.map some ++ List.replicate (7 - pvs.length) none, n⟩ := by
  intro d pvs n C _ h
  obtain ⟨ws, ns, k, rfl, W, hd, b, q⟩ := h
  obtain ⟨p1, p2⟩ := two_pow d
  rw [lh_eq]
  unfold lh_0 lh_1
  have r := fun w (hw : 11 ≤ w ∨ 1 < k) => lh2 (n := n + 1) (N := n) (C := C) (w := w) W hw hd b (by omega) q
  generalize lh_2 d = T at r
  have one : sp__law_draw_a6e186 [.drw, .dat (.int 2)] n fun p n' => ∃ d, p.frz = some d ∧ addW [.dat (.int 11), .dat d] fun p => T (DC C) ⟨[some .drw, some (.dat (.list (ws.map .str))), some (.dat (.list (ns.map .str))), some (.dat (.int k)), some p, none, none], n'⟩ := by
    refine drw' 2 _ _ (by decide) (by decide) (by omega) fun a a0 a1 => ?_
    refine ⟨_, rfl, add_ii.mpr ?_⟩
    exact r (11 + a) (Or.inl (by omega))
  simp
  by_cases hk : k ≤ 1
  · exact Or.inl ⟨hk, one⟩
  refine Or.inr ⟨by omega, fun r0 => ?_⟩
  by_cases hr : r0 ≤ 0
  · exact Or.inl ⟨hr, one⟩
  refine Or.inr ⟨by omega, ?_⟩
  refine drw' 13 _ _ (by decide) (by decide) (by omega) fun a a0 a1 => ?_
  exact r a (Or.inr (by omega))
end Sk
set_option Elab.async false
set_option linter.all false
set_option maxRecDepth 100000
set_option maxHeartbeats 4000000
namespace Sk
open PySem PySem.Spec PyProof.Rows L2
open PySem.W (Datum DatumOrd Tup T3 T4)
open Evl (Ex)
theorem Hd.size_lt (h : Hd) : h.size < 2 ^ h.deep := by
  have mx : ∀ a b : Nat, 2 ^ a ≤ 2 ^ max a b ∧ 2 ^ b ≤ 2 ^ max a b := fun a b => ⟨Nat.pow_le_pow_right (by decide) (Nat.le_max_left _ _), Nat.pow_le_pow_right (by decide) (Nat.le_max_right _ _)⟩
  induction h with
  | stop => simp [Hd.size, Hd.deep]
  | spin => simp [Hd.size, Hd.deep]
  | name w => simp [Hd.size, Hd.deep]
  | thn w h ih => simp only [Hd.size, Hd.deep, Nat.pow_succ]; omega
  | out a b i1 i2 => have := mx a.deep b.deep; simp only [Hd.size, Hd.deep, Nat.pow_succ]; omega
  | own a b i1 i2 => have := mx a.deep b.deep; simp only [Hd.size, Hd.deep, Nat.pow_succ]; omega
  | bes a s b i1 i2 => have := mx a.deep b.deep; simp only [Hd.size, Hd.deep, Nat.pow_succ]; omega
  | hid a s ih => simp only [Hd.size, Hd.deep, Nat.pow_succ]; omega
  | cal a s ih => simp only [Hd.size, Hd.deep, Nat.pow_succ]; omega
theorem Hd.size_of {h : Hd} {k : Nat} (d : h.deep ≤ k) : h.size < 2 ^ k := Nat.lt_of_lt_of_le h.size_lt (Nat.pow_le_pow_right (by decide) d)
def St.sz : St → Nat
  | .out h => h.size
  | .own h => h.size
  | .bes _ h => h.size
  | _ => 0
def St.dp : St → Nat
  | .out h => h.deep
  | .own h => h.deep
  | .bes _ h => h.deep
  | _ => 0
theorem put1_sz (h : Hd) (s : St) : (put1 h s).size = h.size + s.sz + 1 := by cases s <;> simp [put1, Hd.size, St.sz]
theorem put1_dp (h : Hd) (s : St) : (put1 h s).deep = max h.deep s.dp + 1 := by cases s <;> simp [put1, Hd.deep, St.dp]
theorem puts_sz {k : Nat} : ∀ {ss : List St} {h : Hd}, (∀ s ∈ ss, s.sz ≤ k) → (puts h ss).size ≤ h.size + (k + 1) * ss.length
  | [], h, _ => Nat.le_refl _
  | s :: ss, h, a => by
    have := puts_sz (ss := ss) (h := put1 h s) fun t ht => a t (List.mem_cons_of_mem _ ht)
    have := a s List.mem_cons_self
    have e := put1_sz h s
    show (puts (put1 h s) ss).size ≤ _
    rw [List.length_cons, Nat.mul_succ]
    omega
theorem puts_dple {k : Nat} : ∀ {ss : List St} {h : Hd}, (∀ s ∈ ss, s.dp ≤ k) → (puts h ss).deep ≤ max h.deep k + ss.length
  | [], h, _ => by show h.deep ≤ _; simp; omega
  | s :: ss, h, a => by
    have e := put1_dp h s
    have := a s List.mem_cons_self
    have := puts_dple (ss := ss) (h := put1 h s) (fun t ht => a t (List.mem_cons_of_mem _ ht))
    show (puts (put1 h s) ss).deep ≤ _
    rw [List.length_cons]
    omega
def StD (s : St) : Prop := s.Ok ∧ s.sz ≤ 7 ∧ s.dp ≤ 3
def sp__law_step_0e68b5 : HSp := fun ps n C => ∃ ws ns : List Str, ps = [.drw, .dat (.list (ws.map .str)), .dat (.list (ns.map .str))] ∧ WsOk ws ns ∧ n ≤ 90000000 ∧ ∀ (s : St) (n' : Nat), StD s → n' ≤ n + 20000 → C (.dat s.toD) n'
def h__law_step_0e68b5 : HS :=
    (hSeq (hAsg (hCall sp__law_draw_a6e186 2 (hL 0 (hE (hK (.int 6)) hNil))) 3)
    (hSeq (hIfS (hAnd (hB (hC (eqP false) (hL 3 (hE (hK (.int 0)) hNil)))) (hB (hC (eqP true) (hL 1 (hE (hLst hNil) hNil))))) (hRet (hTup (hE (hK (.str "then")) (hE (hC ixW (hL 1 (hE (hCall sp__law_draw_a6e186 2 (hL 0 (hE (hC lenW (hL 1 hNil)) hNil))) hNil))) hNil)))) hNext)
    (hSeq (hIfS (hB (hC (eqP false) (hL 3 (hE (hK (.int 1)) hNil)))) (hRet (hTup (hE (hK (.str "hide")) (hE (hCall sp__law_set_82be62 2 (hL 0 (hL 1 hNil))) hNil)))) hNext)
    (hSeq (hIfS (hB (hC (eqP false) (hL 3 (hE (hK (.int 2)) hNil)))) (hRet (hTup (hE (hK (.str "as")) (hE (hCall sp__law_pairs_79411b 2 (hL 0 (hL 1 hNil))) hNil)))) hNext)
    (hSeq (hPutRoom 0 (hK (.int 4)))
    (hSeq (hAsg (hCall (sp__law_hand_3892a5 8) 4 (hL 0 (hL 1 (hL 2 (hE (hK (.int 3)) hNil))))) 4)
    (hSeq (hIfS (hB (hC (eqP false) (hL 3 (hE (hK (.int 3)) hNil)))) (hRet (hTup (hE (hK (.str "beside")) (hE (hCall sp__law_set_82be62 2 (hL 0 (hL 1 hNil))) (hE (hV 4) hNil))))) hNext)
    (hRet (hTup (hE (hC ixW (hE (hLst (hE (hK (.str "out")) (hE (hK (.str "own")) hNil))) (hE (hC modW (hL 3 (hE (hK (.int 2)) hNil))) hNil))) (hE (hV 4) hNil)))))))))))
def lt_7 : HS := (hRet (hTup (hE (hC ixW (hE (hLst (hE (hK (.str "out")) (hE (hK (.str "own")) hNil))) (hE (hC modW (hL 3 (hE (hK (.int 2)) hNil))) hNil))) (hE (hV 4) hNil))))
def lt_6 : HS := (hSeq (hIfS (hB (hC (eqP false) (hL 3 (hE (hK (.int 3)) hNil)))) (hRet (hTup (hE (hK (.str "beside")) (hE (hCall sp__law_set_82be62 2 (hL 0 (hL 1 hNil))) (hE (hV 4) hNil))))) hNext) lt_7)
def lt_5 : HS := (hSeq (hAsg (hCall (sp__law_hand_3892a5 8) 4 (hL 0 (hL 1 (hL 2 (hE (hK (.int 3)) hNil))))) 4) lt_6)
def lt_4 : HS := (hSeq (hPutRoom 0 (hK (.int 4))) lt_5)
def lt_3 : HS := (hSeq (hIfS (hB (hC (eqP false) (hL 3 (hE (hK (.int 2)) hNil)))) (hRet (hTup (hE (hK (.str "as")) (hE (hCall sp__law_pairs_79411b 2 (hL 0 (hL 1 hNil))) hNil)))) hNext) lt_4)
def lt_2 : HS := (hSeq (hIfS (hB (hC (eqP false) (hL 3 (hE (hK (.int 1)) hNil)))) (hRet (hTup (hE (hK (.str "hide")) (hE (hCall sp__law_set_82be62 2 (hL 0 (hL 1 hNil))) hNil)))) hNext) lt_3)
def lt_1 : HS := (hSeq (hIfS (hAnd (hB (hC (eqP false) (hL 3 (hE (hK (.int 0)) hNil)))) (hB (hC (eqP true) (hL 1 (hE (hLst hNil) hNil))))) (hRet (hTup (hE (hK (.str "then")) (hE (hC ixW (hL 1 (hE (hCall sp__law_draw_a6e186 2 (hL 0 (hE (hC lenW (hL 1 hNil)) hNil))) hNil))) hNil)))) hNext) lt_2)
def lt_0 : HS := (hSeq (hAsg (hCall sp__law_draw_a6e186 2 (hL 0 (hE (hK (.int 6)) hNil))) 3) lt_1)
theorem lt_eq : h__law_step_0e68b5 = lt_0 := rfl
section
variable {N n : Nat} {ws ns : List Str} {C : PV → Nat → Prop} {a : Int}
abbrev FinS (N : Nat) (C : PV → Nat → Prop) : Prop := ∀ (s : St) (n' : Nat), StD s → n' ≤ N + 20000 → C (.dat s.toD) n'
abbrev sS (ws ns : List Str) (a : Int) (o : Option PV) (n : Nat) : Sg := ⟨[some .drw, some (.dat (.list (ws.map .str))), some (.dat (.list (ns.map .str))), some (.dat (.int a)), o], n⟩
theorem lt6 {h : Hd} (W : WsOk ws ns) (a0 : 0 ≤ a) (a1 : a < 6) (hN : N ≤ 90000000) (hn : n ≤ N + 15000) (ok : h.Ok) (dp : h.deep ≤ 3) (fin : FinS N C) : lt_6 (DC C) (sS ws ns a (some (.dat h.toD)) n) := by
  have l8 := W.l8
  have sz := Hd.size_of dp
  have ft : h.Fit := ⟨by omega, by omega⟩
  unfold lt_6
  simp
  by_cases a3 : a = 3
  · refine Or.inr ⟨a3, ?_⟩
    refine ⟨ws, rfl, W.nd, by omega, by omega, fun L n1 hL sub ll c1 => ?_⟩
    exact ⟨_, rfl, fin (.bes L h) _ ⟨⟨⟨fun w hw => W.hw w (sub w hw), by omega, hL⟩, ok, ft⟩, by simp [St.sz]; omega, dp⟩ (by omega)⟩
  · refine Or.inl ⟨a3, ?_⟩
    unfold lt_7
    simp
    have : a % 2 = 0 ∨ a % 2 = 1 := by omega
    rcases this with e | e
    · rw [e]
      exact ⟨_, at0, fin (.out h) _ ⟨⟨ok, ft⟩, by simp [St.sz]; omega, dp⟩ (by omega)⟩
    · rw [e]
      exact ⟨_, at1, fin (.own h) _ ⟨⟨ok, ft⟩, by simp [St.sz]; omega, dp⟩ (by omega)⟩
theorem lt2 (W : WsOk ws ns) (a0 : 0 ≤ a) (a1 : a < 6) (hN : N ≤ 90000000) (hn : n ≤ N + 10) (fin : FinS N C) : lt_2 (DC C) (sS ws ns a none n) := by
  have l8 := W.l8
  unfold lt_2
  simp
  by_cases h1 : a = 1
  · refine Or.inr ⟨h1, ?_⟩
    refine ⟨ws, rfl, W.nd, by omega, by omega, fun L n1 hL sub ll c1 => ?_⟩
    exact ⟨_, rfl, fin (.hid L) _ ⟨⟨fun w hw => W.hw w (sub w hw), by omega, hL⟩, by simp [St.sz], by simp [St.dp]⟩ (by omega)⟩
  refine Or.inl ⟨h1, ?_⟩
  unfold lt_3
  simp
  by_cases h2 : a = 2
  · refine Or.inr ⟨h2, ?_⟩
    refine ⟨ws, rfl, W.nd, W.l8, W.hw, by omega, fun L n1 hL c1 => ?_⟩
    exact ⟨_, rfl, fin (.cal L) _ ⟨hL, by simp [St.sz], by simp [St.dp]⟩ (by omega)⟩
  refine Or.inl ⟨h2, ?_⟩
  unfold lt_4
  simp
  unfold lt_5
  simp
  refine ⟨ws, ns, 3, rfl, W, by decide, (show n + 10240 ≤ 100000000 by omega), fun h n1 ok dp c1 => ?_⟩
  have c1 : n1 + 40 ≤ n + 10240 := c1
  exact lt6 W a0 a1 hN (by omega) ok (by omega) fin
end
theorem rd__law_step_0e68b5 : ∀ pvs n C, pvs.length = 3 → sp__law_step_0e68b5 pvs n C → h__law_step_0e68b5 ⟨fun s => C (.dat .none) s.n, fun p s => C p s.n, fun _ => False, fun _ => False⟩ ⟨pvs.map some ++ List.replicate (5 - pvs.length) none, n⟩ := by
  intro pvs n C _ h
  obtain ⟨ws, ns, rfl, W, hn, q⟩ := h
  have l8 := W.l8
  rw [lt_eq]
  unfold lt_0
  simp only [hSeq, hAsg]
  simp
  refine drw' 6 _ _ (by decide) (by decide) (by omega) fun a a0 a1 => ?_
  unfold lt_1
  have r := lt2 (n := n + 1) (N := n) (a := a) W a0 a1 hn (by omega) q
  generalize lt_2 = T at r
  simp
  by_cases h0 : a = 0
  · refine Or.inr ⟨h0, eqLd (plain_strs ws) ?_⟩
    by_cases he : ws = []
    · exact Or.inl ⟨by simp [he], r⟩
    have pos : 0 < ws.length := List.length_pos_iff.mpr he
    refine Or.inr ⟨by simp [he], ?_⟩
    refine drw' _ _ _ (by omega) (by omega) (by omega) fun i i0 i1 => ?_
    obtain ⟨x, e1, e2⟩ := atI_str (ws := ws) i0 i1
    simp
    exact ⟨_, e1, q (.thn x) _ ⟨W.hw x e2, by simp [St.sz], by simp [St.dp]⟩ (by omega)⟩
  · exact Or.inl ⟨h0, r⟩
def sp__law_put_51ebdf : HSp := fun ps n C => ∃ (h : Hd) (ss : List St), ps = [.dat h.toD, .dat (.tuple (ss.map St.toD))] ∧ C (.dat (puts h ss).toD) n
def h__law_put_51ebdf : HS :=
    (hSeq (hFor (hiT (hV 1)) (gN 2) (hIfS (hB (hC (eqP false) (hE (hC ixW (hL 2 (hE (hK (.int 0)) hNil))) (hE (hK (.str "then")) hNil)))) (hAsg (hTup (hE (hK (.str "then")) (hE (hC ixW (hL 2 (hE (hK (.int 1)) hNil))) (hE (hV 0) hNil)))) 0) (hIfS (hB (hC (eqP false) (hE (hC ixW (hL 2 (hE (hK (.int 0)) hNil))) (hE (hK (.str "beside")) hNil)))) (hAsg (hTup (hE (hK (.str "beside")) (hE (hV 0) (hE (hC ixW (hL 2 (hE (hK (.int 1)) hNil))) (hE (hC ixW (hL 2 (hE (hK (.int 2)) hNil))) hNil))))) 0) (hAsg (hTup (hE (hC ixW (hL 2 (hE (hK (.int 0)) hNil))) (hE (hV 0) (hE (hC ixW (hL 2 (hE (hK (.int 1)) hNil))) hNil)))) 0))))
    (hRet (hM 0)))
abbrev lp80 : HS := (hIfS (hB (hC (eqP false) (hE (hC ixW (hL 2 (hE (hK (.int 0)) hNil))) (hE (hK (.str "then")) hNil)))) (hAsg (hTup (hE (hK (.str "then")) (hE (hC ixW (hL 2 (hE (hK (.int 1)) hNil))) (hE (hV 0) hNil)))) 0) (hIfS (hB (hC (eqP false) (hE (hC ixW (hL 2 (hE (hK (.int 0)) hNil))) (hE (hK (.str "beside")) hNil)))) (hAsg (hTup (hE (hK (.str "beside")) (hE (hV 0) (hE (hC ixW (hL 2 (hE (hK (.int 1)) hNil))) (hE (hC ixW (hL 2 (hE (hK (.int 2)) hNil))) hNil))))) 0) (hAsg (hTup (hE (hC ixW (hL 2 (hE (hK (.int 0)) hNil))) (hE (hV 0) (hE (hC ixW (hL 2 (hE (hK (.int 1)) hNil))) hNil)))) 0)))
theorem lp_loop {D : HD} {o1 : Option PV} {n : Nat} : ∀ (ss : List St) (h : Hd) (o2 : Option PV), (∀ o2', D.nx ⟨[some (.dat (puts h ss).toD), o1, o2'], n⟩) → each (gN 2) lp80 D (ss.map St.toD) ⟨[some (.dat h.toD), o1, o2], n⟩
  | [], h, o2, q => q o2
  | s :: ss, h, o2, q => by
    rw [List.map_cons, each]
    have ih := lp_loop (D := D) (o1 := o1) (n := n) ss (put1 h s) (some (.dat s.toD)) q
    generalize each (gN 2) lp80 D (ss.map St.toD) = T at ih
    cases s <;> simp only [St.toD, put1, Hd.toD] at ih ⊢ <;> simp <;> exact ih
theorem rd__law_put_51ebdf : ∀ pvs n C, pvs.length = 2 → sp__law_put_51ebdf pvs n C → h__law_put_51ebdf ⟨fun s => C (.dat .none) s.n, fun p s => C p s.n, fun _ => False, fun _ => False⟩ ⟨pvs.map some ++ List.replicate (3 - pvs.length) none, n⟩ := by
  intro pvs n C _ h
  obtain ⟨h, ss, rfl, q⟩ := h
  unfold h__law_put_51ebdf
  simp [-each]
  refine lp_loop (D := { nx := _, rt := _, bk := _, ct := _ }) ss h none fun o2 => ?_
  simp
  exact q
def chn : Nat → Hd
  | 0 => .stop
  | k + 1 => .thn "a" (chn k)
theorem chn_sz (k : Nat) : (chn k).size = k + 1 := by induction k with
  | zero => rfl
  | succ k ih => simp [chn, Hd.size, ih]
theorem chn_dp (k : Nat) : (chn k).deep = k + 1 := by induction k with
  | zero => rfl
  | succ k ih => simp [chn, Hd.deep, ih]
theorem chn_ok (k : Nat) : (chn k).Ok := by induction k with
  | zero => trivial
  | succ k ih => exact ⟨by decide +kernel, ih⟩
def sp__law_chain_31e2a8 : HSp := fun ps n C => ∃ k : Nat, ps = [.dat (.int k)] ∧ k ≤ 1000 ∧ C (.dat (chn k).toD) n
def h__law_chain_31e2a8 : HS :=
    (hSeq (hAsg (hTup (hE (hK (.str "stop")) hNil)) 1)
    (hSeq (hFor (hiR1 (hL 0 hNil)) (gN 2) (hAsg (hTup (hE (hK (.str "then")) (hE (hK (.str "a")) (hE (hV 1) hNil)))) 1))
    (hRet (hM 1))))
abbrev lc80 : HS := (hAsg (hTup (hE (hK (.str "then")) (hE (hK (.str "a")) (hE (hV 1) hNil)))) 1)
theorem lc_loop {D : HD} {o0 : Option PV} {n : Nat} : ∀ (xs : List Nat) (j : Nat) (o2 : Option PV), (∀ o2', D.nx ⟨[o0, some (.dat (chn (j + xs.length)).toD), o2'], n⟩) → each (gN 2) lc80 D (xs.map fun i : Nat => .int i) ⟨[o0, some (.dat (chn j).toD), o2], n⟩
  | [], j, o2, q => q o2
  | x :: xs, j, o2, q => by
    rw [List.map_cons, each]
    have ih := lc_loop (D := D) (o0 := o0) (n := n) xs (j + 1) (some (.dat (.int x))) fun o2' => by
      have := q o2'
      rw [List.length_cons] at this
      rw [show j + 1 + xs.length = j + (xs.length + 1) from by omega]
      exact this
    generalize each (gN 2) lc80 D (xs.map fun i : Nat => .int i) = T at ih
    simp
    exact ih
theorem rd__law_chain_31e2a8 : ∀ pvs n C, pvs.length = 1 → sp__law_chain_31e2a8 pvs n C → h__law_chain_31e2a8 ⟨fun s => C (.dat .none) s.n, fun p s => C p s.n, fun _ => False, fun _ => False⟩ ⟨pvs.map some ++ List.replicate (3 - pvs.length) none, n⟩ := by
  intro pvs n C _ h
  obtain ⟨k, rfl, hk, q⟩ := h
  unfold h__law_chain_31e2a8
  simp [-each]
  refine ⟨by omega, ?_⟩
  have er : rngD 0 k = (List.range k).map fun i : Nat => PyData.int (i : Int) := by simp [rngD]
  rw [er]
  refine lc_loop (D := { nx := _, rt := _, bk := _, ct := _ }) (List.range k) 0 none fun o2 => ?_
  rw [List.length_range, Nat.zero_add]
  simp
  exact q
def sp__law_bush_a763c1 : Nat → HSp
  | 0 => fun _ _ _ => False
  | d + 1 => fun ps n C => ∃ m : Nat, ps = [.dat (.int m)] ∧ 1 ≤ m ∧ m ≤ 2 ^ d ∧ ∀ h : Hd, h.Ok → h.size + 1 = 2 * m → h.deep ≤ d + 1 → C (.dat h.toD) n
def h__law_bush_a763c1 (d : Nat) : HS :=
    (hSeq (hIfS (hB (hC ltW (hL 0 (hE (hK (.int 2)) hNil)))) (hRet (hTup (hE (hK (.str "stop")) hNil))) hNext)
    (hRet (hTup (hE (hK (.str "own")) (hE (hCall (sp__law_bush_a763c1 d) 1 (hE (hC fdivW (hL 0 (hE (hK (.int 2)) hNil))) hNil)) (hE (hCall (sp__law_bush_a763c1 d) 1 (hE (hC subW (hL 0 (hE (hC fdivW (hL 0 (hE (hK (.int 2)) hNil))) hNil))) hNil)) hNil))))))
theorem rd__law_bush_a763c1 : ∀ (d : Nat) pvs n C, pvs.length = 1 → sp__law_bush_a763c1 (d + 1) pvs n C → h__law_bush_a763c1 d ⟨fun s => C (.dat .none) s.n, fun p s => C p s.n, fun _ => False, fun _ => False⟩ ⟨pvs.map some ++ List.replicate (1 - pvs.length) none, n⟩ := by
  intro d pvs n C _ h
  obtain ⟨m, rfl, m1, md, q⟩ := h
  unfold h__law_bush_a763c1
  simp
  by_cases h2 : m < 2
  · exact Or.inr ⟨by omega, q .stop trivial (by simp [Hd.size]; omega) (by simp [Hd.deep])⟩
  refine Or.inl ⟨by omega, wide_div (b := 10) (by decide) (by decide) (by decide) (by decide), ?_⟩
  cases d with
  | zero => simp at md; omega
  | succ e =>
    rw [Nat.pow_succ] at md
    refine ⟨m / 2, by simp, by omega, by omega, fun h1 ok1 s1 d1 => ⟨_, rfl, wide_div (b := 10) (by decide) (by decide) (by decide) (by decide), ?_⟩⟩
    refine ⟨m - m / 2, ?_, by omega, by omega, fun h2 ok2 s2 d2 => ⟨_, rfl, ?_⟩⟩
    · congr 3
      omega
    · exact q (.own h1 h2) ⟨ok1, ok2⟩ (by simp [Hd.size]; omega) (by simp [Hd.deep]; omega)
def sp__law_is_other_375491 : HSp := fun ps n C => ps = [excPV "BadHand"] ∧ C (.dat (.bool false)) n
def h__law_is_other_375491 : HS :=
    (hSeq (hIfS (hB (hC (isXW ["BadDeeds", "BadHouse", "BadMachine", "BadNode", "BadPaper"]) (hL 0 hNil))) (hRet (hK (.bool true))) hNext)
    (hRet (hC (isXW ["BadRow", "BadText", "BadWay", "NoName", "TooGreat"]) (hL 0 hNil))))
theorem rd__law_is_other_375491 : ∀ pvs n C, pvs.length = 1 → sp__law_is_other_375491 pvs n C → h__law_is_other_375491 ⟨fun s => C (.dat .none) s.n, fun p s => C p s.n, fun _ => False, fun _ => False⟩ ⟨pvs.map some ++ List.replicate (1 - pvs.length) none, n⟩ := by
  intro pvs n C _ h
  obtain ⟨rfl, q⟩ := h
  unfold h__law_is_other_375491
  simp
  refine isXW_exc (by decide) ?_
  rw [show (List.any _ _) = false by decide +kernel]
  simp
  exact isXW_exc (by decide) (by rw [show (List.any _ _) = false by decide +kernel]; exact q)
def sp__law_said_6acc40 : HSp := fun ps n C => ∃ (h : Hd) (ss : List St), ps = [.dat h.toD, .dat (.tuple (ss.map St.toD))] ∧ h.Ok ∧ (∀ s ∈ ss, s.Ok) ∧ ss.length ≤ 10 ∧ ((puts h ss).Fit → C (.dat (puts h ss).toD) n) ∧ (¬ (puts h ss).Fit → C (.dat (.str "hand")) n)
def h__law_said_6acc40 : HS :=
    (hSeq (hAsg (hK .none) 2)
    (hSeq (hAsg (hK .none) 3)
    (hSeq (hTry "HandError" 4 (fun Z1 => (hAsg (hCallX spX_put_round_d1447a 2 Z1 (hL 0 (hL 1 hNil))) 3)) (hAsg (hV 4) 2) (fun _ _ => False))
    (hSeq (hIfS (hB (hC (isNX false) (hL 2 (hE (hK .none) hNil)))) (hRet (hM 3)) hNext)
    (hSeq (hAsg (hAndV (hC (isXW ["BadHand"]) (hL 2 hNil)) (hAndV (hC isXV (hL 2 hNil)) (hNotV (hCall sp__law_is_other_375491 1 (hL 2 hNil))))) 5)
    (hRet (hIf (hB (hV 5)) (hK (.str "hand")) (hK (.str "else")))))))))
def ls80_5 : HS := (hRet (hIf (hB (hV 5)) (hK (.str "hand")) (hK (.str "else"))))
def ls80_4 : HS := (hSeq (hAsg (hAndV (hC (isXW ["BadHand"]) (hL 2 hNil)) (hAndV (hC isXV (hL 2 hNil)) (hNotV (hCall sp__law_is_other_375491 1 (hL 2 hNil))))) 5) ls80_5)
def ls80_3 : HS := (hSeq (hIfS (hB (hC (isNX false) (hL 2 (hE (hK .none) hNil)))) (hRet (hM 3)) hNext) ls80_4)
def ls80_2 : HS := (hSeq (hTry "HandError" 4 (fun Z1 => (hAsg (hCallX spX_put_round_d1447a 2 Z1 (hL 0 (hL 1 hNil))) 3)) (hAsg (hV 4) 2) (fun _ _ => False)) ls80_3)
def ls80_1 : HS := (hSeq (hAsg (hK .none) 3) ls80_2)
def ls80_0 : HS := (hSeq (hAsg (hK .none) 2) ls80_1)
theorem ls80_eq : h__law_said_6acc40 = ls80_0 := rfl
theorem rd__law_said_6acc40 : ∀ pvs n C, pvs.length = 2 → sp__law_said_6acc40 pvs n C → h__law_said_6acc40 ⟨fun s => C (.dat .none) s.n, fun p s => C p s.n, fun _ => False, fun _ => False⟩ ⟨pvs.map some ++ List.replicate (6 - pvs.length) none, n⟩ := by
  intro pvs n C _ h
  obtain ⟨h, ss, rfl, ok, oks, hl, q1, q2⟩ := h
  rw [ls80_eq]
  unfold ls80_0
  simp
  unfold ls80_1
  simp
  unfold ls80_2
  simp
  refine ⟨h, ss, rfl, ok, oks, hl, fun f => ?_, fun f => ?_⟩
  · unfold ls80_3
    simp
    exact Or.inr (Or.inl ⟨_, rfl, is_none.mpr (Or.inr ⟨rfl, q1 f⟩)⟩)
  · refine ⟨by decide, by decide +kernel, ?_⟩
    unfold ls80_3
    simp
    refine isNX_exc ?_
    simp
    unfold ls80_4
    simp
    refine isXW_exc (by decide) ?_
    rw [show (List.any _ _) = true by decide +kernel]
    refine Or.inr ⟨rfl, isXV_exc (by decide) (Or.inr ⟨rfl, rfl, rfl, fun h => (by cases h), Or.inl ⟨rfl, ?_⟩⟩)⟩
    unfold ls80_5
    simp
    exact q2 f
end Sk
set_option Elab.async false
set_option linter.all false
set_option maxRecDepth 100000
set_option maxHeartbeats 4000000
namespace Sk
open PySem PySem.Spec PyProof.Rows L2
open PySem.W (Datum DatumOrd Tup T3 T4)
open Evl (Ex)
structure SD (d : PyData) (w : Nat) : Prop where
  sh : d.showable = true
  hd : d.hasDict = false
  lf : d.leavesShort 13 = true
  wt : d.weight ≤ w
theorem word_sd {w : Str} (h : isWordS w = true) : SD (.str w) 10 := by
  have := show_words (xs := [w]) (by simpa using h)
  obtain ⟨h1, h2, _, h4, h5⟩ := this
  simp [PyData.showableAll, PyData.hasDictAll, PyData.leavesShortAll, PyData.weightAll] at h1 h2 h4 h5
  exact ⟨h1, h2, h4, by omega⟩
theorem set_sd {s : List Str} (h : IsSet s) : SD (setD s) 70 := by
  obtain ⟨h1, h2, _, h4, h5⟩ := show_words h.1
  have := h.2.1
  refine ⟨?_, ?_, ?_, ?_⟩ <;> simp only [setD, PyData.showable, PyData.hasDict, PyData.leavesShort, PyData.weight]
  · exact h1
  · exact h2
  · exact h4
  · omega
theorem prs_all : ∀ {s : List (Str × Str)}, (∀ p ∈ s, isWordS p.1 = true ∧ isWordS p.2 = true) → PyData.showableAll (s.map prD) = true ∧ PyData.hasDictAll (s.map prD) = false ∧ PyData.leavesShortAll 13 (s.map prD) = true ∧ PyData.weightAll (s.map prD) ≤ 40 * s.length
  | [], _ => by simp [PyData.showableAll, PyData.hasDictAll, PyData.leavesShortAll, PyData.weightAll]
  | p :: s, h => by
    obtain ⟨i1, i2, i3, i4⟩ := prs_all (s := s) fun p hp => h p (List.mem_cons_of_mem _ hp)
    obtain ⟨h1, h2⟩ := h p List.mem_cons_self
    obtain ⟨a1, a2, a3, a4⟩ := word_sd h1
    obtain ⟨b1, b2, b3, b4⟩ := word_sd h2
    simp [PyData.showableAll, PyData.hasDictAll, PyData.leavesShortAll, PyData.weightAll, PyData.showable, PyData.hasDict, PyData.leavesShort, PyData.weight, prD] at *
    simp [*]
    omega
theorem prs_sd {s : List (Str × Str)} (h : IsPrs s) : SD (prsD s) 350 := by
  obtain ⟨h1, h2, h4, h5⟩ := prs_all h.1
  have := h.2.1
  refine ⟨?_, ?_, ?_, ?_⟩ <;> simp only [prsD, PyData.showable, PyData.hasDict, PyData.leavesShort, PyData.weight]
  · exact h1
  · exact h2
  · exact h4
  · omega
theorem lit_sd {w : Str} (h : (PyData.showable (.str w) && PyData.leavesShort 13 (.str w) && decide (PyData.weight (.str w) ≤ 10)) = true) : SD (.str w) 10 := by
  simp only [Bool.and_eq_true, decide_eq_true_eq] at h
  exact ⟨h.1.1, rfl, h.1.2, h.2⟩
theorem sd1 {a : PyData} {w : Nat} (h : SD a w) : SD (.tuple [a]) (w + 10) := by
  obtain ⟨h1, h2, h3, h4⟩ := h
  refine ⟨?_, ?_, ?_, ?_⟩ <;> simp [PyData.showableAll, PyData.hasDictAll, PyData.leavesShortAll, PyData.weightAll, PyData.showable, PyData.hasDict, PyData.leavesShort, PyData.weight, *] <;> omega
theorem sd2 {a b : PyData} {v w : Nat} (h : SD a v) (k : SD b w) : SD (.tuple [a, b]) (v + w + 10) := by
  obtain ⟨h1, h2, h3, h4⟩ := h
  obtain ⟨k1, k2, k3, k4⟩ := k
  refine ⟨?_, ?_, ?_, ?_⟩ <;> simp [PyData.showableAll, PyData.hasDictAll, PyData.leavesShortAll, PyData.weightAll, PyData.showable, PyData.hasDict, PyData.leavesShort, PyData.weight, *] <;> omega
theorem sd3 {a b c : PyData} {u v w : Nat} (g : SD a u) (h : SD b v) (k : SD c w) : SD (.tuple [a, b, c]) (u + v + w + 10) := by
  obtain ⟨g1, g2, g3, g4⟩ := g
  obtain ⟨h1, h2, h3, h4⟩ := h
  obtain ⟨k1, k2, k3, k4⟩ := k
  refine ⟨?_, ?_, ?_, ?_⟩ <;> simp [PyData.showableAll, PyData.hasDictAll, PyData.leavesShortAll, PyData.weightAll, PyData.showable, PyData.hasDict, PyData.leavesShort, PyData.weight, *] <;> omega
theorem sd4 {a b c d : PyData} {u v w x : Nat} (g : SD a u) (h : SD b v) (k : SD c w) (l : SD d x) : SD (.tuple [a, b, c, d]) (u + v + w + x + 10) := by
  obtain ⟨g1, g2, g3, g4⟩ := g
  obtain ⟨h1, h2, h3, h4⟩ := h
  obtain ⟨k1, k2, k3, k4⟩ := k
  obtain ⟨l1, l2, l3, l4⟩ := l
  refine ⟨?_, ?_, ?_, ?_⟩ <;> simp [PyData.showableAll, PyData.hasDictAll, PyData.leavesShortAll, PyData.weightAll, PyData.showable, PyData.hasDict, PyData.leavesShort, PyData.weight, *] <;> omega
theorem SD.le {d : PyData} {v w : Nat} (h : SD d v) (l : v ≤ w) : SD d w := ⟨h.sh, h.hd, h.lf, Nat.le_trans h.wt l⟩
theorem hd_sd : ∀ {h : Hd}, h.Ok → SD h.toD (400 * h.size)
  | .stop, _ => (sd1 (lit_sd (w := "stop") (by decide +kernel))).le (by simp [Hd.size])
  | .spin, _ => (sd1 (lit_sd (w := "spin") (by decide +kernel))).le (by simp [Hd.size])
  | .name w, ok => (sd2 (lit_sd (w := "name") (by decide +kernel)) (word_sd ok)).le (by simp [Hd.size])
  | .thn w h, ok => (sd3 (lit_sd (w := "then") (by decide +kernel)) (word_sd ok.1) (hd_sd ok.2)).le (by simp [Hd.size]; omega)
  | .out a b, ok => (sd3 (lit_sd (w := "out") (by decide +kernel)) (hd_sd ok.1) (hd_sd ok.2)).le (by simp [Hd.size]; omega)
  | .own a b, ok => (sd3 (lit_sd (w := "own") (by decide +kernel)) (hd_sd ok.1) (hd_sd ok.2)).le (by simp [Hd.size]; omega)
  | .bes a s b, ok => (sd4 (lit_sd (w := "beside") (by decide +kernel)) (hd_sd ok.1) (set_sd ok.2.1) (hd_sd ok.2.2)).le (by simp [Hd.size]; omega)
  | .hid a s, ok => (sd3 (lit_sd (w := "hide") (by decide +kernel)) (hd_sd ok.1) (set_sd ok.2)).le (by simp [Hd.size]; omega)
  | .cal a s, ok => (sd3 (lit_sd (w := "as") (by decide +kernel)) (hd_sd ok.1) (prs_sd ok.2)).le (by simp [Hd.size]; omega)
theorem Hd.shown {h : Hd} (ok : h.Ok) (f : h.Fit) : ShowOk h.toD := by
  obtain ⟨h1, h2, h3, h4⟩ := hd_sd ok
  have := h.depth
  have := f.2
  have := f.1
  exact ⟨h1, h2, by omega, h3, Nat.le_trans h4 (by omega)⟩
def sp__law_bounds_right_8dc481 : HSp := fun ps n C => ps = [.drw] ∧ n ≤ 100000000 ∧ ∀ n', C (.dat (.bool true)) n'
end Sk
set_option Elab.async false
set_option linter.all false
set_option maxRecDepth 100000
set_option maxHeartbeats 4000000
namespace Sk
open PySem PySem.Spec PyProof.Rows L2
open PySem.W (Datum DatumOrd Tup T3 T4)
open Evl (Ex)
theorem reps_thn (m : Nat) (w : Str) : List.replicate m (PyData.tuple [.str "then", .str w]) = (List.replicate m (St.thn w)).map St.toD := by
  rw [List.map_replicate]; rfl
theorem said_ok {h : Hd} {ss : List St} {n : Nat} {C : PV → Nat → Prop} (ok : h.Ok) (oks : ∀ s ∈ ss, s.Ok) (hl : ss.length ≤ 10) (f : (puts h ss).Fit) (q : C (.dat (puts h ss).toD) n) : sp__law_said_6acc40 [.dat h.toD, .dat (.tuple (ss.map St.toD))] n C :=
  ⟨h, ss, rfl, ok, oks, hl, fun _ => q, fun z => (z f).elim⟩
theorem said_no {h : Hd} {ss : List St} {n : Nat} {C : PV → Nat → Prop} (ok : h.Ok) (oks : ∀ s ∈ ss, s.Ok) (hl : ss.length ≤ 10) (f : ¬ (puts h ss).Fit) (q : C (.dat (.str "hand")) n) : sp__law_said_6acc40 [.dat h.toD, .dat (.tuple (ss.map St.toD))] n C :=
  ⟨h, ss, rfl, ok, oks, hl, fun z => (f z).elim, fun _ => q⟩
theorem led_ok (m : Nat) : ∀ s ∈ List.replicate m (St.thn "b"), s.Ok := fun s h => by
  rw [List.eq_of_mem_replicate h]
  show isWordS ("b" : Str) = true
  decide +kernel
theorem led_sz (m : Nat) (h : Hd) : (puts h (List.replicate m (St.thn "b"))).size = h.size + m ∧ (puts h (List.replicate m (St.thn "b"))).deep = h.deep + m := by
  induction m generalizing h with
  | zero => exact ⟨rfl, rfl⟩
  | succ m ih =>
    rw [List.replicate_succ]
    obtain ⟨a, b⟩ := ih (put1 h (St.thn "b"))
    have c := put1_sz h (St.thn "b")
    have d := put1_dp h (St.thn "b")
    simp [St.sz, St.dp] at c d
    exact ⟨by show (puts (put1 h _) _).size = _; rw [a, c]; omega, by show (puts (put1 h _) _).deep = _; rw [b, d]; omega⟩
def h__law_bounds_right_8dc481 : HS :=
    (hSeq (hAsg (hCall sp__law_draw_a6e186 2 (hL 0 (hE (hK (.int 10)) hNil))) 1)
    (hSeq (hAsg (hC mulTN (hE (hTup (hE (hTup (hE (hK (.str "then")) (hE (hK (.str "b")) hNil))) hNil)) (hL 1 hNil))) 2)
    (hSeq (hIfS (hB (hC (eqP true) (hE (hC reprW (hE (hCall sp__law_said_6acc40 2 (hE (hCall sp__law_chain_31e2a8 1 (hE (hC subW (hE (hK (.int 39)) (hL 1 hNil))) hNil)) (hL 2 hNil))) hNil)) (hE (hC reprW (hE (hCall sp__law_put_51ebdf 2 (hE (hCall sp__law_chain_31e2a8 1 (hE (hC subW (hE (hK (.int 39)) (hL 1 hNil))) hNil)) (hL 2 hNil))) hNil)) hNil)))) (hRet (hK (.bool false))) hNext)
    (hSeq (hIfS (hB (hC (eqP true) (hE (hCall sp__law_said_6acc40 2 (hE (hCall sp__law_chain_31e2a8 1 (hE (hC subW (hE (hK (.int 40)) (hL 1 hNil))) hNil)) (hL 2 hNil))) (hE (hK (.str "hand")) hNil)))) (hRet (hK (.bool false))) hNext)
    (hSeq (hAsg (hCall (sp__law_bush_a763c1 8) 1 (hE (hK (.int 100)) hNil)) 3)
    (hSeq (hAsg (hC ixW (hE (hLst (hE (hTup (hE (hTup (hE (hK (.str "hide")) (hE (hTup hNil) hNil))) hNil)) (hE (hTup (hE (hTup (hE (hK (.str "as")) (hE (hTup hNil) hNil))) hNil)) (hE (hTup (hE (hTup (hE (hK (.str "then")) (hE (hK (.str "x")) hNil))) hNil)) (hE (hTup (hE (hTup (hE (hK (.str "hide")) (hE (hTup (hE (hK (.str "a")) (hE (hK (.str "b")) hNil))) hNil))) hNil)) hNil))))) (hE (hCall sp__law_draw_a6e186 2 (hL 0 (hE (hK (.int 4)) hNil))) hNil))) 4)
    (hSeq (hIfS (hOr (hB (hC (eqP true) (hE (hC reprW (hE (hCall sp__law_said_6acc40 2 (hL 3 (hL 4 hNil))) hNil)) (hE (hC reprW (hE (hCall sp__law_put_51ebdf 2 (hL 3 (hL 4 hNil))) hNil)) hNil)))) (hB (hC (eqP true) (hE (hCall sp__law_said_6acc40 2 (hL 3 (hE (hC addTW (hL 4 (hL 4 hNil))) hNil))) (hE (hK (.str "hand")) hNil))))) (hRet (hK (.bool false))) hNext)
    (hSeq (hAsg (hTup (hE (hC ixW (hE (hLst (hE (hK (.str "out")) (hE (hK (.str "own")) hNil))) (hE (hCall sp__law_draw_a6e186 2 (hL 0 (hE (hK (.int 2)) hNil))) hNil))) (hE (hTup (hE (hK (.str "stop")) hNil)) hNil))) 5)
    (hSeq (hAsg (hTup (hE (hK (.str "beside")) (hE (hTup (hE (hK (.str "a")) hNil)) (hE (hTup (hE (hK (.str "spin")) hNil)) hNil)))) 6)
    (hRet (hAndV (hC (eqP false) (hE (hCall sp__law_said_6acc40 2 (hL 3 (hE (hTup (hE (hV 5) hNil)) hNil))) (hE (hK (.str "hand")) hNil))) (hC (eqP false) (hE (hCall sp__law_said_6acc40 2 (hL 3 (hE (hTup (hE (hV 6) hNil)) hNil))) (hE (hK (.str "hand")) hNil))))))))))))))
def lb80_9 : HS := (hRet (hAndV (hC (eqP false) (hE (hCall sp__law_said_6acc40 2 (hL 3 (hE (hTup (hE (hV 5) hNil)) hNil))) (hE (hK (.str "hand")) hNil))) (hC (eqP false) (hE (hCall sp__law_said_6acc40 2 (hL 3 (hE (hTup (hE (hV 6) hNil)) hNil))) (hE (hK (.str "hand")) hNil)))))
def lb80_8 : HS := (hSeq (hAsg (hTup (hE (hK (.str "beside")) (hE (hTup (hE (hK (.str "a")) hNil)) (hE (hTup (hE (hK (.str "spin")) hNil)) hNil)))) 6) lb80_9)
def lb80_7 : HS := (hSeq (hAsg (hTup (hE (hC ixW (hE (hLst (hE (hK (.str "out")) (hE (hK (.str "own")) hNil))) (hE (hCall sp__law_draw_a6e186 2 (hL 0 (hE (hK (.int 2)) hNil))) hNil))) (hE (hTup (hE (hK (.str "stop")) hNil)) hNil))) 5) lb80_8)
def lb80_6 : HS := (hSeq (hIfS (hOr (hB (hC (eqP true) (hE (hC reprW (hE (hCall sp__law_said_6acc40 2 (hL 3 (hL 4 hNil))) hNil)) (hE (hC reprW (hE (hCall sp__law_put_51ebdf 2 (hL 3 (hL 4 hNil))) hNil)) hNil)))) (hB (hC (eqP true) (hE (hCall sp__law_said_6acc40 2 (hL 3 (hE (hC addTW (hL 4 (hL 4 hNil))) hNil))) (hE (hK (.str "hand")) hNil))))) (hRet (hK (.bool false))) hNext) lb80_7)
def lb80_5 : HS := (hSeq (hAsg (hC ixW (hE (hLst (hE (hTup (hE (hTup (hE (hK (.str "hide")) (hE (hTup hNil) hNil))) hNil)) (hE (hTup (hE (hTup (hE (hK (.str "as")) (hE (hTup hNil) hNil))) hNil)) (hE (hTup (hE (hTup (hE (hK (.str "then")) (hE (hK (.str "x")) hNil))) hNil)) (hE (hTup (hE (hTup (hE (hK (.str "hide")) (hE (hTup (hE (hK (.str "a")) (hE (hK (.str "b")) hNil))) hNil))) hNil)) hNil))))) (hE (hCall sp__law_draw_a6e186 2 (hL 0 (hE (hK (.int 4)) hNil))) hNil))) 4) lb80_6)
def lb80_4 : HS := (hSeq (hAsg (hCall (sp__law_bush_a763c1 8) 1 (hE (hK (.int 100)) hNil)) 3) lb80_5)
def lb80_3 : HS := (hSeq (hIfS (hB (hC (eqP true) (hE (hCall sp__law_said_6acc40 2 (hE (hCall sp__law_chain_31e2a8 1 (hE (hC subW (hE (hK (.int 40)) (hL 1 hNil))) hNil)) (hL 2 hNil))) (hE (hK (.str "hand")) hNil)))) (hRet (hK (.bool false))) hNext) lb80_4)
def lb80_2 : HS := (hSeq (hIfS (hB (hC (eqP true) (hE (hC reprW (hE (hCall sp__law_said_6acc40 2 (hE (hCall sp__law_chain_31e2a8 1 (hE (hC subW (hE (hK (.int 39)) (hL 1 hNil))) hNil)) (hL 2 hNil))) hNil)) (hE (hC reprW (hE (hCall sp__law_put_51ebdf 2 (hE (hCall sp__law_chain_31e2a8 1 (hE (hC subW (hE (hK (.int 39)) (hL 1 hNil))) hNil)) (hL 2 hNil))) hNil)) hNil)))) (hRet (hK (.bool false))) hNext) lb80_3)
def lb80_1 : HS := (hSeq (hAsg (hC mulTN (hE (hTup (hE (hTup (hE (hK (.str "then")) (hE (hK (.str "b")) hNil))) hNil)) (hL 1 hNil))) 2) lb80_2)
def lb80_0 : HS := (hSeq (hAsg (hCall sp__law_draw_a6e186 2 (hL 0 (hE (hK (.int 10)) hNil))) 1) lb80_1)
theorem lb80_eq : h__law_bounds_right_8dc481 = lb80_0 := rfl
theorem lb8 {h : Hd} {led : List St} {m n : Nat} {t u : St} {C : PV → Nat → Prop} (ok : h.Ok) (sz : h.size = 199) (h1 : u.Ok) (no : ¬ (puts h [u]).Fit) (q : ∀ n', C (.dat (.bool true)) n') :
    lb80_8 ⟨fun s => C (.dat .none) s.n, fun p s => C p s.n, fun _ => False, fun _ => False⟩ ⟨[some .drw, some (.dat (.int m)), some (.dat (.tuple (led.map St.toD))), some (.dat h.toD), some (.dat (.tuple [t.toD])), some (.dat u.toD), none], n⟩ := by
  have one : ∀ v : St, v.Ok → ∀ s ∈ [v], s.Ok := fun v hv s hs => by rw [List.mem_singleton.mp hs]; exact hv
  have okv : (St.bes ["a"] .spin).Ok := ⟨⟨by decide +kernel, by decide, List.pairwise_singleton _ _⟩, trivial, by decide⟩
  have no2 : ¬ (puts h [St.bes ["a"] .spin]).Fit := fun f => by
    have := put1_sz h (St.bes ["a"] .spin)
    have : (put1 h (St.bes ["a"] .spin)).size ≤ 200 := f.1
    simp [St.sz, Hd.size] at *
    omega
  unfold lb80_8
  simp
  unfold lb80_9
  simp
  refine said_no (ss := [u]) ok (one u h1) (by simp) no ?_
  refine ⟨_, rfl, ?_⟩
  simp
  refine said_no (ss := [St.bes ["a"] .spin]) ok (one _ okv) (by simp) no2 ?_
  refine ⟨_, rfl, ?_⟩
  simp
  exact q _
theorem lb6 {h : Hd} {led : List St} {m n : Nat} {t : St} {C : PV → Nat → Prop} (ok : h.Ok) (sz : h.size = 199) (dp : h.deep ≤ 8) (h1 : t.Ok) (h2 : t.sz = 0) (h3 : t.dp = 0) (hn : n ≤ 100000010) (q : ∀ n', C (.dat (.bool true)) n') :
    lb80_6 ⟨fun s => C (.dat .none) s.n, fun p s => C p s.n, fun _ => False, fun _ => False⟩ ⟨[some .drw, some (.dat (.int m)), some (.dat (.tuple (led.map St.toD))), some (.dat h.toD), some (.dat (.tuple [t.toD])), none, none], n⟩ := by
  have z1 := put1_sz h t
  have d1 := put1_dp h t
  have f1 : (puts h [t]).Fit := ⟨by show (put1 h t).size ≤ 200; omega, by show (put1 h t).deep ≤ 40; omega⟩
  have z2 := put1_sz (put1 h t) t
  have f2 : ¬ (puts h [t, t]).Fit := fun f => by
    have : (put1 (put1 h t) t).size ≤ 200 := f.1
    omega
  have o1 : ∀ s ∈ [t], s.Ok := fun s hs => by rw [List.mem_singleton.mp hs]; exact h1
  have o2 : ∀ s ∈ [t, t], s.Ok := fun s hs => by
    rcases List.mem_cons.mp hs with rfl | hs
    · exact h1
    · exact o1 s hs
  have sh1 := Hd.shown (puts_ok ok o1) f1
  have no : ∀ u : St, u.Ok → 1 ≤ u.sz → ¬ (puts h [u]).Fit := fun u _ hu f => by
    have := put1_sz h u
    have : (put1 h u).size ≤ 200 := f.1
    omega
  unfold lb80_6
  simp
  refine said_ok (ss := [t]) ok o1 (by simp) f1 ?_
  refine ⟨_, rfl, repr_ok sh1 rfl ⟨_, rfl, ⟨h, [t], rfl, ⟨_, rfl, repr_ok sh1 rfl ⟨_, rfl, ?_⟩⟩⟩⟩⟩
  simp [addTW]
  refine said_no (ss := [t, t]) ok o2 (by simp) f2 ?_
  refine ⟨_, rfl, ?_⟩
  simp
  unfold lb80_7
  simp
  refine drw' 2 _ _ (by decide) (by decide) (by omega) fun i i0 i1 => ?_
  refine ⟨_, rfl, ?_⟩
  have rest := fun (u : St) (n' : Nat) (hu : u.Ok) (su : 1 ≤ u.sz) => lb8 (C := C) (led := led) (m := m) (t := t) (u := u) (n := n') ok sz hu (no u hu su) q
  generalize lb80_8 = T at rest
  have fs : Hd.stop.Fit := by decide
  have ic : i = 0 ∨ i = 1 := by omega
  rcases ic with rfl | rfl
  · refine ix_lst.mpr ⟨_, at0, ⟨_, rfl, rest (.out .stop) _ ⟨trivial, fs⟩ (by decide)⟩⟩
  · refine ix_lst.mpr ⟨_, at1, ⟨_, rfl, rest (.own .stop) _ ⟨trivial, fs⟩ (by decide)⟩⟩
theorem rd__law_bounds_right_8dc481 : ∀ pvs n C, pvs.length = 1 → sp__law_bounds_right_8dc481 pvs n C → h__law_bounds_right_8dc481 ⟨fun s => C (.dat .none) s.n, fun p s => C p s.n, fun _ => False, fun _ => False⟩ ⟨pvs.map some ++ List.replicate (7 - pvs.length) none, n⟩ := by
  intro pvs n C _ h
  obtain ⟨rfl, hn, q⟩ := h
  rw [lb80_eq]
  unfold lb80_0
  simp
  refine drw' 10 _ _ (by decide) (by decide) (by omega) fun a a0 a1 => ?_
  obtain ⟨m, rfl⟩ := Int.eq_ofNat_of_zero_le a0
  unfold lb80_1
  simp [mulTN]
  refine ⟨by omega, ?_⟩
  rw [reps_thn]
  have m9 : m ≤ 9 := by omega
  have ledl : (List.replicate m (St.thn "b")).length = m := List.length_replicate
  have leo := led_ok m
  have les := led_sz m
  generalize List.replicate m (St.thn "b") = led at ledl leo les
  unfold lb80_2
  simp
  have e39 : (39 - (m : Int)) = ((39 - m : Nat) : Int) := by omega
  have e40 : (40 - (m : Int)) = ((40 - m : Nat) : Int) := by omega
  refine ⟨39 - m, by rw [e39], by omega, ?_⟩
  have f1 : (puts (chn (39 - m)) led).Fit := by
    obtain ⟨x, y⟩ := les (chn (39 - m))
    rw [chn_sz] at x
    rw [chn_dp] at y
    exact ⟨by omega, by omega⟩
  refine ⟨_, rfl, said_ok (chn_ok _) leo (by omega) f1 ?_⟩
  have ok1 := puts_ok (chn_ok (39 - m)) leo
  have sh1 := Hd.shown ok1 f1
  refine ⟨_, rfl, repr_ok sh1 rfl ⟨_, rfl, ⟨39 - m, by rw [e39], by omega, ⟨_, rfl, ⟨_, led, rfl, ⟨_, rfl, repr_ok sh1 rfl ⟨_, rfl, ?_⟩⟩⟩⟩⟩⟩⟩
  simp
  unfold lb80_3
  simp
  refine ⟨40 - m, by rw [e40], by omega, ⟨_, rfl, ?_⟩⟩
  have f2 : ¬ (puts (chn (40 - m)) led).Fit := fun f => by
    obtain ⟨x, y⟩ := les (chn (40 - m))
    rw [chn_dp] at y
    have := f.2
    omega
  refine said_no (chn_ok _) leo (by omega) f2 ?_
  refine ⟨_, rfl, ?_⟩
  simp
  unfold lb80_4
  simp
  refine ⟨100, rfl, by decide, by decide, fun h okh sz dp => ?_⟩
  have szh : h.size = 199 := by omega
  unfold lb80_5
  simp
  have rest := fun (t : St) (n' : Nat) (hn' : n' ≤ n + 2) (h1 : t.Ok) (h2 : t.sz = 0) (h3 : t.dp = 0) => lb6 (C := C) (led := led) (m := m) (t := t) (n := n') okh szh dp h1 h2 h3 (by omega) q
  generalize lb80_6 = T at rest
  refine drw' 4 _ _ (by decide) (by decide) (by omega) fun i i0 i1 => ?_
  have ic : i = 0 ∨ i = 1 ∨ i = 2 ∨ i = 3 := by omega
  have okS : IsSet ["a", "b"] := ⟨by decide +kernel, by decide, List.Pairwise.cons (fun y hy => by rw [List.mem_singleton.mp hy]; decide +kernel) (List.pairwise_singleton _ _)⟩
  rcases ic with rfl | rfl | rfl | rfl
  · exact ⟨_, rfl, ix_lst.mpr ⟨_, at0, rest (.hid []) _ (by omega) ⟨(fun w h => by cases h), by decide, List.Pairwise.nil⟩ rfl rfl⟩⟩
  · exact ⟨_, rfl, ix_lst.mpr ⟨_, at1, rest (.cal []) _ (by omega) ⟨(fun w h => by cases h), by decide, List.Pairwise.nil⟩ rfl rfl⟩⟩
  · exact ⟨_, rfl, ix_lst.mpr ⟨_, at2, rest (.thn "x") _ (by omega) (by show isWordS "x" = true; decide +kernel) rfl rfl⟩⟩
  · exact ⟨_, rfl, ix_lst.mpr ⟨_, at3, rest (.hid ["a", "b"]) _ (by omega) okS rfl rfl⟩⟩
end Sk
set_option Elab.async false
set_option linter.all false
set_option maxRecDepth 100000
set_option maxHeartbeats 4000000
namespace Sk
open PySem PySem.Spec PyProof.Rows L2
open PySem.W (Datum DatumOrd Tup T3 T4)
open Evl (Ex)
structure Turn (x : Hd × List St) : Prop where
  ok : x.1.Ok
  dp : x.1.deep ≤ 5
  sl : x.2.length ≤ 10
  st : ∀ s ∈ x.2, StD s
def turnD (x : Hd × List St) : PyData := .tuple [x.1.toD, .tuple (x.2.map St.toD), (puts x.1 x.2).toD]
theorem Turn.fit {x : Hd × List St} (t : Turn x) : (puts x.1 x.2).Fit := by
  obtain ⟨h, ss⟩ := x
  obtain ⟨ok, dp, sl, st⟩ := t
  have a := puts_sz (k := 7) (ss := ss) (h := h) fun s hs => (st s hs).2.1
  have b := puts_dple (k := 3) (ss := ss) (h := h) fun s hs => (st s hs).2.2
  have c := Hd.size_of dp
  simp only at *
  exact ⟨by show (puts h ss).size ≤ 200; omega, by show (puts h ss).deep ≤ 40; omega⟩
theorem Turn.shwB {x : Hd × List St} (t : Turn x) : ShowOk (puts x.1 x.2).toD := Hd.shown (puts_ok t.ok fun s hs => (t.st s hs).1) t.fit
theorem Turn.shwA {x : Hd × List St} (t : Turn x) : ShowOk x.1.toD := Hd.shown t.ok (puts_fit t.fit)
abbrev lwA : HS := (hSeq (hAsg (hCall sp__law_words_aaf2f6 2 (hL 1 (hE (hC ixW (hE (hLst (hE (hK (.int 0)) (hE (hK (.int 1)) (hE (hK (.int 2)) (hE (hK (.int 2)) (hE (hK (.int 3)) (hE (hK (.int 8)) hNil))))))) (hE (hCall sp__law_draw_a6e186 2 (hL 1 (hE (hK (.int 6)) hNil))) hNil))) hNil))) 4)
    (hSeq (hAsg (hCall sp__law_words_aaf2f6 2 (hL 1 (hE (hK (.int 2)) hNil))) 5)
    (hSeq (hPutRoom 1 (hK (.int 12)))
    (hSeq (hAsg (hCall (sp__law_hand_3892a5 8) 4 (hL 1 (hL 4 (hL 5 (hE (hC addW (hE (hK (.int 2)) (hE (hCall sp__law_draw_a6e186 2 (hL 1 (hE (hK (.int 4)) hNil))) hNil))) hNil))))) 6)
    (hSeq (hAsg (hC ixW (hE (hLst (hE (hK (.int 0)) (hE (hK (.int 1)) (hE (hK (.int 1)) (hE (hK (.int 2)) (hE (hK (.int 3)) (hE (hK (.int 10)) hNil))))))) (hE (hCall sp__law_draw_a6e186 2 (hL 1 (hE (hK (.int 6)) hNil))) hNil))) 7)
    (hSeq (hAsg (hC tupW (hE (hLc (hiR1 (hL 7 hNil)) (gN 9) hYes (hCall sp__law_step_0e68b5 3 (hL 1 (hL 4 (hL 5 hNil)))) [9]) hNil)) 8)
    (hSeq (hAsg (hCall sp__law_put_51ebdf 2 (hL 6 (hL 8 hNil))) 10)
    (hSeq (hIfS (hOr (hB (hC (isN true) (hE (hCall sp_need_surroundings_42129f 1 (hL 8 hNil)) (hE (hK .none) hNil)))) (hB (hC (eqP true) (hE (hC reprW (hE (hCall sp__law_said_6acc40 2 (hL 6 (hL 8 hNil))) hNil)) (hE (hC reprW (hL 10 hNil)) hNil))))) (hRet (hK (.bool false))) hNext)
    (hDrop (hApp 2 (hTup (hE (hV 6) (hE (hV 8) (hE (hV 10) hNil))))))))))))))
abbrev lwB : HS := (hIfS (hOr (hB (hC (eqP true) (hE (hC reprW (hE (hCall sp__law_said_6acc40 2 (hL 6 (hL 8 hNil))) hNil)) (hE (hC reprW (hL 10 hNil)) hNil)))) (hB (hC (eqP true) (hE (hC reprW (hE (hCall sp__law_said_6acc40 2 (hL 6 (hE (hTup hNil) hNil))) hNil)) (hE (hC reprW (hL 6 hNil)) hNil))))) (hRet (hK (.bool false))) hNext)
theorem lwB_loop {D : HD} {o0 o1 o2 o3 o4 o5 o7 o9 : Option PV} {n : Nat} : ∀ (xs : List (Hd × List St)) (o6 o8 o10 : Option PV), (∀ x ∈ xs, Turn x) → (∀ o6 o8 o10, D.nx ⟨[o0, o1, o2, o3, o4, o5, o6, o7, o8, o9, o10], n⟩) → each (gT 6 8 10) lwB D (xs.map turnD) ⟨[o0, o1, o2, o3, o4, o5, o6, o7, o8, o9, o10], n⟩
  | [], o6, o8, o10, _, q => q o6 o8 o10
  | x :: xs, o6, o8, o10, h, q => by
    rw [List.map_cons, each]
    have t := h x List.mem_cons_self
    have ih := lwB_loop (D := D) (o0 := o0) (o1 := o1) (o2 := o2) (o3 := o3) (o4 := o4) (o5 := o5) (o7 := o7) (o9 := o9) (n := n) xs (some (.dat x.1.toD)) (some (.dat (.tuple (x.2.map St.toD)))) (some (.dat (puts x.1 x.2).toD)) (fun x hx => h x (List.mem_cons_of_mem _ hx)) q
    generalize each (gT 6 8 10) lwB D (xs.map turnD) = T at ih
    unfold turnD
    simp
    refine said_ok t.ok (fun s hs => (t.st s hs).1) t.sl t.fit ?_
    refine ⟨_, rfl, repr_ok t.shwB rfl ⟨_, rfl, repr_ok t.shwB rfl ⟨_, rfl, ?_⟩⟩⟩
    simp
    refine said_ok (ss := []) t.ok (fun s hs => by cases hs) (by simp) (puts_fit t.fit) ?_
    refine ⟨_, rfl, repr_ok t.shwA rfl ⟨_, rfl, repr_ok t.shwA rfl ⟨_, rfl, ?_⟩⟩⟩
    simp
    exact ih
theorem lwA_loop {D : HD} {o0 : Option PV} : ∀ (ks : List Nat) (xs : List (Hd × List St)) (n : Nat) (o3 o4 o5 o6 o7 o8 o10 : Option PV), (∀ x ∈ xs, Turn x) → xs.length + ks.length ≤ 100 → n + 300000 * ks.length ≤ 10000000 →
    (∀ (xs' : List (Hd × List St)) (n' : Nat) o3 o4 o5 o6 o7 o8 o10, (∀ x ∈ xs', Turn x) → xs'.length ≤ 100 → n' ≤ 10000000 → D.nx ⟨[o0, some .drw, some (.own (xs'.map turnD)), o3, o4, o5, o6, o7, o8, none, o10], n'⟩) →
    each (gN 3) lwA D (ks.map fun i : Nat => .int i) ⟨[o0, some .drw, some (.own (xs.map turnD)), o3, o4, o5, o6, o7, o8, none, o10], n⟩
  | [], xs, n, o3, o4, o5, o6, o7, o8, o10, h, hl, hn, q => q xs n _ _ _ _ _ _ _ h (by simpa using hl) (by simpa using hn)
  | k :: ks, xs, n, o3, o4, o5, o6, o7, o8, o10, h, hl, hn, q => by
    rw [List.map_cons, each]
    rw [List.length_cons] at hl hn
    have ih := fun x n' o3 o4 o5 o6 o7 o8 o10 (t : Turn x) (hn' : n' ≤ n + 300000) => lwA_loop (D := D) (o0 := o0) ks (xs ++ [x]) n' o3 o4 o5 o6 o7 o8 o10 (fun y hy => by
      rcases List.mem_append.mp hy with hy | hy
      · exact h y hy
      · rw [List.mem_singleton.mp hy]; exact t) (by simp; omega) (by omega) q
    generalize each (gN 3) lwA D (ks.map fun i : Nat => .int i) = T at ih
    simp only [gN]
    simp [-hLc]
    refine drw' 6 _ _ (by decide) (by decide) (by omega) fun a a0 a1 => ?_
    refine ⟨_, rfl, ix_lst.mpr ?_⟩
    have pick : ∃ m : Nat, m ≤ 8 ∧ atI [PyData.int 0, .int 1, .int 2, .int 2, .int 3, .int 8] a = some (.int m) := by
      have ic : a = 0 ∨ a = 1 ∨ a = 2 ∨ a = 3 ∨ a = 4 ∨ a = 5 := by omega
      rcases ic with rfl | rfl | rfl | rfl | rfl | rfl
      · exact ⟨0, by decide, rfl⟩
      · exact ⟨1, by decide, rfl⟩
      · exact ⟨2, by decide, rfl⟩
      · exact ⟨2, by decide, rfl⟩
      · exact ⟨3, by decide, rfl⟩
      · exact ⟨8, by decide, rfl⟩
    obtain ⟨m, m8, em⟩ := pick
    refine ⟨_, em, ⟨_, rfl, ?_⟩⟩
    refine ⟨m, rfl, by omega, by omega, by omega, fun ws wl hw nd _ => ?_⟩
    refine ⟨2, rfl, by decide, by decide, by omega, fun ns wl2 hw2 nd2 _ => ?_⟩
    have W : WsOk ws ns := ⟨nd, by omega, hw, by omega, hw2⟩
    refine drw' 4 _ _ (by decide) (by decide) (by omega) fun i i0 i1 => ?_
    refine ⟨_, rfl, add_ii.mpr ⟨_, rfl, ⟨rfl, rfl⟩, ?_⟩⟩
    refine ⟨ws, ns, 2 + i, rfl, W, (show (2 + i : Int) ≤ 8 by omega), (show n + 1 + 5 + 5 + 1 + 10240 ≤ 100000000 by omega), fun h n3 ok dp c1 => ⟨fun _ => h.imm, ?_⟩⟩
    have c1 : n3 + 40 ≤ n + 1 + 5 + 5 + 1 + 10240 := c1
    refine drw' 6 _ _ (by decide) (by decide) (by omega) fun j j0 j1 => ?_
    refine ⟨_, rfl, ix_lst.mpr ?_⟩
    have pick2 : ∃ m : Nat, m ≤ 10 ∧ atI [PyData.int 0, .int 1, .int 1, .int 2, .int 3, .int 10] j = some (.int m) := by
      have ic : j = 0 ∨ j = 1 ∨ j = 2 ∨ j = 3 ∨ j = 4 ∨ j = 5 := by omega
      rcases ic with rfl | rfl | rfl | rfl | rfl | rfl
      · exact ⟨0, by decide, rfl⟩
      · exact ⟨1, by decide, rfl⟩
      · exact ⟨1, by decide, rfl⟩
      · exact ⟨2, by decide, rfl⟩
      · exact ⟨3, by decide, rfl⟩
      · exact ⟨10, by decide, rfl⟩
    obtain ⟨r, r10, er⟩ := pick2
    refine ⟨_, er, ?_⟩
    refine hLc_eq.mpr ?_
    simp [-lcs]
    refine ⟨by omega, ?_⟩
    have eq : rngD 0 r = (List.range r).map fun i : Nat => PyData.int (i : Int) := by simp [rngD]
    rw [eq]
    refine lcs_n (P := StD) (toD := St.toD) (c := 20000) (N := 80000000) (fun i : Nat => PyData.int (i : Int)) (List.range r) [] _ _ (fun i' _ n4 hN K hK => ?_) (by simp; omega) (by simp; omega) fun bs n4 b1 b2 b3 => ?_
    · simp
      exact ⟨ws, ns, rfl, W, by omega, fun s n5 hs hn5 => ⟨s.imm, hK s n5 _ hs hn5 (by simp)⟩⟩
    rw [List.length_range] at b1 b3
    have t : Turn (h, bs) := ⟨ok, by show h.deep ≤ 5; omega, by show bs.length ≤ 10; omega, b2⟩
    have oks : ∀ s ∈ bs, s.Ok := fun s hs => (b2 s hs).1
    rw [List.nil_append]
    refine ⟨_, rfl, ?_⟩
    simp
    refine ⟨h, bs, rfl, bs, rfl, oks, by omega, ⟨_, rfl, Or.inl ⟨rfl, ?_⟩⟩⟩
    refine said_ok ok oks (by omega) t.fit ?_
    refine ⟨_, rfl, repr_ok t.shwB rfl ⟨_, rfl, repr_ok t.shwB rfl ⟨_, rfl, ?_⟩⟩⟩
    simp
    refine ⟨by omega, ?_⟩
    have := ih (h, bs) n4 (some (.dat (.int k))) (some (.own (ws.map .str))) (some (.own (ns.map .str))) (some (.dat h.toD)) (some (.dat (.int r))) (some (.dat (.tuple (bs.map St.toD)))) (some (.dat (puts h bs).toD)) t (by omega)
    rw [List.map_append] at this
    exact this
def h_law_50538e : HS :=
    (hSeq (hAsg (hLst hNil) 2)
    (hSeq (hFor (hiR1 (hE (hK (.int 8)) hNil)) (gN 3) (hSeq (hAsg (hCall sp__law_words_aaf2f6 2 (hL 1 (hE (hC ixW (hE (hLst (hE (hK (.int 0)) (hE (hK (.int 1)) (hE (hK (.int 2)) (hE (hK (.int 2)) (hE (hK (.int 3)) (hE (hK (.int 8)) hNil))))))) (hE (hCall sp__law_draw_a6e186 2 (hL 1 (hE (hK (.int 6)) hNil))) hNil))) hNil))) 4)
    (hSeq (hAsg (hCall sp__law_words_aaf2f6 2 (hL 1 (hE (hK (.int 2)) hNil))) 5)
    (hSeq (hPutRoom 1 (hK (.int 12)))
    (hSeq (hAsg (hCall (sp__law_hand_3892a5 8) 4 (hL 1 (hL 4 (hL 5 (hE (hC addW (hE (hK (.int 2)) (hE (hCall sp__law_draw_a6e186 2 (hL 1 (hE (hK (.int 4)) hNil))) hNil))) hNil))))) 6)
    (hSeq (hAsg (hC ixW (hE (hLst (hE (hK (.int 0)) (hE (hK (.int 1)) (hE (hK (.int 1)) (hE (hK (.int 2)) (hE (hK (.int 3)) (hE (hK (.int 10)) hNil))))))) (hE (hCall sp__law_draw_a6e186 2 (hL 1 (hE (hK (.int 6)) hNil))) hNil))) 7)
    (hSeq (hAsg (hC tupW (hE (hLc (hiR1 (hL 7 hNil)) (gN 9) hYes (hCall sp__law_step_0e68b5 3 (hL 1 (hL 4 (hL 5 hNil)))) [9]) hNil)) 8)
    (hSeq (hAsg (hCall sp__law_put_51ebdf 2 (hL 6 (hL 8 hNil))) 10)
    (hSeq (hIfS (hOr (hB (hC (isN true) (hE (hCall sp_need_surroundings_42129f 1 (hL 8 hNil)) (hE (hK .none) hNil)))) (hB (hC (eqP true) (hE (hC reprW (hE (hCall sp__law_said_6acc40 2 (hL 6 (hL 8 hNil))) hNil)) (hE (hC reprW (hL 10 hNil)) hNil))))) (hRet (hK (.bool false))) hNext)
    (hDrop (hApp 2 (hTup (hE (hV 6) (hE (hV 8) (hE (hV 10) hNil)))))))))))))))
    (hSeq (hFor (hiL (hC addW (hE (hRevS 2) (hL 2 hNil)))) (gT 6 8 10) (hIfS (hOr (hB (hC (eqP true) (hE (hC reprW (hE (hCall sp__law_said_6acc40 2 (hL 6 (hL 8 hNil))) hNil)) (hE (hC reprW (hL 10 hNil)) hNil)))) (hB (hC (eqP true) (hE (hC reprW (hE (hCall sp__law_said_6acc40 2 (hL 6 (hE (hTup hNil) hNil))) hNil)) (hE (hC reprW (hL 6 hNil)) hNil))))) (hRet (hK (.bool false))) hNext))
    (hRet (hCall sp__law_bounds_right_8dc481 1 (hL 1 hNil))))))
def la80_3 : HS := (hRet (hCall sp__law_bounds_right_8dc481 1 (hL 1 hNil)))
def la80_2 : HS := (hSeq (hFor (hiL (hC addW (hE (hRevS 2) (hL 2 hNil)))) (gT 6 8 10) (hIfS (hOr (hB (hC (eqP true) (hE (hC reprW (hE (hCall sp__law_said_6acc40 2 (hL 6 (hL 8 hNil))) hNil)) (hE (hC reprW (hL 10 hNil)) hNil)))) (hB (hC (eqP true) (hE (hC reprW (hE (hCall sp__law_said_6acc40 2 (hL 6 (hE (hTup hNil) hNil))) hNil)) (hE (hC reprW (hL 6 hNil)) hNil))))) (hRet (hK (.bool false))) hNext)) la80_3)
def la80_1 : HS := (hSeq (hFor (hiR1 (hE (hK (.int 8)) hNil)) (gN 3) (hSeq (hAsg (hCall sp__law_words_aaf2f6 2 (hL 1 (hE (hC ixW (hE (hLst (hE (hK (.int 0)) (hE (hK (.int 1)) (hE (hK (.int 2)) (hE (hK (.int 2)) (hE (hK (.int 3)) (hE (hK (.int 8)) hNil))))))) (hE (hCall sp__law_draw_a6e186 2 (hL 1 (hE (hK (.int 6)) hNil))) hNil))) hNil))) 4) (hSeq (hAsg (hCall sp__law_words_aaf2f6 2 (hL 1 (hE (hK (.int 2)) hNil))) 5) (hSeq (hPutRoom 1 (hK (.int 12))) (hSeq (hAsg (hCall (sp__law_hand_3892a5 8) 4 (hL 1 (hL 4 (hL 5 (hE (hC addW (hE (hK (.int 2)) (hE (hCall sp__law_draw_a6e186 2 (hL 1 (hE (hK (.int 4)) hNil))) hNil))) hNil))))) 6) (hSeq (hAsg (hC ixW (hE (hLst (hE (hK (.int 0)) (hE (hK (.int 1)) (hE (hK (.int 1)) (hE (hK (.int 2)) (hE (hK (.int 3)) (hE (hK (.int 10)) hNil))))))) (hE (hCall sp__law_draw_a6e186 2 (hL 1 (hE (hK (.int 6)) hNil))) hNil))) 7) (hSeq (hAsg (hC tupW (hE (hLc (hiR1 (hL 7 hNil)) (gN 9) hYes (hCall sp__law_step_0e68b5 3 (hL 1 (hL 4 (hL 5 hNil)))) [9]) hNil)) 8) (hSeq (hAsg (hCall sp__law_put_51ebdf 2 (hL 6 (hL 8 hNil))) 10) (hSeq (hIfS (hOr (hB (hC (isN true) (hE (hCall sp_need_surroundings_42129f 1 (hL 8 hNil)) (hE (hK .none) hNil)))) (hB (hC (eqP true) (hE (hC reprW (hE (hCall sp__law_said_6acc40 2 (hL 6 (hL 8 hNil))) hNil)) (hE (hC reprW (hL 10 hNil)) hNil))))) (hRet (hK (.bool false))) hNext) (hDrop (hApp 2 (hTup (hE (hV 6) (hE (hV 8) (hE (hV 10) hNil))))))))))))))) la80_2)
def la80_0 : HS := (hSeq (hAsg (hLst hNil) 2) la80_1)
theorem la80_eq : h_law_50538e = la80_0 := rfl
theorem rd_law_50538e : ∀ ns : List Int, ns.length ≤ 63 → h_law_50538e lawD ⟨some (.dat (.list (ns.map .int))) :: some .drw :: List.replicate 9 none, 0⟩ := by
  intro ns _
  rw [la80_eq]
  unfold la80_0
  simp
  unfold la80_1
  simp only [hSeq, hFor]
  have er : rngD 0 8 = (List.range 8).map fun i => PyData.int ((i : Nat) : Int) := by simp [rngD]
  have key : ∀ (s : Sg) (E : List PyData → Sg → Prop), E (rngD 0 8) s → hiR1 (hE (hK (.int 8)) hNil) s E := fun s E h => by simpa using h
  refine key _ _ ?_
  rw [er]
  refine lwA_loop (List.range 8) [] 0 none none none none none none none (fun p hp => by cases hp) (by decide) (by decide) fun ks n o3 o4 o5 o6 o7 o8 o10 hk hl hn => ?_
  unfold la80_2
  simp only [hSeq, hFor]
  have key2 : ∀ (s : Sg) (E : List PyData → Sg → Prop), s.sl[2]? = some (some (.own (ks.map turnD))) → E ((ks.reverse ++ ks).map turnD) s → hiL (hC addW (hE (hRevS 2) (hL 2 hNil))) s E := fun s E hs h => by
    simp [hs]
    rw [List.map_append, List.map_reverse] at h
    exact ⟨_, _, rfl, rfl, by rw [List.length_reverse, List.length_map]; omega, h⟩
  refine key2 _ _ rfl ?_
  refine lwB_loop (ks.reverse ++ ks) _ _ _ (fun p hp => ?_) fun o6' o8' o10' => ?_
  · rcases List.mem_append.mp hp with h | h
    · exact hk p (List.mem_reverse.mp h)
    · exact hk p h
  · unfold la80_3
    simp
    exact ⟨rfl, by omega, fun _ => rfl⟩
end Sk
set_option Elab.async false
set_option linter.all false
set_option maxRecDepth 100000
set_option maxHeartbeats 4000000
namespace Sk
open PySem PySem.Spec PyProof.Rows L2
open PySem.W (Datum DatumOrd Tup T3 T4)
open Evl (Ex)
def topS (i : Nat) : Stmt := PySem.Challenge.pw_standhouse_k80_steps_put_round.main.body.getD i (.Pass ⟨0, 0, 0, 0⟩)
structure Tops (w : World) (K : PySem.W.Frag) (mg : Str → Option Value) : Prop where
  n_ValueError : mg "ValueError" = none
  n_all : mg "all" = none
  n_enumerate : mg "enumerate" = none
  n_isinstance : mg "isinstance" = none
  n_len : mg "len" = none
  n_range : mg "range" = none
  n_repr : mg "repr" = none
  n_sorted : mg "sorted" = none
  n_str : mg "str" = none
  n_tuple : mg "tuple" = none
  n_zip : mg "zip" = none
  ex_BadDeeds : EC K mg "BadDeeds"
  ex_BadHand : EC K mg "BadHand"
  ex_BadHouse : EC K mg "BadHouse"
  ex_BadMachine : EC K mg "BadMachine"
  ex_BadNode : EC K mg "BadNode"
  ex_BadPaper : EC K mg "BadPaper"
  ex_BadRow : EC K mg "BadRow"
  ex_BadText : EC K mg "BadText"
  ex_BadWay : EC K mg "BadWay"
  ex_HandError : EC K mg "HandError"
  ex_NoName : EC K mg "NoName"
  ex_TooGreat : EC K mg "TooGreat"
  xt : ExT K
  c_BARS : Cst K mg "BARS" c_BARS
  c_LETTERS : Cst K mg "LETTERS" c_LETTERS
  c_MOST_DEEDS : Cst K mg "MOST_DEEDS" c_MOST_DEEDS
  c_MOST_DEEP : Cst K mg "MOST_DEEP" c_MOST_DEEP
  c_MOST_LETTERS : Cst K mg "MOST_LETTERS" c_MOST_LETTERS
  c_MOST_SIZE : Cst K mg "MOST_SIZE" c_MOST_SIZE
  c_MOST_STEPS : Cst K mg "MOST_STEPS" c_MOST_STEPS
  cd_LONG_forms : CstD K w mg "LONG_forms" c_LONG_forms
  cd_LONG_surroundings : CstD K w mg "LONG_surroundings" c_LONG_surroundings
section
variable {P : Program} {w : World} {TB : Tbs} {K : PySem.W.Frag} {mg : Str → Option Value} {base : Heap}
abbrev s_is_word : Stmt := topS 18
theorem sc_is_word : FnScope ["thing", "sign"] ["thing"] (defScope s_is_word) := ⟨rfl, rfl, rfl, by decide +kernel, rfl, by decide +kernel, by decide +kernel⟩
theorem d_is_word (T : Tops w K mg)  {fa : Addr} {cdv : Value} {A : Around} {outer : List Env} {s : Shared} {H : Hp} {E : XK} (hgd : (A.deeper (envOfC "is_word" (defScope s_is_word) s.heap.objs.size fa cdv)).guards = some []) (hr : Room 0 (A.deeper (envOfC "is_word" (defScope s_is_word) s.heap.objs.size fa cdv))) :
    PSs (cxOf CX0 P w K mg base ["thing", "sign"] "is_word" (defScope s_is_word) fa cdv A outer s H E).nox (defBody s_is_word) (lfS K (f0 w TB) h_is_word_e81331) := by
  have nd := sc_is_word.nd
  exact (hs_cons (hs_if (PW.pt (ht_or (ht_not (hp_test (hp_callB call_isiD op_isi (by rfl) T.n_isinstance (by decide +kernel) (hpa_cons (opd_v 0 (pv 0)) (hpa_cons (opd_w (pe_bltn (v := .ty "str") (u := .type "str") (by rfl) T.n_str (by decide +kernel) rfl)) hpa_nil))))) (ht_or (ht_not (ht_chain op_le op_le (opd_e (hp_k pe_int fun _ => .int _)) (opd_e (hp_callB call_lenAll op_lenW (by rfl) T.n_len (by decide +kernel) (hpa_cons (opd_v 0 (pv 0)) hpa_nil))) (opd_e (hp_c T.c_MOST_LETTERS (by rfl))) op_leW op_leW)) (ht_or1 (ht_cmp (op_inP (u64 hr)) (opd_v 0 (pv 0)) (opd_e (hp_c T.c_BARS (by rfl))) op_inPW (by first | exact nobehind _ (by decide) (by decide) | rfl)))))) (hs_one (hs_ret (hp_k pe_bl fun _ => .bl _))) hs_nil)
    (hs_one (hs_ret (hp_callB (cr_all rfl) op_allW (by rfl) T.n_all (by decide +kernel) (hpa_cons (opd_e (hp_lc (pe_lc (own := [("sign", 1)]) rfl nd (hi_str (hp_v 0 (pv 0))) (blkOk_by (own := [("sign", 1)]) (N := ["thing", "sign"]) (sc := defScope s_is_word) (by decide +kernel)) (fun _ _ _ _ _ => (hg_name (pg_name (i := 1) nd rfl (by first | exact .inl rfl | exact .inr rfl)))) (fun _ _ _ _ _ => pts_yes) (fun _ _ _ _ _ => (hp_cmp op_in_sign (opd_v 1 (pv 1)) (opd_e (hp_c T.c_LETTERS (by rfl))) op_inS (by first | exact nobehind _ (by decide) (by decide) | rfl)))) (by decide) gl_name)) hpa_nil)))))
theorem has_is_word (T : Tops w K mg)  {fa : Addr} {fd : FuncData} (Fn : Fun K "is_word" "is_word" s_is_word fa fd) (hm : mg "is_word" = some (.ref fa)) : Has P w TB K mg base 1 "is_word" 1 sp_is_word_e81331 :=
  Has.mk' (ps := ["thing"]) Fn hm (Fn.binds fun _ _ _ _ _ _ us hl => match us, hl with | [_], _ => rfl) sc_is_word (fun _ ecd _ _ _ _ _ hgd hr => d_is_word T  hgd hr) rd_is_word_e81331
abbrev s_is_row : Stmt := topS 19
theorem sc_is_row : FnScope ["thing", "deed"] ["thing"] (defScope s_is_row) := ⟨rfl, rfl, rfl, by decide +kernel, rfl, by decide +kernel, by decide +kernel⟩
theorem d_is_row (T : Tops w K mg) (g_is_word : Has P w TB K mg base 1 "is_word" 1 sp_is_word_e81331) {fa : Addr} {cdv : Value} {A : Around} {outer : List Env} {s : Shared} {H : Hp} {E : XK} (hgd : (A.deeper (envOfC "is_row" (defScope s_is_row) s.heap.objs.size fa cdv)).guards = some []) (hr : Room 1 (A.deeper (envOfC "is_row" (defScope s_is_row) s.heap.objs.size fa cdv))) :
    PSs (cxOf CX0 P w K mg base ["thing", "deed"] "is_row" (defScope s_is_row) fa cdv A outer s H E).nox (defBody s_is_row) (lfS K (f0 w TB) h_is_row_ab8be0) := by
  have nd := sc_is_row.nd
  exact (hs_one (hs_ret (hp_andV (hp_callB call_isiD op_isi (by rfl) T.n_isinstance (by decide +kernel) (hpa_cons (opd_v 0 (pv 0)) (hpa_cons (opd_w (pe_bltn (v := .ty "tuple") (u := .type "tuple") (by rfl) T.n_tuple (by decide +kernel) rfl)) hpa_nil))) (pe_one (hp_callB (cr_all rfl) op_allW (by rfl) T.n_all (by decide +kernel) (hpa_cons (opd_e (hp_lc (pe_lc (own := [("deed", 1)]) rfl nd (hi_tup (hp_v 0 (pv 0))) (blkOk_by (own := [("deed", 1)]) (N := ["thing", "deed"]) (sc := defScope s_is_row) (by decide +kernel)) (fun _ _ _ _ _ => (hg_name (pg_name (i := 1) nd rfl (by first | exact .inl rfl | exact .inr rfl)))) (fun _ _ _ _ _ => pts_yes) (fun _ _ _ _ _ => (hp_callH g_is_word hgd (hr.mono (by decide)) (by rfl) (hpa_cons (opd_v 1 (pv 1)) hpa_nil)))) (by decide) gl_name)) hpa_nil))))))
theorem has_is_row (T : Tops w K mg) (g_is_word : Has P w TB K mg base 1 "is_word" 1 sp_is_word_e81331) {fa : Addr} {fd : FuncData} (Fn : Fun K "is_row" "is_row" s_is_row fa fd) (hm : mg "is_row" = some (.ref fa)) : Has P w TB K mg base 2 "is_row" 1 sp_is_row_ab8be0 :=
  Has.mk' (ps := ["thing"]) Fn hm (Fn.binds fun _ _ _ _ _ _ us hl => match us, hl with | [_], _ => rfl) sc_is_row (fun _ ecd _ _ _ _ _ hgd hr => d_is_row T g_is_word hgd hr) rd_is_row_ab8be0
abbrev s_is_rising : Stmt := topS 20
theorem sc_is_rising : FnScope ["texts", "one", "other"] ["texts"] (defScope s_is_rising) := ⟨rfl, rfl, rfl, by decide +kernel, rfl, by decide +kernel, by decide +kernel⟩
theorem d_is_rising (T : Tops w K mg)  {fa : Addr} {cdv : Value} {A : Around} {outer : List Env} {s : Shared} {H : Hp} {E : XK} (hgd : (A.deeper (envOfC "is_rising" (defScope s_is_rising) s.heap.objs.size fa cdv)).guards = some []) (hr : Room 0 (A.deeper (envOfC "is_rising" (defScope s_is_rising) s.heap.objs.size fa cdv))) :
    PSs (cxOf CX0 P w K mg base ["texts", "one", "other"] "is_rising" (defScope s_is_rising) fa cdv A outer s H E).nox (defBody s_is_rising) (lfS K (f0 w TB) h_is_rising_757f86) := by
  have nd := sc_is_rising.nd
  exact (hs_one (hs_ret (hp_callB (cr_all rfl) op_allW (by rfl) T.n_all (by decide +kernel) (hpa_cons (opd_e (hp_lc (pe_lc (own := [("one", 1), ("other", 2)]) rfl nd (hi_zip (by rfl) T.n_zip (hpa_cons (opd_e (hp_v 0 (pv 0))) (hpa_cons (opd_e (hp_sl (pv 0) (ho_some (hp_k pe_int fun _ => .int _)) ho_none)) hpa_nil))) (blkOk_by (own := [("one", 1), ("other", 2)]) (N := ["texts", "one", "other"]) (sc := defScope s_is_rising) (by decide +kernel)) (fun _ _ _ _ _ => (hg_pair (pg_tup rfl (pgs_cons (pg_name (i := 1) nd rfl (by first | exact .inl rfl | exact .inr rfl)) (pgs_cons (pg_name (i := 2) nd rfl (by first | exact .inl rfl | exact .inr rfl)) pgs_nil))))) (fun _ _ _ _ _ => pts_yes) (fun _ _ _ _ _ => (hp_cmp (op_ltA (α := Str) (uD hr (by decide))) (opd_v 1 (pv 1)) (opd_v 2 (pv 2)) op_ltAW (nomark _)))) (by decide) gl_pair)) hpa_nil))))
theorem has_is_rising (T : Tops w K mg)  {fa : Addr} {fd : FuncData} (Fn : Fun K "is_rising" "is_rising" s_is_rising fa fd) (hm : mg "is_rising" = some (.ref fa)) : Has P w TB K mg base 1 "is_rising" 1 sp_is_rising_757f86 :=
  Has.mk' (ps := ["texts"]) Fn hm (Fn.binds fun _ _ _ _ _ _ us hl => match us, hl with | [_], _ => rfl) sc_is_rising (fun _ ecd _ _ _ _ _ hgd hr => d_is_rising T  hgd hr) rd_is_rising_757f86
abbrev s_is_set : Stmt := topS 21
theorem sc_is_set : FnScope ["thing"] ["thing"] (defScope s_is_set) := ⟨rfl, rfl, rfl, by decide +kernel, rfl, by decide +kernel, by decide +kernel⟩
theorem d_is_set (T : Tops w K mg) (g_is_row : Has P w TB K mg base 2 "is_row" 1 sp_is_row_ab8be0) (g_is_rising : Has P w TB K mg base 1 "is_rising" 1 sp_is_rising_757f86) {fa : Addr} {cdv : Value} {A : Around} {outer : List Env} {s : Shared} {H : Hp} {E : XK} (hgd : (A.deeper (envOfC "is_set" (defScope s_is_set) s.heap.objs.size fa cdv)).guards = some []) (hr : Room 2 (A.deeper (envOfC "is_set" (defScope s_is_set) s.heap.objs.size fa cdv))) :
    PSs (cxOf CX0 P w K mg base ["thing"] "is_set" (defScope s_is_set) fa cdv A outer s H E).nox (defBody s_is_set) (lfS K (f0 w TB) h_is_set_136706) := by
  have nd := sc_is_set.nd
  exact (hs_one (hs_ret (hp_andV (hp_callH g_is_row hgd (hr.mono (by decide)) (by rfl) (hpa_cons (opd_v 0 (pv 0)) hpa_nil)) (hp_andV (hp_cmp op_le (opd_e (hp_callB call_lenAll op_lenW (by rfl) T.n_len (by decide +kernel) (hpa_cons (opd_v 0 (pv 0)) hpa_nil))) (opd_e (hp_c T.c_MOST_DEEDS (by rfl))) op_leW (nomark _)) (pe_one (hp_callH g_is_rising hgd (hr.mono (by decide)) (by rfl) (hpa_cons (opd_v 0 (pv 0)) hpa_nil)))))))
theorem has_is_set (T : Tops w K mg) (g_is_row : Has P w TB K mg base 2 "is_row" 1 sp_is_row_ab8be0) (g_is_rising : Has P w TB K mg base 1 "is_rising" 1 sp_is_rising_757f86) {fa : Addr} {fd : FuncData} (Fn : Fun K "is_set" "is_set" s_is_set fa fd) (hm : mg "is_set" = some (.ref fa)) : Has P w TB K mg base 3 "is_set" 1 sp_is_set_136706 :=
  Has.mk' (ps := ["thing"]) Fn hm (Fn.binds fun _ _ _ _ _ _ us hl => match us, hl with | [_], _ => rfl) sc_is_set (fun _ ecd _ _ _ _ _ hgd hr => d_is_set T g_is_row g_is_rising hgd hr) rd_is_set_136706
abbrev s_is_pairs : Stmt := topS 26
theorem sc_is_pairs : FnScope ["thing", "pair", "deed"] ["thing"] (defScope s_is_pairs) := ⟨rfl, rfl, rfl, by decide +kernel, rfl, by decide +kernel, by decide +kernel⟩
theorem d_is_pairs (T : Tops w K mg) (g_is_rising : Has P w TB K mg base 1 "is_rising" 1 sp_is_rising_757f86) (g_is_word : Has P w TB K mg base 1 "is_word" 1 sp_is_word_e81331) {fa : Addr} {cdv : Value} {A : Around} {outer : List Env} {s : Shared} {H : Hp} {E : XK} (hgd : (A.deeper (envOfC "is_pairs" (defScope s_is_pairs) s.heap.objs.size fa cdv)).guards = some []) (hr : Room 1 (A.deeper (envOfC "is_pairs" (defScope s_is_pairs) s.heap.objs.size fa cdv))) :
    PSs (cxOf CX0 P w K mg base ["thing", "pair", "deed"] "is_pairs" (defScope s_is_pairs) fa cdv A outer s H E).nox (defBody s_is_pairs) (lfS K (f0 w TB) h_is_pairs_02c5d9) := by
  have nd := sc_is_pairs.nd
  exact (hs_cons (hs_if (PW.pt (ht_or (ht_not (hp_test (hp_callB call_isiD op_isi (by rfl) T.n_isinstance (by decide +kernel) (hpa_cons (opd_v 0 (pv 0)) (hpa_cons (opd_w (pe_bltn (v := .ty "tuple") (u := .type "tuple") (by rfl) T.n_tuple (by decide +kernel) rfl)) hpa_nil))))) (ht_or1 (ht_cmp op_gt (opd_e (hp_callB call_lenAll op_lenW (by rfl) T.n_len (by decide +kernel) (hpa_cons (opd_v 0 (pv 0)) hpa_nil))) (opd_e (hp_c T.c_MOST_DEEDS (by rfl))) op_gtW (nomark _))))) (hs_one (hs_ret (hp_k pe_bl fun _ => .bl _))) hs_nil)
    (hs_cons (hs_for PassesOwn.never rfl (hi_tup (hp_v 0 (pv 0))) (hg_name (pg_name (i := 1) nd rfl (by first | exact .inl rfl | exact .inr rfl))) (hs_one (hs_if (PW.pt (ht_or (ht_not (hp_test (hp_callB call_isiD op_isi (by rfl) T.n_isinstance (by decide +kernel) (hpa_cons (opd_v 1 (pv 1)) (hpa_cons (opd_w (pe_bltn (v := .ty "tuple") (u := .type "tuple") (by rfl) T.n_tuple (by decide +kernel) rfl)) hpa_nil))))) (ht_or (ht_cmp (op_neP (u64 hr)) (opd_e (hp_callB call_lenAll op_lenW (by rfl) T.n_len (by decide +kernel) (hpa_cons (opd_v 1 (pv 1)) hpa_nil))) (opd_e (hp_k pe_int fun _ => .int _)) op_eqPW (nomark _)) (ht_or1 (ht_not (hp_test (hp_callB (cr_all rfl) op_allW (by rfl) T.n_all (by decide +kernel) (hpa_cons (opd_e (hp_lc (pe_lc (own := [("deed", 2)]) rfl nd (hi_tup (hp_v 1 (pv 1))) (blkOk_by (own := [("deed", 2)]) (N := ["thing", "pair", "deed"]) (sc := defScope s_is_pairs) (by decide +kernel)) (fun _ _ _ _ _ => (hg_name (pg_name (i := 2) nd rfl (by first | exact .inl rfl | exact .inr rfl)))) (fun _ _ _ _ _ => pts_yes) (fun _ _ _ _ _ => (hp_callH g_is_word hgd (hr.mono (by decide)) (by rfl) (hpa_cons (opd_v 2 (pv 2)) hpa_nil)))) (by decide) gl_name)) hpa_nil)))))))) (hs_one (hs_ret (hp_k pe_bl fun _ => .bl _))) hs_nil)))
    (hs_one (hs_ret (hp_callH g_is_rising hgd (hr.mono (by decide)) (by rfl) (hpa_cons (opd_e (hp_lc (pe_lc (own := [("pair", 1)]) rfl nd (hi_tup (hp_v 0 (pv 0))) (blkOk_by (own := [("pair", 1)]) (N := ["thing", "pair", "deed"]) (sc := defScope s_is_pairs) (by decide +kernel)) (fun _ _ _ _ _ => (hg_name (pg_name (i := 1) nd rfl (by first | exact .inl rfl | exact .inr rfl)))) (fun _ _ _ _ _ => pts_yes) (fun _ _ _ _ _ => (hp_ix ix_seq (opd_v 1 (pv 1)) (opd_e (hp_k pe_int fun _ => .int _)) op_ixW (fun _ _ => rfl)))) (by decide) gl_name)) hpa_nil))))))
theorem has_is_pairs (T : Tops w K mg) (g_is_rising : Has P w TB K mg base 1 "is_rising" 1 sp_is_rising_757f86) (g_is_word : Has P w TB K mg base 1 "is_word" 1 sp_is_word_e81331) {fa : Addr} {fd : FuncData} (Fn : Fun K "is_pairs" "is_pairs" s_is_pairs fa fd) (hm : mg "is_pairs" = some (.ref fa)) : Has P w TB K mg base 2 "is_pairs" 1 sp_is_pairs_02c5d9 :=
  Has.mk' (ps := ["thing"]) Fn hm (Fn.binds fun _ _ _ _ _ _ us hl => match us, hl with | [_], _ => rfl) sc_is_pairs (fun _ ecd _ _ _ _ _ hgd hr => d_is_pairs T g_is_rising g_is_word hgd hr) rd_is_pairs_02c5d9
abbrev s_is_form : Stmt := topS 27
theorem sc_is_form : FnScope ["thing"] ["thing"] (defScope s_is_form) := ⟨rfl, rfl, rfl, by decide +kernel, rfl, by decide +kernel, by decide +kernel⟩
theorem d_is_form (T : Tops w K mg) (g_is_pairs : Has P w TB K mg base 2 "is_pairs" 1 sp_is_pairs_02c5d9) (g_is_set : Has P w TB K mg base 3 "is_set" 1 sp_is_set_136706) (g_is_word : Has P w TB K mg base 1 "is_word" 1 sp_is_word_e81331) {fa : Addr} {cdv : Value} {A : Around} {outer : List Env} {s : Shared} {H : Hp} {E : XK} (hgd : (A.deeper (envOfC "is_form" (defScope s_is_form) s.heap.objs.size fa cdv)).guards = some []) (hr : Room 3 (A.deeper (envOfC "is_form" (defScope s_is_form) s.heap.objs.size fa cdv))) :
    PSs (cxOf CX0 P w K mg base ["thing"] "is_form" (defScope s_is_form) fa cdv A outer s H E).nox (defBody s_is_form) (lfS K (f0 w TB) h_is_form_19433f) := by
  have nd := sc_is_form.nd
  exact (hs_cons (hs_if (PW.pt (ht_or (ht_not (hp_test (hp_callB call_isiD op_isi (by rfl) T.n_isinstance (by decide +kernel) (hpa_cons (opd_v 0 (pv 0)) (hpa_cons (opd_w (pe_bltn (v := .ty "tuple") (u := .type "tuple") (by rfl) T.n_tuple (by decide +kernel) rfl)) hpa_nil))))) (ht_or (ht_cmp (op_eqP (u64 hr)) (opd_v 0 (pv 0)) (opd_e (hp_tup hpa_nil)) op_eqPW (nomark _)) (ht_or1 (ht_not (hp_test (hp_callB call_isiD op_isi (by rfl) T.n_isinstance (by decide +kernel) (hpa_cons (opd_e (hp_ix ix_seq (opd_v 0 (pv 0)) (opd_e (hp_k pe_int fun _ => .int _)) op_ixW (fun _ _ => rfl))) (hpa_cons (opd_w (pe_bltn (v := .ty "str") (u := .type "str") (by rfl) T.n_str (by decide +kernel) rfl)) hpa_nil))))))))) (hs_one (hs_ret (hp_k pe_bl fun _ => .bl _))) hs_nil)
    (hs_cons (hs_if (ht_cmp (op_neP (u64 hr)) (opd_e (hp_kget T.cd_LONG_forms (u64 hr) (by rfl) (hpa_cons (opd_e (hp_ix ix_seq (opd_v 0 (pv 0)) (opd_e (hp_k pe_int fun _ => .int _)) op_ixW (fun _ _ => rfl))) (hpa_cons (opd_e (hp_k pe_int fun _ => .int _)) hpa_nil)))) (opd_e (hp_callB call_lenAll op_lenW (by rfl) T.n_len (by decide +kernel) (hpa_cons (opd_v 0 (pv 0)) hpa_nil))) op_eqPW (nomark _)) (hs_one (hs_ret (hp_k pe_bl fun _ => .bl _))) hs_nil)
    (hs_cons (hs_if (ht_cmp (op_inP (u64 hr)) (opd_e (hp_ix ix_seq (opd_v 0 (pv 0)) (opd_e (hp_k pe_int fun _ => .int _)) op_ixW (fun _ _ => rfl))) (opd_e (hp_tup (hpa_cons (opd_e (hp_k pe_str fun _ => .str _)) (hpa_cons (opd_e (hp_k pe_str fun _ => .str _)) hpa_nil)))) op_inPW (by first | exact nobehind _ (by decide) (by decide) | rfl)) (hs_one (hs_ret (hp_callH g_is_word hgd (hr.mono (by decide)) (by rfl) (hpa_cons (opd_e (hp_ix ix_seq (opd_v 0 (pv 0)) (opd_e (hp_k pe_int fun _ => .int _)) op_ixW (fun _ _ => rfl))) hpa_nil)))) hs_nil)
    (hs_cons (hs_if (ht_cmp (op_inP (u64 hr)) (opd_e (hp_ix ix_seq (opd_v 0 (pv 0)) (opd_e (hp_k pe_int fun _ => .int _)) op_ixW (fun _ _ => rfl))) (opd_e (hp_tup (hpa_cons (opd_e (hp_k pe_str fun _ => .str _)) (hpa_cons (opd_e (hp_k pe_str fun _ => .str _)) hpa_nil)))) op_inPW (by first | exact nobehind _ (by decide) (by decide) | rfl)) (hs_one (hs_ret (hp_callH g_is_set hgd (hr.mono (by decide)) (by rfl) (hpa_cons (opd_e (hp_ix ix_seq (opd_v 0 (pv 0)) (opd_e (hp_k pe_int fun _ => .int _)) op_ixW (fun _ _ => rfl))) hpa_nil)))) hs_nil)
    (hs_one (hs_ret (hp_orV (hp_cmp (op_neP (u64 hr)) (opd_e (hp_ix ix_seq (opd_v 0 (pv 0)) (opd_e (hp_k pe_int fun _ => .int _)) op_ixW (fun _ _ => rfl))) (opd_e (hp_k pe_str fun _ => .str _)) op_eqPW (nomark _)) (pe_one (hp_callH g_is_pairs hgd (hr.mono (by decide)) (by rfl) (hpa_cons (opd_e (hp_ix ix_seq (opd_v 0 (pv 0)) (opd_e (hp_k pe_int fun _ => .int _)) op_ixW (fun _ _ => rfl))) hpa_nil))))))))))
theorem has_is_form (T : Tops w K mg) (g_is_pairs : Has P w TB K mg base 2 "is_pairs" 1 sp_is_pairs_02c5d9) (g_is_set : Has P w TB K mg base 3 "is_set" 1 sp_is_set_136706) (g_is_word : Has P w TB K mg base 1 "is_word" 1 sp_is_word_e81331) {fa : Addr} {fd : FuncData} (Fn : Fun K "is_form" "is_form" s_is_form fa fd) (hm : mg "is_form" = some (.ref fa)) : Has P w TB K mg base 4 "is_form" 1 sp_is_form_19433f :=
  Has.mk' (ps := ["thing"]) Fn hm (Fn.binds fun _ _ _ _ _ _ us hl => match us, hl with | [_], _ => rfl) sc_is_form (fun _ ecd _ _ _ _ _ hgd hr => d_is_form T g_is_pairs g_is_set g_is_word hgd hr) rd_is_form_19433f
abbrev s_beneath : Stmt := topS 28
theorem sc_beneath : FnScope ["hand"] ["hand"] (defScope s_beneath) := ⟨rfl, rfl, rfl, by decide +kernel, rfl, by decide +kernel, by decide +kernel⟩
theorem d_beneath (T : Tops w K mg)  {fa : Addr} {cdv : Value} {A : Around} {outer : List Env} {s : Shared} {H : Hp} {E : XK} (hgd : (A.deeper (envOfC "beneath" (defScope s_beneath) s.heap.objs.size fa cdv)).guards = some []) (hr : Room 0 (A.deeper (envOfC "beneath" (defScope s_beneath) s.heap.objs.size fa cdv))) :
    PSs (cxOf CX0 P w K mg base ["hand"] "beneath" (defScope s_beneath) fa cdv A outer s H E).nox (defBody s_beneath) (lfS K (f0 w TB) h_beneath_d59fd4) := by
  have nd := sc_beneath.nd
  exact (hs_cons (hs_if (ht_cmp (op_eqP (u64 hr)) (opd_e (hp_ix ix_seq (opd_v 0 (pv 0)) (opd_e (hp_k pe_int fun _ => .int _)) op_ixW (fun _ _ => rfl))) (opd_e (hp_k pe_str fun _ => .str _)) op_eqPW (nomark _)) (hs_one (hs_ret (hp_lst (hpa_cons (opd_e (hp_ix ix_seq (opd_v 0 (pv 0)) (opd_e (hp_k pe_int fun _ => .int _)) op_ixW (fun _ _ => rfl))) hpa_nil)))) hs_nil)
    (hs_cons (hs_if (ht_cmp (op_inP (u64 hr)) (opd_e (hp_ix ix_seq (opd_v 0 (pv 0)) (opd_e (hp_k pe_int fun _ => .int _)) op_ixW (fun _ _ => rfl))) (opd_e (hp_tup (hpa_cons (opd_e (hp_k pe_str fun _ => .str _)) (hpa_cons (opd_e (hp_k pe_str fun _ => .str _)) hpa_nil)))) op_inPW (by first | exact nobehind _ (by decide) (by decide) | rfl)) (hs_one (hs_ret (hp_lst (hpa_cons (opd_e (hp_ix ix_seq (opd_v 0 (pv 0)) (opd_e (hp_k pe_int fun _ => .int _)) op_ixW (fun _ _ => rfl))) (hpa_cons (opd_e (hp_ix ix_seq (opd_v 0 (pv 0)) (opd_e (hp_k pe_int fun _ => .int _)) op_ixW (fun _ _ => rfl))) hpa_nil))))) hs_nil)
    (hs_cons (hs_if (ht_cmp (op_eqP (u64 hr)) (opd_e (hp_ix ix_seq (opd_v 0 (pv 0)) (opd_e (hp_k pe_int fun _ => .int _)) op_ixW (fun _ _ => rfl))) (opd_e (hp_k pe_str fun _ => .str _)) op_eqPW (nomark _)) (hs_one (hs_ret (hp_lst (hpa_cons (opd_e (hp_ix ix_seq (opd_v 0 (pv 0)) (opd_e (hp_k pe_int fun _ => .int _)) op_ixW (fun _ _ => rfl))) (hpa_cons (opd_e (hp_ix ix_seq (opd_v 0 (pv 0)) (opd_e (hp_k pe_int fun _ => .int _)) op_ixW (fun _ _ => rfl))) hpa_nil))))) hs_nil)
    (hs_one (hs_ret (hp_if (ht_cmp (op_inP (u64 hr)) (opd_e (hp_ix ix_seq (opd_v 0 (pv 0)) (opd_e (hp_k pe_int fun _ => .int _)) op_ixW (fun _ _ => rfl))) (opd_e (hp_tup (hpa_cons (opd_e (hp_k pe_str fun _ => .str _)) (hpa_cons (opd_e (hp_k pe_str fun _ => .str _)) hpa_nil)))) op_inPW (by first | exact nobehind _ (by decide) (by decide) | rfl)) (hp_lst (hpa_cons (opd_e (hp_ix ix_seq (opd_v 0 (pv 0)) (opd_e (hp_k pe_int fun _ => .int _)) op_ixW (fun _ _ => rfl))) hpa_nil)) (hp_lst hpa_nil)))))))
theorem has_beneath (T : Tops w K mg)  {fa : Addr} {fd : FuncData} (Fn : Fun K "beneath" "beneath" s_beneath fa fd) (hm : mg "beneath" = some (.ref fa)) : Has P w TB K mg base 1 "beneath" 1 sp_beneath_d59fd4 :=
  Has.mk' (ps := ["hand"]) Fn hm (Fn.binds fun _ _ _ _ _ _ us hl => match us, hl with | [_], _ => rfl) sc_beneath (fun _ ecd _ _ _ _ _ hgd hr => d_beneath T  hgd hr) rd_beneath_d59fd4
abbrev s_is_hand : Stmt := topS 29
theorem sc_is_hand : FnScope ["thing", "waiting", "many", "here", "deep", "part"] ["thing"] (defScope s_is_hand) := ⟨rfl, rfl, rfl, by decide +kernel, rfl, by decide +kernel, by decide +kernel⟩
theorem d_is_hand (T : Tops w K mg) (g_beneath : Has P w TB K mg base 1 "beneath" 1 sp_beneath_d59fd4) (g_is_form : Has P w TB K mg base 4 "is_form" 1 sp_is_form_19433f) {fa : Addr} {cdv : Value} {A : Around} {outer : List Env} {s : Shared} {H : Hp} {E : XK} (hgd : (A.deeper (envOfC "is_hand" (defScope s_is_hand) s.heap.objs.size fa cdv)).guards = some []) (hr : Room 4 (A.deeper (envOfC "is_hand" (defScope s_is_hand) s.heap.objs.size fa cdv))) :
    PSs (cxOf CX0 P w K mg base ["thing", "waiting", "many", "here", "deep", "part"] "is_hand" (defScope s_is_hand) fa cdv A outer s H E).nox (defBody s_is_hand) (lfS K (f0 w TB) h_is_hand_dc24ee) := by
  have nd := sc_is_hand.nd
  exact (hs_cons (hs_set (i := 1) nd rfl (.inl rfl) (hp_lst (hpa_cons (opd_e (hp_tup (hpa_cons (opd_e (hp_v 0 (pv 0))) (hpa_cons (opd_e (hp_k pe_int fun _ => .int _)) hpa_nil)))) hpa_nil)))
    (hs_cons (hs_set (i := 2) nd rfl (.inl rfl) (hp_k pe_int fun _ => .int _))
    (hs_cons (hs_while PassesOwn.never (ht_cmp (op_neP (u64 hr)) (opd_v 1 (pv 1)) (opd_e (hp_lst hpa_nil)) op_eqPW (nomark _)) (hs_cons (hs_unp (hp_pop (pe_bm0 PySem.F.plainAttrs_list PySem.F.slot_list_pop PySem.F.type_list_pop mt_pop (pv 1))) (hg_pair (pg_tup rfl (pgs_cons (pg_name (i := 3) nd rfl (by first | exact .inl rfl | exact .inr rfl)) (pgs_cons (pg_name (i := 4) nd rfl (by first | exact .inl rfl | exact .inr rfl)) pgs_nil)))))
    (hs_cons (hs_aug (i := 2) (ps_aug nd rfl (.inl rfl) (hp_k pe_int fun _ => .int _) ip_add))
    (hs_cons (hs_if (PW.pt (ht_or (ht_cmp op_gt (opd_v 2 (pv 2)) (opd_e (hp_c T.c_MOST_SIZE (by rfl))) op_gtW (nomark _)) (ht_or (ht_cmp op_gt (opd_v 4 (pv 4)) (opd_e (hp_c T.c_MOST_DEEP (by rfl))) op_gtW (nomark _)) (ht_or1 (ht_not (hp_test (hp_callH g_is_form hgd (hr.mono (by decide)) (by rfl) (hpa_cons (opd_v 3 (pv 3)) hpa_nil)))))))) (hs_one (hs_ret (hp_k pe_bl fun _ => .bl _))) hs_nil)
    (hs_one (hs_drop (hp_ext (hp_lc (pe_lc (own := [("part", 5)]) rfl nd (hi_list (hp_callH g_beneath hgd (hr.mono (by decide)) (by rfl) (hpa_cons (opd_v 3 (pv 3)) hpa_nil))) (blkOk_by (own := [("part", 5)]) (N := ["thing", "waiting", "many", "here", "deep", "part"]) (sc := defScope s_is_hand) (by decide +kernel)) (fun _ _ _ _ _ => (hg_name (pg_name (i := 5) nd rfl (by first | exact .inl rfl | exact .inr rfl)))) (fun _ _ _ _ _ => pts_yes) (fun _ _ _ _ _ => (hp_tup (hpa_cons (opd_e (hp_v 5 (pv 5))) (hpa_cons (opd_e (hp_op op_addAll (opd_v 4 (pv 4)) (opd_e (hp_k pe_int fun _ => .int _)) op_addW)) hpa_nil))))) (by decide) gl_name) (fun h => pe_bm PySem.F.plainAttrs_list PySem.F.slot_list_extend PySem.F.type_list_extend mt_extend (pv 1) h))))))))
    (hs_one (hs_ret (hp_k pe_bl fun _ => .bl _))))))
theorem has_is_hand (T : Tops w K mg) (g_beneath : Has P w TB K mg base 1 "beneath" 1 sp_beneath_d59fd4) (g_is_form : Has P w TB K mg base 4 "is_form" 1 sp_is_form_19433f) {fa : Addr} {fd : FuncData} (Fn : Fun K "is_hand" "is_hand" s_is_hand fa fd) (hm : mg "is_hand" = some (.ref fa)) : Has P w TB K mg base 5 "is_hand" 1 sp_is_hand_dc24ee :=
  Has.mk' (ps := ["thing"]) Fn hm (Fn.binds fun _ _ _ _ _ _ us hl => match us, hl with | [_], _ => rfl) sc_is_hand (fun _ ecd _ _ _ _ _ hgd hr => d_is_hand T g_beneath g_is_form hgd hr) rd_is_hand_dc24ee
abbrev s_need_hand : Stmt := topS 30
theorem sc_need_hand : FnScope ["thing"] ["thing"] (defScope s_need_hand) := ⟨rfl, rfl, rfl, by decide +kernel, rfl, by decide +kernel, by decide +kernel⟩
theorem d_need_hand (T : Tops w K mg) (g_is_hand : Has P w TB K mg base 5 "is_hand" 1 sp_is_hand_dc24ee) {fa : Addr} {cdv : Value} {A : Around} {outer : List Env} {s : Shared} {H : Hp} {E : XK} (hgd : (A.deeper (envOfC "need_hand" (defScope s_need_hand) s.heap.objs.size fa cdv)).guards = some []) (hr : Room 5 (A.deeper (envOfC "need_hand" (defScope s_need_hand) s.heap.objs.size fa cdv))) :
    PSs (cxOf CX0 P w K mg base ["thing"] "need_hand" (defScope s_need_hand) fa cdv A outer s H E).nox (defBody s_need_hand) (lfS K (f0 w TB) h_need_hand_c39ac1) := by
  have nd := sc_need_hand.nd
  exact (hs_one (hs_if (ht_not (hp_test (hp_callH g_is_hand hgd (hr.mono (by decide)) (by rfl) (hpa_cons (opd_v 0 (pv 0)) hpa_nil)))) (hs_one hs_never) hs_nil))
theorem has_need_hand (T : Tops w K mg) (g_is_hand : Has P w TB K mg base 5 "is_hand" 1 sp_is_hand_dc24ee) {fa : Addr} {fd : FuncData} (Fn : Fun K "need_hand" "need_hand" s_need_hand fa fd) (hm : mg "need_hand" = some (.ref fa)) : Has P w TB K mg base 6 "need_hand" 1 sp_need_hand_c39ac1 :=
  Has.mk' (ps := ["thing"]) Fn hm (Fn.binds fun _ _ _ _ _ _ us hl => match us, hl with | [_], _ => rfl) sc_need_hand (fun _ ecd _ _ _ _ _ hgd hr => d_need_hand T g_is_hand hgd hr) rd_need_hand_c39ac1
abbrev s_is_step : Stmt := topS 34
theorem sc_is_step : FnScope ["thing"] ["thing"] (defScope s_is_step) := ⟨rfl, rfl, rfl, by decide +kernel, rfl, by decide +kernel, by decide +kernel⟩
theorem d_is_step (T : Tops w K mg) (g_is_set : Has P w TB K mg base 3 "is_set" 1 sp_is_set_136706) (g_is_hand : Has P w TB K mg base 5 "is_hand" 1 sp_is_hand_dc24ee) (g_is_pairs : Has P w TB K mg base 2 "is_pairs" 1 sp_is_pairs_02c5d9) (g_is_word : Has P w TB K mg base 1 "is_word" 1 sp_is_word_e81331) {fa : Addr} {cdv : Value} {A : Around} {outer : List Env} {s : Shared} {H : Hp} {E : XK} (hgd : (A.deeper (envOfC "is_step" (defScope s_is_step) s.heap.objs.size fa cdv)).guards = some []) (hr : Room 5 (A.deeper (envOfC "is_step" (defScope s_is_step) s.heap.objs.size fa cdv))) :
    PSs (cxOf CX0 P w K mg base ["thing"] "is_step" (defScope s_is_step) fa cdv A outer s H E).nox (defBody s_is_step) (lfS K (f0 w TB) h_is_step_74c82a) := by
  have nd := sc_is_step.nd
  exact (hs_cons (hs_if (PW.pt (ht_or (ht_not (hp_test (hp_callB call_isiD op_isi (by rfl) T.n_isinstance (by decide +kernel) (hpa_cons (opd_v 0 (pv 0)) (hpa_cons (opd_w (pe_bltn (v := .ty "tuple") (u := .type "tuple") (by rfl) T.n_tuple (by decide +kernel) rfl)) hpa_nil))))) (ht_or (ht_cmp (op_eqP (u64 hr)) (opd_v 0 (pv 0)) (opd_e (hp_tup hpa_nil)) op_eqPW (nomark _)) (ht_or1 (ht_not (hp_test (hp_callB call_isiD op_isi (by rfl) T.n_isinstance (by decide +kernel) (hpa_cons (opd_e (hp_ix ix_seq (opd_v 0 (pv 0)) (opd_e (hp_k pe_int fun _ => .int _)) op_ixW (fun _ _ => rfl))) (hpa_cons (opd_w (pe_bltn (v := .ty "str") (u := .type "str") (by rfl) T.n_str (by decide +kernel) rfl)) hpa_nil))))))))) (hs_one (hs_ret (hp_k pe_bl fun _ => .bl _))) hs_nil)
    (hs_cons (hs_if (ht_cmp (op_neP (u64 hr)) (opd_e (hp_kget T.cd_LONG_surroundings (u64 hr) (by rfl) (hpa_cons (opd_e (hp_ix ix_seq (opd_v 0 (pv 0)) (opd_e (hp_k pe_int fun _ => .int _)) op_ixW (fun _ _ => rfl))) (hpa_cons (opd_e (hp_k pe_int fun _ => .int _)) hpa_nil)))) (opd_e (hp_callB call_lenAll op_lenW (by rfl) T.n_len (by decide +kernel) (hpa_cons (opd_v 0 (pv 0)) hpa_nil))) op_eqPW (nomark _)) (hs_one (hs_ret (hp_k pe_bl fun _ => .bl _))) hs_nil)
    (hs_cons (hs_if (ht_cmp (op_eqP (u64 hr)) (opd_e (hp_ix ix_seq (opd_v 0 (pv 0)) (opd_e (hp_k pe_int fun _ => .int _)) op_ixW (fun _ _ => rfl))) (opd_e (hp_k pe_str fun _ => .str _)) op_eqPW (nomark _)) (hs_one (hs_ret (hp_callH g_is_word hgd (hr.mono (by decide)) (by rfl) (hpa_cons (opd_e (hp_ix ix_seq (opd_v 0 (pv 0)) (opd_e (hp_k pe_int fun _ => .int _)) op_ixW (fun _ _ => rfl))) hpa_nil)))) hs_nil)
    (hs_cons (hs_if (ht_cmp (op_inP (u64 hr)) (opd_e (hp_ix ix_seq (opd_v 0 (pv 0)) (opd_e (hp_k pe_int fun _ => .int _)) op_ixW (fun _ _ => rfl))) (opd_e (hp_tup (hpa_cons (opd_e (hp_k pe_str fun _ => .str _)) (hpa_cons (opd_e (hp_k pe_str fun _ => .str _)) hpa_nil)))) op_inPW (by first | exact nobehind _ (by decide) (by decide) | rfl)) (hs_one (hs_ret (hp_callH g_is_hand hgd (hr.mono (by decide)) (by rfl) (hpa_cons (opd_e (hp_ix ix_seq (opd_v 0 (pv 0)) (opd_e (hp_k pe_int fun _ => .int _)) op_ixW (fun _ _ => rfl))) hpa_nil)))) hs_nil)
    (hs_cons (hs_if (ht_cmp (op_eqP (u64 hr)) (opd_e (hp_ix ix_seq (opd_v 0 (pv 0)) (opd_e (hp_k pe_int fun _ => .int _)) op_ixW (fun _ _ => rfl))) (opd_e (hp_k pe_str fun _ => .str _)) op_eqPW (nomark _)) (hs_one (hs_ret (hp_callH g_is_pairs hgd (hr.mono (by decide)) (by rfl) (hpa_cons (opd_e (hp_ix ix_seq (opd_v 0 (pv 0)) (opd_e (hp_k pe_int fun _ => .int _)) op_ixW (fun _ _ => rfl))) hpa_nil)))) hs_nil)
    (hs_one (hs_ret (hp_andV (hp_callH g_is_set hgd (hr.mono (by decide)) (by rfl) (hpa_cons (opd_e (hp_ix ix_seq (opd_v 0 (pv 0)) (opd_e (hp_k pe_int fun _ => .int _)) op_ixW (fun _ _ => rfl))) hpa_nil)) (pe_one (hp_orV (hp_cmp (op_eqP (u64 hr)) (opd_e (hp_ix ix_seq (opd_v 0 (pv 0)) (opd_e (hp_k pe_int fun _ => .int _)) op_ixW (fun _ _ => rfl))) (opd_e (hp_k pe_str fun _ => .str _)) op_eqPW (nomark _)) (pe_one (hp_callH g_is_hand hgd (hr.mono (by decide)) (by rfl) (hpa_cons (opd_e (hp_ix ix_seq (opd_v 0 (pv 0)) (opd_e (hp_k pe_int fun _ => .int _)) op_ixW (fun _ _ => rfl))) hpa_nil)))))))))))))
theorem has_is_step (T : Tops w K mg) (g_is_set : Has P w TB K mg base 3 "is_set" 1 sp_is_set_136706) (g_is_hand : Has P w TB K mg base 5 "is_hand" 1 sp_is_hand_dc24ee) (g_is_pairs : Has P w TB K mg base 2 "is_pairs" 1 sp_is_pairs_02c5d9) (g_is_word : Has P w TB K mg base 1 "is_word" 1 sp_is_word_e81331) {fa : Addr} {fd : FuncData} (Fn : Fun K "is_step" "is_step" s_is_step fa fd) (hm : mg "is_step" = some (.ref fa)) : Has P w TB K mg base 6 "is_step" 1 sp_is_step_74c82a :=
  Has.mk' (ps := ["thing"]) Fn hm (Fn.binds fun _ _ _ _ _ _ us hl => match us, hl with | [_], _ => rfl) sc_is_step (fun _ ecd _ _ _ _ _ hgd hr => d_is_step T g_is_set g_is_hand g_is_pairs g_is_word hgd hr) rd_is_step_74c82a
abbrev s_need_surroundings : Stmt := topS 35
theorem sc_need_surroundings : FnScope ["thing", "step"] ["thing"] (defScope s_need_surroundings) := ⟨rfl, rfl, rfl, by decide +kernel, rfl, by decide +kernel, by decide +kernel⟩
theorem d_need_surroundings (T : Tops w K mg) (g_is_step : Has P w TB K mg base 6 "is_step" 1 sp_is_step_74c82a) {fa : Addr} {cdv : Value} {A : Around} {outer : List Env} {s : Shared} {H : Hp} {E : XK} (hgd : (A.deeper (envOfC "need_surroundings" (defScope s_need_surroundings) s.heap.objs.size fa cdv)).guards = some []) (hr : Room 6 (A.deeper (envOfC "need_surroundings" (defScope s_need_surroundings) s.heap.objs.size fa cdv))) :
    PSs (cxOf CX0 P w K mg base ["thing", "step"] "need_surroundings" (defScope s_need_surroundings) fa cdv A outer s H E).nox (defBody s_need_surroundings) (lfS K (f0 w TB) h_need_surroundings_42129f) := by
  have nd := sc_need_surroundings.nd
  exact (hs_one (hs_if (PW.pt (ht_or (ht_not (hp_test (hp_callB call_isiD op_isi (by rfl) T.n_isinstance (by decide +kernel) (hpa_cons (opd_v 0 (pv 0)) (hpa_cons (opd_w (pe_bltn (v := .ty "tuple") (u := .type "tuple") (by rfl) T.n_tuple (by decide +kernel) rfl)) hpa_nil))))) (ht_or (ht_cmp op_gt (opd_e (hp_callB call_lenAll op_lenW (by rfl) T.n_len (by decide +kernel) (hpa_cons (opd_v 0 (pv 0)) hpa_nil))) (opd_e (hp_c T.c_MOST_STEPS (by rfl))) op_gtW (nomark _)) (ht_or1 (ht_not (hp_test (hp_callB (cr_all rfl) op_allW (by rfl) T.n_all (by decide +kernel) (hpa_cons (opd_e (hp_lc (pe_lc (own := [("step", 1)]) rfl nd (hi_tup (hp_v 0 (pv 0))) (blkOk_by (own := [("step", 1)]) (N := ["thing", "step"]) (sc := defScope s_need_surroundings) (by decide +kernel)) (fun _ _ _ _ _ => (hg_name (pg_name (i := 1) nd rfl (by first | exact .inl rfl | exact .inr rfl)))) (fun _ _ _ _ _ => pts_yes) (fun _ _ _ _ _ => (hp_callH g_is_step hgd (hr.mono (by decide)) (by rfl) (hpa_cons (opd_v 1 (pv 1)) hpa_nil)))) (by decide) gl_name)) hpa_nil)))))))) (hs_one hs_never) hs_nil))
theorem has_need_surroundings (T : Tops w K mg) (g_is_step : Has P w TB K mg base 6 "is_step" 1 sp_is_step_74c82a) {fa : Addr} {fd : FuncData} (Fn : Fun K "need_surroundings" "need_surroundings" s_need_surroundings fa fd) (hm : mg "need_surroundings" = some (.ref fa)) : Has P w TB K mg base 7 "need_surroundings" 1 sp_need_surroundings_42129f :=
  Has.mk' (ps := ["thing"]) Fn hm (Fn.binds fun _ _ _ _ _ _ us hl => match us, hl with | [_], _ => rfl) sc_need_surroundings (fun _ ecd _ _ _ _ _ hgd hr => d_need_surroundings T g_is_step hgd hr) rd_need_surroundings_42129f
abbrev s_put_one : Stmt := topS 36
theorem sc_put_one : FnScope ["hand", "step"] ["hand", "step"] (defScope s_put_one) := ⟨rfl, rfl, rfl, by decide +kernel, rfl, by decide +kernel, by decide +kernel⟩
theorem d_put_one (T : Tops w K mg)  {fa : Addr} {cdv : Value} {A : Around} {outer : List Env} {s : Shared} {H : Hp} {E : XK} (hgd : (A.deeper (envOfC "put_one" (defScope s_put_one) s.heap.objs.size fa cdv)).guards = some []) (hr : Room 0 (A.deeper (envOfC "put_one" (defScope s_put_one) s.heap.objs.size fa cdv))) :
    PSs (cxOf CX0 P w K mg base ["hand", "step"] "put_one" (defScope s_put_one) fa cdv A outer s H E).nox (defBody s_put_one) (lfS K (f0 w TB) h_put_one_0dbed4) := by
  have nd := sc_put_one.nd
  exact (hs_cons (hs_if (ht_cmp (op_eqP (u64 hr)) (opd_e (hp_ix ix_seq (opd_v 1 (pv 1)) (opd_e (hp_k pe_int fun _ => .int _)) op_ixW (fun _ _ => rfl))) (opd_e (hp_k pe_str fun _ => .str _)) op_eqPW (nomark _)) (hs_one (hs_ret (hp_tup (hpa_cons (opd_e (hp_k pe_str fun _ => .str _)) (hpa_cons (opd_e (hp_ix ix_seq (opd_v 1 (pv 1)) (opd_e (hp_k pe_int fun _ => .int _)) op_ixW (fun _ _ => rfl))) (hpa_cons (opd_e (hp_v 0 (pv 0))) hpa_nil)))))) hs_nil)
    (hs_one (hs_ret (hp_op op_catA (opd_e (hp_tup (hpa_cons (opd_e (hp_ix ix_seq (opd_v 1 (pv 1)) (opd_e (hp_k pe_int fun _ => .int _)) op_ixW (fun _ _ => rfl))) (hpa_cons (opd_e (hp_v 0 (pv 0))) hpa_nil)))) (opd_e (hp_sl (pv 1) (ho_some (hp_k pe_int fun _ => .int _)) ho_none)) op_addTW))))
theorem has_put_one (T : Tops w K mg)  {fa : Addr} {fd : FuncData} (Fn : Fun K "put_one" "put_one" s_put_one fa fd) (hm : mg "put_one" = some (.ref fa)) : Has P w TB K mg base 1 "put_one" 2 sp_put_one_0dbed4 :=
  Has.mk' (ps := ["hand", "step"]) Fn hm (Fn.binds fun _ _ _ _ _ _ us hl => match us, hl with | [_, _], _ => rfl) sc_put_one (fun _ ecd _ _ _ _ _ hgd hr => d_put_one T  hgd hr) rd_put_one_0dbed4
abbrev s_put_round : Stmt := topS 37
theorem sc_put_round : FnScope ["hand", "steps", "step"] ["hand", "steps"] (defScope s_put_round) := ⟨rfl, rfl, rfl, by decide +kernel, rfl, by decide +kernel, by decide +kernel⟩
theorem d_put_round (T : Tops w K mg) (g_need_hand : Has P w TB K mg base 6 "need_hand" 1 sp_need_hand_c39ac1) (g_put_one : Has P w TB K mg base 1 "put_one" 2 sp_put_one_0dbed4) (g_need_surroundings : Has P w TB K mg base 7 "need_surroundings" 1 sp_need_surroundings_42129f) {fa : Addr} {cdv : Value} {A : Around} {outer : List Env} {s : Shared} {H : Hp} {E : XK} (hgd : (A.deeper (envOfC "put_round" (defScope s_put_round) s.heap.objs.size fa cdv)).guards = some []) (hr : Room 7 (A.deeper (envOfC "put_round" (defScope s_put_round) s.heap.objs.size fa cdv))) :
    PSs (cxOf CX0 P w K mg base ["hand", "steps", "step"] "put_round" (defScope s_put_round) fa cdv A outer s H E).nox (defBody s_put_round) (lfS K (f0 w TB) h_put_round_d1447a) := by
  have nd := sc_put_round.nd
  exact (hs_cons (hs_drop (hp_callH g_need_hand hgd (hr.mono (by decide)) (by rfl) (hpa_cons (opd_v 0 (pv 0)) hpa_nil)))
    (hs_cons (hs_drop (hp_callH g_need_surroundings hgd (hr.mono (by decide)) (by rfl) (hpa_cons (opd_v 1 (pv 1)) hpa_nil)))
    (hs_cons (hs_for PassesOwn.never rfl (hi_tup (hp_v 1 (pv 1))) (hg_name (pg_name (i := 2) nd rfl (by first | exact .inl rfl | exact .inr rfl))) (hs_one (hs_set (i := 0) nd rfl (.inl rfl) (hp_callH g_put_one hgd (hr.mono (by decide)) (by rfl) (hpa_cons (opd_v 0 (pv 0)) (hpa_cons (opd_v 2 (pv 2)) hpa_nil))))))
    (hs_cons (hs_drop (hp_callH g_need_hand hgd (hr.mono (by decide)) (by rfl) (hpa_cons (opd_v 0 (pv 0)) hpa_nil)))
    (hs_one (hs_ret (hp_m 0 (pv 0))))))))
theorem has_put_round (T : Tops w K mg) (g_need_hand : Has P w TB K mg base 6 "need_hand" 1 sp_need_hand_c39ac1) (g_put_one : Has P w TB K mg base 1 "put_one" 2 sp_put_one_0dbed4) (g_need_surroundings : Has P w TB K mg base 7 "need_surroundings" 1 sp_need_surroundings_42129f) {fa : Addr} {fd : FuncData} (Fn : Fun K "put_round" "put_round" s_put_round fa fd) (hm : mg "put_round" = some (.ref fa)) : Has P w TB K mg base 8 "put_round" 2 sp_put_round_d1447a :=
  Has.mk' (ps := ["hand", "steps"]) Fn hm (Fn.binds fun _ _ _ _ _ _ us hl => match us, hl with | [_, _], _ => rfl) sc_put_round (fun _ ecd _ _ _ _ _ hgd hr => d_put_round T g_need_hand g_put_one g_need_surroundings hgd hr) rd_put_round_d1447a
abbrev s__law_mixed : Stmt := topS 39
theorem sc__law_mixed : FnScope ["_law_cell", "_law_k", "_law_number"] ["_law_cell", "_law_k"] (defScope s__law_mixed) := ⟨rfl, rfl, rfl, by decide +kernel, rfl, by decide +kernel, by decide +kernel⟩
theorem d__law_mixed (T : Tops w K mg)  {fa : Addr} {cdv : Value} {A : Around} {outer : List Env} {s : Shared} {H : Hp} {E : XK} (hgd : (A.deeper (envOfC "_law_mixed" (defScope s__law_mixed) s.heap.objs.size fa cdv)).guards = some []) (hr : Room 0 (A.deeper (envOfC "_law_mixed" (defScope s__law_mixed) s.heap.objs.size fa cdv))) :
    PSs (cxOf CX0 P w K mg base ["_law_cell", "_law_k", "_law_number"] "_law_mixed" (defScope s__law_mixed) fa cdv A outer s H E).nox (defBody s__law_mixed) (lfS K (f0 w TB) h__law_mixed_2d863d) := by
  have nd := sc__law_mixed.nd
  exact (hs_cons (hs_set (i := 2) nd rfl (.inl rfl) (hp_op op_addAll (opd_e (hp_op op_addAll (opd_e (hp_op op_mod (opd_e (hp_op op_mulAll (opd_e (hp_op op_mulAll (opd_v 0 (pv 0)) (opd_e (hp_op op_addAll (opd_e (hp_k pe_int fun _ => .int _)) (opd_e (hp_op op_mulAll (opd_e (hp_k pe_int fun _ => .int _)) (opd_v 1 (pv 1)) op_mulW')) op_addW)) op_mulW')) (opd_e (hp_k pe_int fun _ => .int _)) op_mulW')) (opd_e (hp_k pe_int fun _ => .int _)) op_modWW)) (opd_e (hp_op op_mulAll (opd_e (hp_op op_mulAll (opd_e (hp_k pe_int fun _ => .int _)) (opd_v 1 (pv 1)) op_mulW')) (opd_v 1 (pv 1)) op_mulW')) op_addW)) (opd_e (hp_op op_mulAll (opd_e (hp_k pe_int fun _ => .int _)) (opd_v 1 (pv 1)) op_mulW')) op_addW))
    (hs_one (hs_ret (hp_op op_fdivW (opd_e (hp_op op_mod (opd_e (hp_op op_mulAll (opd_v 2 (pv 2)) (opd_e (hp_k pe_int fun _ => .int _)) op_mulW')) (opd_e (hp_k pe_int fun _ => .int _)) op_modWW)) (opd_e (hp_k pe_int fun _ => .int _)) op_fdivWW))))
theorem has__law_mixed (T : Tops w K mg)  {fa : Addr} {fd : FuncData} (Fn : Fun K "_law_mixed" "_law_mixed" s__law_mixed fa fd) (hm : mg "_law_mixed" = some (.ref fa)) : Has P w TB K mg base 1 "_law_mixed" 2 sp__law_mixed_2d863d :=
  Has.mk' (ps := ["_law_cell", "_law_k"]) Fn hm (Fn.binds fun _ _ _ _ _ _ us hl => match us, hl with | [_, _], _ => rfl) sc__law_mixed (fun _ ecd _ _ _ _ _ hgd hr => d__law_mixed T  hgd hr) rd__law_mixed_2d863d
abbrev s__law_folded : Stmt := topS 40
theorem sc__law_folded : FnScope ["_law_script", "_law_found", "_law_k", "_law_cell"] ["_law_script"] (defScope s__law_folded) := ⟨rfl, rfl, rfl, by decide +kernel, rfl, by decide +kernel, by decide +kernel⟩
theorem d__law_folded (T : Tops w K mg)  {fa : Addr} {cdv : Value} {A : Around} {outer : List Env} {s : Shared} {H : Hp} {E : XK} (hgd : (A.deeper (envOfC "_law_folded" (defScope s__law_folded) s.heap.objs.size fa cdv)).guards = some []) (hr : Room 0 (A.deeper (envOfC "_law_folded" (defScope s__law_folded) s.heap.objs.size fa cdv))) :
    PSs (cxOf CX0 P w K mg base ["_law_script", "_law_found", "_law_k", "_law_cell"] "_law_folded" (defScope s__law_folded) fa cdv A outer s H E).nox (defBody s__law_folded) (lfS K (f0 w TB) h__law_folded_8cf898) := by
  have nd := sc__law_folded.nd
  exact (hs_cons (hs_setLc (ps_setLc (i := 1) (own := [("_law_k", 2)]) rfl nd rfl rfl (sw_true rfl rfl rfl (by decide +kernel)) (hi_rng1 (by rfl) T.n_range (hpa_cons (opd_e (hp_k pe_int fun _ => .int _)) hpa_nil)) (blkOk_by (own := [("_law_k", 2)]) (N := ["_law_script", "_law_found", "_law_k", "_law_cell"]) (sc := defScope s__law_folded) (by decide +kernel)) (fun _ _ _ _ _ => (hg_name (pg_name (i := 2) nd rfl (by first | exact .inl rfl | exact .inr rfl)))) (fun _ _ _ _ _ => pts_yes) (fun _ _ _ _ _ => (hp_op op_addAll (opd_e (hp_k pe_int fun _ => .int _)) (opd_v 2 (pv 2)) op_addW))) (by decide) gl_name)
    (hs_cons (hs_for PassesOwn.never rfl (hi_enum (by rfl) T.n_enumerate (hpa_cons (opd_e (hp_v 0 (pv 0))) hpa_nil)) (hg_pair (pg_tup rfl (pgs_cons (pg_name (i := 2) nd rfl (by first | exact .inl rfl | exact .inr rfl)) (pgs_cons (pg_name (i := 3) nd rfl (by first | exact .inl rfl | exact .inr rfl)) pgs_nil)))) (hs_one (hs_setL (ps_asg (hp_op op_mod (opd_e (hp_op op_addAll (opd_e (hp_op op_mulAll (opd_e (hp_ix ix_seq (opd_v 1 (pv 1)) (opd_e (hp_op op_mod (opd_v 2 (pv 2)) (opd_e (hp_k pe_int fun _ => .int _)) op_modWW)) op_ixW (fun _ _ => rfl))) (opd_e (hp_k pe_int fun _ => .int _)) op_mulW')) (opd_v 3 (pv 3)) op_addW)) (opd_e (hp_k pe_int fun _ => .int _)) op_modWW) (pg_sub (pv 1) (hp_op op_mod (opd_v 2 (pv 2)) (opd_e (hp_k pe_int fun _ => .int _)) op_modWW) set_list)))))
    (hs_cons (hs_for PassesOwn.never rfl (hi_rng2 (by rfl) T.n_range (hpa_cons (opd_e (hp_k pe_int fun _ => .int _)) (hpa_cons (opd_e (hp_k pe_int fun _ => .int _)) hpa_nil))) (hg_name (pg_name (i := 2) nd rfl (by first | exact .inl rfl | exact .inr rfl))) (hs_one (hs_setL (ps_asg (hp_op op_mod (opd_e (hp_op op_addAll (opd_e (hp_ix ix_seq (opd_v 1 (pv 1)) (opd_v 2 (pv 2)) op_ixW (fun _ _ => rfl))) (opd_e (hp_op op_mulAll (opd_e (hp_ix ix_seq (opd_v 1 (pv 1)) (opd_e (hp_op op_sub (opd_v 2 (pv 2)) (opd_e (hp_k pe_int fun _ => .int _)) op_subW)) op_ixW (fun _ _ => rfl))) (opd_e (hp_k pe_int fun _ => .int _)) op_mulW')) op_addW)) (opd_e (hp_k pe_int fun _ => .int _)) op_modWW) (pg_sub (pv 1) (hp_v 2 (pv 2)) set_list)))))
    (hs_one (hs_ret (hp_m 1 (pv 1)))))))
theorem has__law_folded (T : Tops w K mg)  {fa : Addr} {fd : FuncData} (Fn : Fun K "_law_folded" "_law_folded" s__law_folded fa fd) (hm : mg "_law_folded" = some (.ref fa)) : Has P w TB K mg base 1 "_law_folded" 1 sp__law_folded_8cf898 :=
  Has.mk' (ps := ["_law_script"]) Fn hm (Fn.binds fun _ _ _ _ _ _ us hl => match us, hl with | [_], _ => rfl) sc__law_folded (fun _ ecd _ _ _ _ _ hgd hr => d__law_folded T  hgd hr) rd__law_folded_8cf898
abbrev s__law_words : Stmt := topS 43
theorem sc__law_words : FnScope ["_law_m", "_law_many", "_law_letters", "_law_start", "_law_way", "_law_size", "_law_at", "_law_stride", "_law_base", "_law_j", "_law_found", "_law_k", "_law_mark", "_law_bars", "_law_word"] ["_law_m", "_law_many"] (defScope s__law_words) := ⟨rfl, rfl, rfl, by decide +kernel, rfl, by decide +kernel, by decide +kernel⟩
theorem d__law_words (T : Tops w K mg) (g__law_draw : Has P w TB K mg base 2 "_law_draw" 2 sp__law_draw_a6e186) {fa : Addr} {cdv : Value} {A : Around} {outer : List Env} {s : Shared} {H : Hp} {E : XK} (hgd : (A.deeper (envOfC "_law_words" (defScope s__law_words) s.heap.objs.size fa cdv)).guards = some []) (hr : Room 2 (A.deeper (envOfC "_law_words" (defScope s__law_words) s.heap.objs.size fa cdv))) :
    PSs (cxOf CX0 P w K mg base ["_law_m", "_law_many", "_law_letters", "_law_start", "_law_way", "_law_size", "_law_at", "_law_stride", "_law_base", "_law_j", "_law_found", "_law_k", "_law_mark", "_law_bars", "_law_word"] "_law_words" (defScope s__law_words) fa cdv A outer s H E).nox (defBody s__law_words) (lfS K (f0 w TB) h__law_words_aaf2f6) := by
  have nd := sc__law_words.nd
  exact (hs_cons (hs_set (i := 2) nd rfl (.inr rfl) (hp_k pe_str fun _ => .str _))
    (hs_cons (hs_unp (hp_tup (hpa_cons (opd_e (hp_callH g__law_draw hgd (hr.mono (by decide)) (by rfl) (hpa_cons (opd_v 0 (pv 0)) (hpa_cons (opd_e (hp_k pe_int fun _ => .int _)) hpa_nil)))) (hpa_cons (opd_e (hp_callH g__law_draw hgd (hr.mono (by decide)) (by rfl) (hpa_cons (opd_v 0 (pv 0)) (hpa_cons (opd_e (hp_k pe_int fun _ => .int _)) hpa_nil)))) hpa_nil))) (hg_pair (pg_tup rfl (pgs_cons (pg_name (i := 3) nd rfl (by first | exact .inl rfl | exact .inr rfl)) (pgs_cons (pg_name (i := 4) nd rfl (by first | exact .inl rfl | exact .inr rfl)) pgs_nil)))))
    (hs_cons (hs_set (i := 5) nd rfl (.inl rfl) (hp_op op_addAll (opd_e (hp_k pe_int fun _ => .int _)) (opd_e (hp_callH g__law_draw hgd (hr.mono (by decide)) (by rfl) (hpa_cons (opd_v 0 (pv 0)) (hpa_cons (opd_e (hp_k pe_int fun _ => .int _)) hpa_nil)))) op_addW))
    (hs_cons (hs_set (i := 6) nd rfl (.inl rfl) (hp_callH g__law_draw hgd (hr.mono (by decide)) (by rfl) (hpa_cons (opd_v 0 (pv 0)) (hpa_cons (opd_v 5 (pv 5)) hpa_nil))))
    (hs_cons (hs_set (i := 7) nd rfl (.inl rfl) (hp_ix ix_seq (opd_e (hp_lst (hpa_cons (opd_e (hp_k pe_int fun _ => .int _)) (hpa_cons (opd_e (hp_k pe_int fun _ => .int _)) (hpa_cons (opd_e (hp_k pe_int fun _ => .int _)) (hpa_cons (opd_e (hp_k pe_int fun _ => .int _)) (hpa_cons (opd_e (hp_k pe_int fun _ => .int _)) (hpa_cons (opd_e (hp_k pe_int fun _ => .int _)) hpa_nil)))))))) (opd_e (hp_callH g__law_draw hgd (hr.mono (by decide)) (by rfl) (hpa_cons (opd_v 0 (pv 0)) (hpa_cons (opd_e (hp_k pe_int fun _ => .int _)) hpa_nil)))) op_ixW (fun _ _ => rfl)))
    (hs_cons (hs_set (i := 8) nd rfl (.inl rfl) (hp_join pe_str (opd_e (hp_lc (pe_lc (own := [("_law_j", 9)]) rfl nd (hi_rng1 (by rfl) T.n_range (hpa_cons (opd_e (hp_k pe_int fun _ => .int _)) hpa_nil)) (blkOk_by (own := [("_law_j", 9)]) (N := ["_law_m", "_law_many", "_law_letters", "_law_start", "_law_way", "_law_size", "_law_at", "_law_stride", "_law_base", "_law_j", "_law_found", "_law_k", "_law_mark", "_law_bars", "_law_word"]) (sc := defScope s__law_words) (by decide +kernel)) (fun _ _ _ _ _ => (hg_name (pg_name (i := 9) nd rfl (by first | exact .inl rfl | exact .inr rfl)))) (fun _ _ _ _ _ => pts_yes) (fun _ _ _ _ _ => (hp_ix ix_seq (opd_v 2 (pv 2)) (opd_e (hp_op op_mod (opd_e (hp_op op_addAll (opd_v 3 (pv 3)) (opd_e (hp_op op_mulAll (opd_e (hp_k pe_int fun _ => .int _)) (opd_v 9 (pv 9)) op_mulW')) op_addW)) (opd_e (hp_k pe_int fun _ => .int _)) op_modWW)) op_ixW (fun _ _ => rfl)))) (by decide) gl_name))))
    (hs_cons (hs_set (i := 10) nd rfl (.inl rfl) (hp_lst hpa_nil))
    (hs_cons (hs_for PassesOwn.never rfl (hi_rng1 (by rfl) T.n_range (hpa_cons (opd_v 1 (pv 1)) hpa_nil)) (hg_name (pg_name (i := 11) nd rfl (by first | exact .inl rfl | exact .inr rfl))) (hs_cons (hs_set (i := 12) nd rfl (.inl rfl) (hp_ix ix_seq (opd_v 2 (pv 2)) (opd_e (hp_op op_mod (opd_e (hp_op op_addAll (opd_v 3 (pv 3)) (opd_e (hp_op op_mulAll (opd_v 7 (pv 7)) (opd_v 11 (pv 11)) op_mulW')) op_addW)) (opd_e (hp_k pe_int fun _ => .int _)) op_modWW)) op_ixW (fun _ _ => rfl)))
    (hs_one (hs_if (ht_cmp (op_eqP (u64 hr)) (opd_v 4 (pv 4)) (opd_e (hp_k pe_int fun _ => .int _)) op_eqPW (nomark _)) (hs_one (hs_drop (hp_app (hp_op op_addAll (opd_v 12 (pv 12)) (opd_e (hp_sl (pv 8) ho_none (ho_some (hp_op op_mod (opd_e (hp_op op_mulAll (opd_v 11 (pv 11)) (opd_v 7 (pv 7)) op_mulW')) (opd_e (hp_k pe_int fun _ => .int _)) op_modWW)))) op_addW) (fun h => pe_bm PySem.F.plainAttrs_list PySem.F.slot_list_append PySem.F.type_list_append mt_append (pv 10) h)))) (hs_one (hs_drop (hp_app (hp_op op_addAll (opd_e (hp_op op_addAll (opd_e (hp_sl (pv 8) ho_none (ho_some (hp_v 6 (pv 6))))) (opd_v 12 (pv 12)) op_addW)) (opd_e (hp_sl (pv 8) (ho_some (hp_op op_addAll (opd_v 6 (pv 6)) (opd_e (hp_k pe_int fun _ => .int _)) op_addW)) (ho_some (hp_v 5 (pv 5))))) op_addW) (fun h => pe_bm PySem.F.plainAttrs_list PySem.F.slot_list_append PySem.F.type_list_append mt_append (pv 10) h))))))))
    (hs_cons (hs_set (i := 13) nd rfl (.inr rfl) (hp_lst (hpa_cons (opd_e (hp_k pe_str fun _ => .str _)) (hpa_cons (opd_e (hp_k pe_str fun _ => .str _)) (hpa_cons (opd_e (hp_k pe_str fun _ => .str _)) (hpa_cons (opd_e (hp_k pe_str fun _ => .str _)) (hpa_cons (opd_e (hp_k pe_str fun _ => .str _)) (hpa_cons (opd_e (hp_k pe_str fun _ => .str _)) (hpa_cons (opd_e (hp_k pe_str fun _ => .str _)) hpa_nil)))))))))
    (hs_one (hs_ret (hp_lc (pe_lc (own := [("_law_word", 14)]) rfl nd (hi_list (hp_v 10 (pv 10))) (blkOk_by (own := [("_law_word", 14)]) (N := ["_law_m", "_law_many", "_law_letters", "_law_start", "_law_way", "_law_size", "_law_at", "_law_stride", "_law_base", "_law_j", "_law_found", "_law_k", "_law_mark", "_law_bars", "_law_word"]) (sc := defScope s__law_words) (by decide +kernel)) (fun _ _ _ _ _ => (hg_name (pg_name (i := 14) nd rfl (by first | exact .inl rfl | exact .inr rfl)))) (fun _ _ _ _ _ => pts_yes) (fun _ _ _ _ _ => (hp_if (ht_cmp (op_ninP (u64 hr)) (opd_v 14 (pv 14)) (opd_v 13 (pv 13)) op_inPW (by first | exact nobehind _ (by decide) (by decide) | rfl)) (hp_v 14 (pv 14)) (hp_op op_addAll (opd_e (hp_op op_addAll (opd_e (hp_k pe_str fun _ => .str _)) (opd_e (hp_sl (pv 14) ho_none (ho_some (hp_k pe_int fun _ => .int _)))) op_addW)) (opd_e (hp_k pe_str fun _ => .str _)) op_addW)))) (by decide) gl_name))))))))))))
theorem has__law_words (T : Tops w K mg) (g__law_draw : Has P w TB K mg base 2 "_law_draw" 2 sp__law_draw_a6e186) {fa : Addr} {fd : FuncData} (Fn : Fun K "_law_words" "_law_words" s__law_words fa fd) (hm : mg "_law_words" = some (.ref fa)) : Has P w TB K mg base 3 "_law_words" 2 sp__law_words_aaf2f6 :=
  Has.mk' (ps := ["_law_m", "_law_many"]) Fn hm (Fn.binds fun _ _ _ _ _ _ us hl => match us, hl with | [_, _], _ => rfl) sc__law_words (fun _ ecd _ _ _ _ _ hgd hr => d__law_words T g__law_draw hgd hr) rd__law_words_aaf2f6
abbrev s__law_set : Stmt := topS 44
theorem sc__law_set : FnScope ["_law_m", "_law_deeds", "_law_deed"] ["_law_m", "_law_deeds"] (defScope s__law_set) := ⟨rfl, rfl, rfl, by decide +kernel, rfl, by decide +kernel, by decide +kernel⟩
theorem d__law_set (T : Tops w K mg) (g__law_draw : Has P w TB K mg base 2 "_law_draw" 2 sp__law_draw_a6e186) {fa : Addr} {cdv : Value} {A : Around} {outer : List Env} {s : Shared} {H : Hp} {E : XK} (hgd : (A.deeper (envOfC "_law_set" (defScope s__law_set) s.heap.objs.size fa cdv)).guards = some []) (hr : Room 2 (A.deeper (envOfC "_law_set" (defScope s__law_set) s.heap.objs.size fa cdv))) :
    PSs (cxOf CX0 P w K mg base ["_law_m", "_law_deeds", "_law_deed"] "_law_set" (defScope s__law_set) fa cdv A outer s H E).nox (defBody s__law_set) (lfS K (f0 w TB) h__law_set_82be62) := by
  have nd := sc__law_set.nd
  exact (hs_one (hs_ret (hp_callTy call_tuple_of op_tupW (by rfl) T.n_tuple (by decide +kernel) (hpa_cons (opd_e (hp_callB (cr_sortG (α := Str) (u64 hr) (by decide)) op_sortA (by rfl) T.n_sorted (by decide +kernel) (hpa_cons (opd_e (hp_lc (pe_lc (own := [("_law_deed", 2)]) rfl nd (hi_list (hp_v 1 (pv 1))) (blkOk_by (own := [("_law_deed", 2)]) (N := ["_law_m", "_law_deeds", "_law_deed"]) (sc := defScope s__law_set) (by decide +kernel)) (fun _ _ _ _ _ => (hg_name (pg_name (i := 2) nd rfl (by first | exact .inl rfl | exact .inr rfl)))) (fun _ _ _ _ _ => (pts_one (ht_cmp (op_eqP (u64 hr)) (opd_e (hp_callH g__law_draw hgd (hr.mono (by decide)) (by rfl) (hpa_cons (opd_v 0 (pv 0)) (hpa_cons (opd_e (hp_k pe_int fun _ => .int _)) hpa_nil)))) (opd_e (hp_k pe_int fun _ => .int _)) op_eqPW (nomark _)))) (fun _ _ _ _ _ => (hp_v 2 (pv 2)))) (by decide) gl_name)) hpa_nil))) hpa_nil))))
theorem has__law_set (T : Tops w K mg) (g__law_draw : Has P w TB K mg base 2 "_law_draw" 2 sp__law_draw_a6e186) {fa : Addr} {fd : FuncData} (Fn : Fun K "_law_set" "_law_set" s__law_set fa fd) (hm : mg "_law_set" = some (.ref fa)) : Has P w TB K mg base 3 "_law_set" 2 sp__law_set_82be62 :=
  Has.mk' (ps := ["_law_m", "_law_deeds"]) Fn hm (Fn.binds fun _ _ _ _ _ _ us hl => match us, hl with | [_, _], _ => rfl) sc__law_set (fun _ ecd _ _ _ _ _ hgd hr => d__law_set T g__law_draw hgd hr) rd__law_set_82be62
abbrev s__law_pairs : Stmt := topS 45
theorem sc__law_pairs : FnScope ["_law_m", "_law_deeds", "_law_firsts", "_law_deed"] ["_law_m", "_law_deeds"] (defScope s__law_pairs) := ⟨rfl, rfl, rfl, by decide +kernel, rfl, by decide +kernel, by decide +kernel⟩
theorem d__law_pairs (T : Tops w K mg) (g__law_draw : Has P w TB K mg base 2 "_law_draw" 2 sp__law_draw_a6e186) {fa : Addr} {cdv : Value} {A : Around} {outer : List Env} {s : Shared} {H : Hp} {E : XK} (hgd : (A.deeper (envOfC "_law_pairs" (defScope s__law_pairs) s.heap.objs.size fa cdv)).guards = some []) (hr : Room 2 (A.deeper (envOfC "_law_pairs" (defScope s__law_pairs) s.heap.objs.size fa cdv))) :
    PSs (cxOf CX0 P w K mg base ["_law_m", "_law_deeds", "_law_firsts", "_law_deed"] "_law_pairs" (defScope s__law_pairs) fa cdv A outer s H E).nox (defBody s__law_pairs) (lfS K (f0 w TB) h__law_pairs_79411b) := by
  have nd := sc__law_pairs.nd
  exact (hs_cons (hs_set (i := 2) nd rfl (.inl rfl) (hp_callB (cr_sortG (α := Str) (u64 hr) (by decide)) op_sortA (by rfl) T.n_sorted (by decide +kernel) (hpa_cons (opd_e (hp_lc (pe_lc (own := [("_law_deed", 3)]) rfl nd (hi_list (hp_v 1 (pv 1))) (blkOk_by (own := [("_law_deed", 3)]) (N := ["_law_m", "_law_deeds", "_law_firsts", "_law_deed"]) (sc := defScope s__law_pairs) (by decide +kernel)) (fun _ _ _ _ _ => (hg_name (pg_name (i := 3) nd rfl (by first | exact .inl rfl | exact .inr rfl)))) (fun _ _ _ _ _ => (pts_one (ht_cmp (op_eqP (u64 hr)) (opd_e (hp_callH g__law_draw hgd (hr.mono (by decide)) (by rfl) (hpa_cons (opd_v 0 (pv 0)) (hpa_cons (opd_e (hp_k pe_int fun _ => .int _)) hpa_nil)))) (opd_e (hp_k pe_int fun _ => .int _)) op_eqPW (nomark _)))) (fun _ _ _ _ _ => (hp_v 3 (pv 3)))) (by decide) gl_name)) hpa_nil)))
    (hs_one (hs_ret (hp_callTy call_tuple_of op_tupW (by rfl) T.n_tuple (by decide +kernel) (hpa_cons (opd_e (hp_lc (pe_lc (own := [("_law_deed", 3)]) rfl nd (hi_list (hp_v 2 (pv 2))) (blkOk_by (own := [("_law_deed", 3)]) (N := ["_law_m", "_law_deeds", "_law_firsts", "_law_deed"]) (sc := defScope s__law_pairs) (by decide +kernel)) (fun _ _ _ _ _ => (hg_name (pg_name (i := 3) nd rfl (by first | exact .inl rfl | exact .inr rfl)))) (fun _ _ _ _ _ => pts_yes) (fun _ _ _ _ _ => (hp_tup (hpa_cons (opd_e (hp_v 3 (pv 3))) (hpa_cons (opd_e (hp_ix ix_seq (opd_v 1 (pv 1)) (opd_e (hp_callH g__law_draw hgd (hr.mono (by decide)) (by rfl) (hpa_cons (opd_v 0 (pv 0)) (hpa_cons (opd_e (hp_callB call_lenAll op_lenW (by rfl) T.n_len (by decide +kernel) (hpa_cons (opd_v 1 (pv 1)) hpa_nil))) hpa_nil)))) op_ixW (fun _ _ => rfl))) hpa_nil))))) (by decide) gl_name)) hpa_nil)))))
theorem has__law_pairs (T : Tops w K mg) (g__law_draw : Has P w TB K mg base 2 "_law_draw" 2 sp__law_draw_a6e186) {fa : Addr} {fd : FuncData} (Fn : Fun K "_law_pairs" "_law_pairs" s__law_pairs fa fd) (hm : mg "_law_pairs" = some (.ref fa)) : Has P w TB K mg base 3 "_law_pairs" 2 sp__law_pairs_79411b :=
  Has.mk' (ps := ["_law_m", "_law_deeds"]) Fn hm (Fn.binds fun _ _ _ _ _ _ us hl => match us, hl with | [_, _], _ => rfl) sc__law_pairs (fun _ ecd _ _ _ _ _ hgd hr => d__law_pairs T g__law_draw hgd hr) rd__law_pairs_79411b
abbrev s__law_hand : Stmt := topS 46
theorem sc__law_hand : FnScope ["_law_m", "_law_deeds", "_law_names", "_law_deep", "_law_way", "_law_some", "_law_one"] ["_law_m", "_law_deeds", "_law_names", "_law_deep"] (defScope s__law_hand) := ⟨rfl, rfl, rfl, by decide +kernel, rfl, by decide +kernel, by decide +kernel⟩
theorem d__law_hand (T : Tops w K mg) (g__law_draw : Has P w TB K mg base 2 "_law_draw" 2 sp__law_draw_a6e186) (g__law_set : Has P w TB K mg base 3 "_law_set" 2 sp__law_set_82be62) (g__law_pairs : Has P w TB K mg base 3 "_law_pairs" 2 sp__law_pairs_79411b) {d : Nat} (g_rec : Has P w TB K mg base (4 + d) "_law_hand" 4 (sp__law_hand_3892a5 d)) {fa : Addr} {cdv : Value} {A : Around} {outer : List Env} {s : Shared} {H : Hp} {E : XK} (hgd : (A.deeper (envOfC "_law_hand" (defScope s__law_hand) s.heap.objs.size fa cdv)).guards = some []) (hr : Room (4 + d) (A.deeper (envOfC "_law_hand" (defScope s__law_hand) s.heap.objs.size fa cdv))) :
    PSs (cxOf CX0 P w K mg base ["_law_m", "_law_deeds", "_law_names", "_law_deep", "_law_way", "_law_some", "_law_one"] "_law_hand" (defScope s__law_hand) fa cdv A outer s H E).nox (defBody s__law_hand) (lfS K (f0 w TB) (h__law_hand_3892a5 d)) := by
  have nd := sc__law_hand.nd
  exact (hs_cons (hs_room (hp_op op_sub (opd_e (hp_room (pe_dget (u1 hr) (pv 0) pe_str (fun _ _ => rfl)))) (opd_e (hp_k pe_int fun _ => .int _)) op_subW) (fun h => ps_dput (u1 hr) (pv 0) pe_str h (by rfl)))
    (hs_cons (hs_set (i := 4) nd rfl (.inl rfl) (hp_if (PW.pt (ht_and (ht_cmp op_gt (opd_v 3 (pv 3)) (opd_e (hp_k pe_int fun _ => .int _)) op_gtW (nomark _)) (ht_and1 (ht_cmp op_gt (opd_e (hp_room (pe_dget (u1 hr) (pv 0) pe_str (fun _ _ => rfl)))) (opd_e (hp_k pe_int fun _ => .int _)) op_gtW (nomark _))))) (hp_callH g__law_draw hgd (hr.mono (by omega)) (by rfl) (hpa_cons (opd_v 0 (pv 0)) (hpa_cons (opd_e (hp_k pe_int fun _ => .int _)) hpa_nil))) (hp_op op_addAll (opd_e (hp_k pe_int fun _ => .int _)) (opd_e (hp_callH g__law_draw hgd (hr.mono (by omega)) (by rfl) (hpa_cons (opd_v 0 (pv 0)) (hpa_cons (opd_e (hp_k pe_int fun _ => .int _)) hpa_nil)))) op_addW)))
    (hs_cons (hs_if (PW.pt (ht_and (ht_cmp op_lt (opd_v 4 (pv 4)) (opd_e (hp_k pe_int fun _ => .int _)) op_ltW (nomark _)) (ht_and1 (ht_cmp (op_neP (u64 hr)) (opd_v 1 (pv 1)) (opd_e (hp_lst hpa_nil)) op_eqPW (nomark _))))) (hs_one (hs_ret (hp_tup (hpa_cons (opd_e (hp_k pe_str fun _ => .str _)) (hpa_cons (opd_e (hp_ix ix_seq (opd_v 1 (pv 1)) (opd_e (hp_callH g__law_draw hgd (hr.mono (by omega)) (by rfl) (hpa_cons (opd_v 0 (pv 0)) (hpa_cons (opd_e (hp_callB call_lenAll op_lenW (by rfl) T.n_len (by decide +kernel) (hpa_cons (opd_v 1 (pv 1)) hpa_nil))) hpa_nil)))) op_ixW (fun _ _ => rfl))) (hpa_cons (opd_e (hp_callH g_rec hgd (hr.mono (by omega)) (by rfl) (hpa_cons (opd_v 0 (pv 0)) (hpa_cons (opd_v 1 (pv 1)) (hpa_cons (opd_v 2 (pv 2)) (hpa_cons (opd_e (hp_op op_sub (opd_v 3 (pv 3)) (opd_e (hp_k pe_int fun _ => .int _)) op_subW)) hpa_nil)))))) hpa_nil)))))) hs_nil)
    (hs_cons (hs_if (ht_cmp op_lt (opd_v 4 (pv 4)) (opd_e (hp_k pe_int fun _ => .int _)) op_ltW (nomark _)) (hs_one (hs_ret (hp_tup (hpa_cons (opd_e (hp_k pe_str fun _ => .str _)) (hpa_cons (opd_e (hp_callH g_rec hgd (hr.mono (by omega)) (by rfl) (hpa_cons (opd_v 0 (pv 0)) (hpa_cons (opd_v 1 (pv 1)) (hpa_cons (opd_v 2 (pv 2)) (hpa_cons (opd_e (hp_op op_sub (opd_v 3 (pv 3)) (opd_e (hp_k pe_int fun _ => .int _)) op_subW)) hpa_nil)))))) (hpa_cons (opd_e (hp_callH g_rec hgd (hr.mono (by omega)) (by rfl) (hpa_cons (opd_v 0 (pv 0)) (hpa_cons (opd_v 1 (pv 1)) (hpa_cons (opd_v 2 (pv 2)) (hpa_cons (opd_e (hp_op op_sub (opd_v 3 (pv 3)) (opd_e (hp_k pe_int fun _ => .int _)) op_subW)) hpa_nil)))))) hpa_nil)))))) hs_nil)
    (hs_cons (hs_if (ht_cmp op_lt (opd_v 4 (pv 4)) (opd_e (hp_k pe_int fun _ => .int _)) op_ltW (nomark _)) (hs_cons (hs_set (i := 5) nd rfl (.inl rfl) (hp_if (ht_cmp (op_eqP (u64 hr)) (opd_e (hp_callH g__law_draw hgd (hr.mono (by omega)) (by rfl) (hpa_cons (opd_v 0 (pv 0)) (hpa_cons (opd_e (hp_k pe_int fun _ => .int _)) hpa_nil)))) (opd_e (hp_k pe_int fun _ => .int _)) op_eqPW (nomark _)) (hp_v 2 (pv 2)) (hp_lst hpa_nil)))
    (hs_cons (hs_set (i := 6) nd rfl (.inl rfl) (hp_callH g_rec hgd (hr.mono (by omega)) (by rfl) (hpa_cons (opd_v 0 (pv 0)) (hpa_cons (opd_v 1 (pv 1)) (hpa_cons (opd_v 5 (pv 5)) (hpa_cons (opd_e (hp_op op_sub (opd_v 3 (pv 3)) (opd_e (hp_k pe_int fun _ => .int _)) op_subW)) hpa_nil))))))
    (hs_cons (hs_if (ht_cmp (op_eqP (u64 hr)) (opd_v 4 (pv 4)) (opd_e (hp_k pe_int fun _ => .int _)) op_eqPW (nomark _)) (hs_one (hs_ret (hp_tup (hpa_cons (opd_e (hp_k pe_str fun _ => .str _)) (hpa_cons (opd_e (hp_v 6 (pv 6))) (hpa_cons (opd_e (hp_callH g_rec hgd (hr.mono (by omega)) (by rfl) (hpa_cons (opd_v 0 (pv 0)) (hpa_cons (opd_v 1 (pv 1)) (hpa_cons (opd_v 5 (pv 5)) (hpa_cons (opd_e (hp_op op_sub (opd_v 3 (pv 3)) (opd_e (hp_k pe_int fun _ => .int _)) op_subW)) hpa_nil)))))) hpa_nil)))))) hs_nil)
    (hs_cons (hs_if (ht_cmp (op_eqP (u64 hr)) (opd_v 4 (pv 4)) (opd_e (hp_k pe_int fun _ => .int _)) op_eqPW (nomark _)) (hs_one (hs_ret (hp_tup (hpa_cons (opd_e (hp_k pe_str fun _ => .str _)) (hpa_cons (opd_e (hp_v 6 (pv 6))) (hpa_cons (opd_e (hp_callH g__law_set hgd (hr.mono (by omega)) (by rfl) (hpa_cons (opd_v 0 (pv 0)) (hpa_cons (opd_v 1 (pv 1)) hpa_nil)))) (hpa_cons (opd_e (hp_callH g_rec hgd (hr.mono (by omega)) (by rfl) (hpa_cons (opd_v 0 (pv 0)) (hpa_cons (opd_v 1 (pv 1)) (hpa_cons (opd_v 5 (pv 5)) (hpa_cons (opd_e (hp_op op_sub (opd_v 3 (pv 3)) (opd_e (hp_k pe_int fun _ => .int _)) op_subW)) hpa_nil)))))) hpa_nil))))))) hs_nil)
    (hs_one (hs_ret (hp_if (ht_cmp (op_eqP (u64 hr)) (opd_v 4 (pv 4)) (opd_e (hp_k pe_int fun _ => .int _)) op_eqPW (nomark _)) (hp_tup (hpa_cons (opd_e (hp_k pe_str fun _ => .str _)) (hpa_cons (opd_e (hp_v 6 (pv 6))) (hpa_cons (opd_e (hp_callH g__law_set hgd (hr.mono (by omega)) (by rfl) (hpa_cons (opd_v 0 (pv 0)) (hpa_cons (opd_v 1 (pv 1)) hpa_nil)))) hpa_nil)))) (hp_tup (hpa_cons (opd_e (hp_k pe_str fun _ => .str _)) (hpa_cons (opd_e (hp_v 6 (pv 6))) (hpa_cons (opd_e (hp_callH g__law_pairs hgd (hr.mono (by omega)) (by rfl) (hpa_cons (opd_v 0 (pv 0)) (hpa_cons (opd_v 1 (pv 1)) hpa_nil)))) hpa_nil))))))))))) hs_nil)
    (hs_cons (hs_if (PW.pt (ht_and (ht_cmp (op_neP (u64 hr)) (opd_v 2 (pv 2)) (opd_e (hp_lst hpa_nil)) op_eqPW (nomark _)) (ht_and1 (ht_cmp (op_eqP (u64 hr)) (opd_v 4 (pv 4)) (opd_e (hp_k pe_int fun _ => .int _)) op_eqPW (nomark _))))) (hs_one (hs_ret (hp_tup (hpa_cons (opd_e (hp_k pe_str fun _ => .str _)) (hpa_cons (opd_e (hp_ix ix_seq (opd_v 2 (pv 2)) (opd_e (hp_callH g__law_draw hgd (hr.mono (by omega)) (by rfl) (hpa_cons (opd_v 0 (pv 0)) (hpa_cons (opd_e (hp_callB call_lenAll op_lenW (by rfl) T.n_len (by decide +kernel) (hpa_cons (opd_v 2 (pv 2)) hpa_nil))) hpa_nil)))) op_ixW (fun _ _ => rfl))) hpa_nil))))) hs_nil)
    (hs_one (hs_ret (hp_if (ht_cmp (op_eqP (u64 hr)) (opd_e (hp_callH g__law_draw hgd (hr.mono (by omega)) (by rfl) (hpa_cons (opd_v 0 (pv 0)) (hpa_cons (opd_e (hp_k pe_int fun _ => .int _)) hpa_nil)))) (opd_e (hp_k pe_int fun _ => .int _)) op_eqPW (nomark _)) (hp_tup (hpa_cons (opd_e (hp_k pe_str fun _ => .str _)) hpa_nil)) (hp_tup (hpa_cons (opd_e (hp_k pe_str fun _ => .str _)) hpa_nil)))))))))))
theorem has__law_hand (T : Tops w K mg) (g__law_draw : Has P w TB K mg base 2 "_law_draw" 2 sp__law_draw_a6e186) (g__law_set : Has P w TB K mg base 3 "_law_set" 2 sp__law_set_82be62) (g__law_pairs : Has P w TB K mg base 3 "_law_pairs" 2 sp__law_pairs_79411b) {fa : Addr} {fd : FuncData} (Fn : Fun K "_law_hand" "_law_hand" s__law_hand fa fd) (hm : mg "_law_hand" = some (.ref fa)) : ∀ d : Nat, Has P w TB K mg base (4 + d) "_law_hand" 4 (sp__law_hand_3892a5 d) := by
  have bb : Binds K fd ["_law_m", "_law_deeds", "_law_names", "_law_deep"] [] := Fn.binds fun _ _ _ _ _ _ us hl => match us, hl with | [_, _, _, _], _ => rfl
  intro d
  induction d with
  | zero => exact Has.void (ps := ["_law_m", "_law_deeds", "_law_names", "_law_deep"]) Fn hm bb sc__law_hand (by decide) fun _ _ _ h => h
  | succ d ih => exact Has.mk' (ps := ["_law_m", "_law_deeds", "_law_names", "_law_deep"]) Fn hm bb sc__law_hand (fun _ ecd _ _ _ _ _ hgd hr => d__law_hand T g__law_draw g__law_set g__law_pairs ih hgd hr) (rd__law_hand_3892a5 d)
abbrev s__law_step : Stmt := topS 47
theorem sc__law_step : FnScope ["_law_m", "_law_deeds", "_law_names", "_law_way", "_law_hand_here"] ["_law_m", "_law_deeds", "_law_names"] (defScope s__law_step) := ⟨rfl, rfl, rfl, by decide +kernel, rfl, by decide +kernel, by decide +kernel⟩
theorem d__law_step (T : Tops w K mg) (g__law_set : Has P w TB K mg base 3 "_law_set" 2 sp__law_set_82be62) (g__law_hand : ∀ d : Nat, Has P w TB K mg base (4 + d) "_law_hand" 4 (sp__law_hand_3892a5 d)) (g__law_pairs : Has P w TB K mg base 3 "_law_pairs" 2 sp__law_pairs_79411b) (g__law_draw : Has P w TB K mg base 2 "_law_draw" 2 sp__law_draw_a6e186) {fa : Addr} {cdv : Value} {A : Around} {outer : List Env} {s : Shared} {H : Hp} {E : XK} (hgd : (A.deeper (envOfC "_law_step" (defScope s__law_step) s.heap.objs.size fa cdv)).guards = some []) (hr : Room 12 (A.deeper (envOfC "_law_step" (defScope s__law_step) s.heap.objs.size fa cdv))) :
    PSs (cxOf CX0 P w K mg base ["_law_m", "_law_deeds", "_law_names", "_law_way", "_law_hand_here"] "_law_step" (defScope s__law_step) fa cdv A outer s H E).nox (defBody s__law_step) (lfS K (f0 w TB) h__law_step_0e68b5) := by
  have nd := sc__law_step.nd
  exact (hs_cons (hs_set (i := 3) nd rfl (.inl rfl) (hp_callH g__law_draw hgd (hr.mono (by decide)) (by rfl) (hpa_cons (opd_v 0 (pv 0)) (hpa_cons (opd_e (hp_k pe_int fun _ => .int _)) hpa_nil))))
    (hs_cons (hs_if (PW.pt (ht_and (ht_cmp (op_eqP (u64 hr)) (opd_v 3 (pv 3)) (opd_e (hp_k pe_int fun _ => .int _)) op_eqPW (nomark _)) (ht_and1 (ht_cmp (op_neP (u64 hr)) (opd_v 1 (pv 1)) (opd_e (hp_lst hpa_nil)) op_eqPW (nomark _))))) (hs_one (hs_ret (hp_tup (hpa_cons (opd_e (hp_k pe_str fun _ => .str _)) (hpa_cons (opd_e (hp_ix ix_seq (opd_v 1 (pv 1)) (opd_e (hp_callH g__law_draw hgd (hr.mono (by decide)) (by rfl) (hpa_cons (opd_v 0 (pv 0)) (hpa_cons (opd_e (hp_callB call_lenAll op_lenW (by rfl) T.n_len (by decide +kernel) (hpa_cons (opd_v 1 (pv 1)) hpa_nil))) hpa_nil)))) op_ixW (fun _ _ => rfl))) hpa_nil))))) hs_nil)
    (hs_cons (hs_if (ht_cmp (op_eqP (u64 hr)) (opd_v 3 (pv 3)) (opd_e (hp_k pe_int fun _ => .int _)) op_eqPW (nomark _)) (hs_one (hs_ret (hp_tup (hpa_cons (opd_e (hp_k pe_str fun _ => .str _)) (hpa_cons (opd_e (hp_callH g__law_set hgd (hr.mono (by decide)) (by rfl) (hpa_cons (opd_v 0 (pv 0)) (hpa_cons (opd_v 1 (pv 1)) hpa_nil)))) hpa_nil))))) hs_nil)
    (hs_cons (hs_if (ht_cmp (op_eqP (u64 hr)) (opd_v 3 (pv 3)) (opd_e (hp_k pe_int fun _ => .int _)) op_eqPW (nomark _)) (hs_one (hs_ret (hp_tup (hpa_cons (opd_e (hp_k pe_str fun _ => .str _)) (hpa_cons (opd_e (hp_callH g__law_pairs hgd (hr.mono (by decide)) (by rfl) (hpa_cons (opd_v 0 (pv 0)) (hpa_cons (opd_v 1 (pv 1)) hpa_nil)))) hpa_nil))))) hs_nil)
    (hs_cons (hs_room (hp_k pe_int fun _ => .int _) (fun h => ps_dput (u1 hr) (pv 0) pe_str h (by rfl)))
    (hs_cons (hs_set (i := 4) nd rfl (.inl rfl) (hp_callH (g__law_hand 8) hgd (hr.mono (by decide)) (by rfl) (hpa_cons (opd_v 0 (pv 0)) (hpa_cons (opd_v 1 (pv 1)) (hpa_cons (opd_v 2 (pv 2)) (hpa_cons (opd_e (hp_k pe_int fun _ => .int _)) hpa_nil))))))
    (hs_cons (hs_if (ht_cmp (op_eqP (u64 hr)) (opd_v 3 (pv 3)) (opd_e (hp_k pe_int fun _ => .int _)) op_eqPW (nomark _)) (hs_one (hs_ret (hp_tup (hpa_cons (opd_e (hp_k pe_str fun _ => .str _)) (hpa_cons (opd_e (hp_callH g__law_set hgd (hr.mono (by decide)) (by rfl) (hpa_cons (opd_v 0 (pv 0)) (hpa_cons (opd_v 1 (pv 1)) hpa_nil)))) (hpa_cons (opd_e (hp_v 4 (pv 4))) hpa_nil)))))) hs_nil)
    (hs_one (hs_ret (hp_tup (hpa_cons (opd_e (hp_ix ix_seq (opd_e (hp_lst (hpa_cons (opd_e (hp_k pe_str fun _ => .str _)) (hpa_cons (opd_e (hp_k pe_str fun _ => .str _)) hpa_nil)))) (opd_e (hp_op op_mod (opd_v 3 (pv 3)) (opd_e (hp_k pe_int fun _ => .int _)) op_modWW)) op_ixW (fun _ _ => rfl))) (hpa_cons (opd_e (hp_v 4 (pv 4))) hpa_nil))))))))))))
theorem has__law_step (T : Tops w K mg) (g__law_set : Has P w TB K mg base 3 "_law_set" 2 sp__law_set_82be62) (g__law_hand : ∀ d : Nat, Has P w TB K mg base (4 + d) "_law_hand" 4 (sp__law_hand_3892a5 d)) (g__law_pairs : Has P w TB K mg base 3 "_law_pairs" 2 sp__law_pairs_79411b) (g__law_draw : Has P w TB K mg base 2 "_law_draw" 2 sp__law_draw_a6e186) {fa : Addr} {fd : FuncData} (Fn : Fun K "_law_step" "_law_step" s__law_step fa fd) (hm : mg "_law_step" = some (.ref fa)) : Has P w TB K mg base 13 "_law_step" 3 sp__law_step_0e68b5 :=
  Has.mk' (ps := ["_law_m", "_law_deeds", "_law_names"]) Fn hm (Fn.binds fun _ _ _ _ _ _ us hl => match us, hl with | [_, _, _], _ => rfl) sc__law_step (fun _ ecd _ _ _ _ _ hgd hr => d__law_step T g__law_set g__law_hand g__law_pairs g__law_draw hgd hr) rd__law_step_0e68b5
abbrev s__law_put : Stmt := topS 48
theorem sc__law_put : FnScope ["_law_hand_here", "_law_steps", "_law_step_here"] ["_law_hand_here", "_law_steps"] (defScope s__law_put) := ⟨rfl, rfl, rfl, by decide +kernel, rfl, by decide +kernel, by decide +kernel⟩
theorem d__law_put (T : Tops w K mg)  {fa : Addr} {cdv : Value} {A : Around} {outer : List Env} {s : Shared} {H : Hp} {E : XK} (hgd : (A.deeper (envOfC "_law_put" (defScope s__law_put) s.heap.objs.size fa cdv)).guards = some []) (hr : Room 0 (A.deeper (envOfC "_law_put" (defScope s__law_put) s.heap.objs.size fa cdv))) :
    PSs (cxOf CX0 P w K mg base ["_law_hand_here", "_law_steps", "_law_step_here"] "_law_put" (defScope s__law_put) fa cdv A outer s H E).nox (defBody s__law_put) (lfS K (f0 w TB) h__law_put_51ebdf) := by
  have nd := sc__law_put.nd
  exact (hs_cons (hs_for PassesOwn.never rfl (hi_tup (hp_v 1 (pv 1))) (hg_name (pg_name (i := 2) nd rfl (by first | exact .inl rfl | exact .inr rfl))) (hs_one (hs_if (ht_cmp (op_eqP (u64 hr)) (opd_e (hp_ix ix_seq (opd_v 2 (pv 2)) (opd_e (hp_k pe_int fun _ => .int _)) op_ixW (fun _ _ => rfl))) (opd_e (hp_k pe_str fun _ => .str _)) op_eqPW (nomark _)) (hs_one (hs_set (i := 0) nd rfl (.inl rfl) (hp_tup (hpa_cons (opd_e (hp_k pe_str fun _ => .str _)) (hpa_cons (opd_e (hp_ix ix_seq (opd_v 2 (pv 2)) (opd_e (hp_k pe_int fun _ => .int _)) op_ixW (fun _ _ => rfl))) (hpa_cons (opd_e (hp_v 0 (pv 0))) hpa_nil)))))) (hs_one (hs_if (ht_cmp (op_eqP (u64 hr)) (opd_e (hp_ix ix_seq (opd_v 2 (pv 2)) (opd_e (hp_k pe_int fun _ => .int _)) op_ixW (fun _ _ => rfl))) (opd_e (hp_k pe_str fun _ => .str _)) op_eqPW (nomark _)) (hs_one (hs_set (i := 0) nd rfl (.inl rfl) (hp_tup (hpa_cons (opd_e (hp_k pe_str fun _ => .str _)) (hpa_cons (opd_e (hp_v 0 (pv 0))) (hpa_cons (opd_e (hp_ix ix_seq (opd_v 2 (pv 2)) (opd_e (hp_k pe_int fun _ => .int _)) op_ixW (fun _ _ => rfl))) (hpa_cons (opd_e (hp_ix ix_seq (opd_v 2 (pv 2)) (opd_e (hp_k pe_int fun _ => .int _)) op_ixW (fun _ _ => rfl))) hpa_nil))))))) (hs_one (hs_set (i := 0) nd rfl (.inl rfl) (hp_tup (hpa_cons (opd_e (hp_ix ix_seq (opd_v 2 (pv 2)) (opd_e (hp_k pe_int fun _ => .int _)) op_ixW (fun _ _ => rfl))) (hpa_cons (opd_e (hp_v 0 (pv 0))) (hpa_cons (opd_e (hp_ix ix_seq (opd_v 2 (pv 2)) (opd_e (hp_k pe_int fun _ => .int _)) op_ixW (fun _ _ => rfl))) hpa_nil)))))))))))
    (hs_one (hs_ret (hp_m 0 (pv 0)))))
theorem has__law_put (T : Tops w K mg)  {fa : Addr} {fd : FuncData} (Fn : Fun K "_law_put" "_law_put" s__law_put fa fd) (hm : mg "_law_put" = some (.ref fa)) : Has P w TB K mg base 1 "_law_put" 2 sp__law_put_51ebdf :=
  Has.mk' (ps := ["_law_hand_here", "_law_steps"]) Fn hm (Fn.binds fun _ _ _ _ _ _ us hl => match us, hl with | [_, _], _ => rfl) sc__law_put (fun _ ecd _ _ _ _ _ hgd hr => d__law_put T  hgd hr) rd__law_put_51ebdf
abbrev s__law_is_other : Stmt := topS 49
theorem sc__law_is_other : FnScope ["_law_caught"] ["_law_caught"] (defScope s__law_is_other) := ⟨rfl, rfl, rfl, by decide +kernel, rfl, by decide +kernel, by decide +kernel⟩
theorem d__law_is_other (T : Tops w K mg)  {fa : Addr} {cdv : Value} {A : Around} {outer : List Env} {s : Shared} {H : Hp} {E : XK} (hgd : (A.deeper (envOfC "_law_is_other" (defScope s__law_is_other) s.heap.objs.size fa cdv)).guards = some []) (hr : Room 0 (A.deeper (envOfC "_law_is_other" (defScope s__law_is_other) s.heap.objs.size fa cdv))) :
    PSs (cxOf CX0 P w K mg base ["_law_caught"] "_law_is_other" (defScope s__law_is_other) fa cdv A outer s H E).nox (defBody s__law_is_other) (lfS K (f0 w TB) h__law_is_other_375491) := by
  have nd := sc__law_is_other.nd
  exact (hs_cons (hs_if (hp_test (hp_isXT T.xt (by rfl) T.n_isinstance (.cons (nmC T.ex_BadDeeds (by rfl)) (.cons (nmC T.ex_BadHouse (by rfl)) (.cons (nmC T.ex_BadMachine (by rfl)) (.cons (nmC T.ex_BadNode (by rfl)) (.cons (nmC T.ex_BadPaper (by rfl)) .nil))))) (by decide) (opd_v 0 (pv 0)))) (hs_one (hs_ret (hp_k pe_bl fun _ => .bl _))) hs_nil)
    (hs_one (hs_ret (hp_isXT T.xt (by rfl) T.n_isinstance (.cons (nmC T.ex_BadRow (by rfl)) (.cons (nmC T.ex_BadText (by rfl)) (.cons (nmC T.ex_BadWay (by rfl)) (.cons (nmC T.ex_NoName (by rfl)) (.cons (nmC T.ex_TooGreat (by rfl)) .nil))))) (by decide) (opd_v 0 (pv 0))))))
theorem has__law_is_other (T : Tops w K mg)  {fa : Addr} {fd : FuncData} (Fn : Fun K "_law_is_other" "_law_is_other" s__law_is_other fa fd) (hm : mg "_law_is_other" = some (.ref fa)) : Has P w TB K mg base 1 "_law_is_other" 1 sp__law_is_other_375491 :=
  Has.mk' (ps := ["_law_caught"]) Fn hm (Fn.binds fun _ _ _ _ _ _ us hl => match us, hl with | [_], _ => rfl) sc__law_is_other (fun _ ecd _ _ _ _ _ hgd hr => d__law_is_other T  hgd hr) rd__law_is_other_375491
abbrev s__law_said : Stmt := topS 50
theorem sc__law_said : FnScope ["_law_hand_here", "_law_steps", "_law_caught", "_law_found", "error", "_law_is_one"] ["_law_hand_here", "_law_steps"] (defScope s__law_said) := ⟨rfl, rfl, rfl, by decide +kernel, rfl, by decide +kernel, by decide +kernel⟩
theorem d__law_said (T : Tops w K mg) (g__law_is_other : Has P w TB K mg base 1 "_law_is_other" 1 sp__law_is_other_375491) (gX_put_round : HasX P w TB K mg base 8 "put_round" 2 spX_put_round_d1447a) {fa : Addr} {cdv : Value} {A : Around} {outer : List Env} {s : Shared} {H : Hp} {E : XK} (hgd : (A.deeper (envOfC "_law_said" (defScope s__law_said) s.heap.objs.size fa cdv)).guards = some []) (hr : Room 8 (A.deeper (envOfC "_law_said" (defScope s__law_said) s.heap.objs.size fa cdv))) :
    PSs (cxOf CX0 P w K mg base ["_law_hand_here", "_law_steps", "_law_caught", "_law_found", "error", "_law_is_one"] "_law_said" (defScope s__law_said) fa cdv A outer s H E).nox (defBody s__law_said) (lfS K (f0 w TB) h__law_said_6acc40) := by
  have nd := sc__law_said.nd
  exact (hs_cons (hs_set (i := 2) nd rfl (.inl rfl) (hp_k pe_non fun _ => .non))
    (hs_cons (hs_set (i := 3) nd rfl (.inl rfl) (hp_k pe_non fun _ => .non))
    (hs_cons (hs_try0 T.xt T.ex_HandError rfl rfl nd rfl rfl rfl (by rfl) (fun _ _ _ _ _ tk1 lk1 po1 => (hs_one (hs_set (i := 3) nd rfl (.inl rfl) (hp_callHX gX_put_round tk1 lk1 hgd (hr.mono (by decide)) (by rfl) (hpa_cons (opd_v 0 (pv 0)) (hpa_cons (opd_v 1 (pv 1)) hpa_nil)))))) (fun _ _ => (hs_one (hs_set (i := 2) nd rfl (.inl rfl) (hp_v 4 (pv 4))))))
    (hs_cons (hs_if (ht_cmp op_isN (opd_v 2 (pv 2)) (opd_e (hp_k pe_non fun _ => .non)) op_isNX (nomark _)) (hs_one (hs_ret (hp_m 3 (pv 3)))) hs_nil)
    (hs_cons (hs_set (i := 5) nd rfl (.inl rfl) (hp_andV (hp_isX T.xt (by rfl) T.n_isinstance (nmC T.ex_BadHand (by rfl)) (opd_v 2 (pv 2))) (hp_andV (hp_isXV T.xt (by rfl) T.n_isinstance (pe_bltn (v := .ty "ValueError") (u := .type "ValueError") (by rfl) T.n_ValueError (by decide +kernel) rfl) (opd_v 2 (pv 2))) (pe_one (hp_notV (hp_callH g__law_is_other hgd (hr.mono (by decide)) (by rfl) (hpa_cons (opd_v 2 (pv 2)) hpa_nil)))))))
    (hs_one (hs_ret (hp_if (hp_test (hp_v 5 (pv 5))) (hp_k pe_str fun _ => .str _) (hp_k pe_str fun _ => .str _)))))))))
theorem has__law_said (T : Tops w K mg) (g__law_is_other : Has P w TB K mg base 1 "_law_is_other" 1 sp__law_is_other_375491) (gX_put_round : HasX P w TB K mg base 8 "put_round" 2 spX_put_round_d1447a) {fa : Addr} {fd : FuncData} (Fn : Fun K "_law_said" "_law_said" s__law_said fa fd) (hm : mg "_law_said" = some (.ref fa)) : Has P w TB K mg base 9 "_law_said" 2 sp__law_said_6acc40 :=
  Has.mk' (ps := ["_law_hand_here", "_law_steps"]) Fn hm (Fn.binds fun _ _ _ _ _ _ us hl => match us, hl with | [_, _], _ => rfl) sc__law_said (fun _ ecd _ _ _ _ _ hgd hr => d__law_said T g__law_is_other gX_put_round hgd hr) rd__law_said_6acc40
abbrev s__law_chain : Stmt := topS 51
theorem sc__law_chain : FnScope ["_law_many", "_law_hand_here", "_law_turn"] ["_law_many"] (defScope s__law_chain) := ⟨rfl, rfl, rfl, by decide +kernel, rfl, by decide +kernel, by decide +kernel⟩
theorem d__law_chain (T : Tops w K mg)  {fa : Addr} {cdv : Value} {A : Around} {outer : List Env} {s : Shared} {H : Hp} {E : XK} (hgd : (A.deeper (envOfC "_law_chain" (defScope s__law_chain) s.heap.objs.size fa cdv)).guards = some []) (hr : Room 0 (A.deeper (envOfC "_law_chain" (defScope s__law_chain) s.heap.objs.size fa cdv))) :
    PSs (cxOf CX0 P w K mg base ["_law_many", "_law_hand_here", "_law_turn"] "_law_chain" (defScope s__law_chain) fa cdv A outer s H E).nox (defBody s__law_chain) (lfS K (f0 w TB) h__law_chain_31e2a8) := by
  have nd := sc__law_chain.nd
  exact (hs_cons (hs_set (i := 1) nd rfl (.inl rfl) (hp_tup (hpa_cons (opd_e (hp_k pe_str fun _ => .str _)) hpa_nil)))
    (hs_cons (hs_for PassesOwn.never rfl (hi_rng1 (by rfl) T.n_range (hpa_cons (opd_v 0 (pv 0)) hpa_nil)) (hg_name (pg_name (i := 2) nd rfl (by first | exact .inl rfl | exact .inr rfl))) (hs_one (hs_set (i := 1) nd rfl (.inl rfl) (hp_tup (hpa_cons (opd_e (hp_k pe_str fun _ => .str _)) (hpa_cons (opd_e (hp_k pe_str fun _ => .str _)) (hpa_cons (opd_e (hp_v 1 (pv 1))) hpa_nil)))))))
    (hs_one (hs_ret (hp_m 1 (pv 1))))))
theorem has__law_chain (T : Tops w K mg)  {fa : Addr} {fd : FuncData} (Fn : Fun K "_law_chain" "_law_chain" s__law_chain fa fd) (hm : mg "_law_chain" = some (.ref fa)) : Has P w TB K mg base 1 "_law_chain" 1 sp__law_chain_31e2a8 :=
  Has.mk' (ps := ["_law_many"]) Fn hm (Fn.binds fun _ _ _ _ _ _ us hl => match us, hl with | [_], _ => rfl) sc__law_chain (fun _ ecd _ _ _ _ _ hgd hr => d__law_chain T  hgd hr) rd__law_chain_31e2a8
abbrev s__law_bush : Stmt := topS 52
theorem sc__law_bush : FnScope ["_law_many"] ["_law_many"] (defScope s__law_bush) := ⟨rfl, rfl, rfl, by decide +kernel, rfl, by decide +kernel, by decide +kernel⟩
theorem d__law_bush (T : Tops w K mg)  {d : Nat} (g_rec : Has P w TB K mg base (1 + d) "_law_bush" 1 (sp__law_bush_a763c1 d)) {fa : Addr} {cdv : Value} {A : Around} {outer : List Env} {s : Shared} {H : Hp} {E : XK} (hgd : (A.deeper (envOfC "_law_bush" (defScope s__law_bush) s.heap.objs.size fa cdv)).guards = some []) (hr : Room (1 + d) (A.deeper (envOfC "_law_bush" (defScope s__law_bush) s.heap.objs.size fa cdv))) :
    PSs (cxOf CX0 P w K mg base ["_law_many"] "_law_bush" (defScope s__law_bush) fa cdv A outer s H E).nox (defBody s__law_bush) (lfS K (f0 w TB) (h__law_bush_a763c1 d)) := by
  have nd := sc__law_bush.nd
  exact (hs_cons (hs_if (ht_cmp op_lt (opd_v 0 (pv 0)) (opd_e (hp_k pe_int fun _ => .int _)) op_ltW (nomark _)) (hs_one (hs_ret (hp_tup (hpa_cons (opd_e (hp_k pe_str fun _ => .str _)) hpa_nil)))) hs_nil)
    (hs_one (hs_ret (hp_tup (hpa_cons (opd_e (hp_k pe_str fun _ => .str _)) (hpa_cons (opd_e (hp_callH g_rec hgd (hr.mono (by omega)) (by rfl) (hpa_cons (opd_e (hp_op op_fdivW (opd_v 0 (pv 0)) (opd_e (hp_k pe_int fun _ => .int _)) op_fdivWW)) hpa_nil))) (hpa_cons (opd_e (hp_callH g_rec hgd (hr.mono (by omega)) (by rfl) (hpa_cons (opd_e (hp_op op_sub (opd_v 0 (pv 0)) (opd_e (hp_op op_fdivW (opd_v 0 (pv 0)) (opd_e (hp_k pe_int fun _ => .int _)) op_fdivWW)) op_subW)) hpa_nil))) hpa_nil)))))))
theorem has__law_bush (T : Tops w K mg)  {fa : Addr} {fd : FuncData} (Fn : Fun K "_law_bush" "_law_bush" s__law_bush fa fd) (hm : mg "_law_bush" = some (.ref fa)) : ∀ d : Nat, Has P w TB K mg base (1 + d) "_law_bush" 1 (sp__law_bush_a763c1 d) := by
  have bb : Binds K fd ["_law_many"] [] := Fn.binds fun _ _ _ _ _ _ us hl => match us, hl with | [_], _ => rfl
  intro d
  induction d with
  | zero => exact Has.void (ps := ["_law_many"]) Fn hm bb sc__law_bush (by decide) fun _ _ _ h => h
  | succ d ih => exact Has.mk' (ps := ["_law_many"]) Fn hm bb sc__law_bush (fun _ ecd _ _ _ _ _ hgd hr => d__law_bush T  ih hgd hr) (rd__law_bush_a763c1 d)
abbrev s__law_bounds_right : Stmt := topS 53
theorem sc__law_bounds_right : FnScope ["_law_m", "_law_many", "_law_led", "_law_bush_here", "_law_some", "_law_one", "_law_two"] ["_law_m"] (defScope s__law_bounds_right) := ⟨rfl, rfl, rfl, by decide +kernel, rfl, by decide +kernel, by decide +kernel⟩
theorem d__law_bounds_right (T : Tops w K mg) (g__law_said : Has P w TB K mg base 9 "_law_said" 2 sp__law_said_6acc40) (g__law_draw : Has P w TB K mg base 2 "_law_draw" 2 sp__law_draw_a6e186) (g__law_put : Has P w TB K mg base 1 "_law_put" 2 sp__law_put_51ebdf) (g__law_bush : ∀ d : Nat, Has P w TB K mg base (1 + d) "_law_bush" 1 (sp__law_bush_a763c1 d)) (g__law_chain : Has P w TB K mg base 1 "_law_chain" 1 sp__law_chain_31e2a8) {fa : Addr} {cdv : Value} {A : Around} {outer : List Env} {s : Shared} {H : Hp} {E : XK} (hgd : (A.deeper (envOfC "_law_bounds_right" (defScope s__law_bounds_right) s.heap.objs.size fa cdv)).guards = some []) (hr : Room 9 (A.deeper (envOfC "_law_bounds_right" (defScope s__law_bounds_right) s.heap.objs.size fa cdv))) :
    PSs (cxOf CX0 P w K mg base ["_law_m", "_law_many", "_law_led", "_law_bush_here", "_law_some", "_law_one", "_law_two"] "_law_bounds_right" (defScope s__law_bounds_right) fa cdv A outer s H E).nox (defBody s__law_bounds_right) (lfS K (f0 w TB) h__law_bounds_right_8dc481) := by
  have nd := sc__law_bounds_right.nd
  exact (hs_cons (hs_set (i := 1) nd rfl (.inl rfl) (hp_callH g__law_draw hgd (hr.mono (by decide)) (by rfl) (hpa_cons (opd_v 0 (pv 0)) (hpa_cons (opd_e (hp_k pe_int fun _ => .int _)) hpa_nil))))
    (hs_cons (hs_set (i := 2) nd rfl (.inl rfl) (hp_op op_repN (opd_e (hp_tup (hpa_cons (opd_e (hp_tup (hpa_cons (opd_e (hp_k pe_str fun _ => .str _)) (hpa_cons (opd_e (hp_k pe_str fun _ => .str _)) hpa_nil)))) hpa_nil))) (opd_v 1 (pv 1)) op_mulTN))
    (hs_cons (hs_if (ht_cmp (op_neP (u64 hr)) (opd_e (hp_callB (call_repr hgd (u150 hr)) op_reprW (by rfl) T.n_repr (by decide +kernel) (hpa_cons (opd_e (hp_callH g__law_said hgd (hr.mono (by decide)) (by rfl) (hpa_cons (opd_e (hp_callH g__law_chain hgd (hr.mono (by decide)) (by rfl) (hpa_cons (opd_e (hp_op op_sub (opd_e (hp_k pe_int fun _ => .int _)) (opd_v 1 (pv 1)) op_subW)) hpa_nil))) (hpa_cons (opd_v 2 (pv 2)) hpa_nil)))) hpa_nil))) (opd_e (hp_callB (call_repr hgd (u150 hr)) op_reprW (by rfl) T.n_repr (by decide +kernel) (hpa_cons (opd_e (hp_callH g__law_put hgd (hr.mono (by decide)) (by rfl) (hpa_cons (opd_e (hp_callH g__law_chain hgd (hr.mono (by decide)) (by rfl) (hpa_cons (opd_e (hp_op op_sub (opd_e (hp_k pe_int fun _ => .int _)) (opd_v 1 (pv 1)) op_subW)) hpa_nil))) (hpa_cons (opd_v 2 (pv 2)) hpa_nil)))) hpa_nil))) op_eqPW (nomark _)) (hs_one (hs_ret (hp_k pe_bl fun _ => .bl _))) hs_nil)
    (hs_cons (hs_if (ht_cmp (op_neP (u64 hr)) (opd_e (hp_callH g__law_said hgd (hr.mono (by decide)) (by rfl) (hpa_cons (opd_e (hp_callH g__law_chain hgd (hr.mono (by decide)) (by rfl) (hpa_cons (opd_e (hp_op op_sub (opd_e (hp_k pe_int fun _ => .int _)) (opd_v 1 (pv 1)) op_subW)) hpa_nil))) (hpa_cons (opd_v 2 (pv 2)) hpa_nil)))) (opd_e (hp_k pe_str fun _ => .str _)) op_eqPW (nomark _)) (hs_one (hs_ret (hp_k pe_bl fun _ => .bl _))) hs_nil)
    (hs_cons (hs_set (i := 3) nd rfl (.inl rfl) (hp_callH (g__law_bush 8) hgd (hr.mono (by decide)) (by rfl) (hpa_cons (opd_e (hp_k pe_int fun _ => .int _)) hpa_nil)))
    (hs_cons (hs_set (i := 4) nd rfl (.inl rfl) (hp_ix ix_seq (opd_e (hp_lst (hpa_cons (opd_e (hp_tup (hpa_cons (opd_e (hp_tup (hpa_cons (opd_e (hp_k pe_str fun _ => .str _)) (hpa_cons (opd_e (hp_tup hpa_nil)) hpa_nil)))) hpa_nil))) (hpa_cons (opd_e (hp_tup (hpa_cons (opd_e (hp_tup (hpa_cons (opd_e (hp_k pe_str fun _ => .str _)) (hpa_cons (opd_e (hp_tup hpa_nil)) hpa_nil)))) hpa_nil))) (hpa_cons (opd_e (hp_tup (hpa_cons (opd_e (hp_tup (hpa_cons (opd_e (hp_k pe_str fun _ => .str _)) (hpa_cons (opd_e (hp_k pe_str fun _ => .str _)) hpa_nil)))) hpa_nil))) (hpa_cons (opd_e (hp_tup (hpa_cons (opd_e (hp_tup (hpa_cons (opd_e (hp_k pe_str fun _ => .str _)) (hpa_cons (opd_e (hp_tup (hpa_cons (opd_e (hp_k pe_str fun _ => .str _)) (hpa_cons (opd_e (hp_k pe_str fun _ => .str _)) hpa_nil)))) hpa_nil)))) hpa_nil))) hpa_nil)))))) (opd_e (hp_callH g__law_draw hgd (hr.mono (by decide)) (by rfl) (hpa_cons (opd_v 0 (pv 0)) (hpa_cons (opd_e (hp_k pe_int fun _ => .int _)) hpa_nil)))) op_ixW (fun _ _ => rfl)))
    (hs_cons (hs_if (PW.pt (ht_or (ht_cmp (op_neP (u64 hr)) (opd_e (hp_callB (call_repr hgd (u150 hr)) op_reprW (by rfl) T.n_repr (by decide +kernel) (hpa_cons (opd_e (hp_callH g__law_said hgd (hr.mono (by decide)) (by rfl) (hpa_cons (opd_v 3 (pv 3)) (hpa_cons (opd_v 4 (pv 4)) hpa_nil)))) hpa_nil))) (opd_e (hp_callB (call_repr hgd (u150 hr)) op_reprW (by rfl) T.n_repr (by decide +kernel) (hpa_cons (opd_e (hp_callH g__law_put hgd (hr.mono (by decide)) (by rfl) (hpa_cons (opd_v 3 (pv 3)) (hpa_cons (opd_v 4 (pv 4)) hpa_nil)))) hpa_nil))) op_eqPW (nomark _)) (ht_or1 (ht_cmp (op_neP (u64 hr)) (opd_e (hp_callH g__law_said hgd (hr.mono (by decide)) (by rfl) (hpa_cons (opd_v 3 (pv 3)) (hpa_cons (opd_e (hp_op op_catA (opd_v 4 (pv 4)) (opd_v 4 (pv 4)) op_addTW)) hpa_nil)))) (opd_e (hp_k pe_str fun _ => .str _)) op_eqPW (nomark _))))) (hs_one (hs_ret (hp_k pe_bl fun _ => .bl _))) hs_nil)
    (hs_cons (hs_set (i := 5) nd rfl (.inl rfl) (hp_tup (hpa_cons (opd_e (hp_ix ix_seq (opd_e (hp_lst (hpa_cons (opd_e (hp_k pe_str fun _ => .str _)) (hpa_cons (opd_e (hp_k pe_str fun _ => .str _)) hpa_nil)))) (opd_e (hp_callH g__law_draw hgd (hr.mono (by decide)) (by rfl) (hpa_cons (opd_v 0 (pv 0)) (hpa_cons (opd_e (hp_k pe_int fun _ => .int _)) hpa_nil)))) op_ixW (fun _ _ => rfl))) (hpa_cons (opd_e (hp_tup (hpa_cons (opd_e (hp_k pe_str fun _ => .str _)) hpa_nil))) hpa_nil))))
    (hs_cons (hs_set (i := 6) nd rfl (.inl rfl) (hp_tup (hpa_cons (opd_e (hp_k pe_str fun _ => .str _)) (hpa_cons (opd_e (hp_tup (hpa_cons (opd_e (hp_k pe_str fun _ => .str _)) hpa_nil))) (hpa_cons (opd_e (hp_tup (hpa_cons (opd_e (hp_k pe_str fun _ => .str _)) hpa_nil))) hpa_nil)))))
    (hs_one (hs_ret (hp_andV (hp_cmp (op_eqP (u64 hr)) (opd_e (hp_callH g__law_said hgd (hr.mono (by decide)) (by rfl) (hpa_cons (opd_v 3 (pv 3)) (hpa_cons (opd_e (hp_tup (hpa_cons (opd_e (hp_v 5 (pv 5))) hpa_nil))) hpa_nil)))) (opd_e (hp_k pe_str fun _ => .str _)) op_eqPW (nomark _)) (pe_one (hp_cmp (op_eqP (u64 hr)) (opd_e (hp_callH g__law_said hgd (hr.mono (by decide)) (by rfl) (hpa_cons (opd_v 3 (pv 3)) (hpa_cons (opd_e (hp_tup (hpa_cons (opd_e (hp_v 6 (pv 6))) hpa_nil))) hpa_nil)))) (opd_e (hp_k pe_str fun _ => .str _)) op_eqPW (nomark _)))))))))))))))
theorem has__law_bounds_right (T : Tops w K mg) (g__law_said : Has P w TB K mg base 9 "_law_said" 2 sp__law_said_6acc40) (g__law_draw : Has P w TB K mg base 2 "_law_draw" 2 sp__law_draw_a6e186) (g__law_put : Has P w TB K mg base 1 "_law_put" 2 sp__law_put_51ebdf) (g__law_bush : ∀ d : Nat, Has P w TB K mg base (1 + d) "_law_bush" 1 (sp__law_bush_a763c1 d)) (g__law_chain : Has P w TB K mg base 1 "_law_chain" 1 sp__law_chain_31e2a8) {fa : Addr} {fd : FuncData} (Fn : Fun K "_law_bounds_right" "_law_bounds_right" s__law_bounds_right fa fd) (hm : mg "_law_bounds_right" = some (.ref fa)) : Has P w TB K mg base 10 "_law_bounds_right" 1 sp__law_bounds_right_8dc481 :=
  Has.mk' (ps := ["_law_m"]) Fn hm (Fn.binds fun _ _ _ _ _ _ us hl => match us, hl with | [_], _ => rfl) sc__law_bounds_right (fun _ ecd _ _ _ _ _ hgd hr => d__law_bounds_right T g__law_said g__law_draw g__law_put g__law_bush g__law_chain hgd hr) rd__law_bounds_right_8dc481
abbrev s_law : Stmt := topS 54
theorem sc_law : FnScope ["_law_script", "_law_m", "_law_known", "_law_turn", "_law_deeds", "_law_names", "_law_hand_here", "_law_many", "_law_steps", "_law_k", "_law_due"] ["_law_script"] (defScope s_law) := ⟨rfl, rfl, rfl, by decide +kernel, rfl, by decide +kernel, by decide +kernel⟩
theorem d_law (T : Tops w K mg) {fb : Addr} {fdb : FuncData} (Gb : GnOk P w K mg base CX0 2 fb fdb ["_law_script"] (spBegun K)) (hb : mg "_law_begun" = some (.ref fb)) (kb : PySem.W.keepIn K (.ref fb) = true) (bb : Binds K fdb ["_law_script"] []) (g__law_bounds_right : Has P w TB K mg base 10 "_law_bounds_right" 1 sp__law_bounds_right_8dc481) (g__law_said : Has P w TB K mg base 9 "_law_said" 2 sp__law_said_6acc40) (g_need_surroundings : Has P w TB K mg base 7 "need_surroundings" 1 sp_need_surroundings_42129f) (g__law_put : Has P w TB K mg base 1 "_law_put" 2 sp__law_put_51ebdf) (g__law_step : Has P w TB K mg base 13 "_law_step" 3 sp__law_step_0e68b5) (g__law_draw : Has P w TB K mg base 2 "_law_draw" 2 sp__law_draw_a6e186) (g__law_hand : ∀ d : Nat, Has P w TB K mg base (4 + d) "_law_hand" 4 (sp__law_hand_3892a5 d)) (g__law_words : Has P w TB K mg base 3 "_law_words" 2 sp__law_words_aaf2f6) {fa : Addr} {cdv : Value} {A : Around} {outer : List Env} {s : Shared} {H : Hp} {E : XK} (hgd : (A.deeper (envOfC "law" (defScope s_law) s.heap.objs.size fa cdv)).guards = some []) (hr : Room 13 (A.deeper (envOfC "law" (defScope s_law) s.heap.objs.size fa cdv))) :
    PSs (cxOf CX0 P w K mg base ["_law_script", "_law_m", "_law_known", "_law_turn", "_law_deeds", "_law_names", "_law_hand_here", "_law_many", "_law_steps", "_law_k", "_law_due"] "law" (defScope s_law) fa cdv A outer s H E).nox (defBody s_law) (tSeq (tAsg (tCall (spBegun K) [] E0 (tCons (tVar 0) tNil)) (gName 1)) (lfS K (f0 w TB) h_law_50538e)) := by
  have nd := sc_law.nd
  exact pss_cons (ps_set (i := 1) nd rfl (.inr rfl) (pe_callG Gb hgd (hr.mono (by decide)) (by rfl) hb kb bb pass0 (pa_cons (pv 0) pa_nil)))
    (hs_cons (hs_set (i := 2) nd rfl (.inl rfl) (hp_lst hpa_nil))
    (hs_cons (hs_for PassesOwn.never rfl (hi_rng1 (by rfl) T.n_range (hpa_cons (opd_e (hp_k pe_int fun _ => .int _)) hpa_nil)) (hg_name (pg_name (i := 3) nd rfl (by first | exact .inl rfl | exact .inr rfl))) (hs_cons (hs_set (i := 4) nd rfl (.inr rfl) (hp_callH g__law_words hgd (hr.mono (by decide)) (by rfl) (hpa_cons (opd_v 1 (pv 1)) (hpa_cons (opd_e (hp_ix ix_seq (opd_e (hp_lst (hpa_cons (opd_e (hp_k pe_int fun _ => .int _)) (hpa_cons (opd_e (hp_k pe_int fun _ => .int _)) (hpa_cons (opd_e (hp_k pe_int fun _ => .int _)) (hpa_cons (opd_e (hp_k pe_int fun _ => .int _)) (hpa_cons (opd_e (hp_k pe_int fun _ => .int _)) (hpa_cons (opd_e (hp_k pe_int fun _ => .int _)) hpa_nil)))))))) (opd_e (hp_callH g__law_draw hgd (hr.mono (by decide)) (by rfl) (hpa_cons (opd_v 1 (pv 1)) (hpa_cons (opd_e (hp_k pe_int fun _ => .int _)) hpa_nil)))) op_ixW (fun _ _ => rfl))) hpa_nil))))
    (hs_cons (hs_set (i := 5) nd rfl (.inr rfl) (hp_callH g__law_words hgd (hr.mono (by decide)) (by rfl) (hpa_cons (opd_v 1 (pv 1)) (hpa_cons (opd_e (hp_k pe_int fun _ => .int _)) hpa_nil))))
    (hs_cons (hs_room (hp_k pe_int fun _ => .int _) (fun h => ps_dput (u1 hr) (pv 1) pe_str h (by rfl)))
    (hs_cons (hs_set (i := 6) nd rfl (.inl rfl) (hp_callH (g__law_hand 8) hgd (hr.mono (by decide)) (by rfl) (hpa_cons (opd_v 1 (pv 1)) (hpa_cons (opd_v 4 (pv 4)) (hpa_cons (opd_v 5 (pv 5)) (hpa_cons (opd_e (hp_op op_addAll (opd_e (hp_k pe_int fun _ => .int _)) (opd_e (hp_callH g__law_draw hgd (hr.mono (by decide)) (by rfl) (hpa_cons (opd_v 1 (pv 1)) (hpa_cons (opd_e (hp_k pe_int fun _ => .int _)) hpa_nil)))) op_addW)) hpa_nil))))))
    (hs_cons (hs_set (i := 7) nd rfl (.inl rfl) (hp_ix ix_seq (opd_e (hp_lst (hpa_cons (opd_e (hp_k pe_int fun _ => .int _)) (hpa_cons (opd_e (hp_k pe_int fun _ => .int _)) (hpa_cons (opd_e (hp_k pe_int fun _ => .int _)) (hpa_cons (opd_e (hp_k pe_int fun _ => .int _)) (hpa_cons (opd_e (hp_k pe_int fun _ => .int _)) (hpa_cons (opd_e (hp_k pe_int fun _ => .int _)) hpa_nil)))))))) (opd_e (hp_callH g__law_draw hgd (hr.mono (by decide)) (by rfl) (hpa_cons (opd_v 1 (pv 1)) (hpa_cons (opd_e (hp_k pe_int fun _ => .int _)) hpa_nil)))) op_ixW (fun _ _ => rfl)))
    (hs_cons (hs_set (i := 8) nd rfl (.inl rfl) (hp_callTy call_tuple_of op_tupW (by rfl) T.n_tuple (by decide +kernel) (hpa_cons (opd_e (hp_lc (pe_lc (own := [("_law_k", 9)]) rfl nd (hi_rng1 (by rfl) T.n_range (hpa_cons (opd_v 7 (pv 7)) hpa_nil)) (blkOk_by (own := [("_law_k", 9)]) (N := ["_law_script", "_law_m", "_law_known", "_law_turn", "_law_deeds", "_law_names", "_law_hand_here", "_law_many", "_law_steps", "_law_k", "_law_due"]) (sc := defScope s_law) (by decide +kernel)) (fun _ _ _ _ _ => (hg_name (pg_name (i := 9) nd rfl (by first | exact .inl rfl | exact .inr rfl)))) (fun _ _ _ _ _ => pts_yes) (fun _ _ _ _ _ => (hp_callH g__law_step hgd (hr.mono (by decide)) (by rfl) (hpa_cons (opd_v 1 (pv 1)) (hpa_cons (opd_v 4 (pv 4)) (hpa_cons (opd_v 5 (pv 5)) hpa_nil)))))) (by decide) gl_name)) hpa_nil)))
    (hs_cons (hs_set (i := 10) nd rfl (.inl rfl) (hp_callH g__law_put hgd (hr.mono (by decide)) (by rfl) (hpa_cons (opd_v 6 (pv 6)) (hpa_cons (opd_v 8 (pv 8)) hpa_nil))))
    (hs_cons (hs_if (PW.pt (ht_or (ht_cmp op_notN (opd_e (hp_callH g_need_surroundings hgd (hr.mono (by decide)) (by rfl) (hpa_cons (opd_v 8 (pv 8)) hpa_nil))) (opd_e (hp_k pe_non fun _ => .non)) op_notNW (nomark _)) (ht_or1 (ht_cmp (op_neP (u64 hr)) (opd_e (hp_callB (call_repr hgd (u150 hr)) op_reprW (by rfl) T.n_repr (by decide +kernel) (hpa_cons (opd_e (hp_callH g__law_said hgd (hr.mono (by decide)) (by rfl) (hpa_cons (opd_v 6 (pv 6)) (hpa_cons (opd_v 8 (pv 8)) hpa_nil)))) hpa_nil))) (opd_e (hp_callB (call_repr hgd (u150 hr)) op_reprW (by rfl) T.n_repr (by decide +kernel) (hpa_cons (opd_v 10 (pv 10)) hpa_nil))) op_eqPW (nomark _))))) (hs_one (hs_ret (hp_k pe_bl fun _ => .bl _))) hs_nil)
    (hs_one (hs_drop (hp_app (hp_tup (hpa_cons (opd_e (hp_v 6 (pv 6))) (hpa_cons (opd_e (hp_v 8 (pv 8))) (hpa_cons (opd_e (hp_v 10 (pv 10))) hpa_nil)))) (fun h => pe_bm PySem.F.plainAttrs_list PySem.F.slot_list_append PySem.F.type_list_append mt_append (pv 2) h)))))))))))))
    (hs_cons (hs_for PassesOwn.never rfl (hi_list (hp_op op_addAll (opd_e (hp_revS (pv 2) (pe_neg1 pe_int))) (opd_v 2 (pv 2)) op_addW)) (hg_tri (pg_tup rfl (pgs_cons (pg_name (i := 6) nd rfl (by first | exact .inl rfl | exact .inr rfl)) (pgs_cons (pg_name (i := 8) nd rfl (by first | exact .inl rfl | exact .inr rfl)) (pgs_cons (pg_name (i := 10) nd rfl (by first | exact .inl rfl | exact .inr rfl)) pgs_nil))))) (hs_one (hs_if (PW.pt (ht_or (ht_cmp (op_neP (u64 hr)) (opd_e (hp_callB (call_repr hgd (u150 hr)) op_reprW (by rfl) T.n_repr (by decide +kernel) (hpa_cons (opd_e (hp_callH g__law_said hgd (hr.mono (by decide)) (by rfl) (hpa_cons (opd_v 6 (pv 6)) (hpa_cons (opd_v 8 (pv 8)) hpa_nil)))) hpa_nil))) (opd_e (hp_callB (call_repr hgd (u150 hr)) op_reprW (by rfl) T.n_repr (by decide +kernel) (hpa_cons (opd_v 10 (pv 10)) hpa_nil))) op_eqPW (nomark _)) (ht_or1 (ht_cmp (op_neP (u64 hr)) (opd_e (hp_callB (call_repr hgd (u150 hr)) op_reprW (by rfl) T.n_repr (by decide +kernel) (hpa_cons (opd_e (hp_callH g__law_said hgd (hr.mono (by decide)) (by rfl) (hpa_cons (opd_v 6 (pv 6)) (hpa_cons (opd_e (hp_tup hpa_nil)) hpa_nil)))) hpa_nil))) (opd_e (hp_callB (call_repr hgd (u150 hr)) op_reprW (by rfl) T.n_repr (by decide +kernel) (hpa_cons (opd_v 6 (pv 6)) hpa_nil))) op_eqPW (nomark _))))) (hs_one (hs_ret (hp_k pe_bl fun _ => .bl _))) hs_nil)))
    (hs_one (hs_ret (hp_callH g__law_bounds_right hgd (hr.mono (by decide)) (by rfl) (hpa_cons (opd_v 1 (pv 1)) hpa_nil)))))))
theorem dX_put_round (T : Tops w K mg) (g_put_one : Has P w TB K mg base 1 "put_one" 2 sp_put_one_0dbed4) (g_need_surroundings : Has P w TB K mg base 7 "need_surroundings" 1 sp_need_surroundings_42129f) (gX_need_hand : HasX P w TB K mg base 6 "need_hand" 1 spX_need_hand_c39ac1) {fa : Addr} {cdv : Value} {A : Around} {outer : List Env} {s : Shared} {H : Hp} {E : XK} {en : Ent} {Z : HX} (hgd : (A.deeper (envOfC "put_round" (defScope s_put_round) s.heap.objs.size fa cdv)).guards = some []) (hr : Room 7 (A.deeper (envOfC "put_round" (defScope s_put_round) s.heap.objs.size fa cdv))) (tk : Takes (cxOf (L2.CX P w) P w K mg base ["hand", "steps", "step"] "put_round" (defScope s_put_round) fa cdv A outer s H E) (fun cls d _ H => E cls d H)) (lk : Lk K (fun cls d _ H => E cls d H) w TB en Z) :
    PSs (cxOf (L2.CX P w) P w K mg base ["hand", "steps", "step"] "put_round" (defScope s_put_round) fa cdv A outer s H E) (defBody s_put_round) (lfS K (f1 w TB (some en)) (hX_put_round_d1447a Z)) := by
  have nd := sc_put_round.nd
  exact (hs_cons (hs_drop (hp_callHX gX_need_hand tk lk hgd (hr.mono (by decide)) (by rfl) (hpa_cons (opd_v 0 (pv 0)) hpa_nil)))
    (hs_cons (hs_drop (hp_callH g_need_surroundings hgd (hr.mono (by decide)) (by rfl) (hpa_cons (opd_v 1 (pv 1)) hpa_nil)))
    (hs_cons (hs_for (passes_of rfl) rfl (hi_tup (hp_v 1 (pv 1))) (hg_name (pg_name (i := 2) nd rfl (by first | exact .inl rfl | exact .inr rfl))) (hs_one (hs_set (i := 0) nd rfl (.inl rfl) (hp_callH g_put_one hgd (hr.mono (by decide)) (by rfl) (hpa_cons (opd_v 0 (pv 0)) (hpa_cons (opd_v 2 (pv 2)) hpa_nil))))))
    (hs_cons (hs_drop (hp_callHX gX_need_hand tk lk hgd (hr.mono (by decide)) (by rfl) (hpa_cons (opd_v 0 (pv 0)) hpa_nil)))
    (hs_one (hs_ret (hp_m 0 (pv 0))))))))
theorem hasX_put_round (T : Tops w K mg) (g_put_one : Has P w TB K mg base 1 "put_one" 2 sp_put_one_0dbed4) (g_need_surroundings : Has P w TB K mg base 7 "need_surroundings" 1 sp_need_surroundings_42129f) (gX_need_hand : HasX P w TB K mg base 6 "need_hand" 1 spX_need_hand_c39ac1) {fa : Addr} {fd : FuncData} (Fn : Fun K "put_round" "put_round" s_put_round fa fd) (hm : mg "put_round" = some (.ref fa)) : HasX P w TB K mg base 8 "put_round" 2 spX_put_round_d1447a :=
  HasX.mk' (ps := ["hand", "steps"]) Fn hm (Fn.binds fun _ _ _ _ _ _ us hl => match us, hl with | [_, _], _ => rfl) sc_put_round (fun _ ecd _ _ _ _ _ _ _ hgd hr tk lk => dX_put_round T g_put_one g_need_surroundings gX_need_hand hgd hr tk lk) rdX_put_round_d1447a
theorem dX_need_hand (T : Tops w K mg) (g_is_hand : Has P w TB K mg base 5 "is_hand" 1 sp_is_hand_dc24ee) {fa : Addr} {cdv : Value} {A : Around} {outer : List Env} {s : Shared} {H : Hp} {E : XK} {en : Ent} {Z : HX} (hgd : (A.deeper (envOfC "need_hand" (defScope s_need_hand) s.heap.objs.size fa cdv)).guards = some []) (hr : Room 5 (A.deeper (envOfC "need_hand" (defScope s_need_hand) s.heap.objs.size fa cdv))) (tk : Takes (cxOf (L2.CX P w) P w K mg base ["thing"] "need_hand" (defScope s_need_hand) fa cdv A outer s H E) (fun cls d _ H => E cls d H)) (lk : Lk K (fun cls d _ H => E cls d H) w TB en Z) :
    PSs (cxOf (L2.CX P w) P w K mg base ["thing"] "need_hand" (defScope s_need_hand) fa cdv A outer s H E) (defBody s_need_hand) (lfS K (f1 w TB (some en)) (hX_need_hand_c39ac1 Z)) := by
  have nd := sc_need_hand.nd
  exact (hs_one (hs_if (ht_not (hp_test (hp_callH g_is_hand hgd (hr.mono (by decide)) (by rfl) (hpa_cons (opd_v 0 (pv 0)) hpa_nil)))) (hs_one (hs_raiseT T.xt T.ex_BadHand (by decide) tk lk rfl (by rfl))) hs_nil))
theorem hasX_need_hand (T : Tops w K mg) (g_is_hand : Has P w TB K mg base 5 "is_hand" 1 sp_is_hand_dc24ee) {fa : Addr} {fd : FuncData} (Fn : Fun K "need_hand" "need_hand" s_need_hand fa fd) (hm : mg "need_hand" = some (.ref fa)) : HasX P w TB K mg base 6 "need_hand" 1 spX_need_hand_c39ac1 :=
  HasX.mk' (ps := ["thing"]) Fn hm (Fn.binds fun _ _ _ _ _ _ us hl => match us, hl with | [_], _ => rfl) sc_need_hand (fun _ ecd _ _ _ _ _ _ _ hgd hr tk lk => dX_need_hand T g_is_hand hgd hr tk lk) rdX_need_hand_c39ac1
end
section
variable {P : Program} {w : World} {TB : Tbs} {K : PySem.W.Frag} {mg : Str → Option Value} {base : Heap}
abbrev s__law_draw : Stmt := topS 41
theorem sc__law_draw : FnScope ["_law_m", "_law_many", "_law_k", "_law_at", "_law_cell"] ["_law_m", "_law_many"] (defScope s__law_draw) := ⟨rfl, rfl, rfl, by decide +kernel, rfl, by decide +kernel, by decide +kernel⟩
theorem d__law_draw {P : Program} {w : World} {T : Tbs} {K : PySem.W.Frag} {mg : Str → Option Value} {base : Heap} (zl : mg "len" = none) (g__law_mixed : Has P w T K mg base 1 "_law_mixed" 2 spMixed) {fa : Addr} {cdv : Value} {A : Around} {outer : List Env} {s : Shared} {H : Hp} {E : XK} (hgd : (A.deeper (envOfC "_law_draw" (defScope s__law_draw) s.heap.objs.size fa cdv)).guards = some []) (hr : Room 1 (A.deeper (envOfC "_law_draw" (defScope s__law_draw) s.heap.objs.size fa cdv))) :
    PSs (cxOf CX0 P w K mg base ["_law_m", "_law_many", "_law_k", "_law_at", "_law_cell"] "_law_draw" (defScope s__law_draw) fa cdv A outer s H E).nox (defBody s__law_draw) (t_draw K w T) := by
  have nd := sc__law_draw.nd
  obtain ⟨fm, fd, ps, _, G, hm, kp, b⟩ := g__law_mixed.ex
  exact pss_cons (ps_set (i := 2) nd rfl (.inl rfl) (pe_dget (u1 hr) (pv 0) pe_str (fun _ _ => rfl)))
    (pss_cons (ps_dput (u1 hr) (pv 0) pe_str (pe_op op_add (pv 2) pe_int) rfl)
    (pss_cons (ps_if (pt_cmpR (op_neP (u64 hr)) (pe_dget (u1 hr) (pv 0) pe_str (fun _ _ => rfl)) (pe_lst pa_nil) (nomark _))
        (pss_cons (ps_set (i := 3) nd rfl (.inl rfl) (pe_op op_mod (pv 2) (pe_callB call_len_seq (by rfl) zl PySem.boot_len (pa_cons (pe_dget (u1 hr) (pv 0) pe_str (fun _ _ => rfl)) pa_nil))))
        (pss_cons (ps_set (i := 4) nd rfl (.inl rfl) (pe_ix ix_list (pe_dget (u1 hr) (pv 0) pe_str (fun _ _ => rfl)) (pv 3) (fun _ _ => rfl)))
        (pss_one (ps_if (pt_cmpR op_gt (pv 4) pe_int (nomark _))
          (pss_cons (ps_asg (pe_op op_fdivW (pv 4) (pv 1)) (pg_sub (pe_dget (u1 hr) (pv 0) pe_str (fun _ _ => rfl)) (pv 3) set_list))
          (pss_one (ps_ret (pe_op op_mod (pv 4) (pv 1))))) pss_nil)))) pss_nil)
    (pss_one (ps_ret (pe_op op_mod (pe_callG G hgd (hr.mono (by decide)) (by rfl) hm kp b pass0 (pa_cons (pe_callG G hgd (hr.mono (by decide)) (by rfl) hm kp b pass0 (pa_cons (pe_op op_add (pe_ix ix_list (pe_dget (u1 hr) (pv 0) pe_str (fun _ _ => rfl)) (pe_op op_mod (pv 2) pe_int) (fun _ _ => rfl)) (pe_op op_mulW pe_int (pe_op op_fdivW (pv 2) pe_int))) (pa_cons (pv 2) pa_nil))) (pa_cons (pe_op op_add (pv 2) pe_int) pa_nil))) (pv 1))))))

abbrev s__law_begun : Stmt := topS 42
theorem sc__law_begun : FnScope ["_law_script", "_law_m", "_law_cell"] ["_law_script"] (defScope s__law_begun) := ⟨rfl, rfl, rfl, by decide +kernel, rfl, by decide +kernel, by decide +kernel⟩
theorem d__law_begun {P : Program} {w : World} {K : PySem.W.Frag} {mg : Str → Option Value} {base : Heap} (g__law_folded : Has P w [] K mg base 1 "_law_folded" 1 spFolded) {fa : Addr} {cdv : Value} {A : Around} {outer : List Env} {s : Shared} {H : Hp} {E : XK} (hgd : (A.deeper (envOfC "_law_begun" (defScope s__law_begun) s.heap.objs.size fa cdv)).guards = some []) (hr : Room 1 (A.deeper (envOfC "_law_begun" (defScope s__law_begun) s.heap.objs.size fa cdv))) :
    PSs (cxOf CX0 P w K mg base ["_law_script", "_law_m", "_law_cell"] "_law_begun" (defScope s__law_begun) fa cdv A outer s H E).nox (defBody s__law_begun) (t_begun K w [(tC (.str "room"), tC (.int 12))]) := by
  have nd := sc__law_begun.nd
  obtain ⟨fm, fd, ps, _, G, hm, kp, b⟩ := g__law_folded.ex
  exact pss_cons (ps_set (i := 1) nd rfl (.inl rfl) (pe_disp (pps_cons pe_str (pe_callG G hgd (hr.mono (by decide)) (by rfl) hm kp b pass0 (pa_cons (pv 0) pa_nil)) (pps_cons pe_str (pe_lst pa_nil) (pps_cons pe_str pe_int (pps_cons pe_str pe_int pps_nil)))) (by rfl) (by rfl) (fun z => by cases z) (by decide)))
    (pss_cons (ps_dput (u1 hr) (pv 1) pe_str (hp_lc (pe_lc (own := [("_law_cell", 2)]) rfl nd (hi_list (hp_v 0 (pv 0))) (blkOk_by (own := [("_law_cell", 2)]) (N := ["_law_script", "_law_m", "_law_cell"]) (sc := defScope s__law_begun) (by decide +kernel)) (fun _ _ _ _ _ => (hg_name (pg_name (i := 2) nd rfl (.inl rfl)))) (fun _ _ _ _ _ => pts_yes)
      (fun _ _ _ _ _ => (hp_if (ht_cmp op_ge (opd_v 2 (pv 2)) (opd_e (hp_op op_pow (opd_e (hp_k pe_int fun _ => .int _)) (opd_e (hp_k pe_int fun _ => .int _)) op_powW)) op_geW (nomark _)) (hp_v 2 (pv 2)) (hp_k pe_int fun _ => .int _)))) (by decide) gl_name) rfl)
    (pss_one (ps_ret (pv 1))))

theorem all_mk {w : World} {K : PySem.W.Frag} {h : Heap} {mg : Str → Option Value} {fa : Addr} (X : K.In h) (G : h.Ns mainGlobals mg) (hfa : mg "law" = some (.ref fa))
    {f0 : Addr} {od0 an0 : Option Addr} {sl0 : Array (Option Value)} {oc0 kV0 dc0 pm0 cd0 ct0 : Value} (a0 : PySem.W.nsIn K mainGlobals "is_word" = some (some (.ref f0))) (l0 : K.lookup f0 = some ⟨oc0, od0, .func (PySem.W.fnOf "is_word" "is_word" (defArgs s_is_word) (defBody s_is_word) (defScope s_is_word) .none kV0 dc0 pm0 an0 cd0 ct0), sl0⟩) (c0 : PySem.W.codeIn K cd0 "is_word" = true) (k0 : PySem.W.keepIn K (.ref f0) = true)
    {f1 : Addr} {od1 an1 : Option Addr} {sl1 : Array (Option Value)} {oc1 kV1 dc1 pm1 cd1 ct1 : Value} (a1 : PySem.W.nsIn K mainGlobals "is_row" = some (some (.ref f1))) (l1 : K.lookup f1 = some ⟨oc1, od1, .func (PySem.W.fnOf "is_row" "is_row" (defArgs s_is_row) (defBody s_is_row) (defScope s_is_row) .none kV1 dc1 pm1 an1 cd1 ct1), sl1⟩) (c1 : PySem.W.codeIn K cd1 "is_row" = true) (k1 : PySem.W.keepIn K (.ref f1) = true)
    {f2 : Addr} {od2 an2 : Option Addr} {sl2 : Array (Option Value)} {oc2 kV2 dc2 pm2 cd2 ct2 : Value} (a2 : PySem.W.nsIn K mainGlobals "is_rising" = some (some (.ref f2))) (l2 : K.lookup f2 = some ⟨oc2, od2, .func (PySem.W.fnOf "is_rising" "is_rising" (defArgs s_is_rising) (defBody s_is_rising) (defScope s_is_rising) .none kV2 dc2 pm2 an2 cd2 ct2), sl2⟩) (c2 : PySem.W.codeIn K cd2 "is_rising" = true) (k2 : PySem.W.keepIn K (.ref f2) = true)
    {f3 : Addr} {od3 an3 : Option Addr} {sl3 : Array (Option Value)} {oc3 kV3 dc3 pm3 cd3 ct3 : Value} (a3 : PySem.W.nsIn K mainGlobals "is_set" = some (some (.ref f3))) (l3 : K.lookup f3 = some ⟨oc3, od3, .func (PySem.W.fnOf "is_set" "is_set" (defArgs s_is_set) (defBody s_is_set) (defScope s_is_set) .none kV3 dc3 pm3 an3 cd3 ct3), sl3⟩) (c3 : PySem.W.codeIn K cd3 "is_set" = true) (k3 : PySem.W.keepIn K (.ref f3) = true)
    {f4 : Addr} {od4 an4 : Option Addr} {sl4 : Array (Option Value)} {oc4 kV4 dc4 pm4 cd4 ct4 : Value} (a4 : PySem.W.nsIn K mainGlobals "is_pairs" = some (some (.ref f4))) (l4 : K.lookup f4 = some ⟨oc4, od4, .func (PySem.W.fnOf "is_pairs" "is_pairs" (defArgs s_is_pairs) (defBody s_is_pairs) (defScope s_is_pairs) .none kV4 dc4 pm4 an4 cd4 ct4), sl4⟩) (c4 : PySem.W.codeIn K cd4 "is_pairs" = true) (k4 : PySem.W.keepIn K (.ref f4) = true)
    {f5 : Addr} {od5 an5 : Option Addr} {sl5 : Array (Option Value)} {oc5 kV5 dc5 pm5 cd5 ct5 : Value} (a5 : PySem.W.nsIn K mainGlobals "is_form" = some (some (.ref f5))) (l5 : K.lookup f5 = some ⟨oc5, od5, .func (PySem.W.fnOf "is_form" "is_form" (defArgs s_is_form) (defBody s_is_form) (defScope s_is_form) .none kV5 dc5 pm5 an5 cd5 ct5), sl5⟩) (c5 : PySem.W.codeIn K cd5 "is_form" = true) (k5 : PySem.W.keepIn K (.ref f5) = true)
    {f6 : Addr} {od6 an6 : Option Addr} {sl6 : Array (Option Value)} {oc6 kV6 dc6 pm6 cd6 ct6 : Value} (a6 : PySem.W.nsIn K mainGlobals "beneath" = some (some (.ref f6))) (l6 : K.lookup f6 = some ⟨oc6, od6, .func (PySem.W.fnOf "beneath" "beneath" (defArgs s_beneath) (defBody s_beneath) (defScope s_beneath) .none kV6 dc6 pm6 an6 cd6 ct6), sl6⟩) (c6 : PySem.W.codeIn K cd6 "beneath" = true) (k6 : PySem.W.keepIn K (.ref f6) = true)
    {f7 : Addr} {od7 an7 : Option Addr} {sl7 : Array (Option Value)} {oc7 kV7 dc7 pm7 cd7 ct7 : Value} (a7 : PySem.W.nsIn K mainGlobals "is_hand" = some (some (.ref f7))) (l7 : K.lookup f7 = some ⟨oc7, od7, .func (PySem.W.fnOf "is_hand" "is_hand" (defArgs s_is_hand) (defBody s_is_hand) (defScope s_is_hand) .none kV7 dc7 pm7 an7 cd7 ct7), sl7⟩) (c7 : PySem.W.codeIn K cd7 "is_hand" = true) (k7 : PySem.W.keepIn K (.ref f7) = true)
    {f8 : Addr} {od8 an8 : Option Addr} {sl8 : Array (Option Value)} {oc8 kV8 dc8 pm8 cd8 ct8 : Value} (a8 : PySem.W.nsIn K mainGlobals "need_hand" = some (some (.ref f8))) (l8 : K.lookup f8 = some ⟨oc8, od8, .func (PySem.W.fnOf "need_hand" "need_hand" (defArgs s_need_hand) (defBody s_need_hand) (defScope s_need_hand) .none kV8 dc8 pm8 an8 cd8 ct8), sl8⟩) (c8 : PySem.W.codeIn K cd8 "need_hand" = true) (k8 : PySem.W.keepIn K (.ref f8) = true)
    {f9 : Addr} {od9 an9 : Option Addr} {sl9 : Array (Option Value)} {oc9 kV9 dc9 pm9 cd9 ct9 : Value} (a9 : PySem.W.nsIn K mainGlobals "is_step" = some (some (.ref f9))) (l9 : K.lookup f9 = some ⟨oc9, od9, .func (PySem.W.fnOf "is_step" "is_step" (defArgs s_is_step) (defBody s_is_step) (defScope s_is_step) .none kV9 dc9 pm9 an9 cd9 ct9), sl9⟩) (c9 : PySem.W.codeIn K cd9 "is_step" = true) (k9 : PySem.W.keepIn K (.ref f9) = true)
    {f10 : Addr} {od10 an10 : Option Addr} {sl10 : Array (Option Value)} {oc10 kV10 dc10 pm10 cd10 ct10 : Value} (a10 : PySem.W.nsIn K mainGlobals "need_surroundings" = some (some (.ref f10))) (l10 : K.lookup f10 = some ⟨oc10, od10, .func (PySem.W.fnOf "need_surroundings" "need_surroundings" (defArgs s_need_surroundings) (defBody s_need_surroundings) (defScope s_need_surroundings) .none kV10 dc10 pm10 an10 cd10 ct10), sl10⟩) (c10 : PySem.W.codeIn K cd10 "need_surroundings" = true) (k10 : PySem.W.keepIn K (.ref f10) = true)
    {f11 : Addr} {od11 an11 : Option Addr} {sl11 : Array (Option Value)} {oc11 kV11 dc11 pm11 cd11 ct11 : Value} (a11 : PySem.W.nsIn K mainGlobals "put_one" = some (some (.ref f11))) (l11 : K.lookup f11 = some ⟨oc11, od11, .func (PySem.W.fnOf "put_one" "put_one" (defArgs s_put_one) (defBody s_put_one) (defScope s_put_one) .none kV11 dc11 pm11 an11 cd11 ct11), sl11⟩) (c11 : PySem.W.codeIn K cd11 "put_one" = true) (k11 : PySem.W.keepIn K (.ref f11) = true)
    {f12 : Addr} {od12 an12 : Option Addr} {sl12 : Array (Option Value)} {oc12 kV12 dc12 pm12 cd12 ct12 : Value} (a12 : PySem.W.nsIn K mainGlobals "put_round" = some (some (.ref f12))) (l12 : K.lookup f12 = some ⟨oc12, od12, .func (PySem.W.fnOf "put_round" "put_round" (defArgs s_put_round) (defBody s_put_round) (defScope s_put_round) .none kV12 dc12 pm12 an12 cd12 ct12), sl12⟩) (c12 : PySem.W.codeIn K cd12 "put_round" = true) (k12 : PySem.W.keepIn K (.ref f12) = true)
    {f13 : Addr} {od13 an13 : Option Addr} {sl13 : Array (Option Value)} {oc13 kV13 dc13 pm13 cd13 ct13 : Value} (a13 : PySem.W.nsIn K mainGlobals "_law_mixed" = some (some (.ref f13))) (l13 : K.lookup f13 = some ⟨oc13, od13, .func (PySem.W.fnOf "_law_mixed" "_law_mixed" (defArgs s__law_mixed) (defBody s__law_mixed) (defScope s__law_mixed) .none kV13 dc13 pm13 an13 cd13 ct13), sl13⟩) (c13 : PySem.W.codeIn K cd13 "_law_mixed" = true) (k13 : PySem.W.keepIn K (.ref f13) = true)
    {f14 : Addr} {od14 an14 : Option Addr} {sl14 : Array (Option Value)} {oc14 kV14 dc14 pm14 cd14 ct14 : Value} (a14 : PySem.W.nsIn K mainGlobals "_law_folded" = some (some (.ref f14))) (l14 : K.lookup f14 = some ⟨oc14, od14, .func (PySem.W.fnOf "_law_folded" "_law_folded" (defArgs s__law_folded) (defBody s__law_folded) (defScope s__law_folded) .none kV14 dc14 pm14 an14 cd14 ct14), sl14⟩) (c14 : PySem.W.codeIn K cd14 "_law_folded" = true) (k14 : PySem.W.keepIn K (.ref f14) = true)
    {f15 : Addr} {od15 an15 : Option Addr} {sl15 : Array (Option Value)} {oc15 kV15 dc15 pm15 cd15 ct15 : Value} (a15 : PySem.W.nsIn K mainGlobals "_law_draw" = some (some (.ref f15))) (l15 : K.lookup f15 = some ⟨oc15, od15, .func (PySem.W.fnOf "_law_draw" "_law_draw" (defArgs s__law_draw) (defBody s__law_draw) (defScope s__law_draw) .none kV15 dc15 pm15 an15 cd15 ct15), sl15⟩) (c15 : PySem.W.codeIn K cd15 "_law_draw" = true) (k15 : PySem.W.keepIn K (.ref f15) = true)
    {f16 : Addr} {od16 an16 : Option Addr} {sl16 : Array (Option Value)} {oc16 kV16 dc16 pm16 cd16 ct16 : Value} (a16 : PySem.W.nsIn K mainGlobals "_law_begun" = some (some (.ref f16))) (l16 : K.lookup f16 = some ⟨oc16, od16, .func (PySem.W.fnOf "_law_begun" "_law_begun" (defArgs s__law_begun) (defBody s__law_begun) (defScope s__law_begun) .none kV16 dc16 pm16 an16 cd16 ct16), sl16⟩) (c16 : PySem.W.codeIn K cd16 "_law_begun" = true) (k16 : PySem.W.keepIn K (.ref f16) = true)
    {f17 : Addr} {od17 an17 : Option Addr} {sl17 : Array (Option Value)} {oc17 kV17 dc17 pm17 cd17 ct17 : Value} (a17 : PySem.W.nsIn K mainGlobals "_law_words" = some (some (.ref f17))) (l17 : K.lookup f17 = some ⟨oc17, od17, .func (PySem.W.fnOf "_law_words" "_law_words" (defArgs s__law_words) (defBody s__law_words) (defScope s__law_words) .none kV17 dc17 pm17 an17 cd17 ct17), sl17⟩) (c17 : PySem.W.codeIn K cd17 "_law_words" = true) (k17 : PySem.W.keepIn K (.ref f17) = true)
    {f18 : Addr} {od18 an18 : Option Addr} {sl18 : Array (Option Value)} {oc18 kV18 dc18 pm18 cd18 ct18 : Value} (a18 : PySem.W.nsIn K mainGlobals "_law_set" = some (some (.ref f18))) (l18 : K.lookup f18 = some ⟨oc18, od18, .func (PySem.W.fnOf "_law_set" "_law_set" (defArgs s__law_set) (defBody s__law_set) (defScope s__law_set) .none kV18 dc18 pm18 an18 cd18 ct18), sl18⟩) (c18 : PySem.W.codeIn K cd18 "_law_set" = true) (k18 : PySem.W.keepIn K (.ref f18) = true)
    {f19 : Addr} {od19 an19 : Option Addr} {sl19 : Array (Option Value)} {oc19 kV19 dc19 pm19 cd19 ct19 : Value} (a19 : PySem.W.nsIn K mainGlobals "_law_pairs" = some (some (.ref f19))) (l19 : K.lookup f19 = some ⟨oc19, od19, .func (PySem.W.fnOf "_law_pairs" "_law_pairs" (defArgs s__law_pairs) (defBody s__law_pairs) (defScope s__law_pairs) .none kV19 dc19 pm19 an19 cd19 ct19), sl19⟩) (c19 : PySem.W.codeIn K cd19 "_law_pairs" = true) (k19 : PySem.W.keepIn K (.ref f19) = true)
    {f20 : Addr} {od20 an20 : Option Addr} {sl20 : Array (Option Value)} {oc20 kV20 dc20 pm20 cd20 ct20 : Value} (a20 : PySem.W.nsIn K mainGlobals "_law_hand" = some (some (.ref f20))) (l20 : K.lookup f20 = some ⟨oc20, od20, .func (PySem.W.fnOf "_law_hand" "_law_hand" (defArgs s__law_hand) (defBody s__law_hand) (defScope s__law_hand) .none kV20 dc20 pm20 an20 cd20 ct20), sl20⟩) (c20 : PySem.W.codeIn K cd20 "_law_hand" = true) (k20 : PySem.W.keepIn K (.ref f20) = true)
    {f21 : Addr} {od21 an21 : Option Addr} {sl21 : Array (Option Value)} {oc21 kV21 dc21 pm21 cd21 ct21 : Value} (a21 : PySem.W.nsIn K mainGlobals "_law_step" = some (some (.ref f21))) (l21 : K.lookup f21 = some ⟨oc21, od21, .func (PySem.W.fnOf "_law_step" "_law_step" (defArgs s__law_step) (defBody s__law_step) (defScope s__law_step) .none kV21 dc21 pm21 an21 cd21 ct21), sl21⟩) (c21 : PySem.W.codeIn K cd21 "_law_step" = true) (k21 : PySem.W.keepIn K (.ref f21) = true)
    {f22 : Addr} {od22 an22 : Option Addr} {sl22 : Array (Option Value)} {oc22 kV22 dc22 pm22 cd22 ct22 : Value} (a22 : PySem.W.nsIn K mainGlobals "_law_put" = some (some (.ref f22))) (l22 : K.lookup f22 = some ⟨oc22, od22, .func (PySem.W.fnOf "_law_put" "_law_put" (defArgs s__law_put) (defBody s__law_put) (defScope s__law_put) .none kV22 dc22 pm22 an22 cd22 ct22), sl22⟩) (c22 : PySem.W.codeIn K cd22 "_law_put" = true) (k22 : PySem.W.keepIn K (.ref f22) = true)
    {f23 : Addr} {od23 an23 : Option Addr} {sl23 : Array (Option Value)} {oc23 kV23 dc23 pm23 cd23 ct23 : Value} (a23 : PySem.W.nsIn K mainGlobals "_law_is_other" = some (some (.ref f23))) (l23 : K.lookup f23 = some ⟨oc23, od23, .func (PySem.W.fnOf "_law_is_other" "_law_is_other" (defArgs s__law_is_other) (defBody s__law_is_other) (defScope s__law_is_other) .none kV23 dc23 pm23 an23 cd23 ct23), sl23⟩) (c23 : PySem.W.codeIn K cd23 "_law_is_other" = true) (k23 : PySem.W.keepIn K (.ref f23) = true)
    {f24 : Addr} {od24 an24 : Option Addr} {sl24 : Array (Option Value)} {oc24 kV24 dc24 pm24 cd24 ct24 : Value} (a24 : PySem.W.nsIn K mainGlobals "_law_said" = some (some (.ref f24))) (l24 : K.lookup f24 = some ⟨oc24, od24, .func (PySem.W.fnOf "_law_said" "_law_said" (defArgs s__law_said) (defBody s__law_said) (defScope s__law_said) .none kV24 dc24 pm24 an24 cd24 ct24), sl24⟩) (c24 : PySem.W.codeIn K cd24 "_law_said" = true) (k24 : PySem.W.keepIn K (.ref f24) = true)
    {f25 : Addr} {od25 an25 : Option Addr} {sl25 : Array (Option Value)} {oc25 kV25 dc25 pm25 cd25 ct25 : Value} (a25 : PySem.W.nsIn K mainGlobals "_law_chain" = some (some (.ref f25))) (l25 : K.lookup f25 = some ⟨oc25, od25, .func (PySem.W.fnOf "_law_chain" "_law_chain" (defArgs s__law_chain) (defBody s__law_chain) (defScope s__law_chain) .none kV25 dc25 pm25 an25 cd25 ct25), sl25⟩) (c25 : PySem.W.codeIn K cd25 "_law_chain" = true) (k25 : PySem.W.keepIn K (.ref f25) = true)
    {f26 : Addr} {od26 an26 : Option Addr} {sl26 : Array (Option Value)} {oc26 kV26 dc26 pm26 cd26 ct26 : Value} (a26 : PySem.W.nsIn K mainGlobals "_law_bush" = some (some (.ref f26))) (l26 : K.lookup f26 = some ⟨oc26, od26, .func (PySem.W.fnOf "_law_bush" "_law_bush" (defArgs s__law_bush) (defBody s__law_bush) (defScope s__law_bush) .none kV26 dc26 pm26 an26 cd26 ct26), sl26⟩) (c26 : PySem.W.codeIn K cd26 "_law_bush" = true) (k26 : PySem.W.keepIn K (.ref f26) = true)
    {f27 : Addr} {od27 an27 : Option Addr} {sl27 : Array (Option Value)} {oc27 kV27 dc27 pm27 cd27 ct27 : Value} (a27 : PySem.W.nsIn K mainGlobals "_law_bounds_right" = some (some (.ref f27))) (l27 : K.lookup f27 = some ⟨oc27, od27, .func (PySem.W.fnOf "_law_bounds_right" "_law_bounds_right" (defArgs s__law_bounds_right) (defBody s__law_bounds_right) (defScope s__law_bounds_right) .none kV27 dc27 pm27 an27 cd27 ct27), sl27⟩) (c27 : PySem.W.codeIn K cd27 "_law_bounds_right" = true) (k27 : PySem.W.keepIn K (.ref f27) = true)
    {f28 : Addr} {od28 an28 : Option Addr} {sl28 : Array (Option Value)} {oc28 kV28 dc28 pm28 cd28 ct28 : Value} (a28 : PySem.W.nsIn K mainGlobals "law" = some (some (.ref f28))) (l28 : K.lookup f28 = some ⟨oc28, od28, .func (PySem.W.fnOf "law" "law" (defArgs s_law) (defBody s_law) (defScope s_law) .none kV28 dc28 pm28 an28 cd28 ct28), sl28⟩) (c28 : PySem.W.codeIn K cd28 "law" = true) (k28 : PySem.W.keepIn K (.ref f28) = true)
    (z0 : PySem.W.nsIn K mainGlobals "ValueError" = some none)
    (z1 : PySem.W.nsIn K mainGlobals "all" = some none)
    (z2 : PySem.W.nsIn K mainGlobals "enumerate" = some none)
    (z3 : PySem.W.nsIn K mainGlobals "isinstance" = some none)
    (z4 : PySem.W.nsIn K mainGlobals "len" = some none)
    (z5 : PySem.W.nsIn K mainGlobals "range" = some none)
    (z6 : PySem.W.nsIn K mainGlobals "repr" = some none)
    (z7 : PySem.W.nsIn K mainGlobals "sorted" = some none)
    (z8 : PySem.W.nsIn K mainGlobals "str" = some none)
    (z9 : PySem.W.nsIn K mainGlobals "tuple" = some none)
    (z10 : PySem.W.nsIn K mainGlobals "zip" = some none)
    {b0 : Addr} {o0 : Obj} (u0 : PySem.W.nsIn K mainGlobals "BARS" = some (some (.ref b0))) (w0 : K.lookup b0 = some o0) (t0 : TupK o0 [V.str "stop", V.str "spin", V.str "out", V.str "own", V.str "beside", V.str "hide", V.str "as"])
    {b1 : Value} (u1 : PySem.W.nsIn K mainGlobals "LETTERS" = some (some b1)) (w1 : RelV (V.str "abcdefghijklmnopqrstuvwxyz") b1)
    {b2 : Value} (u2 : PySem.W.nsIn K mainGlobals "MOST_DEEDS" = some (some b2)) (w2 : RelV (V.int 8) b2)
    {b3 : Value} (u3 : PySem.W.nsIn K mainGlobals "MOST_DEEP" = some (some b3)) (w3 : RelV (V.int 40) b3)
    {b4 : Value} (u4 : PySem.W.nsIn K mainGlobals "MOST_LETTERS" = some (some b4)) (w4 : RelV (V.int 6) b4)
    {b5 : Value} (u5 : PySem.W.nsIn K mainGlobals "MOST_SIZE" = some (some b5)) (w5 : RelV (V.int 200) b5)
    {b6 : Value} (u6 : PySem.W.nsIn K mainGlobals "MOST_STEPS" = some (some b6)) (w6 : RelV (V.int 10) b6)
    {db0 : Addr} {do0 : Obj} (du0 : PySem.W.nsIn K mainGlobals "LONG_forms" = some (some (.ref db0))) (dl0 : K.lookup db0 = some do0) (dt0 : DicK w db0 do0 c_LONG_forms)
    {db1 : Addr} {do1 : Obj} (du1 : PySem.W.nsIn K mainGlobals "LONG_surroundings" = some (some (.ref db1))) (dl1 : K.lookup db1 = some do1) (dt1 : DicK w db1 do1 c_LONG_surroundings)
    {C_BadDeeds : Addr} (xc_BadDeeds : PySem.W.nsIn K mainGlobals "BadDeeds" = some (some (.ref C_BadDeeds)))
    {C_BadHand : Addr} (xc_BadHand : PySem.W.nsIn K mainGlobals "BadHand" = some (some (.ref C_BadHand)))
    {C_BadHouse : Addr} (xc_BadHouse : PySem.W.nsIn K mainGlobals "BadHouse" = some (some (.ref C_BadHouse)))
    {C_BadMachine : Addr} (xc_BadMachine : PySem.W.nsIn K mainGlobals "BadMachine" = some (some (.ref C_BadMachine)))
    {C_BadNode : Addr} (xc_BadNode : PySem.W.nsIn K mainGlobals "BadNode" = some (some (.ref C_BadNode)))
    {C_BadPaper : Addr} (xc_BadPaper : PySem.W.nsIn K mainGlobals "BadPaper" = some (some (.ref C_BadPaper)))
    {C_BadRow : Addr} (xc_BadRow : PySem.W.nsIn K mainGlobals "BadRow" = some (some (.ref C_BadRow)))
    {C_BadText : Addr} (xc_BadText : PySem.W.nsIn K mainGlobals "BadText" = some (some (.ref C_BadText)))
    {C_BadWay : Addr} (xc_BadWay : PySem.W.nsIn K mainGlobals "BadWay" = some (some (.ref C_BadWay)))
    {C_HandError : Addr} (xc_HandError : PySem.W.nsIn K mainGlobals "HandError" = some (some (.ref C_HandError)))
    {C_NoName : Addr} (xc_NoName : PySem.W.nsIn K mainGlobals "NoName" = some (some (.ref C_NoName)))
    {C_TooGreat : Addr} (xc_TooGreat : PySem.W.nsIn K mainGlobals "TooGreat" = some (some (.ref C_TooGreat)))
    (xo_BadDeeds : exOk K "BadDeeds" = true)
    (xo_BadHand : exOk K "BadHand" = true)
    (xo_BadHouse : exOk K "BadHouse" = true)
    (xo_BadMachine : exOk K "BadMachine" = true)
    (xo_BadNode : exOk K "BadNode" = true)
    (xo_BadRow : exOk K "BadRow" = true)
    (xo_BadWay : exOk K "BadWay" = true)
    (xo_BadPaper : exOk K "BadPaper" = true)
    (xo_NoName : exOk K "NoName" = true)
    (xo_TooGreat : exOk K "TooGreat" = true)
    (xo_non : exNon K = true)
    : ∃ fd : FuncData, (∀ (s : Shared) (v : Value), BindsTo s fd ⟨[v], []⟩ [("_law_script", v)]) ∧ ∀ base : Heap, K.In base → base.Ns mainGlobals mg → GnOk P w K mg base CX0 14 fa fd ["_law_script"] (spLaw K []) := by
  have e := hfa.symm.trans (PySem.W.mg_of X G a28)
  cases e
  have T : Tops w K mg := { n_ValueError := PySem.W.mg_none_of X G z0, n_all := PySem.W.mg_none_of X G z1, n_enumerate := PySem.W.mg_none_of X G z2, n_isinstance := PySem.W.mg_none_of X G z3, n_len := PySem.W.mg_none_of X G z4, n_range := PySem.W.mg_none_of X G z5, n_repr := PySem.W.mg_none_of X G z6, n_sorted := PySem.W.mg_none_of X G z7, n_str := PySem.W.mg_none_of X G z8, n_tuple := PySem.W.mg_none_of X G z9, n_zip := PySem.W.mg_none_of X G z10, c_BARS := cst_t X G u0 w0 t0 fun G => .cons (.str _) (.cons (.str _) (.cons (.str _) (.cons (.str _) (.cons (.str _) (.cons (.str _) (.cons (.str _) (.nil))))))), c_LETTERS := cst_v X G u1 w1 fun G => .str _, c_MOST_DEEDS := cst_v X G u2 w2 fun G => .int _, c_MOST_DEEP := cst_v X G u3 w3 fun G => .int _, c_MOST_LETTERS := cst_v X G u4 w4 fun G => .int _, c_MOST_SIZE := cst_v X G u5 w5 fun G => .int _, c_MOST_STEPS := cst_v X G u6 w6 fun G => .int _, cd_LONG_forms := ⟨_, _, PySem.W.mg_of X G du0, dl0, dt0⟩, cd_LONG_surroundings := ⟨_, _, PySem.W.mg_of X G du1, dl1, dt1⟩, ex_BadDeeds := ⟨_, xc_BadDeeds, PySem.W.mg_of X G xc_BadDeeds⟩, ex_BadHand := ⟨_, xc_BadHand, PySem.W.mg_of X G xc_BadHand⟩, ex_BadHouse := ⟨_, xc_BadHouse, PySem.W.mg_of X G xc_BadHouse⟩, ex_BadMachine := ⟨_, xc_BadMachine, PySem.W.mg_of X G xc_BadMachine⟩, ex_BadNode := ⟨_, xc_BadNode, PySem.W.mg_of X G xc_BadNode⟩, ex_BadPaper := ⟨_, xc_BadPaper, PySem.W.mg_of X G xc_BadPaper⟩, ex_BadRow := ⟨_, xc_BadRow, PySem.W.mg_of X G xc_BadRow⟩, ex_BadText := ⟨_, xc_BadText, PySem.W.mg_of X G xc_BadText⟩, ex_BadWay := ⟨_, xc_BadWay, PySem.W.mg_of X G xc_BadWay⟩, ex_HandError := ⟨_, xc_HandError, PySem.W.mg_of X G xc_HandError⟩, ex_NoName := ⟨_, xc_NoName, PySem.W.mg_of X G xc_NoName⟩, ex_TooGreat := ⟨_, xc_TooGreat, PySem.W.mg_of X G xc_TooGreat⟩, xt := ⟨fun x hx => by (simp only [exNames, List.mem_cons, List.not_mem_nil, or_false] at hx; rcases hx with rfl | rfl | rfl | rfl | rfl | rfl | rfl | rfl | rfl | rfl <;> assumption), xo_non⟩ }
  have F0 := fun_mk (st := s_is_word) l0 c0 k0
  have F1 := fun_mk (st := s_is_row) l1 c1 k1
  have F2 := fun_mk (st := s_is_rising) l2 c2 k2
  have F3 := fun_mk (st := s_is_set) l3 c3 k3
  have F4 := fun_mk (st := s_is_pairs) l4 c4 k4
  have F5 := fun_mk (st := s_is_form) l5 c5 k5
  have F6 := fun_mk (st := s_beneath) l6 c6 k6
  have F7 := fun_mk (st := s_is_hand) l7 c7 k7
  have F8 := fun_mk (st := s_need_hand) l8 c8 k8
  have F9 := fun_mk (st := s_is_step) l9 c9 k9
  have F10 := fun_mk (st := s_need_surroundings) l10 c10 k10
  have F11 := fun_mk (st := s_put_one) l11 c11 k11
  have F12 := fun_mk (st := s_put_round) l12 c12 k12
  have F13 := fun_mk (st := s__law_mixed) l13 c13 k13
  have F14 := fun_mk (st := s__law_folded) l14 c14 k14
  have F15 := fun_mk (st := s__law_draw) l15 c15 k15
  have F16 := fun_mk (st := s__law_begun) l16 c16 k16
  have F17 := fun_mk (st := s__law_words) l17 c17 k17
  have F18 := fun_mk (st := s__law_set) l18 c18 k18
  have F19 := fun_mk (st := s__law_pairs) l19 c19 k19
  have F20 := fun_mk (st := s__law_hand) l20 c20 k20
  have F21 := fun_mk (st := s__law_step) l21 c21 k21
  have F22 := fun_mk (st := s__law_put) l22 c22 k22
  have F23 := fun_mk (st := s__law_is_other) l23 c23 k23
  have F24 := fun_mk (st := s__law_said) l24 c24 k24
  have F25 := fun_mk (st := s__law_chain) l25 c25 k25
  have F26 := fun_mk (st := s__law_bush) l26 c26 k26
  have F27 := fun_mk (st := s__law_bounds_right) l27 c27 k27
  have F28 := fun_mk (st := s_law) l28 c28 k28
  refine ⟨PySem.W.fnOf "law" "law" (defArgs s_law) (defBody s_law) (defScope s_law) .none kV28 dc28 pm28 an28 cd28 ct28, fun s v => .of_eq rfl, fun base _ _ => ?_⟩
  have g_is_word := has_is_word (P := P) (w := w) (TB := []) (base := base) T  F0 (PySem.W.mg_of X G a0)
  have g_is_rising := has_is_rising (P := P) (w := w) (TB := []) (base := base) T  F2 (PySem.W.mg_of X G a2)
  have g_beneath := has_beneath (P := P) (w := w) (TB := []) (base := base) T  F6 (PySem.W.mg_of X G a6)
  have g_put_one := has_put_one (P := P) (w := w) (TB := []) (base := base) T  F11 (PySem.W.mg_of X G a11)
  have g__law_mixed := has__law_mixed (P := P) (w := w) (TB := []) (base := base) T  F13 (PySem.W.mg_of X G a13)
  have g__law_folded := has__law_folded (P := P) (w := w) (TB := []) (base := base) T  F14 (PySem.W.mg_of X G a14)
  have g__law_put := has__law_put (P := P) (w := w) (TB := []) (base := base) T  F22 (PySem.W.mg_of X G a22)
  have g__law_is_other := has__law_is_other (P := P) (w := w) (TB := []) (base := base) T  F23 (PySem.W.mg_of X G a23)
  have g__law_chain := has__law_chain (P := P) (w := w) (TB := []) (base := base) T  F25 (PySem.W.mg_of X G a25)
  have g__law_bush := has__law_bush (P := P) (w := w) (TB := []) (base := base) T  F26 (PySem.W.mg_of X G a26)
  have g_is_row := has_is_row (P := P) (w := w) (TB := []) (base := base) T g_is_word F1 (PySem.W.mg_of X G a1)
  have g_is_pairs := has_is_pairs (P := P) (w := w) (TB := []) (base := base) T g_is_rising g_is_word F4 (PySem.W.mg_of X G a4)
  have g__law_draw : Has P w [] K mg base 2 "_law_draw" 2 spDraw := has_draw (k := 1) (by decide) F15 (PySem.W.mg_of X G a15) rfl (F15.binds fun _ _ _ _ _ _ us hl => match us, hl with | [_, _], _ => rfl) sc__law_draw (fun _ _ _ _ _ _ _ hgd hr => d__law_draw T.n_len g__law_mixed hgd hr) fun _ _ _ _ h => rd_draw h
  have g_is_set := has_is_set (P := P) (w := w) (TB := []) (base := base) T g_is_row g_is_rising F3 (PySem.W.mg_of X G a3)
  have g__law_words := has__law_words (P := P) (w := w) (TB := []) (base := base) T g__law_draw F17 (PySem.W.mg_of X G a17)
  have g__law_set := has__law_set (P := P) (w := w) (TB := []) (base := base) T g__law_draw F18 (PySem.W.mg_of X G a18)
  have g__law_pairs := has__law_pairs (P := P) (w := w) (TB := []) (base := base) T g__law_draw F19 (PySem.W.mg_of X G a19)
  have g_is_form := has_is_form (P := P) (w := w) (TB := []) (base := base) T g_is_pairs g_is_set g_is_word F5 (PySem.W.mg_of X G a5)
  have g__law_hand := has__law_hand (P := P) (w := w) (TB := []) (base := base) T g__law_draw g__law_set g__law_pairs F20 (PySem.W.mg_of X G a20)
  have g_is_hand := has_is_hand (P := P) (w := w) (TB := []) (base := base) T g_beneath g_is_form F7 (PySem.W.mg_of X G a7)
  have g_need_hand := has_need_hand (P := P) (w := w) (TB := []) (base := base) T g_is_hand F8 (PySem.W.mg_of X G a8)
  have g_is_step := has_is_step (P := P) (w := w) (TB := []) (base := base) T g_is_set g_is_hand g_is_pairs g_is_word F9 (PySem.W.mg_of X G a9)
  have gX_need_hand := hasX_need_hand (P := P) (w := w) (TB := []) (base := base) T g_is_hand F8 (PySem.W.mg_of X G a8)
  have g_need_surroundings := has_need_surroundings (P := P) (w := w) (TB := []) (base := base) T g_is_step F10 (PySem.W.mg_of X G a10)
  have g_put_round := has_put_round (P := P) (w := w) (TB := []) (base := base) T g_need_hand g_put_one g_need_surroundings F12 (PySem.W.mg_of X G a12)
  have gX_put_round := hasX_put_round (P := P) (w := w) (TB := []) (base := base) T g_put_one g_need_surroundings gX_need_hand F12 (PySem.W.mg_of X G a12)
  have g__law_said := has__law_said (P := P) (w := w) (TB := []) (base := base) T g__law_is_other gX_put_round F24 (PySem.W.mg_of X G a24)
  have g__law_bounds_right := has__law_bounds_right (P := P) (w := w) (TB := []) (base := base) T g__law_said g__law_draw g__law_put g__law_bush g__law_chain F27 (PySem.W.mg_of X G a27)
  have g__law_step := has__law_step (P := P) (w := w) (TB := []) (base := base) T g__law_set g__law_hand g__law_pairs g__law_draw F21 (PySem.W.mg_of X G a21)
  have Gb : GnOk P w K mg base CX0 2 f16 _ ["_law_script"] (spBegun K) := begun_ok F16 sc__law_begun (fun _ _ _ _ _ _ _ hgd hr => d__law_begun g__law_folded hgd hr) fun _ _ _ _ h => rd_begun (kv := [("room", 12)]) ⟨_, rfl⟩ (fun _ _ => rfl) h
  exact ok_law (T := []) (n := 9) F28 sc_law rfl (fun _ ecd _ _ _ _ _ hgd hr => d_law T Gb (PySem.W.mg_of X G a16) F16.kp (F16.binds fun _ _ _ _ _ _ us hl => match us, hl with | [_], _ => rfl) g__law_bounds_right g__law_said g_need_surroundings g__law_put g__law_step g__law_draw g__law_hand g__law_words hgd hr) rd_law_50538e
end
end Sk
open PySem PySem.W PyProof.Rows
set_option maxHeartbeats 0 in
theorem PySem.Challenge.cw_standhouse_k80_steps_put_round_holds : PySem.Challenge.rw_standhouse_k80_steps_put_round.Holds := by
  w_on; o_law; k_head; (case hw => w_witness2)
  k_fill
  refine Sk.walk_ofG (l := PySem.Challenge.rw_standhouse_k80_steps_put_round) (n := 63) (k := 14) (x := "_law_script") (spw := fun w => Sk.spLaw _ []) rfl (by decide) rfl ⟨rfl, by decide, by decide⟩ (fun w h Y => PySem.W.kIn_of Y) ?F (fun w H a ns hl hO hS => ⟨(fun _ h => by cases h), a, ns, rfl, hS, hl, fun _ => rfl⟩)
  case F =>
    intro w mg fa h KX G hmg
    refine' Sk.all_mk KX G hmg ?a0 ?l0 ?c0 ?k0 ?a1 ?l1 ?c1 ?k1 ?a2 ?l2 ?c2 ?k2 ?a3 ?l3 ?c3 ?k3 ?a4 ?l4 ?c4 ?k4 ?a5 ?l5 ?c5 ?k5 ?a6 ?l6 ?c6 ?k6 ?a7 ?l7 ?c7 ?k7 ?a8 ?l8 ?c8 ?k8 ?a9 ?l9 ?c9 ?k9 ?a10 ?l10 ?c10 ?k10 ?a11 ?l11 ?c11 ?k11 ?a12 ?l12 ?c12 ?k12 ?a13 ?l13 ?c13 ?k13 ?a14 ?l14 ?c14 ?k14 ?a15 ?l15 ?c15 ?k15 ?a16 ?l16 ?c16 ?k16 ?a17 ?l17 ?c17 ?k17 ?a18 ?l18 ?c18 ?k18 ?a19 ?l19 ?c19 ?k19 ?a20 ?l20 ?c20 ?k20 ?a21 ?l21 ?c21 ?k21 ?a22 ?l22 ?c22 ?k22 ?a23 ?l23 ?c23 ?k23 ?a24 ?l24 ?c24 ?k24 ?a25 ?l25 ?c25 ?k25 ?a26 ?l26 ?c26 ?k26 ?a27 ?l27 ?c27 ?k27 ?a28 ?l28 ?c28 ?k28 ?z0 ?z1 ?z2 ?z3 ?z4 ?z5 ?z6 ?z7 ?z8 ?z9 ?z10 ?u0 ?w0 ?t0 ?u1 ?w1 ?u2 ?w2 ?u3 ?w3 ?u4 ?w4 ?u5 ?w5 ?u6 ?w6 ?du0 ?dl0 ?dt0 ?du1 ?dl1 ?dt1 ?xc_BadDeeds ?xc_BadHand ?xc_BadHouse ?xc_BadMachine ?xc_BadNode ?xc_BadPaper ?xc_BadRow ?xc_BadText ?xc_BadWay ?xc_HandError ?xc_NoName ?xc_TooGreat ?xo_BadDeeds ?xo_BadHand ?xo_BadHouse ?xo_BadMachine ?xo_BadNode ?xo_BadRow ?xo_BadWay ?xo_BadPaper ?xo_NoName ?xo_TooGreat ?xo_non
    (case a0 => k_is)
    (case l0 => k_is)
    (case c0 => k_is)
    (case k0 => k_is)
    (case a1 => k_is)
    (case l1 => k_is)
    (case c1 => k_is)
    (case k1 => k_is)
    (case a2 => k_is)
    (case l2 => k_is)
    (case c2 => k_is)
    (case k2 => k_is)
    (case a3 => k_is)
    (case l3 => k_is)
    (case c3 => k_is)
    (case k3 => k_is)
    (case a4 => k_is)
    (case l4 => k_is)
    (case c4 => k_is)
    (case k4 => k_is)
    (case a5 => k_is)
    (case l5 => k_is)
    (case c5 => k_is)
    (case k5 => k_is)
    (case a6 => k_is)
    (case l6 => k_is)
    (case c6 => k_is)
    (case k6 => k_is)
    (case a7 => k_is)
    (case l7 => k_is)
    (case c7 => k_is)
    (case k7 => k_is)
    (case a8 => k_is)
    (case l8 => k_is)
    (case c8 => k_is)
    (case k8 => k_is)
    (case a9 => k_is)
    (case l9 => k_is)
    (case c9 => k_is)
    (case k9 => k_is)
    (case a10 => k_is)
    (case l10 => k_is)
    (case c10 => k_is)
    (case k10 => k_is)
    (case a11 => k_is)
    (case l11 => k_is)
    (case c11 => k_is)
    (case k11 => k_is)
    (case a12 => k_is)
    (case l12 => k_is)
    (case c12 => k_is)
    (case k12 => k_is)
    (case a13 => k_is)
    (case l13 => k_is)
    (case c13 => k_is)
    (case k13 => k_is)
    (case a14 => k_is)
    (case l14 => k_is)
    (case c14 => k_is)
    (case k14 => k_is)
    (case a15 => k_is)
    (case l15 => k_is)
    (case c15 => k_is)
    (case k15 => k_is)
    (case a16 => k_is)
    (case l16 => k_is)
    (case c16 => k_is)
    (case k16 => k_is)
    (case a17 => k_is)
    (case l17 => k_is)
    (case c17 => k_is)
    (case k17 => k_is)
    (case a18 => k_is)
    (case l18 => k_is)
    (case c18 => k_is)
    (case k18 => k_is)
    (case a19 => k_is)
    (case l19 => k_is)
    (case c19 => k_is)
    (case k19 => k_is)
    (case a20 => k_is)
    (case l20 => k_is)
    (case c20 => k_is)
    (case k20 => k_is)
    (case a21 => k_is)
    (case l21 => k_is)
    (case c21 => k_is)
    (case k21 => k_is)
    (case a22 => k_is)
    (case l22 => k_is)
    (case c22 => k_is)
    (case k22 => k_is)
    (case a23 => k_is)
    (case l23 => k_is)
    (case c23 => k_is)
    (case k23 => k_is)
    (case a24 => k_is)
    (case l24 => k_is)
    (case c24 => k_is)
    (case k24 => k_is)
    (case a25 => k_is)
    (case l25 => k_is)
    (case c25 => k_is)
    (case k25 => k_is)
    (case a26 => k_is)
    (case l26 => k_is)
    (case c26 => k_is)
    (case k26 => k_is)
    (case a27 => k_is)
    (case l27 => k_is)
    (case c27 => k_is)
    (case k27 => k_is)
    (case a28 => k_is)
    (case l28 => k_is)
    (case c28 => k_is)
    (case k28 => k_is)
    (case z0 => k_is)
    (case z1 => k_is)
    (case z2 => k_is)
    (case z3 => k_is)
    (case z4 => k_is)
    (case z5 => k_is)
    (case z6 => k_is)
    (case z7 => k_is)
    (case z8 => k_is)
    (case z9 => k_is)
    (case z10 => k_is)
    (case u0 => k_is)
    (case w0 => k_is)
    (case t0 => exact ⟨_, _, rfl, rfl, by decide, .cons ⟨_, rfl⟩ (.cons ⟨_, rfl⟩ (.cons ⟨_, rfl⟩ (.cons ⟨_, rfl⟩ (.cons ⟨_, rfl⟩ (.cons ⟨_, rfl⟩ (.cons ⟨_, rfl⟩ (.nil)))))))⟩)
    (case u1 => k_is)
    (case w1 => exact ⟨_, rfl⟩)
    (case u2 => k_is)
    (case w2 => exact ⟨_, rfl⟩)
    (case u3 => k_is)
    (case w3 => exact ⟨_, rfl⟩)
    (case u4 => k_is)
    (case w4 => exact ⟨_, rfl⟩)
    (case u5 => k_is)
    (case w5 => exact ⟨_, rfl⟩)
    (case u6 => k_is)
    (case w6 => exact ⟨_, rfl⟩)
    (case du0 => k_is)
    (case dl0 => k_is)
    (case dt0 => exact ⟨by decide, by decide, _, _, rfl, .cons ⟨⟨_, rfl⟩, rfl, _, rfl⟩ (.cons ⟨⟨_, rfl⟩, rfl, _, rfl⟩ (.cons ⟨⟨_, rfl⟩, rfl, _, rfl⟩ (.cons ⟨⟨_, rfl⟩, rfl, _, rfl⟩ (.cons ⟨⟨_, rfl⟩, rfl, _, rfl⟩ (.cons ⟨⟨_, rfl⟩, rfl, _, rfl⟩ (.cons ⟨⟨_, rfl⟩, rfl, _, rfl⟩ (.cons ⟨⟨_, rfl⟩, rfl, _, rfl⟩ (.cons ⟨⟨_, rfl⟩, rfl, _, rfl⟩ (.nil)))))))))⟩)
    (case du1 => k_is)
    (case dl1 => k_is)
    (case dt1 => exact ⟨by decide, by decide, _, _, rfl, .cons ⟨⟨_, rfl⟩, rfl, _, rfl⟩ (.cons ⟨⟨_, rfl⟩, rfl, _, rfl⟩ (.cons ⟨⟨_, rfl⟩, rfl, _, rfl⟩ (.cons ⟨⟨_, rfl⟩, rfl, _, rfl⟩ (.cons ⟨⟨_, rfl⟩, rfl, _, rfl⟩ (.cons ⟨⟨_, rfl⟩, rfl, _, rfl⟩ (.nil))))))⟩)
    (case xc_BadDeeds => k_is)
    (case xc_BadHand => k_is)
    (case xc_BadHouse => k_is)
    (case xc_BadMachine => k_is)
    (case xc_BadNode => k_is)
    (case xc_BadPaper => k_is)
    (case xc_BadRow => k_is)
    (case xc_BadText => k_is)
    (case xc_BadWay => k_is)
    (case xc_HandError => k_is)
    (case xc_NoName => k_is)
    (case xc_TooGreat => k_is)
    (case xo_BadDeeds => first | kernel_rfl | exact rfl)
    (case xo_BadHand => first | kernel_rfl | exact rfl)
    (case xo_BadHouse => first | kernel_rfl | exact rfl)
    (case xo_BadMachine => first | kernel_rfl | exact rfl)
    (case xo_BadNode => first | kernel_rfl | exact rfl)
    (case xo_BadRow => first | kernel_rfl | exact rfl)
    (case xo_BadWay => first | kernel_rfl | exact rfl)
    (case xo_BadPaper => first | kernel_rfl | exact rfl)
    (case xo_NoName => first | kernel_rfl | exact rfl)
    (case xo_TooGreat => first | kernel_rfl | exact rfl)
    (case xo_non => first | kernel_rfl | exact rfl)
