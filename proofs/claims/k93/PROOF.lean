import PyProof.Rows.All
import Wide.All
import OpenK.AllK
import Wide.FinOn
import HandS.ForMost
import HandS.ForExc
import PyProof.ReprRoads
import PyProof.CallFns
import HandS.TupSets
import HandS.Sort
import KE.KSortTupG
import HandS.SetFor
import HandS.IsInst
import HandS.Evl
import HandS.Zip
import HandS.TupAny
import HandS.Conv
import HandS.Flow
import KE.DatumMoreOrd
import KE.DatumIndex
import KE.SortData
import KE.KDictKeyed
import KE.KeyNested
import HandS.Lambda
import HandS.Comp
import HandS.Iter
import HandS.Wide
import HandS.Deep
import HandS.Text
import HandS.Dict
import HandS.WordsDict
import PyProof.Rows.ListMulArg
import HandS.More
import HandS.SortInts
import KE.DataEq
import HandS.SortKw
import KE.SortKeyHeap
import HandS.ExcIs
import HandS.ExcValue
import KE.KDictPairs
import KE.KDictWalk
import HandS.Nested
import HandS.NoneIn
import KE.KItemsList
import HandS.TupMul
import PyProof.TupleOfSeq
import KE.GoesMore
import PyProof.EnumMake
import KE.KDictCopyH
import KE.DataMinMax
import PyProof.DictTable
import HandS.Style
import KE.KEqDict
import PyProof.AutoSeq1
import KE.KRevSl
import KE.KDictZip
import PyProof.DictStraight
import HandS.ExcInit
import HandS.ExcField
import HandS.ClsMeth
import PySem.Challenge.RW_standhouse_k93_refusals_made
set_option Elab.async false
set_option linter.all false
set_option maxRecDepth 100000
set_option maxHeartbeats 2000000
namespace Sk
open PySem PySem.Spec PyProof.Rows L2
def isPr : PyData → Bool
  | .tuple [_, _] => true
  | _ => false
def NoD (K : PySem.W.Frag) (G : Hp) (p : Addr) : Prop := (∃ (o : Obj) (u : HO), G p = some (.frz o u) ∧ o.dict = none) ∨ ∃ o : Obj, K.lookup p = some o ∧ o.dict = none
mutual
/-- what a value is, by what is laid -/
inductive Dp (K : PySem.W.Frag) (G : Hp) : V → PyData → Prop
  | non : Dp K G .non .none
  | bl (k : Bool) : Dp K G (.bl k) (.bool k)
  | int (n : Int) : Dp K G (.int n) (.int n)
  | str (z : Str) : Dp K G (.str z) (.str z)
  | lst {p : Addr} {vs : List V} {es : List PyData} (q : SqL K G p vs) (r : DpAll K G vs es) : Dp K G (.ref p) (.list es)
  | tup {p : Addr} {vs : List V} {es : List PyData} (q : SqT K G p vs) (r : DpAll K G vs es) (nd : NoD K G p ∨ es.all isPr = false) : Dp K G (.ref p) (.tuple es)
  | emp {p : Addr} (q : G p = some (.dK [])) : Dp K G (.ref p) (.dict [])
inductive DpAll (K : PySem.W.Frag) (G : Hp) : List V → List PyData → Prop
  | nil : DpAll K G [] []
  | cons {x : V} {xs : List V} {e : PyData} {es : List PyData} (q : Dp K G x e) (r : DpAll K G xs es) : DpAll K G (x :: xs) (e :: es)
end
theorem Dp.new {K : PySem.W.Frag} {G : Hp} {p : Addr} {o : Obj} {vs : List V} {es : List PyData} (hd : o.dict = none) (r : DpAll K (upd G p (.frz o (.tup vs))) vs es) : Dp K (upd G p (.frz o (.tup vs))) (.ref p) (.tuple es) :=
  .tup (Or.inl (Or.inr ⟨o, upd_same⟩)) r (Or.inl (Or.inl ⟨o, _, upd_same, hd⟩))
section
variable {X : Cx} {pins : List (Addr × Obj)} {σ : L2.St} {H : Hp} {s : Shared}
theorem emp_reads (I : Inv X pins σ H s) {p : Addr} (q : H p = some (.dK [])) : Reads s.heap (.ref p) (.dict []) [p] ∧ sysModules ∉ [p] := by
  obtain ⟨_, ns, vs, kv, o, es, ep, ho, hx, hd, _, hp, _⟩ := (show ObjOk X.prog X.w H s.heap p (.dK []) from I.hok p _ q)
  have e1 : vs = [] := by
    cases kv
    rfl
  subst e1
  have e2 : es.toList = [] := by
    generalize es.toList = l at hp
    cases hp
    rfl
  refine ⟨?_, fun h => ?_⟩
  · have := Reads.dict (h := s.heap) (kvs := []) (as := []) (bs := []) ho hx.1 hd (by rw [e2]; exact .nil) (by rw [e2]; exact .nil)
    exact this
  · rw [List.mem_singleton.mp h] at ns
    simp at ns
mutual
theorem Dp.reads (I : Inv X pins σ H s) : ∀ (d : PyData) (x : V) (y : Value), Dp X.K H x d → RelV x y → ∃ as, Reads s.heap y d as
  | .none, _, _, h, r => by cases h; exact L2.Dp.reads I _ _ _ .non r
  | .bool k, _, _, h, r => by cases h; exact L2.Dp.reads I _ _ _ (.bl k) r
  | .int n, _, _, h, r => by cases h; exact L2.Dp.reads I _ _ _ (.int n) r
  | .str z, _, _, h, r => by cases h; exact L2.Dp.reads I _ _ _ (.str z) r
  | .list es, _, _, h, r => by
    cases h with
    | lst q t =>
      cases r
      obtain ⟨us, ru, ⟨ob, m, g1, g2, _, g3⟩, _⟩ := I.list q
      obtain ⟨bs, rb⟩ := Dp.readsAll I es _ us t ru
      exact ⟨_, .list g1 g2 g3 rb⟩
  | .tuple es, _, _, h, r => by
    cases h with
    | tup q t =>
      cases r
      obtain ⟨us, ru, ⟨ob, g1, g2, m, g3⟩, _⟩ := I.tuple q
      obtain ⟨bs, rb⟩ := Dp.readsAll I es _ us t ru
      exact ⟨_, .tuple g1 g2 g3 rb⟩
  | .dict kvs, _, _, h, r => by
    cases h with
    | emp q =>
      cases r
      exact ⟨_, (emp_reads I q).1⟩
theorem Dp.readsAll (I : Inv X pins σ H s) : ∀ (es : List PyData) (xs : List V) (us : List Value), DpAll X.K H xs es → Vals xs us → ∃ as, ReadsAll s.heap us es as
  | [], _, _, h, r => by
    cases h
    cases r
    exact ⟨_, .nil⟩
  | e :: es, _, _, h, r => by
    cases h with
    | cons q t =>
      cases r with
      | cons r1 r2 =>
        obtain ⟨as, ra⟩ := Dp.reads I e _ _ q r1
        obtain ⟨bs, rb⟩ := Dp.readsAll I es _ _ t r2
        exact ⟨_, .cons ra rb⟩
end
end
section
variable {K : PySem.W.Frag} {G : Hp}
mutual
/-- without a dict it is the kit's -/
theorem Dp.toL : ∀ (d : PyData) {x : V}, d.canLay0 = true → Dp K G x d → L2.Dp K G x d
  | .none, _, _, h => by cases h; exact .non
  | .bool k, _, _, h => by cases h; exact .bl k
  | .int n, _, _, h => by cases h; exact .int n
  | .str z, _, _, h => by cases h; exact .str z
  | .list es, _, w, h => by
    cases h with
    | lst q t => exact .lst q (Dp.toLAll es (by simpa [PyData.canLay0] using w) t)
  | .tuple es, _, w, h => by
    cases h with
    | tup q t => exact .tup q (Dp.toLAll es (by simpa [PyData.canLay0] using w) t)
  | .dict _, _, w, _ => by simp [PyData.canLay0] at w
theorem Dp.toLAll : ∀ (es : List PyData) {xs : List V}, PyData.canLayAll0 es = true → DpAll K G xs es → L2.DpAll K G xs es
  | [], _, _, h => by cases h; exact .nil
  | e :: es, _, w, h => by
    cases h with
    | cons q t =>
      have w : e.canLay0 = true ∧ PyData.canLayAll0 es = true := by simpa [PyData.canLayAll0] using w
      exact .cons (Dp.toL e w.1 q) (Dp.toLAll es w.2 t)
end
end
end Sk
set_option Elab.async false
set_option linter.all false
set_option maxRecDepth 100000
set_option maxHeartbeats 2000000
namespace Sk
open PySem PySem.Spec PyProof.Rows L2
structure GnOk (P : Program) (w : World) (K : PySem.W.Frag) (mg : Str → Option Value) (base : Heap) (CX : CXT) (k : Nat) (f : Addr) (fd : FuncData) (ps : List Str) (sp : Sp) : Prop where
  len : ∀ vs H Q E, sp vs H Q E → vs.length = ps.length
  go : ∀ {A : Around} {outer : List Env} {s : Shared} {H : Hp} {args : Args} {us : List Value} {vs : List V} {Q : VK} {E : XK},
    A.guards = some [] → Room k A → Env0 P w K mg base A outer s H → BindsTo s fd args (ps.zip us) → Vals vs us → sp vs H Q E →
      codeAny (model P w) A (.call (.ref f) args) (CR CX outer P w H s Q E) s
section
variable {P : Program} {w : World} {K : PySem.W.Frag} {mg : Str → Option Value} {base : Heap} {CX : CXT} {k : Nat} {f : Addr} {fd : FuncData} {ps : List Str} {sp : Sp}
theorem GnOk.of (F : FnOk P w K mg base CX k f fd ps sp) : GnOk P w K mg base CX k f fd ps sp :=
  ⟨F.len, fun _ hr e0 hb r h => F.run _ _ _ _ _ _ _ _ _ hr e0 hb r h⟩
theorem guards_deeper (A : Around) (env : Env) (h : A.guards = some []) : (A.deeper env).guards = some [] := by
  first | exact h | (simpa [Around.deeper] using h)
theorem gn_ok {x qual : Str} {st : Stmt} {N : List Str} (F : Fun K x qual st f fd) (S : FnScope N ps (defScope st)) (len : ∀ vs H Q E, sp vs H Q E → vs.length = ps.length)
    (body : ∀ (cdv : Value), fd.code = cdv → ∀ (A : Around) (outer : List Env) (s : Shared) (H : Hp) (vs : List V) (Q : VK) (E : XK),
      (A.deeper (envOfC qual (defScope st) s.heap.objs.size f cdv)).guards = some [] → Room k (A.deeper (envOfC qual (defScope st) s.heap.objs.size f cdv)) → sp vs H Q E →
      ∃ t, PSs (cxOf CX P w K mg base N qual (defScope st) f cdv A outer s H E).nox (defBody st) t ∧ t { nx := fun _ H' => Q .non H', rt := Q } (start N vs) H) :
    GnOk P w K mg base CX (k + 1) f fd ps sp := by
  obtain ⟨oc, od, kV, doc, pm, an, cdv, ct, osl, efd, lk, hcd⟩ := F.ex
  subst efd
  refine ⟨len, fun {A outer s H args us vs Q E} hgd hr e0 hb r hsp => ?_⟩
  have hl := len _ _ _ _ hsp
  have hin : K.In s.heap := e0.mod.kin.keeps fun b o e => (e0.bs b o e).1
  have hlim : s.heap.NoLimit := e0.mod.nolimit.keeps fun b o e => (e0.bs b o e).1
  refine codeAny_call_function hr.depth (hin _ _ lk) rfl S.co S.gen rfl (PySem.W.codeRec_of hin hcd) (hb _ _ _ _ ?_)
  refine wpAny_newFunctionEnv_cells S.kind (fun y hy => ?_) fun env he s1 hx => ?_
  · rcases S.par y.1 (List.of_mem_zip (show (y.1, y.2) ∈ ps.zip us from hy)).1 with q | q
    · exact Or.inl q
    · exact Or.inr ⟨q, PySem.W.cellsFrom_some _ _ _ (Or.inl q)⟩
  subst he
  refine ⟨hlim.keeps hx.toInCall.keep, codeAny_func ?_⟩
  obtain ⟨t, ht, hq⟩ := body cdv rfl A outer s H vs Q E (guards_deeper A _ hgd) (hr.deeper _) hsp
  have I := inv_start (CX := CX) (E := E) (qual := qual) (f := f) (cd := cdv) S hr.hd e0 hl r hx
  have ret : ∀ {σ' : L2.St} {H' : Hp} {v : V} {u : Value} {s' : Shared}, Inv (cxOf CX P w K mg base N qual (defScope st) f cdv A outer s H E) [] σ' H' s' → RelV v u → Q v H' → CE outer P w H s Q u s' :=
    fun J rv q => ⟨_, _, J.os, J.bare, J.base, J.hok, rv, q⟩
  refine wpAny_mono (ht.nox.run [] s1 (start N vs) H _ I hq) (fun fl s' hs => ?_) fun e s' hs => hs
  cases fl with
  | ret u => obtain ⟨v, σ', H', J, rv, q⟩ := hs; exact ret J rv q
  | next => obtain ⟨σ', H', J, q⟩ := hs; exact ret (v := V.non) (u := Value.none) J rfl q
  | brk => obtain ⟨_, _, _, q⟩ := hs; exact q.elim
  | cont => obtain ⟨_, _, _, q⟩ := hs; exact q.elim
end
section
variable {X : Cx} {CX : CXT} {k : Nat} {f : Addr} {fd : FuncData} {ps : List Str} {sp : Sp} {E : XK} {x : Str} {p pos : Pos} {e : Expr} {es : List Expr} {t : TA}
theorem run_gn {pins : List (Addr × Obj)} {σ : L2.St} {H : Hp} {s : Shared} {Q : VK} {us : List Value} {vs : List V} (F : GnOk X.prog X.w X.K X.mg X.base CX k f fd ps sp) (hgd : X.A.guards = some []) (hr : Room k X.A) (hb : Binds X.K fd ps [])
    (hx : Passes CX X E) (I : Inv X pins σ H s) (r : Vals vs us) (h : sp vs H Q E) : wpAny (model X.prog X.w) X.A (call (.ref f) us) (EP X pins σ Q) X.xe s := by
  have hlu : (us ++ []).length = ps.length := by
    rw [List.append_nil, ← r.length]
    exact F.len _ _ _ _ h
  have bb := hb s us I.kIn hlu
  rw [List.append_nil] at bb
  refine wpAny_call (codeAny_mono (F.go hgd hr I.env0 bb r h) fun res s' hq => ?_)
  match res, hq with
  | .error e, hq => exact hx pins σ H s e s' I hq
  | .ok (.ret u), hq => exact I.after hq
theorem pe_callG (F : GnOk X.prog X.w X.K X.mg X.base CX k f fd ps sp) (hgd : X.A.guards = some []) (hr : Room k X.A) (hg : Gl X x) (hm : X.mg x = some (.ref f)) (hk : PySem.W.keepIn X.K (.ref f) = true) (hb : Binds X.K fd ps []) (hx : Passes CX X E)
    (ha : PA X (e :: es) t) (hdb : (x == ("__debug__" : Str)) = false := by decide) (he : starEach (e :: es) X.env = (false, eval e X.env) :: starEach es X.env := by rfl) (hpl : (backTo pos (starEach es X.env)).any (·.1) = false := by rfl) :
    PE X (.Call (.Name x p) (e :: es) [] pos) (tCall sp [] E t) := ⟨fun pins s σ H Q I h =>
  wpAny_Call_Name_kw (ld_glob I hg hm (PySem.W.callWith_K (h₀ := X.base) I.ok.mod.kin hk (thn (ha.run pos pins s σ H _ I h) fun us s1 hz => by
    obtain ⟨vs, H1, I1, r, q⟩ := hz
    rw [List.append_nil] at q
    exact ⟨I1.kIn, run_gn F hgd hr hb hx I1 r q⟩) he hpl) hdb)⟩
end
section
variable {P : Program} {w : World} {K : PySem.W.Frag} {mg mb : Str → Option Value} {CX : CXT} {k : Nat} {fa a : Addr} {fd : FuncData} {x : Str} {sp : Sp} {s1 : Shared} {vs : List Value} {ns : List Int}
def hpScript (K : PySem.W.Frag) (a : Addr) (vs : List Value) (ns : List Int) : Hp := fun b =>
  if b = a ∧ (K.lookup a).isNone = true then some (.frz { cls := .type "list", data := .seq vs.toArray } (.lst (ns.map V.int))) else none
theorem hpScript_at {b : Addr} {o : HO} (h : hpScript K a vs ns b = some o) : b = a ∧ K.lookup a = none ∧ o = .frz { cls := .type "list", data := .seq vs.toArray } (.lst (ns.map V.int)) := by
  unfold hpScript at h
  split at h
  · rename_i hc
    exact ⟨hc.1, Option.isNone_iff_eq_none.mp hc.2, (Option.some.inj h).symm⟩
  · cases h
theorem hpScript_only : Only (hpScript K a vs ns) := fun b => by
  cases e : hpScript K a vs ns b with
  | none => exact Or.inl rfl
  | some o =>
    obtain ⟨_, _, rfl⟩ := hpScript_at e
    exact Or.inr ⟨_, _, rfl⟩
theorem law_callG (hin : K.In s1.heap) (hns : s1.heap.Ns mainGlobals mg) (hbn : s1.heap.Ns builtinsNs mb) (hbb : ∀ y : Str, y ≠ "__name__" → mb y = bootBuiltins y) (hlim : s1.heap.NoLimit) (hgn : s1.gens = #[])
    (hobj : s1.heap.get? a = some { cls := .type "list", data := .seq vs.toArray }) (hi : IntsAre vs ns) (hl : ns.length ≤ sizeLine) (hr : Room k callerA)
    (F : ∀ base : Heap, K.In base → base.Ns mainGlobals mg → GnOk P w K mg base CX k fa fd [x] sp) (hbind : ∀ (s : Shared) (u : Value), BindsTo s fd ⟨[u], []⟩ [(x, u)])
    (hsp : ∀ H : Hp, Only H → SqL K H a (ns.map V.int) → sp [.ref a] H (fun v _ => v = .bl true) fun _ _ _ => False)
    (hCX : ∀ H e s', CX [] H s1 (fun _ _ _ => False) e s' → False) :
    codeAny (model P w) callerA (.call (.ref fa) ⟨[.ref a], []⟩) (fun r s' => r = .ok (.ret (.bool true)) ∧ OldK s1.heap s'.heap ∧ s'.os = s1.os ∧ AllBare s'.gens) s1 := by
  have rv := vals_ints hi
  have hlen := hi.length
  let H : Hp := hpScript K a vs ns
  have hS : SqL K H a (ns.map V.int) := by
    cases hk : K.lookup a with
    | none =>
      refine Or.inl (Or.inr ⟨{ cls := .type "list", data := .seq vs.toArray }, ?_⟩)
      show hpScript K a vs ns a = _
      unfold hpScript
      rw [if_pos ⟨rfl, by rw [hk]; rfl⟩]
    | some o =>
      have e := hin a o hk
      rw [hobj] at e
      cases e
      exact Or.inr ⟨_, vs.toArray, _, hk, rfl, rfl, rfl, by rw [List.size_toArray, hlen]; exact hl, by simpa using rv⟩
  have hok : HOk P w H s1.heap := fun b u e => by
    obtain ⟨rfl, _, rfl⟩ := hpScript_at e
    exact ⟨hobj, by rw [List.length_map]; exact hl, vs, _, rv, hobj⟩
  have low : ∀ {b : Addr} {o : Obj}, s1.heap.get? b = some o → H b = none → (hidT s1.heap H).get? b = some o := fun e n => hidT_get e n
  have dct : ∀ {b : Addr} {o : Obj} {es : Array DictEntry} {ep : Nat}, s1.heap.get? b = some o → o.data = .dict es ep → H b = none := fun {b o es ep} e d => by
    cases q : H b with
    | none => rfl
    | some u =>
      obtain ⟨rfl, _, _⟩ := hpScript_at q
      rw [hobj] at e
      cases e
      cases d
  have ns' : ∀ {b : Addr} {m : Str → Option Value}, s1.heap.Ns b m → (hidT s1.heap H).Ns b m := fun z => by
    obtain ⟨o, es, ep, e, d, r⟩ := z
    exact ⟨o, es, ep, low e (dct e d), d, r⟩
  have hK : K.In (hidT s1.heap H) := fun b o e => low (hin b o e) (by
    cases q : H b with
    | none => rfl
    | some u =>
      obtain ⟨rfl, z, _⟩ := hpScript_at q
      rw [z] at e
      cases e)
  have hM : Mod K mg (hidT s1.heap H) := { kin := hK, glob := ns' hns, blt := ⟨mb, ns' hbn, hbb⟩, nolimit := by obtain ⟨mc, h1, h2⟩ := hlim; exact ⟨mc, ns' h1, h2⟩ }
  have e0 : Env0 P w K mg (hidT s1.heap H) callerA [] s1 H := { frames := rfl, mod := hM, bs := fun b o e => of_hidT e, bsz := Nat.le_of_eq (hidT_size _ _), funs := trivial, frf := fun b hb => absurd (show b ∈ ([] : List Addr) from hb) List.not_mem_nil, hok := hok, bare := .of_eq hgn }
  refine codeAny_mono ((F _ hK (ns' hns)).go (us := [.ref a]) (vs := [V.ref a]) rfl hr e0 (hbind s1 (.ref a)) (.cons rfl .nil) (hsp H hpScript_only hS)) fun r s' h => ?_
  match r, h with
  | .error e, h => exact (hCX H e s' h).elim
  | .ok (.ret u), h =>
    obtain ⟨v, H', os, bare, un, hok', r', q⟩ := h
    obtain rfl : v = .bl true := q
    obtain rfl : u = Value.bool true := r'
    refine ⟨rfl, OldK.of_keep fun b o e => ?_, os, bare⟩
    cases q : H b with
    | none => exact un.keep b o e q (fun z => absurd (show b ∈ ([] : List Addr) from z) List.not_mem_nil) (fun z => absurd (show b ∈ ([] : List Addr) from z) List.not_mem_nil)
    | some u =>
      obtain ⟨rfl, _, rfl⟩ := hpScript_at q
      have z1 := (hok b _ q).1
      have z2 := (hok' b _ (un.frzs b _ _ q)).1
      rw [e] at z1
      cases z1
      exact z2
theorem walk_ofG {l : PySem.W.OpenLaw} {n : Nat} {q : Program} {loose : List Str} {XP : (Str → Option Value) → Heap → Prop} {YP : World → Heap → Prop} {d : DefRec} {KK : Params → PySem.W.Frag}
    {spw : World → Sp} (hn : l.most = some n) (hn2 : n ≤ sizeLine) (hdf : d.params.defaults = []) (hr : Room k callerA)
    (hY : ∀ (w : World) (h : Heap), YP w h → (KK w.params).In h)
    (F : ∀ (w : World) (mg : Str → Option Value) (fa : Addr) (h : Heap), (KK w.params).In h → h.Ns mainGlobals mg → mg d.name = some (.ref fa) →
      ∃ fd : FuncData, (∀ (s : Shared) (u : Value), BindsTo s fd ⟨[u], []⟩ [(x, u)]) ∧
        ∀ base : Heap, (KK w.params).In base → base.Ns mainGlobals mg → GnOk l.prog w (KK w.params) mg base CX0 k fa fd [x] (spw w))
    (hsp : ∀ (w : World) (H : Hp) (a : Addr) (ns : List Int), ns.length ≤ n → Only H → SqL (KK w.params) H a (ns.map V.int) → spw w [.ref a] H (fun v _ => v = .bl true) fun _ _ _ => False) :
    PySem.W.WalkO q loose XP YP l.row.toRowW d [] (fun f vs => PySem.call f vs) := by
  refine Att.attach_call hn hdf fun w s0 s1 mg mb fa o pm cd doc a vs ns G Y ho hd hcd hmg hobj hints hlen hg => ?_
  obtain ⟨fd, hb, hF⟩ := F w mg fa _ (hY w _ Y) G.T.g hmg
  exact law_callG (hY w _ Y) G.T.g G.T.b G.T.builtins G.T.nolimit hg hobj hints (Nat.le_trans hlen hn2) hr hF hb (fun H hO hS => hsp w H a ns hlen hO hS) fun _ _ _ z => z
end
def rRepr (K : PySem.W.Frag) : List V → Hp → VK → Prop := fun xs H Q => ∃ (x : V) (d : PyData), xs = [x] ∧ Dp K H x d ∧ d.showable = true ∧ (d.hasDict = false ∨ d = .dict []) ∧ d.depth ≤ 100 ∧ d.shown.length ≤ sizeLine ∧ Q (.str d.shown) H
theorem call_repr {X : Cx} (hgd : X.A.guards = some []) (hu : X.A.units + 150 < cLine) : CallR X (.builtin "repr") (rRepr X.K) := by
  intro pins s σ H xs us Q I r h
  obtain ⟨x, d, rfl, hd, hsh, hnd, hdp, hlen, q⟩ := h
  cases r with
  | cons rx rt =>
    cases rt
    cases hd with
    | non =>
      cases rx
      refine P.repr_of_none ?_
      exact ⟨.str _, _, I.tok _, ⟨_, rfl⟩, q⟩
    | bl b =>
      cases rx
      refine P.repr_of_bool ?_
      exact ⟨.str _, _, I.tok _, ⟨_, rfl⟩, q⟩
    | int i =>
      obtain ⟨t, rfl⟩ := rx
      refine P.repr_of_int (by simpa [PyData.showable] using hsh) ?_
      exact ⟨.str _, _, I.tok _, ⟨_, rfl⟩, q⟩
    | str z =>
      obtain ⟨t, rfl⟩ := rx
      refine P.repr_of_str ?_ hlen
      exact ⟨.str _, _, I.tok _, ⟨_, rfl⟩, q⟩
    | lst hs ha =>
      obtain ⟨as, hr⟩ := Dp.reads I _ _ _ (Dp.lst hs ha) rx
      cases rx
      have hnd := hnd.resolve_right (fun z => by cases z)
      refine repr_of_reads' hr hsh (PyData.noDict_hsm hnd) hgd (by omega) (fun b o e => e) (fun h' u tk hk => ?_) hlen
      exact ⟨.str _, _, I.kept hk, ⟨_, rfl⟩, q⟩
    | tup hs ha nd =>
      obtain ⟨as, hr⟩ := Dp.reads I _ _ _ (Dp.tup hs ha nd) rx
      cases rx
      have hnd := hnd.resolve_right (fun z => by cases z)
      refine repr_of_reads' hr hsh (PyData.noDict_hsm hnd) hgd (by omega) (fun b o e => e) (fun h' u tk hk => ?_) hlen
      exact ⟨.str _, _, I.kept hk, ⟨_, rfl⟩, q⟩
    | emp hz =>
      obtain ⟨hr, hm⟩ := emp_reads I hz
      cases rx
      refine repr_of_reads' hr hsh (fun _ => hm) hgd (by omega) (fun b o e => e) (fun h' u tk hk => ?_) hlen
      exact ⟨.str _, _, I.kept hk, ⟨_, rfl⟩, q⟩
end Sk
set_option Elab.async false
set_option linter.all false
set_option maxRecDepth 100000
set_option maxHeartbeats 2000000
namespace Sk
open PySem PySem.Spec PyProof.Rows L2
def KeepT (h h' : Heap) : Prop := ∀ b o, h.get? b = some o → o.cls = .type "tuple" → h'.get? b = some o
theorem KeepT.all {h h' : Heap} (k : ∀ b o, h.get? b = some o → h'.get? b = some o) : KeepT h h' := fun b o e _ => k b o e
theorem KeepT.trans {h h1 h2 : Heap} (a : KeepT h h1) (b : KeepT h1 h2) : KeepT h h2 := fun c o e t => b c o (a c o e t) t
structure TKind (P : Program) (w : World) (α : Type) [DecidableEq α] where
  is : Heap → α → Addr → Prop
  hash : α → Int
  tup : ∀ {h : Heap} {k : α} {a : Addr}, is h k a → ∃ o xs n, h.get? a = some o ∧ o.cls = .type "tuple" ∧ o.data = .seq xs n
  stay : ∀ {h h' : Heap} {k : α} {a : Addr}, is h k a → KeepT h h' → is h' k a
  inj : ∀ {h : Heap} {x y : α} {a : Addr}, is h x a → is h y a → x = y
  hashes : ∀ {A : Around} {E : Value → Shared → Prop} {s : Shared} {k : α} {a : Addr} {Q : Int → Shared → Prop}, A.units + 8 < cLine → is s.heap k a → (∀ tk, s.toks ≤ tk → Q (hash k) { s with toks := tk }) → wpAny (model P w) A (pyHash (.ref a)) Q E s
  same : ∀ {A : Around} {E : Value → Shared → Prop} {s : Shared} {x y : α} {a b : Addr} {Q : Bool → Shared → Prop}, A.units + 8 < cLine → is s.heap x a → is s.heap y b → Q (decide (x = y)) s → wpAny (model P w) A (eqBool (.ref a) (.ref b)) Q E s
  quiet : ∀ {A : Around} {E : Value → Shared → Prop} {s : Shared} {k : α} {a : Addr} {Q : Bool → Shared → Prop}, is s.heap k a → Q true s → wpAny (model P w) A (eqIsQuiet 8 (.ref a)) Q E s
  ofNone : ∀ {A : Around} {E : Value → Shared → Prop} {s : Shared} {k : α} {a : Addr} {Q : Bool → Shared → Prop}, is s.heap k a → Q false s → wpAny (model P w) A (ofAClassStatement 8 (.ref a)) Q E s
  byVal : ∀ {A : Around} {E : Value → Shared → Prop} {s : Shared} {k : α} {a : Addr} {Q : Bool → Shared → Prop}, is s.heap k a → (∀ b, Q b s) → wpAny (model P w) A (hashByValue 8 (.ref a)) Q E s
section
variable {P : Program} {w : World} {A : Around} {E : Value → Shared → Prop} {s : Shared}
end
end Sk
set_option Elab.async false
set_option linter.all false
set_option maxRecDepth 100000
set_option maxHeartbeats 2000000
namespace Sk
open PySem PySem.Spec PyProof.Rows L2
section
variable {P : Program} {w : World} {α : Type} [DecidableEq α] (κ : TKind P w α)
def rowsT (L : List (Addr × α)) : List (Int × Value) := L.map fun p => (κ.hash p.2, Value.ref p.1)
structure TSet (h : Heap) (a : Addr) (L : List (Addr × α)) (es : Array (Int × Value)) (ep : Nat) (t : SetTable) : Prop where
  ob : ∃ o, h.get? a = some o ∧ o.ExactSet ∧ o.data = .set es ep t
  rows : es.toList = rowsT κ L
  tab : TabOk t (L.map fun p => κ.hash p.2)
  nd : (L.map (·.2)).Nodup
  led : w.params.followText "set-order" = true ∨ t.led = true
  room : L.length * 5 < t.mask * 3
  few : L.length < 64
variable {κ} {A : Around} {E : Value → Shared → Prop} {s : Shared} {a : Addr} {L : List (Addr × α)} {es : Array (Int × Value)} {ep : Nat} {t : SetTable}
theorem rowsT_len (hr : es.toList = rowsT κ L) : es.size = L.length := by
  have h := congrArg List.length hr
  rwa [Array.length_toList, rowsT, List.length_map] at h
theorem fits_of (sz : t.place.size = L.length) (dm : t.dummies = #[]) (hr : es.toList = rowsT κ L) (hm : L.length ≤ t.mask) : t.fits es.size = true := by
  have h := rowsT_len hr
  unfold SetTable.fits SetTable.fill
  rw [dm, Bool.and_eq_true, beq_iff_eq, decide_eq_true_eq]
  exact ⟨by omega, by show t.place.size + 0 ≤ t.mask; omega⟩
theorem TSet.sz {h : Heap} (R : TSet κ h a L es ep t) : t.place.size = L.length := by
  have h := R.tab.sz
  rwa [List.length_map] at h
theorem TSet.fits {h : Heap} (R : TSet κ h a L es ep t) : t.fits es.size = true := fits_of R.sz R.tab.dm R.rows (by have := R.room; omega)
end
end Sk
set_option Elab.async false
set_option linter.all false
set_option maxRecDepth 100000
set_option maxHeartbeats 2000000
namespace Sk
open PySem PySem.Spec PyProof.Rows L2
section
variable {P : Program} {w : World} {α : Type} [DecidableEq α] {κ : TKind P w α} {A : Around} {E : Value → Shared → Prop} {s : Shared} {a : Addr} {L : List (Addr × α)} {es : Array (Int × Value)} {ep : Nat} {t : SetTable}
end
end Sk
namespace Sk
open PySem PySem.Spec PyProof.Rows L2
abbrev noneIn (w : World) : Obj := { cls := .type "set", dict := none, data := .set #[] 0 (.fresh 0 0 (!w.params.followText "set-order")) }
structure Adder (P : Program) (w : World) (h0 : Heap) (a : Addr) (vs : List Value) where
  St : Nat → Heap → Prop
  at' : ∀ {i : Nat} {h h' : Heap}, St i h → (∀ o, h.get? a = some o → h'.get? a = some o) → St i h'
  start : ∀ {h : Heap}, h.get? a = some (noneIn w) → St 0 h
  add : ∀ {A : Around} {E : Value → Shared → Prop} {s : Shared} {i : Nat} {v : Value} {Q : Bool → Shared → Prop}, A.units + 8 < cLine → vs[i]? = some v → (∀ b o, h0.get? b = some o → s.heap.get? b = some o) → St i s.heap →
    (∀ b h' tk, s.toks ≤ tk → Heap.SameBut a s.heap h' → St (i + 1) h' → Q b { s with heap := h', toks := tk }) → wpAny (model P w) A (setAdd a v) Q E s
section
variable {P : Program} {w : World} {A : Around} {E : Value → Shared → Prop} {s : Shared}
theorem fill {I S : Addr} {fp wr : List Addr} {G : Array GenState → Array GenState → Prop} {n : Nat} {Pv : Nat → Value → Prop} {Si : Nat → Shared → Prop} {R : Result → Shared → Prop} {h0 : Heap} {vs : List Value}
    (W : WalksS P w A.in1 I fp wr G n Pv Si) (hSf : S ∉ fp) (D : Adder P w h0 S vs) (hn : n = vs.length) (hval : ∀ i v, Pv i v → vs[i]? = some v) (hS0 : h0.get? S = none) (hw0 : ∀ b ∈ wr, h0.get? b = none) (hu : A.in1.units + 8 < cLine) (m : Nat) :
    ∀ (i : Nat) (s : Shared), n - i = m → i ≤ n → Si i s → (∀ b o, h0.get? b = some o → s.heap.get? b = some o) → D.St i s.heap →
      (∀ s', Moved (S :: wr) G s s' → D.St n s'.heap → (∀ b o, h0.get? b = some o → s'.heap.get? b = some o) → R (.ok (.ret .none)) s') →
      codeAny (model P w) A (.builtin "set.update.loop" ⟨[.ref S, .ref I], []⟩) R s := by
  have sub : ∀ b ∈ wr, b ∈ S :: wr := fun b hb => List.mem_cons_of_mem _ hb
  have nS : S ∉ wr := fun h => hSf (W.sub _ h)
  have old : ∀ {s s' : Shared}, Moved wr G s s' → (∀ b o, h0.get? b = some o → s.heap.get? b = some o) → ∀ b o, h0.get? b = some o → s'.heap.get? b = some o := fun hm k b o e =>
    hm.heap b o (fun hb => by rw [hw0 b hb] at e; cases e) (k b o e)
  induction m with
  | zero =>
    intro i s hm hi hst k0 d hR
    obtain rfl : i = n := by omega
    refine codeAny_builtin F.entry_set_update_loop ?_
    rw [Around.under_plainId F.plain_set_update_loop _]
    refine wpAny_bind (W.done s _ _ hst fun s' mv => ?_)
    exact wpAny_pure (hR s' (mv.mono sub) (D.at' d fun o e => mv.heap S o nS e) (old mv k0))
  | succ m ih =>
    intro i s hm hi hst k0 d hR
    have lt : i < n := by omega
    refine codeAny_builtin F.entry_set_update_loop ?_
    rw [Around.under_plainId F.plain_set_update_loop _]
    refine wpAny_bind (W.item i s _ _ lt hst fun v s' hP hst' mv => ?_)
    have k1 := old mv k0
    show wpAny _ A.in1 (holding [v] (setAdd S v) >>= _) _ _ s'
    refine wpAny_bind (wpAny_holding (D.add hu (hval i v hP) k1 (D.at' d fun o e => mv.heap S o nS e) fun b h' tk htk sb d' => ?_))
    have k2 : ∀ b o, h0.get? b = some o → h'.get? b = some o := fun b o e => (sb.2 b (fun z => by rw [z, hS0] at e; cases e)).trans (k1 b o e)
    refine wpAny_pure ⟨plainId_quiet F.plain_set_update_loop _, ih (i + 1) _ (by omega) lt (W.frame _ s' _ _ hst' htk fun b hb o e => ?_) k2 d' fun s'' mv2 d2 k3 => ?_⟩
    · exact (sb.2 b fun z => hSf (z ▸ hb)).trans e
    · refine hR s'' (Moved.trans W.gtrans ((mv.mono sub).then_heap htk fun b o hb e => ?_) mv2) d2 k3
      exact (sb.2 b fun z => hb (z ▸ List.mem_cons_self)).trans e
end
end Sk
set_option Elab.async false
set_option linter.all false
set_option maxRecDepth 100000
set_option maxHeartbeats 2000000
namespace Sk
open PySem PySem.Spec PyProof.Rows L2
theorem paired_at {α β : Type} {R : α → β → Prop} : ∀ {as : List α} {bs : List β} {i : Nat} {b : β}, Paired R as bs → bs[i]? = some b → ∃ a, as[i]? = some a ∧ R a b
  | _, _, _, _, .nil, e => by simp at e
  | _, _, 0, _, .cons r _, e => by simp at e; subst e; exact ⟨_, rfl, r⟩
  | _, _, i + 1, b, .cons _ t, e => by
    obtain ⟨a, h1, h2⟩ := paired_at (i := i) (b := b) t (by simpa using e)
    exact ⟨a, by simpa using h1, h2⟩
theorem paired_len {α β : Type} {R : α → β → Prop} : ∀ {as : List α} {bs : List β}, Paired R as bs → as.length = bs.length
  | _, _, .nil => rfl
  | _, _, .cons _ t => congrArg (· + 1) (paired_len t)
theorem take_next' {α : Type} {l : List α} {i : Nat} {x : α} (h : l[i]? = some x) : l.take (i + 1) = l.take i ++ [x] := by
  rw [List.take_succ, h]
  rfl
def GotK {α : Type} (ks : List α) (i : Nat) (L : List α) : Prop := L.Nodup ∧ L.length ≤ i ∧ ∀ k, k ∈ L ↔ k ∈ ks.take i
theorem GotK.next {α : Type} {ks L L' : List α} {i : Nat} {k : α} (g : GotK ks i L) (h : ks[i]? = some k) (hin : k ∈ L → L'.Perm L) (hout : k ∉ L → L'.Perm (k :: L)) : GotK ks (i + 1) L' := by
  obtain ⟨g1, g2, g3⟩ := g
  have tk := take_next' h
  by_cases c : k ∈ L
  · have p := hin c
    refine ⟨p.nodup_iff.mpr g1, by rw [p.length_eq]; omega, fun j => ?_⟩
    rw [p.mem_iff, g3, tk, List.mem_append, List.mem_singleton]
    exact ⟨Or.inl, fun z => z.elim id fun e => by rw [e]; exact (g3 k).mp c⟩
  · have p := hout c
    refine ⟨p.nodup_iff.mpr (List.nodup_cons.mpr ⟨c, g1⟩), by rw [p.length_eq, List.length_cons]; omega, fun j => ?_⟩
    rw [p.mem_iff, List.mem_cons, g3, tk, List.mem_append, List.mem_singleton]
    exact Or.comm
structure Walkable (w : World) (h : Heap) (a : Addr) (es : Array (Int × Value)) : Prop where
  ex : ∃ ep t, SetAt h a es ep t ∧ t.fits es.size = true ∧ Ris t.place.toList ∧ (w.params.followText "set-order" = true ∨ t.led = true)
  few : es.size < scanBound
section
variable {P : Program} {w : World} {A : Around} {E : Value → Shared → Prop} {s : Shared}
def FElem (e : Int × Value) (k : Key) : Prop := keyIs k e.2 = true ∧ e.1 = keyH w k ∧ e.2.scannable = true
structure SetF (w : World) (h : Heap) (a : Addr) (L : List Key) : Prop where
  ex : ∃ o es ep t, h.get? a = some o ∧ o.ExactSet ∧ o.data = .set es ep t ∧ Paired (fun k e => FElem (w := w) e k) L es.toList ∧ es.size < scanBound ∧ t.fits es.size = true ∧ Ris t.place.toList ∧ (w.params.followText "set-order" = true ∨ t.led = true)
end
end Sk
set_option Elab.async false
set_option linter.all false
set_option maxRecDepth 100000
set_option maxHeartbeats 2000000
namespace Sk
open PySem PySem.Spec PyProof.Rows L2
structure SrtK (P : Program) (w : World) (h : Heap) (good : Value → Prop) where
  κ : PyProof.Rows.KeyKind
  kd : SortKind
  keys : ∀ v, good v → ∃ a, κ.keyOf v = some a
  lt : ∀ s2 : Shared, KeepT h s2.heap → PyProof.Rows.G.LtAt P w s2 κ kd
  kk : ∀ vs : List Value, (∀ v ∈ vs, good v) → 2 ≤ vs.length → ∀ (A : Around) (E : Value → Shared → Prop) (s2 : Shared) {Q : SortKind → Shared → Prop}, KeepT h s2.heap → Q kd s2 → wpAny (model P w) A (keyKind' vs.toArray) Q E s2
def SrtK.keep {P : Program} {w : World} {h h' : Heap} {good : Value → Prop} (S : SrtK P w h good) (k : KeepT h h') : SrtK P w h' good where
  κ := S.κ
  kd := S.kd
  keys := S.keys
  lt := fun s2 k2 => S.lt s2 (k.trans k2)
  kk := fun vs hv h2 A E s2 Q k2 hq => S.kk vs hv h2 A E s2 (k.trans k2) hq
def Upto (κ : PyProof.Rows.KeyKind) (u v : Value) : Prop := ∀ a b, κ.keyOf u = some a → κ.keyOf v = some b → κ.kle a b
section
variable {P : Program} {w : World} {A : Around} {E : Value → Shared → Prop} {s : Shared}
def srtI (P : Program) (w : World) (h : Heap) : SrtK P w h (fun v => ∃ i t, v = Value.int i t) where
  κ := PyProof.Rows.intKind
  kd := oneType'
  keys := fun v hv => by obtain ⟨i, t, rfl⟩ := hv; exact ⟨i, rfl⟩
  lt := fun s2 _ A E x y a b Q ha hb hq => intKind_oneLt P w A E s2 x y a b ha hb hq
  kk := fun vs hv h2 A E s2 Q _ hq => by
    have all : ∀ vs : List Value, (∀ v ∈ vs, ∃ i t, v = Value.int i t) → ∃ ns, IntsAre vs ns := by
      intro vs
      induction vs with
      | nil => intro _; exact ⟨[], .nil⟩
      | cons v r ih =>
        intro hv
        obtain ⟨i, t, rfl⟩ := hv v List.mem_cons_self
        obtain ⟨ns, hn⟩ := ih fun u hu => hv u (List.mem_cons_of_mem _ hu)
        exact ⟨_, .cons i t hn⟩
    obtain ⟨ns, hn⟩ := all vs hv
    match vs, h2, hn with
    | v1 :: v2 :: r, _, hn =>
      rw [keyKind_ints hn]
      exact wpAny_pure hq
def srtS (P : Program) (w : World) (h : Heap) : SrtK P w h (fun v => ∃ x t, v = Value.str x t) where
  κ := PyProof.Rows.strKind
  kd := oneType'
  keys := fun v hv => by obtain ⟨x, t, rfl⟩ := hv; exact ⟨_, rfl⟩
  lt := fun s2 _ A E x y a b Q ha hb hq => strKind_oneLt P w A E s2 x y a b ha hb hq
  kk := fun vs hv h2 A E s2 Q _ hq => by
    have all : ∀ vs : List Value, (∀ v ∈ vs, ∃ x t, v = Value.str x t) → ∃ ss, StrsAre vs ss := by
      intro vs
      induction vs with
      | nil => intro _; exact ⟨[], .nil⟩
      | cons v r ih =>
        intro hv
        obtain ⟨x, t, rfl⟩ := hv v List.mem_cons_self
        obtain ⟨ss, hs⟩ := ih fun u hu => hv u (List.mem_cons_of_mem _ hu)
        exact ⟨_, .cons x t hs⟩
    obtain ⟨ss, hs⟩ := all vs hv
    match vs, h2, hs with
    | v1 :: v2 :: r, _, hs =>
      rw [keyKind_strs hs]
      exact wpAny_pure hq
def kc : Key → Int ⊕ List Nat
  | .inl i => .inl i
  | .inr x => .inr x.cps.toList
end
end Sk
set_option Elab.async false
set_option linter.all false
set_option maxRecDepth 100000
set_option maxHeartbeats 2000000
namespace Sk
open PySem PySem.Spec PyProof.Rows L2
section
variable {P : Program} {w : World}
structure Elems (w : World) (h : Heap) (a : Addr) {α : Type} (R : α → Value → Prop) (ks L : List α) : Prop where
  ex : ∃ o es ep t, h.get? a = some o ∧ o.ExactSet ∧ o.data = .set es ep t ∧ t.fits es.size = true ∧ es.size < scanBound ∧ Ris t.place.toList ∧ (w.params.followText "set-order" = true ∨ t.led = true) ∧ Paired R L (es.toList.map (·.2))
  nd : L.Nodup
  mem : ∀ k, k ∈ L ↔ k ∈ ks
end
end Sk
set_option Elab.async false
set_option linter.all false
set_option maxRecDepth 100000
set_option maxHeartbeats 2000000
namespace Sk
open PySem PySem.Spec PyProof.Rows L2
theorem nodup_le {α : Type} [DecidableEq α] : ∀ (l D : List α), l.Nodup → (∀ x ∈ l, x ∈ D) → l.length ≤ D.length
  | [], _, _, _ => Nat.zero_le _
  | x :: l, D, h, hs => by
    rw [List.nodup_cons] at h
    have hx := hs x List.mem_cons_self
    have e := nodup_le l (D.erase x) h.2 fun y hy => (List.mem_erase_of_ne (fun z => h.1 (by rw [← z]; exact hy))).mpr (hs y (List.mem_cons_of_mem _ hy))
    rw [List.length_erase_of_mem hx] at e
    have := List.length_pos_of_mem hx
    rw [List.length_cons]
    omega
def slt (x y : Str) : Prop := x.cps.toList < y.cps.toList
section
variable {X : Cx} {pins : List (Addr × Obj)} {σ : L2.St} {H : Hp} {s : Shared}
end
section
variable {X : Cx} {a : Expr} {ta : TE} {p p2 q pos : Pos}
theorem lt_of_upto {ms : List Int} {us : List Value} (h : Paired (fun k v => keyIs k v = true) (ms.map Sum.inl) us) (hp : us.Pairwise (Upto PyProof.Rows.intKind)) (nd : (ms.map (Sum.inl : Int → Key)).Nodup) : ms.Pairwise (· < ·) := by
  induction us generalizing ms with
  | nil =>
    match ms, h with
    | [], _ => exact .nil
  | cons u us ih =>
    match ms, h with
    | m :: ms, .cons h1 t =>
      rw [List.map_cons, List.nodup_cons] at nd
      rw [List.pairwise_cons] at hp
      refine .cons (fun m' hm => ?_) (ih t hp.2 nd.2)
      obtain ⟨i, hi⟩ := List.getElem?_of_mem hm
      have hne : m ≠ m' := fun e => nd.1 (by rw [e]; exact List.mem_map.mpr ⟨m', hm, rfl⟩)
      have hi2 : (ms.map (Sum.inl : Int → Key))[i]? = some (Sum.inl m') := by rw [List.getElem?_map, hi] <;> rfl
      have il : i < us.length := by rw [← paired_len t, List.length_map]; exact (List.getElem?_eq_some_iff.mp hi).1
      obtain ⟨k2, hk2, r2⟩ := paired_at t (List.getElem?_eq_getElem il)
      rw [hi2] at hk2
      obtain rfl := Option.some.inj hk2
      have z := hp.1 us[i] (List.getElem_mem il)
      rcases keyIs_shape h1 with ⟨j, u1, e1, rfl⟩ | ⟨x, u1, e1, _⟩
      · rcases keyIs_shape r2 with ⟨j2, u2, e2, e3⟩ | ⟨x, u2, e2, _⟩
        · injection e1 with e1
          injection e2 with e2
          subst e1 e2
          have y := z m m' rfl (by rw [e3] <;> rfl)
          have y2 : decide (m' < m) = false := y
          have := of_decide_eq_false y2
          omega
        · cases e2
      · cases e1
theorem slt_of_upto {ms : List Str} {us : List Value} (h : Paired (fun k v => keyIs k v = true) (ms.map Sum.inr) us) (hp : us.Pairwise (Upto PyProof.Rows.strKind)) (nd : (ms.map (Sum.inr : Str → Key)).Nodup) : ms.Pairwise slt := by
  induction us generalizing ms with
  | nil =>
    match ms, h with
    | [], _ => exact .nil
  | cons u us ih =>
    match ms, h with
    | m :: ms, .cons h1 t =>
      rw [List.map_cons, List.nodup_cons] at nd
      rw [List.pairwise_cons] at hp
      refine .cons (fun m' hm => ?_) (ih t hp.2 nd.2)
      obtain ⟨i, hi⟩ := List.getElem?_of_mem hm
      have hne : m ≠ m' := fun e => nd.1 (by rw [e]; exact List.mem_map.mpr ⟨m', hm, rfl⟩)
      have hi2 : (ms.map (Sum.inr : Str → Key))[i]? = some (Sum.inr m') := by rw [List.getElem?_map, hi] <;> rfl
      have il : i < us.length := by rw [← paired_len t, List.length_map]; exact (List.getElem?_eq_some_iff.mp hi).1
      obtain ⟨k2, hk2, r2⟩ := paired_at t (List.getElem?_eq_getElem il)
      rw [hi2] at hk2
      obtain rfl := Option.some.inj hk2
      have z := hp.1 us[i] (List.getElem_mem il)
      rcases keyIs_shape h1 with ⟨j, u1, e1, _⟩ | ⟨x, u1, e1, rfl⟩
      · cases e1
      · rcases keyIs_shape r2 with ⟨j2, u2, e2, _⟩ | ⟨x2, u2, e2, e3⟩
        · cases e2
        · injection e1 with e1
          injection e2 with e2
          subst e1 e2
          have y := z m.cps.toList m'.cps.toList rfl (by rw [e3] <;> rfl)
          have y2 : decide (m'.cps.toList < m.cps.toList) = false := y
          have y3 := of_decide_eq_false y2
          rcases List.le_iff_lt_or_eq.mp (List.not_lt.mp y3) with c | c
          · exact c
          · refine absurd ?_ hne
            cases m
            cases m'
            congr 1
            exact Array.toList_inj.mp c
end
end Sk
set_option Elab.async false
set_option linter.all false
set_option maxRecDepth 100000
set_option maxHeartbeats 2000000
namespace Sk
open PySem PySem.Spec PyProof.Rows L2
section
variable {X : Cx} {pins : List (Addr × Obj)} {σ : L2.St} {H : Hp} {s : Shared} {h' : Heap}
end
section
variable {X : Cx} {es : List Expr} {t : TA} {pos : Pos}
end
section
variable {X : Cx} {e : Expr} {te : L2.St → Hp → (Int → Int → Hp → Prop) → Prop}
end
section
variable {P : Program} {w : World} {K : PySem.W.Frag} {elts : List Expr} {kk : Nat} {tpos : Pos} {a b z TI TO i1 i2 : Addr}
end
end Sk
set_option Elab.async false
set_option linter.all false
set_option maxRecDepth 100000
set_option maxHeartbeats 2000000
namespace Sk
open PySem PySem.Spec PyProof.Rows L2
open PySem.W (Datum DatumOrd Tup T3 T4)
open Evl (Ex)
def NoTup (o : HO) : Prop := match o with
  | .tup _ => False
  | .frz _ _ => False
  | _ => True
def Gr (H H' : Hp) : Prop := ∀ a o, ¬ NoTup o → H a = some o → H' a = some o
theorem Gr.refl (H : Hp) : Gr H H := fun _ _ _ h => h
theorem Gr.trans {H H1 H2 : Hp} (a : Gr H H1) (b : Gr H1 H2) : Gr H H2 := fun c o n h => b c o n (a c o n h)
theorem Gr.ex {H H' : Hp} (e : Ex H H') : Gr H H' := fun a o _ h => e a o h
theorem Gr.rd {H H' : Hp} (g : Gr H H') {a : Addr} {xs : List V} (h : Rd H a (.tup xs)) : Rd H' a (.tup xs) := h.imp (fun h => g a _ (fun n => n) h) fun ⟨o, h⟩ => ⟨o, g a _ (fun n => n) h⟩
def ExB (p : Addr) (H H' : Hp) : Prop := ∀ a o, a ≠ p → H a = some o → H' a = some o
theorem ExB.ex {p : Addr} {H H' : Hp} (e : Ex H H') : ExB p H H' := fun a o _ h => e a o h
theorem ExB.trans {p : Addr} {H H1 H2 : Hp} (a : ExB p H H1) (b : ExB p H1 H2) : ExB p H H2 := fun c o n h => b c o n (a c o n h)
theorem ExB.upd {p : Addr} {H : Hp} {o : HO} : ExB p H (upd H p o) := fun a u n h => by rw [upd_ne n]; exact h
theorem ExB.gr {p : Addr} {H H' : Hp} {o : HO} (e : ExB p H H') (h : H p = some o) (n : NoTup o) : Gr H H' := fun a u nu r => e a u (fun z => by
    subst z
    rw [h] at r
    cases r
    exact nu n) r
theorem Ex.fresh {H H' : Hp} {p : Addr} (e : Ex H H') (h : H' p = none) : H p = none := Evl.fresh_back e h
mutual
def imm : PyData → Bool
  | .none | .bool _ | .int _ | .str _ => true
  | .tuple xs => immAll xs
  | .list _ | .dict _ => false
def immAll : List PyData → Bool
  | [] => true
  | x :: xs => imm x && immAll xs
end
section
variable {K : PySem.W.Frag} {H H' : Hp}
theorem NoD.ex {a : Addr} (e : Ex H H') (h : NoD K H a) : NoD K H' a := h.imp (fun ⟨o, u, g, d⟩ => ⟨o, u, e _ _ g, d⟩) id
theorem _root_.L2.SqT.gr {a : Addr} {xs : List V} (g : Gr H H') (h : SqT K H a xs) : SqT K H' a xs := h.elim (fun h => Or.inl (g.rd h)) Or.inr
theorem NoD.gr {a : Addr} (g : Gr H H') (h : NoD K H a) : NoD K H' a := h.imp (fun ⟨o, u, q, d⟩ => ⟨o, u, g _ _ (fun n => n) q, d⟩) id
mutual
theorem Dp.gr (g : Gr H H') : ∀ (d : PyData) {v : V}, imm d = true → Dp K H v d → Dp K H' v d
  | .none, _, _, h => by cases h; exact .non
  | .bool b, _, _, h => by cases h; exact .bl b
  | .int i, _, _, h => by cases h; exact .int i
  | .str x, _, _, h => by cases h; exact .str x
  | .list _, _, i, _ => by simp [imm] at i
  | .dict _, _, i, _ => by simp [imm] at i
  | .tuple ds, _, i, h => by
    cases h with
    | tup hs ha nd => exact .tup (SqT.gr g hs) (Dp.grAll g ds (by simpa [imm] using i) ha) (nd.imp (NoD.gr g) id)
theorem Dp.grAll (g : Gr H H') : ∀ (ds : List PyData) {vs : List V}, immAll ds = true → DpAll K H vs ds → DpAll K H' vs ds
  | [], _, _, h => by cases h; exact .nil
  | d :: ds, _, i, h => by
    cases h with
    | cons h1 h2 =>
      have i' : imm d = true ∧ immAll ds = true := by simpa [immAll] using i
      exact .cons (Dp.gr g d i'.1 h1) (Dp.grAll g ds i'.2 h2)
end
mutual
theorem Dp.ex (e : Ex H H') : ∀ (d : PyData) {v : V}, Dp K H v d → Dp K H' v d
  | .none, _, h => by cases h; exact .non
  | .bool b, _, h => by cases h; exact .bl b
  | .int i, _, h => by cases h; exact .int i
  | .str x, _, h => by cases h; exact .str x
  | .list ds, _, h => by
    cases h with
    | lst hs ha => exact .lst (Evl.ex_l e hs) (Dp.exAll e ds ha)
  | .tuple ds, _, h => by
    cases h with
    | tup hs ha nd => exact .tup (Evl.ex_t e hs) (Dp.exAll e ds ha) (nd.imp (NoD.ex e) id)
  | .dict _, _, h => by
    cases h with
    | emp q => exact .emp (e _ _ q)
theorem Dp.exAll (e : Ex H H') : ∀ (ds : List PyData) {vs : List V}, DpAll K H vs ds → DpAll K H' vs ds
  | [], _, h => by cases h; exact .nil
  | d :: ds, _, h => by
    cases h with
    | cons h1 h2 => exact .cons (Dp.ex e d h1) (Dp.exAll e ds h2)
end
theorem DpAll.append {vs ws : List V} {ds es : List PyData} (a : DpAll K H vs ds) (b : DpAll K H ws es) : DpAll K H (vs ++ ws) (ds ++ es) := by
  induction ds generalizing vs with
  | nil => cases a; exact b
  | cons d ds ih =>
    cases a with
    | cons h1 h2 => exact .cons h1 (ih h2)
theorem DpAll.at {vs : List V} {ds : List PyData} {i : Nat} {d : PyData} (a : DpAll K H vs ds) (h : ds[i]? = some d) : ∃ v, vs[i]? = some v ∧ Dp K H v d := by
  induction ds generalizing vs i with
  | nil => simp at h
  | cons e ds ih =>
    cases a with
    | cons h1 h2 =>
      cases i with
      | zero => simp at h; subst h; exact ⟨_, rfl, h1⟩
      | succ i =>
        obtain ⟨v, e1, e2⟩ := ih h2 (by simpa using h)
        exact ⟨v, by simpa using e1, e2⟩
theorem DpAll.at' {vs : List V} {ds : List PyData} {i : Nat} {v : V} (a : DpAll K H vs ds) (h : vs[i]? = some v) : ∃ d, ds[i]? = some d ∧ Dp K H v d := by
  induction ds generalizing vs i with
  | nil => cases a; simp at h
  | cons e ds ih =>
    cases a with
    | cons h1 h2 =>
      cases i with
      | zero => simp at h; subst h; exact ⟨_, rfl, h1⟩
      | succ i =>
        obtain ⟨v, e1, e2⟩ := ih h2 (by simpa using h)
        exact ⟨v, by simpa using e1, e2⟩
theorem DpAll.len {vs : List V} {ds : List PyData} (a : DpAll K H vs ds) : vs.length = ds.length := by
  induction ds generalizing vs with
  | nil => cases a; rfl
  | cons e ds ih =>
    cases a with
    | cons h1 h2 => rw [List.length_cons, List.length_cons, ih h2]
theorem DpAll.set {vs : List V} {ds : List PyData} {i : Nat} {v : V} {d : PyData} (a : DpAll K H vs ds) (h : Dp K H v d) : DpAll K H (vs.set i v) (ds.set i d) := by
  induction ds generalizing vs i with
  | nil => cases a; exact .nil
  | cons e ds ih =>
    cases a with
    | cons h1 h2 =>
      cases i with
      | zero => exact .cons h h2
      | succ i => exact .cons h1 (ih h2)
theorem DpAll.take {vs : List V} {ds : List PyData} (a : DpAll K H vs ds) (n : Nat) : DpAll K H (vs.take n) (ds.take n) := by
  induction ds generalizing vs n with
  | nil => cases a; simp; exact .nil
  | cons e ds ih =>
    cases a with
    | cons h1 h2 =>
      cases n with
      | zero => exact .nil
      | succ n => exact .cons h1 (ih h2 n)
theorem DpAll.drop {vs : List V} {ds : List PyData} (a : DpAll K H vs ds) (n : Nat) : DpAll K H (vs.drop n) (ds.drop n) := by
  induction ds generalizing vs n with
  | nil => cases a; simp; exact .nil
  | cons e ds ih =>
    cases a with
    | cons h1 h2 =>
      cases n with
      | zero => exact .cons h1 h2
      | succ n => exact ih h2 n
theorem dpAll_ints : ∀ ns : List Int, DpAll K H (ns.map V.int) (ns.map PyData.int)
  | [] => .nil
  | n :: ns => .cons (.int n) (dpAll_ints ns)
theorem ints_dpAll : ∀ {ns : List Int} {vs : List V}, DpAll K H vs (ns.map PyData.int) → vs = ns.map V.int
  | [], _, h => by cases h; rfl
  | n :: ns, _, h => by
    cases h with
    | cons h1 h2 =>
      cases h1
      rw [ints_dpAll h2]
      rfl
theorem strs_dpAll : ∀ {ns : List Str} {vs : List V}, DpAll K H vs (ns.map PyData.str) → vs = ns.map V.str
  | [], _, h => by cases h; rfl
  | n :: ns, _, h => by
    cases h with
    | cons h1 h2 =>
      cases h1
      rw [strs_dpAll h2]
      rfl
end
class Im (α : Type) [DecidableEq α] [Datum α] : Prop where
  im : ∀ a : α, imm (Datum.toD a) = true
theorem immAll_map {α : Type} [DecidableEq α] [Datum α] [Im α] : ∀ xs : List α, immAll (xs.map Datum.toD) = true
  | [] => rfl
  | x :: xs => by rw [List.map_cons, immAll, Im.im x, immAll_map xs]; rfl
instance : Im Int := ⟨fun _ => rfl⟩
instance : Im Bool := ⟨fun _ => rfl⟩
instance : Im Str := ⟨fun _ => rfl⟩
instance : Im Unit := ⟨fun _ => rfl⟩
section
variable {α β γ δ : Type} [DecidableEq α] [Datum α] [Im α] [DecidableEq β] [Datum β] [Im β] [DecidableEq γ] [Datum γ] [Im γ] [DecidableEq δ] [Datum δ] [Im δ]
instance : Im (α × β) := ⟨fun p => by show imm (.tuple [_, _]) = true; simp only [imm, immAll, Im.im]; rfl⟩
instance : Im (Tup α) := ⟨fun t => by show imm (.tuple _) = true; simp only [imm]; exact immAll_map t.items⟩
instance : Im (T3 α β γ) := ⟨fun p => by show imm (.tuple [_, _, _]) = true; simp only [imm, immAll, Im.im]; rfl⟩
instance : Im (T4 α β γ δ) := ⟨fun p => by show imm (.tuple [_, _, _, _]) = true; simp only [imm, immAll, Im.im]; rfl⟩
end
instance {α : Type} [DecidableEq α] [Datum α] [PySem.W.SomeDatum α] [Im α] : Im (Option α) := ⟨fun o => by cases o with
  | none => rfl
  | some a => exact Im.im a⟩
def IsD {α : Type} [DecidableEq α] [Datum α] (K : PySem.W.Frag) (H : Hp) (v : V) (a : α) : Prop := Dp K H v (Datum.toD a)
def LsD {α : Type} [DecidableEq α] [Datum α] (K : PySem.W.Frag) (H : Hp) (p : Addr) (xs : List α) : Prop := ∃ vs, H p = some (.lst vs) ∧ DpAll K H vs (xs.map Datum.toD)
section
variable {α β : Type} [DecidableEq α] [Datum α] [DecidableEq β] [Datum β] {K : PySem.W.Frag} {H H' : Hp} {v : V} {p : Addr} {xs : List α}
theorem IsD.gr [Im α] {a : α} (g : Gr H H') (h : IsD K H v a) : IsD K H' v a := Dp.gr g _ (Im.im a) h
theorem IsD.ex {a : α} (e : Ex H H') (h : IsD K H v a) : IsD K H' v a := Dp.ex e _ h
theorem LsD.ex (e : Ex H H') (h : LsD K H p xs) : LsD K H' p xs := by
  obtain ⟨vs, h1, h2⟩ := h
  exact ⟨vs, e _ _ h1, Dp.exAll e _ h2⟩
theorem LsD.isD (h : LsD K H p xs) : IsD K H (.ref p) xs := by
  obtain ⟨vs, h1, h2⟩ := h
  exact .lst (Or.inl (Or.inl h1)) h2
theorem IsD.intV {i : Int} (h : IsD K H v i) : v = .int i := by cases h; rfl
theorem IsD.strV {x : Str} (h : IsD K H v x) : v = .str x := by cases h; rfl
theorem IsD.blV {b : Bool} (h : IsD K H v b) : v = .bl b := by cases h; rfl
theorem isD_int (i : Int) : IsD K H (.int i) i := .int i
theorem isD_str (x : Str) : IsD K H (.str x) x := .str x
theorem isD_bl (b : Bool) : IsD K H (.bl b) b := .bl b
theorem isD_non : IsD K H .non () := .non
theorem IsD.tup {t : Tup α} (h : IsD K H v t) : ∃ a vs, v = .ref a ∧ SqT K H a vs ∧ DpAll K H vs (t.items.map Datum.toD) := by
  cases h with
  | tup hs ha => exact ⟨_, _, rfl, hs, ha⟩
theorem IsD.lst (h : IsD K H v xs) : ∃ a vs, v = .ref a ∧ SqL K H a vs ∧ DpAll K H vs (xs.map Datum.toD) := by
  cases h with
  | lst hs ha => exact ⟨_, _, rfl, hs, ha⟩
end
section
variable {α : Type} [DecidableEq α] [Datum α] {X : Cx}
end
end Sk
set_option Elab.async false
set_option linter.all false
set_option maxRecDepth 100000
set_option maxHeartbeats 2000000
namespace Sk
open PySem PySem.Spec PyProof.Rows L2
open PySem.W (Datum DatumOrd Tup T3 T4)
class OrdL (α : Type) [DecidableEq α] [DatumOrd α] : Prop where
  tri : ∀ a b : α, DatumOrd.lt a b = false → DatumOrd.lt b a = false → a = b
section
variable {α β γ : Type} [DecidableEq α] [DatumOrd α] [DecidableEq β] [DatumOrd β] [DecidableEq γ] [DatumOrd γ]
theorem lt_irr (a : α) : DatumOrd.lt a a = false := by rw [← DatumOrd.lt_eq]; exact PySem.W.dataLt_self _
theorem lt_trans' {a b c : α} (h : DatumOrd.lt a b = true) (h' : DatumOrd.lt b c = true) : DatumOrd.lt a c = true := by
  rw [← DatumOrd.lt_eq] at h h' ⊢
  exact lex_trans _ _ _ h h'
theorem lt_asymm' {a b : α} (h : DatumOrd.lt a b = true) : DatumOrd.lt b a = false := by
  cases e : DatumOrd.lt b a with
  | false => rfl
  | true => exact absurd (lt_trans' h e) (by rw [lt_irr]; decide)
instance : OrdL Int := ⟨fun a b h h' => by
  have h1 := of_decide_eq_false (show decide (a < b) = false from h)
  have h2 := of_decide_eq_false (show decide (b < a) = false from h')
  omega⟩
instance : OrdL Str := ⟨fun a b h h' => by
  have h1 := of_decide_eq_false (show decide (a.cps.toList < b.cps.toList) = false from h)
  have h2 := of_decide_eq_false (show decide (b.cps.toList < a.cps.toList) = false from h')
  exact PySem.W.str_of_cps (List.le_antisymm (List.not_lt.mp h2) (List.not_lt.mp h1))⟩
instance : OrdL Bool := ⟨fun a b h h' => by
  have h1 : (!a && b) = false := h
  have h2 : (!b && a) = false := h'
  cases a <;> cases b <;> first | rfl | simp at h1 h2⟩
instance [OrdL α] [OrdL β] : OrdL (α × β) := ⟨fun p q h h' => by
  have h1 : (if p.1 = q.1 then DatumOrd.lt p.2 q.2 else DatumOrd.lt p.1 q.1) = false := h
  have h2 : (if q.1 = p.1 then DatumOrd.lt q.2 p.2 else DatumOrd.lt q.1 p.1) = false := h'
  by_cases e : p.1 = q.1
  · rw [if_pos e] at h1
    rw [if_pos e.symm] at h2
    exact Prod.ext e (OrdL.tri _ _ h1 h2)
  · rw [if_neg e] at h1
    rw [if_neg (fun z => e z.symm)] at h2
    exact absurd (OrdL.tri _ _ h1 h2) e⟩
theorem listLt_tri [OrdL α] : ∀ xs ys : List α, PySem.W.listLt xs ys = false → PySem.W.listLt ys xs = false → xs = ys
  | [], [], _, _ => rfl
  | [], _ :: _, h, _ => by simp [PySem.W.listLt] at h
  | _ :: _, [], _, h => by simp [PySem.W.listLt] at h
  | x :: xs, y :: ys, h, h' => by
    rw [PySem.W.listLt] at h h'
    by_cases e : x = y
    · rw [if_pos e] at h
      rw [if_pos e.symm] at h'
      rw [e, listLt_tri xs ys h h']
    · rw [if_neg e] at h
      rw [if_neg (fun z => e z.symm)] at h'
      exact absurd (OrdL.tri _ _ h h') e
instance [OrdL α] : OrdL (Tup α) := ⟨fun p q h h' => by
  have e := listLt_tri p.items q.items h h'
  cases p
  cases q
  exact congrArg Tup.mk e⟩
instance [OrdL α] : OrdL (List α) := ⟨fun p q h h' => listLt_tri p q h h'⟩
instance [OrdL α] [OrdL β] [OrdL γ] : OrdL (T3 α β γ) := ⟨fun p q h h' => by
  have h1 : (if p.a = q.a then (if p.b = q.b then (DatumOrd.lt p.c q.c) else DatumOrd.lt p.b q.b) else DatumOrd.lt p.a q.a) = false := h
  have h2 : (if q.a = p.a then (if q.b = p.b then (DatumOrd.lt q.c p.c) else DatumOrd.lt q.b p.b) else DatumOrd.lt q.a p.a) = false := h'
  by_cases e : p.a = q.a
  · rw [if_pos e] at h1
    rw [if_pos e.symm] at h2
    by_cases e2 : p.b = q.b
    · rw [if_pos e2] at h1
      rw [if_pos e2.symm] at h2
      exact T3.same e e2 (OrdL.tri _ _ h1 h2)
    · rw [if_neg e2] at h1
      rw [if_neg (fun z => e2 z.symm)] at h2
      exact absurd (OrdL.tri _ _ h1 h2) e2
  · rw [if_neg e] at h1
    rw [if_neg (fun z => e z.symm)] at h2
    exact absurd (OrdL.tri _ _ h1 h2) e⟩
def Rising (xs : List α) : Prop := xs.Pairwise fun a b => DatumOrd.lt a b = true
theorem Rising.nodup {xs : List α} (h : Rising xs) : xs.Nodup := h.imp fun {a b} h e => by rw [e, lt_irr] at h; cases h
theorem Rising.eq : ∀ {xs ys : List α}, Rising xs → Rising ys → (∀ a, a ∈ xs ↔ a ∈ ys) → xs = ys
  | [], [], _, _, _ => rfl
  | [], y :: ys, _, _, h => absurd ((h y).mpr List.mem_cons_self) List.not_mem_nil
  | x :: xs, [], _, _, h => absurd ((h x).mp List.mem_cons_self) List.not_mem_nil
  | x :: xs, y :: ys, hx, hy, h => by
    have hx' := List.pairwise_cons.mp hx
    have hy' := List.pairwise_cons.mp hy
    have e : x = y := by
      rcases List.mem_cons.mp ((h x).mp List.mem_cons_self) with e | h1
      · exact e
      · rcases List.mem_cons.mp ((h y).mpr List.mem_cons_self) with e | h2
        · exact e.symm
        · have z1 := hy'.1 x h1
          have z2 := hx'.1 y h2
          rw [lt_asymm' z1] at z2
          cases z2
    subst e
    refine congrArg (x :: ·) (Rising.eq hx'.2 hy'.2 fun a => ⟨fun ha => ?_, fun ha => ?_⟩)
    · rcases List.mem_cons.mp ((h a).mp (List.mem_cons_of_mem _ ha)) with e | z
      · subst e
        exact absurd (hx'.1 a ha) (by rw [lt_irr]; decide)
      · exact z
    · rcases List.mem_cons.mp ((h a).mpr (List.mem_cons_of_mem _ ha)) with e | z
      · subst e
        exact absurd (hy'.1 a ha) (by rw [lt_irr]; decide)
      · exact z
def leD (a b : α) : Bool := !DatumOrd.lt b a
def sortL (xs : List α) : List α := xs.mergeSort leD
def once : List α → List α
  | [] => []
  | x :: xs => if x ∈ xs then once xs else x :: once xs
def sortU (xs : List α) : List α := sortL (once xs)
end
end Sk
set_option Elab.async false
set_option linter.all false
set_option maxRecDepth 100000
set_option maxHeartbeats 2000000
namespace Sk
open PySem PySem.Spec PyProof.Rows L2
open PySem.W (Datum DatumOrd Tup T3 T4)
open Evl (Ex Ev EvT EvA)
def EV (te : TE) (σ : L2.St) (H : Hp) (P : Hp → V → Hp → Prop) : Prop := ∀ H1, Ex H H1 → ∀ Q : VK, (∀ v H2, Ex H1 H2 → P H1 v H2 → Q v H2) → te σ H1 Q
abbrev ED {α : Type} [DecidableEq α] [Datum α] (K : PySem.W.Frag) (te : TE) (σ : L2.St) (H : Hp) (a : α) : Prop := EV te σ H fun _ v H2 => IsD K H2 v a
abbrev EL {α : Type} [DecidableEq α] [Datum α] (K : PySem.W.Frag) (te : TE) (σ : L2.St) (H : Hp) (xs : List α) : Prop := EV te σ H fun H1 v H2 => ∃ p, v = .ref p ∧ H1 p = none ∧ LsD K H2 p xs
section
variable {α β γ : Type} [DecidableEq α] [Datum α] [DecidableEq β] [Datum β] [DecidableEq γ] [Datum γ] {K : PySem.W.Frag} {σ : L2.St} {H H' Hk : Hp} {te ta tb tc : TE} {t u : TT} {v : V} {P : Hp → V → Hp → Prop}
theorem EV.mono (e : Ex H H') (h : EV te σ H P) : EV te σ H' P := fun H1 a Q q => h H1 (e.trans a) Q q
theorem EV.imp {P' : Hp → V → Hp → Prop} (h : EV te σ H P) (k : ∀ H1 v H2, Ex H H1 → Ex H1 H2 → P H1 v H2 → P' H1 v H2) : EV te σ H P' := fun H1 e Q q => h H1 e Q fun v H2 e2 p => q v H2 e2 (k H1 v H2 e e2 p)
theorem EV.go {Q : VK} (h : EV te σ H P) (q : ∀ v H2, Ex H H2 → P H v H2 → Q v H2) : te σ H Q := h H (Ex.refl H) Q q
theorem Ev.ev (h : Ev te σ H v) : EV te σ H fun _ x _ => x = v := fun H1 e Q q => h H1 e Q fun H2 e2 => q v H2 e2 rfl
theorem EV.exact (h : EV te σ H fun _ x _ => x = v) : Ev te σ H v := fun H1 e Q q => h H1 e Q fun x H2 e2 z => by rw [z]; exact q H2 e2
theorem Ev.int {i : Int} (h : Ev te σ H (.int i)) : ED K te σ H i := (Ev.ev h).imp fun _ _ _ _ _ z => by rw [z]; exact isD_int i
theorem Ev.str {i : Str} (h : Ev te σ H (.str i)) : ED K te σ H i := (Ev.ev h).imp fun _ _ _ _ _ z => by rw [z]; exact isD_str i
theorem Ev.bl {i : Bool} (h : Ev te σ H (.bl i)) : ED K te σ H i := (Ev.ev h).imp fun _ _ _ _ _ z => by rw [z]; exact isD_bl i
theorem Ev.non (h : Ev te σ H .non) : ED K te σ H () := (Ev.ev h).imp fun _ _ _ _ _ z => by rw [z]; exact isD_non
theorem ED.int {i : Int} (h : ED K te σ H i) : Ev te σ H (.int i) := (h.imp fun _ _ _ _ _ z => IsD.intV z).exact
theorem ED.str {i : Str} (h : ED K te σ H i) : Ev te σ H (.str i) := (h.imp fun _ _ _ _ _ z => IsD.strV z).exact
theorem ED.bl {i : Bool} (h : ED K te σ H i) : Ev te σ H (.bl i) := (h.imp fun _ _ _ _ _ z => IsD.blV z).exact
theorem ED.to {a b : α} (h : ED K te σ H a) (e : a = b) : ED K te σ H b := by rw [← e]; exact h
theorem EL.to {a b : List α} (h : EL K te σ H a) (e : a = b) : EL K te σ H b := by rw [← e]; exact h
theorem EL.d {xs : List α} (h : EL K te σ H xs) : ED K te σ H xs := h.imp fun _ _ _ _ _ z => by
  obtain ⟨p, rfl, _, z⟩ := z
  exact LsD.isD z
end
end Sk
set_option Elab.async false
set_option linter.all false
set_option maxRecDepth 100000
set_option maxHeartbeats 2000000
namespace Sk
open PySem PySem.Spec PyProof.Rows L2
open Evl (Ex)
mutual
def keyN : PyData → NestedKey
  | .none => .none
  | .bool b => .num (if b = true then 1 else 0)
  | .int i => .num i
  | .str x => .text x
  | .tuple ds => .tup (keyNs ds)
  | .list _ => .none
  | .dict _ => .none
def keyNs : List PyData → List NestedKey
  | [] => []
  | d :: ds => keyN d :: keyNs ds
end
def KeyOk (d : PyData) : Prop := imm d = true ∧ (keyN d).depth ≤ 8
abbrev GEnt := NestedKey × V × V
abbrev GOb := Obj × List GEnt
def GDo (w : World) (p : Addr) (q : GOb) : HO := .ext fun h => h.get? p = some q.1 ∧ (p == sysModules) = false ∧ q.2.length ≤ sizeLine ∧ (q.2.map (·.1)).Nodup ∧ ∃ es ep, q.1.ExactDict ∧ q.1.data = .dict es ep ∧
  Paired (fun (x : GEnt) (e : DictEntry) => e.hash = x.1.hash w ∧ RelV x.2.1 e.key ∧ RelV x.2.2 e.val) q.2 es.toList
structure GRel (K : PySem.W.Frag) (G : Hp) (xs : List GEnt) (kvs : List (PyData × PyData)) : Prop where
  ks : xs.map (·.1) = kvs.map fun kv => keyN kv.1
  ok : ∀ kv ∈ kvs, KeyOk kv.1
  kv : DpAll K G (xs.map (·.2.1)) (kvs.map (·.1))
  vv : DpAll K G (xs.map (·.2.2)) (kvs.map (·.2))
theorem GRel.ex {K : PySem.W.Frag} {G G' : Hp} {xs : List GEnt} {kvs : List (PyData × PyData)} (e : Ex G G') (h : GRel K G xs kvs) : GRel K G' xs kvs := ⟨h.ks, h.ok, Dp.exAll e _ h.kv, Dp.exAll e _ h.vv⟩
abbrev Tbs := List (Addr × Str)
inductive PV where
  | dat (d : PyData)
  | own (ds : List PyData)
  | dct (kvs : List (Key × PyData))
  | dcg (kvs : List (PyData × PyData))
  | dgf (kvs : List (PyData × PyData))
  | abs (R : PySem.W.Frag → Hp → V → Prop)
  | drw
  | val (v : V)
  | byr (ds : List PyData)
  | lat (r : Addr) (ds : List PyData)
def PV.mut : PV → Bool
  | .own _ => true
  | .dct _ => true
  | .dcg _ => true
  | .byr _ => true
  | .lat _ _ => true
  | _ => false
def PV.frz : PV → Option PyData
  | .dat d => some d
  | .own ds => some (.list ds)
  | _ => none
structure Sg where
  sl : List (Option PV)
  n : Nat
@[simp] def Sg.put (s : Sg) (i : Nat) (p : PV) : Sg := ⟨s.sl.set i (some p), s.n⟩
@[simp] def Sg.off (s : Sg) (i : Nat) : Sg := ⟨s.sl.set i none, s.n⟩
structure Ent where
  on : Bool
  m : Addr
  l : Addr
  c : Addr
  F : Hp
  O : Addr → Prop
  M : Addr → Prop
  r : Addr
  G : Hp
structure Fr where
  on : Bool
  m : Addr
  l : Addr
  c : Addr
  F : Hp
  O : Addr → Prop
  M : Addr → Prop
  r : Addr
  w : World
  T : Tbs
  e : Option Ent := none
def Fr.tab (f : Fr) (a : Addr) : Prop := ∃ q, (a, q) ∈ f.T
def TabOk (G H : Hp) (P : Addr) (q : Str) : Prop := ∃ ps : Array Value, H P = some (.tbl ps) ∧ TriplesOk ps.toList ∧ ∀ (pos : Pos) (cv : Value), codeAmong pos ps.toList = some cv → ∃ c, cv = .ref c ∧ G c = some (LamX.CodeO c q)
theorem TabOk.keep {G G' H H' : Hp} {P : Addr} {q : Str} (h : TabOk G H P q) (g : ∀ b o, (∀ xs, o ≠ .lst xs) → G b = some o → G' b = some o) (e : H' P = H P) : TabOk G' H' P q := by
  obtain ⟨ps, h1, h2, h3⟩ := h
  refine ⟨ps, by rw [e]; exact h1, h2, fun pos cv hc => ?_⟩
  obtain ⟨c, e1, e2⟩ := h3 pos cv hc
  exact ⟨c, e1, g _ _ (fun xs z => by unfold LamX.CodeO at z; cases z) e2⟩
theorem codeO_ne {c : Addr} {q : Str} {w : World} {g : GOb} : LamX.CodeO c q ≠ GDo w c g := fun e => by
  unfold LamX.CodeO GDo at e
  injection e with e
  have h0 := congrFun e ((⟨Array.replicate c default, {}⟩ : Heap).push { cls := .type "code", data := .fields #[.none, .str q 0] })
  have sz : (⟨Array.replicate c default, {}⟩ : Heap).objs.size = c := by simp
  have hg := Heap.get?_push_size (⟨Array.replicate c default, {}⟩ : Heap) (o := { cls := .type "code", data := .fields #[.none, .str q 0] }) rfl
  rw [sz] at hg
  have h1 := h0.mp ⟨_, _, 0, hg, rfl, rfl⟩
  obtain ⟨k1, _, _, _, es, ep, _, k2, _⟩ := h1
  rw [hg] at k1
  rw [← Option.some.inj k1] at k2
  cases k2
theorem TabOk.keep2 {G G' H H' : Hp} {P : Addr} {q : Str} (h : TabOk G H P q) (g : ∀ b o, (∀ xs, o ≠ .lst xs) → (∀ w g, o ≠ GDo w b g) → G b = some o → G' b = some o) (e : H' P = H P) : TabOk G' H' P q := by
  obtain ⟨ps, h1, h2, h3⟩ := h
  refine ⟨ps, by rw [e]; exact h1, h2, fun pos cv hc => ?_⟩
  obtain ⟨c, e1, e2⟩ := h3 pos cv hc
  exact ⟨c, e1, g _ _ (fun xs z => by unfold LamX.CodeO at z; cases z) (fun w g z => codeO_ne z) e2⟩
def DrwOk (m l c : Addr) (n : Nat) (H : Hp) : Prop := ∃ (k : Int) (cs ls : List Int) (rest : List (Key × V)),
  H m = some (.dK ([(.inr "cells", .ref c), (.inr "left", .ref l), (.inr "at", .int k)] ++ rest)) ∧ 0 ≤ k ∧ k ≤ n ∧ H c = some (.lst (cs.map V.int)) ∧ cs.length = 64 ∧ (∀ x ∈ cs, 0 ≤ x ∧ x < 2147483647) ∧
  H l = some (.lst (ls.map V.int)) ∧ ls.length ≤ 63 ∧ (∀ x ∈ ls, 0 ≤ x) ∧ (∃ r : Int, rest = ([] : List (Key × V))) ∧ c ≠ l
theorem DrwOk.keep {m l c : Addr} {n : Nat} {H H' : Hp} (h : DrwOk m l c n H) (e1 : H' m = H m) (e2 : H' l = H l) (e3 : H' c = H c) : DrwOk m l c n H' := by
  obtain ⟨k, cs, ls, rest, h1, h2⟩ := h
  refine ⟨k, cs, ls, rest, ?_, ?_⟩
  · rw [e1]; exact h1
  · rw [e2, e3]; exact h2
theorem DrwOk.more {m l c : Addr} {n n' : Nat} {H : Hp} (h : DrwOk m l c n H) (e : n ≤ n') : DrwOk m l c n' H := by
  obtain ⟨k, cs, ls, rest, h1, h2, h3, h4⟩ := h
  exact ⟨k, cs, ls, rest, h1, h2, by omega, h4⟩
def VR (K : PySem.W.Frag) (f : Fr) (G H : Hp) : PV → V → Prop
  | .dat d, v => Dp K G v d
  | .own ds, v => ∃ p vs, v = .ref p ∧ H p = some (.lst vs) ∧ G p = none ∧ ¬ f.O p ∧ (f.F p = none ∨ f.M p) ∧ DpAll K G vs ds
  | .dct kvs, v => ∃ p ws, v = .ref p ∧ H p = some (.dK ws) ∧ G p = none ∧ ¬ f.O p ∧ (f.F p = none ∨ f.M p) ∧ ws.map (·.1) = kvs.map (·.1) ∧ DpAll K G (ws.map (·.2)) (kvs.map (·.2))
  | .dcg kvs, v => ∃ p xs, v = .ref p ∧ H p = some (GDo f.w p xs) ∧ G p = none ∧ ¬ f.O p ∧ (f.F p = none ∨ f.M p) ∧ GRel K G xs.2 kvs
  | .dgf kvs, v => ∃ p xs, v = .ref p ∧ G p = some (GDo f.w p xs) ∧ GRel K G xs.2 kvs
  | .abs R, v => ∀ G', Ex G G' → R K G' v
  | .drw, v => f.on = true ∧ v = .ref f.m
  | .val w, v => v = w
  | .byr ds, v => ∃ p vs, v = .ref p ∧ H p = some (.lst vs) ∧ G p = none ∧ ¬ f.O p ∧ (f.F p = none ∨ f.M p) ∧ DpAll K G vs ds ∧ p = f.r
  | .lat r ds, v => ∃ p vs, v = .ref p ∧ H p = some (.lst vs) ∧ G p = none ∧ ¬ f.O p ∧ (f.F p = none ∨ f.M p) ∧ DpAll K G vs ds ∧ p = r
structure EntOk (en : Ent) (f : Fr) (G : Hp) : Prop where
  on : f.on = en.on
  m : f.m = en.m
  l : f.l = en.l
  c : f.c = en.c
  F : Ex en.F f.F
  O : ∀ a, en.O a → f.O a
  M : f.M = en.M
  r : f.r = en.r
  G : Ex en.G G
  mo : en.on = true → en.O en.m ∧ en.O en.l ∧ en.O en.c ∧ en.M en.m ∧ en.M en.l
  tm : ∀ p ∈ f.T, en.O p.1 ∧ en.M p.1
theorem EntOk.ex {en : Ent} {f : Fr} {G G' : Hp} (h : EntOk en f G) (e : Ex G G') : EntOk en f G' := { h with G := h.G.trans e }
structure Rel (K : PySem.W.Frag) (f : Fr) (G : Hp) (s : Sg) (σ : L2.St) (H : Hp) : Prop where
  gh : Ex G H
  fh : ∀ a o, ¬ f.M a → f.F a = some o → H a = some o
  go : ∀ a, f.O a → G a = none
  oh : ∀ a, f.O a → H a ≠ none
  mh : ∀ a, f.M a → H a ≠ none
  mo : f.on = true → f.O f.m ∧ f.O f.l ∧ f.O f.c ∧ f.M f.m ∧ f.M f.l
  tm : ∀ p ∈ f.T, f.O p.1 ∧ f.M p.1
  tb : ∀ p ∈ f.T, TabOk G H p.1 p.2
  pk : ∀ en, f.e = some en → EntOk en f G
  dr : f.on = true → DrwOk f.m f.l f.c s.n H
  ln : σ.length = s.sl.length
  sl : ∀ (i : Nat) (p : PV), s.sl[i]? = some (some p) → ∃ v : V, σ[i]? = some (some v) ∧ VR K f G H p v
  ds : ∀ (i j : Nat) (p q : PV) (v : V), i ≠ j → s.sl[i]? = some (some p) → s.sl[j]? = some (some q) → p.mut = true → q.mut = true → σ[i]? = some (some v) → σ[j]? ≠ some (some v)
def VRf (K : PySem.W.Frag) (f : Fr) (G H : Hp) (s : Sg) (σ : L2.St) (p : PV) (v : V) : Prop := VR K f G H p v ∧ (p.mut = true → ∀ (i : Nat) (q : PV), s.sl[i]? = some (some q) → q.mut = true → σ[i]? ≠ some (some v))
def VRs (K : PySem.W.Frag) (f : Fr) (G H : Hp) : List PV → List V → Prop := Paired (VR K f G H)
section
variable {K : PySem.W.Frag} {f : Fr} {G G' G1 H H' H1 : Hp} {s s' : Sg} {σ σ' : L2.St} {p : PV} {v : V} {d : PyData}
theorem VR.mono (h : VR K f G H p v) (g : Ex G G') (n : ∀ a, G a = none → G' a ≠ none → H a = none) (e : Ex H H') : VR K f G' H' p v := by
  have key : ∀ a o, H a = some o → G a = none → G' a = none := fun a o h1 h2 => by
    cases q : G' a with
    | none => rfl
    | some u =>
      have := n a h2 (by rw [q]; intro z; cases z)
      rw [h1] at this; cases this
  cases p with
  | dat d => exact Dp.ex g _ h
  | own ds =>
    obtain ⟨p, vs, rfl, h1, h2, h3, h4, h5⟩ := h
    exact ⟨p, vs, rfl, e _ _ h1, key _ _ h1 h2, h3, h4, Dp.exAll g _ h5⟩
  | dct kvs =>
    obtain ⟨p, vs, rfl, h1, h2, h3, h4, h5, h6⟩ := h
    exact ⟨p, vs, rfl, e _ _ h1, key _ _ h1 h2, h3, h4, h5, Dp.exAll g _ h6⟩
  | dcg kvs =>
    obtain ⟨p, vs, rfl, h1, h2, h3, h4, h5⟩ := h
    exact ⟨p, vs, rfl, e _ _ h1, key _ _ h1 h2, h3, h4, h5.ex g⟩
  | dgf kvs =>
    obtain ⟨p, vs, rfl, h1, h2⟩ := h
    exact ⟨p, vs, rfl, g _ _ h1, h2.ex g⟩
  | abs _ => exact fun G9 e9 => h G9 (g.trans e9)
  | drw => exact h
  | val w => exact h
  | byr ds =>
    obtain ⟨p, vs, rfl, h1, h2, h3, h4, h5, h6⟩ := h
    exact ⟨p, vs, rfl, e _ _ h1, key _ _ h1 h2, h3, h4, Dp.exAll g _ h5, h6⟩
  | lat _ ds =>
    obtain ⟨p, vs, rfl, h1, h2, h3, h4, h5, h6⟩ := h
    exact ⟨p, vs, rfl, e _ _ h1, key _ _ h1 h2, h3, h4, Dp.exAll g _ h5, h6⟩
theorem VRs.mono {ps : List PV} {vs : List V} (h : VRs K f G H ps vs) (g : Ex G G') (n : ∀ a, G a = none → G' a ≠ none → H a = none) (e : Ex H H') : VRs K f G' H' ps vs := by
  unfold VRs at *
  induction h with
  | nil => exact .nil
  | cons h _ ih => exact .cons (h.mono g n e) ih
theorem Rel.grow (R : Rel K f G s σ H) (e : Ex H H') (g : Ex G G') (g2 : Ex G' H') (n : ∀ a, G a = none → G' a ≠ none → H a = none) : Rel K f G' s σ H' where
  gh := g2
  fh := fun a o m h => e _ _ (R.fh a o m h)
  go := fun a h => by
    cases q : G' a with
    | none => rfl
    | some u => exact absurd (n a (R.go a h) (by rw [q]; intro z; cases z)) (R.oh a h)
  oh := fun a h => by
    cases q : H a with
    | none => exact absurd q (R.oh a h)
    | some u => rw [e _ _ q]; intro z; cases z
  mh := fun a h => by
    cases q : H a with
    | none => exact absurd q (R.mh a h)
    | some u => rw [e _ _ q]; intro z; cases z
  mo := R.mo
  tm := R.tm
  tb := fun p hp => by
    obtain ⟨ps, h1, h2, h3⟩ := R.tb p hp
    exact ⟨ps, e _ _ h1, h2, fun pos cv hc => by obtain ⟨c, e1, e2⟩ := h3 pos cv hc; exact ⟨c, e1, g _ _ e2⟩⟩
  pk := fun en h => (R.pk en h).ex g
  dr := fun h => by
    obtain ⟨k, cs, ls, rest, h1, h2, h3, h4, h5, h6, h7, h8⟩ := R.dr h
    exact ⟨k, cs, ls, rest, e _ _ h1, h2, h3, e _ _ h4, h5, h6, e _ _ h7, h8⟩
  ln := R.ln
  sl := fun i p h => by
    obtain ⟨v, h1, h2⟩ := R.sl i p h
    exact ⟨v, h1, h2.mono g n e⟩
  ds := R.ds
theorem nomore : ∀ a, G a = none → G a ≠ none → H a = none := fun a h h2 => absurd h h2
theorem Rel.new {a : Addr} {o : HO} (R : Rel K f G s σ H) (h : H a = none) : Rel K f G s σ (upd H a o) := R.grow (Evl.Ex.new h) (Ex.refl G) (R.gh.trans (Evl.Ex.new h)) nomore
theorem Rel.gn {a : Addr} (R : Rel K f G s σ H) (h : H a = none) : G a = none := Evl.fresh_back R.gh h
theorem Rel.on' {a : Addr} (R : Rel K f G s σ H) (h : H a = none) : ¬ f.O a := fun z => R.oh a z h
theorem ex_upd {a : Addr} {o : HO} (e : Ex G H) : Ex (upd G a o) (upd H a o) := fun b u h => by
  by_cases q : b = a
  · subst q; rw [upd_same] at h ⊢; exact h
  · rw [upd_ne q] at h ⊢; exact e _ _ h
theorem new_upd {a : Addr} {o : HO} (h : H a = none) : ∀ b, G b = none → upd G a o b ≠ none → H b = none := fun b g n => by
  by_cases q : b = a
  · subst q; exact h
  · rw [upd_ne q] at n; exact absurd g n
theorem Rel.newG {a : Addr} {o : HO} (R : Rel K f G s σ H) (h : H a = none) : Rel K f (upd G a o) s σ (upd H a o) := R.grow (Evl.Ex.new h) (Evl.Ex.new (R.gn h)) (ex_upd R.gh) (new_upd h)
theorem Rel.fr_none {a : Addr} (R : Rel K f G s σ H) (h : H a = none) : f.F a = none ∨ f.M a := by
  cases q : f.F a with
  | none => exact Or.inl rfl
  | some o =>
    by_cases m : f.M a
    · exact Or.inr m
    · have := R.fh a o m q
      rw [h] at this; cases this
theorem Rel.own {a : Addr} {vs : List V} {ds : List PyData} (R : Rel K f G s σ H) (h : H a = none) (dv : DpAll K G vs ds) : VRf K f G (upd H a (.lst vs)) s σ (.own ds) (.ref a) := by
  refine ⟨⟨a, vs, rfl, upd_same, R.gn h, R.on' h, R.fr_none h, dv⟩, fun _ i q h1 h2 h3 => ?_⟩
  obtain ⟨v, h4, h5⟩ := R.sl i q h1
  rw [h3] at h4
  cases h4
  cases q with
  | dat d => cases h2
  | own ds => obtain ⟨p, _, e, h6, _⟩ := h5; cases e; rw [h] at h6; cases h6
  | byr ds => obtain ⟨p, _, e, h6, _⟩ := h5; cases e; rw [h] at h6; cases h6
  | lat _ ds => obtain ⟨p, _, e, h6, _⟩ := h5; cases e; rw [h] at h6; cases h6
  | dct ds => obtain ⟨p, _, e, h6, _⟩ := h5; cases e; rw [h] at h6; cases h6
  | dcg ds => obtain ⟨p, _, e, h6, _⟩ := h5; cases e; rw [h] at h6; cases h6
  | drw => cases h2
  | val _ => cases h2
  | dgf _ => cases h2
  | abs _ => cases h2
theorem vrf_dat (h : Dp K G v d) : VRf K f G H s σ (.dat d) v := ⟨h, fun z => by cases z⟩
theorem Rel.frz (R : Rel K f G s σ H) (h : VRf K f G H s σ p v) (e : p.frz = some d) : ∃ G', Ex G G' ∧ Rel K f G' s σ H ∧ Dp K G' v d := by
  cases p with
  | dat d' => cases e; exact ⟨G, Ex.refl G, R, h.1⟩
  | drw => cases e
  | val _ => cases e
  | dgf _ => cases e
  | abs _ => cases e
  | byr _ => cases e
  | lat _ _ => cases e
  | dct kvs => cases e
  | dcg kvs => cases e
  | own ds =>
    cases e
    obtain ⟨⟨a, vs, rfl, h1, h2, h3, h4, h5⟩, hf⟩ := h
    have hg : Ex G (upd G a (.lst vs)) := Evl.Ex.new h2
    refine ⟨upd G a (.lst vs), hg, { gh := fun b o hb => ?_, fh := R.fh, go := fun b hb => ?_, oh := R.oh, mh := R.mh, mo := R.mo, tm := R.tm, tb := fun p hp => (R.tb p hp).keep (fun b o _ z => hg _ _ z) rfl, pk := fun en h => (R.pk en h).ex hg, dr := R.dr, ln := R.ln, sl := fun i q hq => ?_, ds := R.ds }, .lst (Or.inl (Or.inl upd_same)) (Dp.exAll hg _ h5)⟩
    · by_cases q : b = a
      · subst q; rw [upd_same] at hb; cases hb; exact h1
      · rw [upd_ne q] at hb; exact R.gh _ _ hb
    · have q : b ≠ a := fun z => h3 (z ▸ hb)
      rw [upd_ne q]; exact R.go b hb
    · obtain ⟨w, hw, hv⟩ := R.sl i q hq
      refine ⟨w, hw, ?_⟩
      have ne : q.mut = true → w ≠ .ref a := fun m z => hf rfl i q hq m (by rw [hw, z])
      cases q with
      | dat d => exact Dp.ex hg _ hv
      | drw => exact hv
      | val _ => exact hv
      | dgf _ => obtain ⟨p0, xs0, z1, z2, z3⟩ := hv; exact ⟨p0, xs0, z1, hg _ _ z2, z3.ex hg⟩
      | abs _ => exact fun G9 e9 => hv G9 (hg.trans e9)
      | byr es =>
        obtain ⟨b, ws, rfl, k1, k2, k3, k4, k5, k6⟩ := hv
        exact ⟨b, ws, rfl, k1, by rw [upd_ne (fun z => ne rfl (by rw [z]))]; exact k2, k3, k4, Dp.exAll hg _ k5, k6⟩
      | lat _ es =>
        obtain ⟨b, ws, rfl, k1, k2, k3, k4, k5, k6⟩ := hv
        exact ⟨b, ws, rfl, k1, by rw [upd_ne (fun z => ne rfl (by rw [z]))]; exact k2, k3, k4, Dp.exAll hg _ k5, k6⟩
      | own es =>
        obtain ⟨b, ws, rfl, k1, k2, k3, k4, k5⟩ := hv
        exact ⟨b, ws, rfl, k1, by rw [upd_ne (fun z => ne rfl (by rw [z]))]; exact k2, k3, k4, Dp.exAll hg _ k5⟩
      | dct es =>
        obtain ⟨b, ws, rfl, k1, k2, k3, k4, k5, k6⟩ := hv
        exact ⟨b, ws, rfl, k1, by rw [upd_ne (fun z => ne rfl (by rw [z]))]; exact k2, k3, k4, k5, Dp.exAll hg _ k6⟩
      | dcg es =>
        obtain ⟨b, ws, rfl, k1, k2, k3, k4, k5⟩ := hv
        exact ⟨b, ws, rfl, k1, by rw [upd_ne (fun z => ne rfl (by rw [z]))]; exact k2, k3, k4, k5.ex hg⟩
theorem set_get {α : Type} {xs : List α} {i j : Nat} {x y : α} (h : (xs.set i x)[j]? = some y) : (i = j ∧ y = x ∧ j < xs.length) ∨ (i ≠ j ∧ xs[j]? = some y) := by
  by_cases e : i = j
  · subst e
    rw [List.getElem?_set] at h
    simp at h
    exact Or.inl ⟨rfl, h.2.symm, h.1⟩
  · rw [List.getElem?_set_ne e] at h
    exact Or.inr ⟨e, h⟩
theorem Rel.put {i : Nat} (R : Rel K f G s σ H) (h : VRf K f G H s σ p v) : Rel K f G (s.put i p) (σ.set i (some v)) H where
  gh := R.gh
  fh := R.fh
  go := R.go
  oh := R.oh
  mh := R.mh
  mo := R.mo
  tm := R.tm
  tb := R.tb
  pk := R.pk
  dr := R.dr
  ln := by simp only [Sg.put, List.length_set]; exact R.ln
  sl := fun j q hq => by
    rcases set_get hq with ⟨e, e2, hl⟩ | ⟨e, h2⟩
    · cases e2
      subst e
      exact ⟨v, by rw [List.getElem?_set_self (by rw [R.ln]; exact hl)], h.1⟩
    · obtain ⟨w, hw, hv⟩ := R.sl j q h2
      exact ⟨w, by rw [List.getElem?_set_ne e]; exact hw, hv⟩
  ds := fun a b pa pb w ne ha hb ma mb wa wb => by
    rcases set_get ha with ⟨e, e2, hl⟩ | ⟨e, h2⟩
    · cases e2
      subst e
      rcases set_get hb with ⟨e', e2', hl'⟩ | ⟨e', h2'⟩
      · exact ne e'
      · rw [List.getElem?_set_self (by rw [R.ln]; exact hl)] at wa
        cases wa
        rw [List.getElem?_set_ne e'] at wb
        exact h.2 ma b pb h2' mb wb
    · rw [List.getElem?_set_ne e] at wa
      rcases set_get hb with ⟨e', e2', hl'⟩ | ⟨e', h2'⟩
      · cases e2'
        subst e'
        rw [List.getElem?_set_self (by rw [R.ln]; exact hl')] at wb
        cases wb
        exact h.2 mb a pa h2 ma wa
      · rw [List.getElem?_set_ne e'] at wb
        exact R.ds a b pa pb w ne h2 h2' ma mb wa wb
theorem Rel.put_off {i : Nat} (R : Rel K f G s σ H) : Rel K f G (s.off i) σ H where
  gh := R.gh
  fh := R.fh
  go := R.go
  oh := R.oh
  mh := R.mh
  mo := R.mo
  tm := R.tm
  tb := R.tb
  pk := R.pk
  dr := R.dr
  ln := by simp only [Sg.off, List.length_set]; exact R.ln
  sl := fun j q hq => by
    rcases set_get hq with ⟨e, e2, hl⟩ | ⟨e, h2⟩
    · cases e2
    · exact R.sl j q h2
  ds := fun a b pa pb w ne ha hb ma mb wa wb => by
    rcases set_get ha with ⟨e, e2, hl⟩ | ⟨e, h2⟩
    · cases e2
    rcases set_get hb with ⟨e', e2', hl'⟩ | ⟨e', h2'⟩
    · cases e2'
    exact R.ds a b pa pb w ne h2 h2' ma mb wa wb
theorem Rel.away {i : Nat} (R : Rel K f G s σ H) (h : s.sl[i]? = some (some p)) : ∃ v, σ[i]? = some (some v) ∧ Rel K f G (s.off i) σ H ∧ VRf K f G H (s.off i) σ p v := by
  obtain ⟨v, h1, h2⟩ := R.sl i p h
  refine ⟨v, h1, R.put_off, h2, fun m j q hq mq => ?_⟩
  rcases set_get hq with ⟨e, e2, hl⟩ | ⟨e, h3⟩
  · cases e2
  · exact R.ds i j p q v e h h3 m mq h1
theorem Rel.more {n : Nat} (R : Rel K f G s σ H) (e : s.n ≤ n) : Rel K f G ⟨s.sl, n⟩ σ H := { gh := R.gh, fh := R.fh, go := R.go, oh := R.oh, mh := R.mh, mo := R.mo, tm := R.tm, tb := R.tb, pk := R.pk, dr := fun h => (R.dr h).more e, ln := R.ln, sl := R.sl, ds := R.ds }
end
abbrev HE := Sg → (PV → Sg → Prop) → Prop
abbrev HT := Sg → (Bool → Sg → Prop) → Prop
abbrev HA := Sg → (List PV → Sg → Prop) → Prop
structure HD where
  nx : Sg → Prop
  rt : PV → Sg → Prop
  bk : Sg → Prop := fun _ => False
  ct : Sg → Prop := fun _ => False
abbrev HS := HD → Sg → Prop
def fo (f : Fr) (F : Fr) (O : Addr → Prop) : Fr := ⟨F.on, F.m, F.l, F.c, F.F, O, F.M, F.r, f.w, f.T, f.e⟩
def f1 (w : World) (T : Tbs) (en : Option Ent) : Fr := ⟨false, 0, 0, 0, fun _ => none, fun _ => False, fun _ => False, 0, w, T, en⟩
abbrev f0 (w : World) (T : Tbs) : Fr := f1 w T none
def Fr.up (F : Fr) (D : Addr) (o : HO) : Fr := ⟨F.on, F.m, F.l, F.c, upd F.F D o, F.O, F.M, F.r, F.w, F.T, F.e⟩
def lf (K : PySem.W.Frag) (f : Fr) (t : HE) : TE := fun σ H Q => ∃ F O G s C, Rel K (fo f F O) G s σ H ∧ t s C ∧ ∀ p s' G' H' v, C p s' → Ex G G' → Rel K (fo f F O) G' s' σ H' → VRf K (fo f F O) G' H' s' σ p v → Q v H'
def lfT (K : PySem.W.Frag) (f : Fr) (t : HT) : TT := fun σ H Q => ∃ F O G s C, Rel K (fo f F O) G s σ H ∧ t s C ∧ ∀ b s' G' H', C b s' → Ex G G' → Rel K (fo f F O) G' s' σ H' → Q b H'
def lfA (K : PySem.W.Frag) (f : Fr) (t : HA) : TA := fun σ H Q => ∃ F O G s C, Rel K (fo f F O) G s σ H ∧ t s C ∧ ∀ ps s' G' H' vs, C ps s' → Ex G G' → Rel K (fo f F O) G' s' σ H' → VRs K (fo f F O) G' H' ps vs → Q vs H'
structure Imp (K : PySem.W.Frag) (f : Fr) (F : Fr) (O : Addr → Prop) (G0 : Hp) (D' : HD) (D : Ends) : Prop where
  nx : ∀ G s σ H, Ex G0 G → Rel K (fo f F O) G s σ H → D'.nx s → D.nx σ H
  rt : ∀ p G s σ H v, Ex G0 G → Rel K (fo f F O) G s σ H → VRf K (fo f F O) G H s σ p v → D'.rt p s → D.rt v H
  bk : ∀ G s σ H, Ex G0 G → Rel K (fo f F O) G s σ H → D'.bk s → D.bk σ H
  ct : ∀ G s σ H, Ex G0 G → Rel K (fo f F O) G s σ H → D'.ct s → D.ct σ H
theorem Imp.ex {K : PySem.W.Frag} {f : Fr} {F : Fr} {O : Addr → Prop} {G G' : Hp} {D' : HD} {D : Ends} (h : Imp K f F O G D' D) (e : Ex G G') : Imp K f F O G' D' D := ⟨fun G1 s σ H a => h.nx G1 s σ H (e.trans a), fun p G1 s σ H v a => h.rt p G1 s σ H v (e.trans a), fun G1 s σ H a => h.bk G1 s σ H (e.trans a), fun G1 s σ H a => h.ct G1 s σ H (e.trans a)⟩
def lfS (K : PySem.W.Frag) (f : Fr) (t : HS) : TS := fun D σ H => ∃ F O G s D', Rel K (fo f F O) G s σ H ∧ t D' s ∧ Imp K f F O G D' D
theorem _root_.L2.PE.mono {X : Cx} {e : Expr} {t t' : TE} (h : PE X e t) (m : ∀ σ H Q, t' σ H Q → t σ H Q) : PE X e t' := ⟨fun pins s σ H Q I q => h.run pins s σ H Q I (m σ H Q q)⟩
theorem _root_.L2.PT.mono {X : Cx} {e : Expr} {t t' : TT} (h : PT X e t) (m : ∀ σ H Q, t' σ H Q → t σ H Q) : PT X e t' := ⟨fun pins s σ H Q I q => h.run pins s σ H Q I (m σ H Q q)⟩
theorem _root_.L2.PW.mono {X : Cx} {e : Expr} {t t' : TT} (h : PW X e t) (m : ∀ σ H Q, t' σ H Q → t σ H Q) : PW X e t' := ⟨fun wh pins s σ H Q I q => h.run wh pins s σ H Q I (m σ H Q q)⟩
theorem _root_.L2.PA.mono {X : Cx} {es : List Expr} {t t' : TA} (h : PA X es t) (m : ∀ σ H Q, t' σ H Q → t σ H Q) : PA X es t' := ⟨fun pos pins s σ H Q I q => h.run pos pins s σ H Q I (m σ H Q q)⟩
theorem _root_.L2.PS.mono {X : Cx} {st : Stmt} {t t' : TS} (h : PS X st t) (m : ∀ D σ H, t' D σ H → t D σ H) : PS X st t' := ⟨fun pins s σ H D I q => h.run pins s σ H D I (m D σ H q)⟩
theorem _root_.L2.PSs.mono {X : Cx} {st : List Stmt} {t t' : TS} (h : PSs X st t) (m : ∀ D σ H, t' D σ H → t D σ H) : PSs X st t' := ⟨fun pins s σ H D I q => h.run pins s σ H D I (m D σ H q)⟩
@[simp] def hNil : HA := fun s C => C [] s
@[simp] def hL (j : Nat) (r : HA) : HA := fun s C => (∃ p, s.sl[j]? = some (some p)) ∧ r s fun ps s2 => ∃ p, s2.sl[j]? = some (some p) ∧ C (p :: ps) s2
@[simp] def hE (t : HE) (r : HA) : HA := fun s C => t s fun p s1 => ∃ d, p.frz = some d ∧ r s1 fun ps s2 => C (.dat d :: ps) s2
structure Opd (X : Cx) (f : Fr) (e : Expr) (o : HA → HA) : Prop where
  ex : ∃ t, PE X e t ∧ ∀ (tr : TA) (r : HA), (∀ σ H Q, lfA X.K f r σ H Q → tr σ H Q) → ∀ σ H Q, lfA X.K f (o r) σ H Q → tCons t tr σ H Q
section
variable {X : Cx} {f : Fr} {e a b c : Expr} {es : List Expr} {o oa ob oc : HA → HA} {t : HE} {r : HA} {pos : Pos}
theorem opd_e (h : PE X e (lf X.K f t)) : Opd X f e (hE t) := ⟨_, h, fun tr r m σ H Q q => by
  obtain ⟨F, O, G, s, C, R, ht, k⟩ := q
  refine ⟨F, O, G, s, _, R, ht, fun p s1 G1 H1 v c1 e1 R1 V1 => ?_⟩
  obtain ⟨d, hd, hr⟩ := c1
  obtain ⟨G2, e2, R2, V2⟩ := R1.frz V1 hd
  refine m _ _ _ ⟨F, O, G2, s1, _, R2, hr, fun ps s3 G3 H3 vs c3 e3 R3 V3 => ?_⟩
  exact k _ _ _ _ _ c3 ((e1.trans e2).trans e3) R3 (.cons (Dp.ex e3 _ V2) V3)⟩
theorem opd_v (j : Nat) (h : PE X e (tVar j)) : Opd X f e (hL j) := ⟨_, h, fun tr r m σ H Q q => by
  obtain ⟨F, O, G, s, C, R, ⟨⟨p, hp⟩, ht⟩, k⟩ := q
  obtain ⟨v, hv, _⟩ := R.sl j p hp
  refine ⟨v, hv, m _ _ _ ⟨F, O, G, s, _, R, ht, fun ps s3 G3 H3 vs c3 e3 R3 V3 => ?_⟩⟩
  obtain ⟨p2, hp2, c4⟩ := c3
  obtain ⟨v2, hv2, V2⟩ := R3.sl j p2 hp2
  rw [hv] at hv2
  cases hv2
  exact k _ _ _ _ _ c4 e3 R3 (.cons V2 V3)⟩
theorem hpa_nil : PA X [] (lfA X.K f hNil) := pa_nil.mono fun σ H Q q => by
  obtain ⟨F, O, G, s, C, R, ht, k⟩ := q
  exact k _ _ _ _ _ ht (Ex.refl G) R .nil
theorem hpa_cons (A : Opd X f e o) (h : PA X es (lfA X.K f r)) (hs : starEach (e :: es) X.env = (false, eval e X.env) :: starEach es X.env := by rfl) : PA X (e :: es) (lfA X.K f (o r)) := by
  obtain ⟨t, h1, h2⟩ := A.ex
  exact (pa_cons h1 h hs).mono fun σ H Q q => h2 _ _ (fun _ _ _ z => z) σ H Q q
def Op (K : PySem.W.Frag) (f : Fr) (r : List V → Hp → VK → Prop) (w : List PV → (PV → Prop) → Prop) : Prop :=
  ∀ F O G s σ H ps vs (C : PV → Prop) (Q : VK), Rel K (fo f F O) G s σ H → VRs K (fo f F O) G H ps vs → w ps C → (∀ p G' H' v, C p → Ex G G' → Rel K (fo f F O) G' s σ H' → VRf K (fo f F O) G' H' s σ p v → Q v H') → r vs H Q
@[simp] def hC (w : List PV → (PV → Prop) → Prop) (ta : HA) : HE := fun s C => ta s fun ps s' => w ps fun p => C p s'
theorem Op.lift {r : List V → Hp → VK → Prop} {w : List PV → (PV → Prop) → Prop} (h : Op X.K f r w) (ta : HA) : ∀ σ H Q, lf X.K f (hC w ta) σ H Q → lfA X.K f ta σ H fun vs H' => r vs H' Q := fun σ H Q q => by
  obtain ⟨F, O, G, s, C, R, ht, k⟩ := q
  refine ⟨F, O, G, s, _, R, ht, fun ps s1 G1 H1 vs c1 e1 R1 V1 => h F O G1 s1 σ H1 ps vs _ Q R1 V1 c1 fun p G2 H2 v c2 e2 R2 V2 => ?_⟩
  exact k p s1 G2 H2 v c2 (e1.trans e2) R2 V2
def op2 (r : R2) : List V → Hp → VK → Prop := fun vs H Q => match vs with
  | [x, y] => r x y H Q
  | _ => False
def op1 (r : V → Hp → VK → Prop) : List V → Hp → VK → Prop := fun vs H Q => match vs with
  | [x] => r x H Q
  | _ => False
theorem Opd.two {r : R2} {w : List PV → (PV → Prop) → Prop} (A : Opd X f a oa) (B : Opd X f b ob) (h : Op X.K f (op2 r) w) : ∃ ta tb, PE X a ta ∧ PE X b tb ∧ ∀ σ H Q, lf X.K f (hC w (oa (ob hNil))) σ H Q → tOp r ta tb σ H Q := by
  obtain ⟨ta, a1, a2⟩ := A.ex
  obtain ⟨tb, b1, b2⟩ := B.ex
  refine ⟨ta, tb, a1, b1, fun σ H Q q => ?_⟩
  have z := a2 (tCons tb tNil) (ob hNil) (fun σ H Q => b2 tNil hNil (fun σ H Q q => by
    obtain ⟨F, O, G, s, C, R, ht, k⟩ := q
    exact k _ _ _ _ _ ht (Ex.refl G) R .nil) σ H Q) σ H _ (h.lift _ σ H Q q)
  exact z
theorem hp_op {op : Operator} {r : R2} {w : List PV → (PV → Prop) → Prop} (hr : OpR X (binaryOp op) r) (A : Opd X f a oa) (B : Opd X f b ob) (h : Op X.K f (op2 r) w) : PE X (.BinOp a op b pos) (lf X.K f (hC w (oa (ob hNil)))) := by
  obtain ⟨ta, tb, h1, h2, h3⟩ := A.two B h
  exact (pe_op hr h1 h2).mono h3
theorem hp_cmp {op : CmpOp} {r : R2} {w : List PV → (PV → Prop) → Prop} (hr : OpR X (compareOp op) r) (A : Opd X f a oa) (B : Opd X f b ob) (h : Op X.K f (op2 r) w) (hm : behindInMarks op b = false) : PE X (.Compare a [op] [b] pos) (lf X.K f (hC w (oa (ob hNil)))) := by
  obtain ⟨ta, tb, h1, h2, h3⟩ := A.two B h
  exact (pe_cmpR hr h1 h2 hm).mono h3
@[simp] def hB (t : HE) : HT := fun s C => t s fun p s' => ∃ b, p = .dat (.bool b) ∧ C b s'
theorem lfT_B : ∀ σ H Q, lfT X.K f (hB t) σ H Q → lf X.K f t σ H fun x H1 => ∃ c, x = .bl c ∧ Q c H1 := fun σ H Q q => by
  obtain ⟨F, O, G, s, C, R, ht, k⟩ := q
  refine ⟨F, O, G, s, _, R, ht, fun p s1 G1 H1 v c1 e1 R1 V1 => ?_⟩
  obtain ⟨b, rfl, c2⟩ := c1
  have z : v = .bl b := by
    have := V1.1
    cases (show Dp X.K G1 v (.bool b) from this)
    rfl
  exact ⟨b, z, k _ _ _ _ c2 e1 R1⟩
theorem hp_test (h : PE X e (lf X.K f t)) (he : ∀ whole, isTrue e X.env whole = (do let v ← whole; standAt e.pos; holding [v] (truthy v)) := by intro _; rfl) : PT X e (lfT X.K f (hB t)) := (pt_val h he).mono lfT_B
theorem ht_cmp {op : CmpOp} {r : R2} {w : List PV → (PV → Prop) → Prop} (hr : OpR X (compareOp op) r) (A : Opd X f a oa) (B : Opd X f b ob) (h : Op X.K f (op2 r) w) (hm : behindInMarks op b = false) : PT X (.Compare a [op] [b] pos) (lfT X.K f (hB (hC w (oa (ob hNil))))) := by
  obtain ⟨ta, tb, h1, h2, h3⟩ := A.two B h
  exact (pt_cmpR hr h1 h2 hm).mono fun σ H Q q => h3 _ _ _ (lfT_B _ _ _ q)
theorem hp_ix {r : R2} {w : List PV → (PV → Prop) → Prop} (hr : IxR X r) (A : Opd X f a oa) (B : Opd X f b ob) (h : Op X.K f (op2 r) w) (hs : PlainIx b) : PE X (.Subscript a b pos) (lf X.K f (hC w (oa (ob hNil)))) := by
  obtain ⟨ta, tb, h1, h2, h3⟩ := A.two B h
  exact (pe_ix hr h1 h2 hs).mono h3
end
end Sk
set_option Elab.async false
set_option linter.all false
set_option maxRecDepth 100000
set_option maxHeartbeats 2000000
namespace Sk
open PySem PySem.Spec PyProof.Rows L2
open Evl (Ex)
@[simp] def hV (j : Nat) : HE := fun s C => match s.sl[j]? with
  | some (some (.dat d)) => C (.dat d) s
  | some (some (.own ds)) => C (.dat (.list ds)) (s.put j (.dat (.list ds)))
  | some (some .drw) => C .drw s
  | some (some (.abs R)) => C (.abs R) s
  | _ => False
@[simp] def hM (j : Nat) : HE := fun s C => match s.sl[j]? with
  | some (some p) => C p (s.off j)
  | _ => False
@[simp] def hK (d : PyData) : HE := fun s C => C (.dat d) s
@[simp] def dats : List PV → Option (List PyData)
  | [] => some []
  | .dat d :: r => (dats r).map (d :: ·)
  | _ => none
@[simp] def hTup (ta : HA) : HE := hC (fun ps C => ∃ ds, dats ps = some ds ∧ ds.length ≤ 100000 ∧ C (.dat (.tuple ds))) ta
@[simp] def hLst (ta : HA) : HE := hC (fun ps C => ∃ ds, dats ps = some ds ∧ ds.length ≤ 100000 ∧ C (.own ds)) ta
@[simp] def hAndV (t u : HE) : HE := fun s C => t s fun p s1 => ∃ b, p = .dat (.bool b) ∧ if b = true then u s1 C else C (.dat (.bool false)) s1
@[simp] def hOrV (t u : HE) : HE := fun s C => t s fun p s1 => ∃ b, p = .dat (.bool b) ∧ if b = true then C (.dat (.bool true)) s1 else u s1 C
@[simp] def hNotV (t : HE) : HE := fun s C => t s fun p s1 => ∃ b, p = .dat (.bool b) ∧ C (.dat (.bool (!b))) s1
@[simp] def hIf (c : HT) (t u : HE) : HE := fun s C => c s fun b s1 => if b = true then t s1 C else u s1 C
@[simp] def hAnd (t u : HT) : HT := fun s C => t s fun b s1 => if b = true then u s1 C else C false s1
@[simp] def hOr (t u : HT) : HT := fun s C => t s fun b s1 => if b = true then C true s1 else u s1 C
@[simp] def hNot (t : HT) : HT := fun s C => t s fun b s1 => C (!b) s1
section
variable {X : Cx} {f : Fr} {e a b c : Expr} {es : List Expr} {o oa ob oc : HA → HA} {t u : HE} {tt tu : HT} {r : HA} {pos : Pos}
theorem dats_all {K : PySem.W.Frag} {f : Fr} {G H : Hp} : ∀ {ps : List PV} {vs : List V} {ds : List PyData}, dats ps = some ds → VRs K f G H ps vs → DpAll K G vs ds
  | [], _, _, h, .nil => by cases h; exact .nil
  | .dat d :: r, _, _, h, .cons h1 h2 => by
    rw [dats] at h
    cases q : dats r with
    | none => rw [q] at h; cases h
    | some es => rw [q] at h; cases h; exact .cons h1 (dats_all q h2)
  | .own _ :: _, _, _, h, .cons _ _ => by cases h
  | .dct _ :: _, _, _, h, .cons _ _ => by cases h
  | .dcg _ :: _, _, _, h, .cons _ _ => by cases h
  | .drw :: _, _, _, h, .cons _ _ => by cases h
  | .val _ :: _, _, _, h, .cons _ _ => by cases h
  | .dgf _ :: _, _, _, h, .cons _ _ => by cases h
  | .abs _ :: _, _, _, h, .cons _ _ => by cases h
  | .byr _ :: _, _, _, h, .cons _ _ => by cases h
  | .lat _ _ :: _, _, _, h, .cons _ _ => by cases h
theorem hp_v (j : Nat) (h : PE X e (tVar j)) : PE X e (lf X.K f (hV j)) := h.mono fun σ H Q q => by
  obtain ⟨F, O, G, s, C, R, ht, k⟩ := q
  unfold hV at ht
  split at ht
  · rename_i d hd
    obtain ⟨v, hv, V⟩ := R.sl j _ hd
    exact ⟨v, hv, k _ _ _ _ _ ht (Ex.refl G) R (vrf_dat V)⟩
  · rename_i ds hd
    obtain ⟨v, hv, R1, V1⟩ := R.away hd
    obtain ⟨G2, e2, R2, V2⟩ := R1.frz V1 rfl
    refine ⟨v, hv, k _ _ _ _ _ ht e2 ?_ (vrf_dat V2)⟩
    have := R2.put (i := j) (vrf_dat (f := fo f F O) (H := H) (s := s.off j) (σ := σ) V2)
    have e1 : (s.off j).put j (.dat (.list ds)) = s.put j (.dat (.list ds)) := by simp [Sg.off, Sg.put, List.set_set]
    have e2 : σ.set j (some v) = σ := by
      apply List.ext_getElem?
      intro i
      by_cases z : j = i
      · subst z
        rw [List.getElem?_set_self (by exact (List.getElem?_eq_some_iff.mp hv).1), hv]
      · rw [List.getElem?_set_ne z]
    rw [e1, e2] at this
    exact this
  · rename_i hd
    obtain ⟨v, hv, V⟩ := R.sl j _ hd
    exact ⟨v, hv, k _ _ _ _ _ ht (Ex.refl G) R ⟨V, fun z => by cases z⟩⟩
  · rename_i hd
    obtain ⟨v, hv, V⟩ := R.sl j _ hd
    exact ⟨v, hv, k _ _ _ _ _ ht (Ex.refl G) R ⟨V, fun z => by cases z⟩⟩
  · exact ht.elim
theorem hp_m (j : Nat) (h : PE X e (tVar j)) : PE X e (lf X.K f (hM j)) := h.mono fun σ H Q q => by
  obtain ⟨F, O, G, s, C, R, ht, k⟩ := q
  unfold hM at ht
  split at ht
  · rename_i d hd
    obtain ⟨v, hv, R1, V1⟩ := R.away hd
    exact ⟨v, hv, k _ _ _ _ _ ht (Ex.refl G) R1 V1⟩
  · exact ht.elim
theorem hp_k {v : V} {d : PyData} (h : PE X e (tC v)) (hv : ∀ G, Dp X.K G v d) : PE X e (lf X.K f (hK d)) := h.mono fun σ H Q q => by
  obtain ⟨F, O, G, s, C, R, ht, k⟩ := q
  exact k _ _ _ _ _ ht (Ex.refl G) R (vrf_dat (hv G))
theorem op_lst : Op X.K f (fun vs H Q => vs.length ≤ sizeLine ∧ ∀ p, H p = none → Q (.ref p) (upd H p (.lst vs))) (fun ps C => ∃ ds, dats ps = some ds ∧ ds.length ≤ 100000 ∧ C (.own ds)) := fun F O G s σ H ps vs C Q R V w k => by
  obtain ⟨ds, h1, h2, h3⟩ := w
  have D := dats_all h1 V
  exact ⟨by rw [D.len]; exact Evl.sz_of h2, fun p hp => k _ _ _ _ h3 (Ex.refl G) (R.new hp) (R.own hp D)⟩
theorem hp_lst (h : PA X es (lfA X.K f r)) : PE X (.List es pos) (lf X.K f (hLst r)) := (pe_lst h).mono fun σ H Q q => op_lst.lift _ _ _ _ q
theorem vr_bool {K : PySem.W.Frag} {f : Fr} {G H : Hp} {s : Sg} {σ : L2.St} {b : Bool} {v : V} (h : VRf K f G H s σ (.dat (.bool b)) v) : v = .bl b := by
  cases (show Dp K G v (.bool b) from h.1)
  rfl
theorem hp_if (hc : PT X c (lfT X.K f tt)) (ha : PE X a (lf X.K f t)) (hb : PE X b (lf X.K f u)) : PE X (.IfExp c a b pos) (lf X.K f (hIf tt t u)) := (pe_ifExp hc ha hb).mono fun σ H Q q => by
  obtain ⟨F, O, G, s, C, R, ht, k⟩ := q
  refine ⟨F, O, G, s, _, R, ht, fun b s1 G1 H1 c1 e1 R1 => ?_⟩
  cases b with
  | true => exact ⟨F, O, G1, s1, _, R1, c1, fun p2 s2 G2 H2 v2 c3 e3 => k _ _ _ _ _ c3 (e1.trans e3)⟩
  | false => exact ⟨F, O, G1, s1, _, R1, c1, fun p2 s2 G2 H2 v2 c3 e3 => k _ _ _ _ _ c3 (e1.trans e3)⟩
theorem ht_or1 (ha : PT X a (lfT X.K f tt)) : PW X (.BoolOp .Or [a] pos) (lfT X.K f tt) := pw_or1 ha
theorem ht_or {rest : List Expr} (ha : PT X a (lfT X.K f tt)) (hb : PW X (.BoolOp .Or (b :: rest) pos) (lfT X.K f tu)) : PW X (.BoolOp .Or (a :: b :: rest) pos) (lfT X.K f (hOr tt tu)) := (pw_or ha hb).mono fun σ H Q q => by
  obtain ⟨F, O, G, s, C, R, ht, k⟩ := q
  refine ⟨F, O, G, s, _, R, ht, fun b s1 G1 H1 c1 e1 R1 => ?_⟩
  cases b with
  | false => exact ⟨F, O, G1, s1, _, R1, c1, fun p2 s2 G2 H2 c3 e3 => k _ _ _ _ c3 (e1.trans e3)⟩
  | true => exact k _ _ _ _ c1 e1 R1
theorem ht_not (ha : PT X a (lfT X.K f tt)) : PT X (.UnaryOp .Not a pos) (lfT X.K f (hNot tt)) := (pt_not ha).mono fun σ H Q q => by
  obtain ⟨F, O, G, s, C, R, ht, k⟩ := q
  exact ⟨F, O, G, s, _, R, ht, fun b s1 G1 H1 c1 e1 R1 => k _ _ _ _ c1 e1 R1⟩
@[simp] def hChain (w w' : List PV → (PV → Prop) → Prop) (oa ob oc : HA → HA) : HE := fun s C => oa (ob hNil) s fun ps s1 => match ps with
  | [x, y] => y.mut = false ∧ w [x, y] fun p => ∃ b, p = .dat (.bool b) ∧ if b = true then oc hNil s1 fun qs s2 => match qs with
      | [z] => w' [y, z] fun p2 => C p2 s2
      | _ => False
    else C (.dat (.bool false)) s1
  | _ => False
variable {x id T : Str} {p : Pos}
theorem hp_callB {id : String} {x : Str} {rr : List V → Hp → VK → Prop} {w : List PV → (PV → Prop) → Prop} (hc : CallR X (.builtin id) rr) (hw : Op X.K f rr w) (hg : Gl X x) (hm : X.mg x = none) (hv : bootBuiltins x = some (.builtin id)) (ha : PA X (e :: es) (lfA X.K f r)) (hn : x ≠ "__name__" := by decide) (hdb : (x == ("__debug__" : Str)) = false := by decide)
    (he : starEach (e :: es) X.env = (false, eval e X.env) :: starEach es X.env := by rfl) (hpl : (backTo pos (starEach es X.env)).any (·.1) = false := by rfl) : PE X (.Call (.Name x p) (e :: es) [] pos) (lf X.K f (hC w r)) :=
  (pe_callB hc hg hm hv ha hn hdb he hpl).mono fun σ H Q q => hw.lift _ _ _ _ q
end
@[simp] def hSeq (t u : HS) : HS := fun D s => t { D with nx := u D } s
@[simp] def hNext : HS := fun D s => D.nx s
@[simp] def hNever : HS := fun _ _ => False
@[simp] def hAsg (t : HE) (i : Nat) : HS := fun D s => t s fun p s' => D.nx (s'.put i p)
@[simp] def hRet (t : HE) : HS := fun D s => t s D.rt
@[simp] def hRetN : HS := fun D s => D.rt (.dat .none) s
@[simp] def hIfS (c : HT) (t u : HS) : HS := fun D s => c s fun b s1 => if b = true then t D s1 else u D s1
@[simp] def hDrop (t : HE) : HS := fun D s => t s fun _ s' => D.nx s'
@[simp] def hBrk : HS := fun D s => D.bk s
@[simp] def hCnt : HS := fun D s => D.ct s
@[simp] def hPar (i j : Nat) (ta : HA) : HS := fun D s => ta s fun ps s1 => ∃ p q, ps = [p, q] ∧ p.mut = false ∧ q.mut = false ∧ D.nx ((s1.put i p).put j q)
abbrev HG := PyData → Sg → (Sg → Prop) → Prop
@[simp] def gN (i : Nat) : HG := fun d s C => C (s.put i (.dat d))
@[simp] def gP (i j : Nat) : HG := fun d s C => match d with
  | .tuple [a, b] => C ((s.put i (.dat a)).put j (.dat b))
  | _ => False
@[simp] def gT (i j k : Nat) : HG := fun d s C => match d with
  | .tuple [a, b, c] => C (((s.put i (.dat a)).put j (.dat b)).put k (.dat c))
  | _ => False
def lfG (K : PySem.W.Frag) (f : Fr) (g : HG) (ws : List Nat) : TG := fun v σ H Q => ∃ F O G s d C, Rel K (fo f F O) G s σ H ∧ Dp K G v d ∧ g d s C ∧ ∀ s' σ', C s' → (∀ i, i ∉ ws → σ'[i]? = σ[i]?) → Rel K (fo f F O) G s' σ' H → Q σ' H
abbrev HI := Sg → (List PyData → Sg → Prop) → Prop
def ItOk (K : PySem.W.Frag) (f : Fr) (G0 : Hp) (ds : List PyData) (J : It) : Prop := ∀ (i : Nat) F O G s σ H, Ex G0 G → Rel K (fo f F O) G s σ H → (ds.length ≤ i → J.stop i H) ∧ ∀ d, ds[i]? = some d → J.go i H ∧ ∀ x H', J.yld i H x H' → ∃ G', Ex G G' ∧ Ex H H' ∧ Rel K (fo f F O) G' s σ H' ∧ Dp K G' x d
def lfI (K : PySem.W.Frag) (f : Fr) (t : HI) : TI := fun σ H R => ∃ F O G s C, Rel K (fo f F O) G s σ H ∧ t s C ∧ ∀ ds s' G' H' J, C ds s' → Ex G G' → Rel K (fo f F O) G' s' σ H' → ItOk K f G' ds J → R J H'
@[simp] def each (g : HG) (t : HS) (D : HD) : List PyData → Sg → Prop
  | [], s => D.nx s
  | d :: ds, s => g d s fun s1 => t { D with nx := each g t D ds, ct := each g t D ds, bk := D.nx } s1
@[simp] def hFor (it : HI) (g : HG) (t : HS) : HS := fun D s => it s fun ds s1 => each g t D ds s1
theorem _root_.L2.PI.mono {X : Cx} {tg it : Expr} {t t' : TI} (h : PI X tg it t) (m : ∀ σ H R, t' σ H R → t σ H R) : PI X tg it t' := ⟨fun pins s σ H R I q => h.run pins s σ H R I (m σ H R q)⟩
theorem _root_.L2.PG.mono {X : Cx} {tg : Expr} {t t' : TG} (h : PG X tg t) (m : ∀ v σ H Q, t' v σ H Q → t v σ H Q) : PG X tg t' := ⟨fun pins s σ H v u Q I r q => h.run pins s σ H v u Q I r (m v σ H Q q)⟩
section
variable {X : Cx} {f : Fr} {e a b c : Expr} {es : List Expr} {st : Stmt} {sts rest : List Stmt} {t : HE} {tt : HT} {ts tu : HS} {r : HA} {g : HG} {ws : List Nat} {it : HI} {pos : Pos}
theorem hs_nil : PSs X [] (lfS X.K f hNext) := pss_nil.mono fun D σ H q => by
  obtain ⟨F, O, G, s, D', R, ht, k⟩ := q
  exact k.nx _ _ _ _ (Ex.refl G) R ht
theorem hs_one (h : PS X st (lfS X.K f ts)) : PSs X [st] (lfS X.K f ts) := pss_one h
theorem hs_cons (h1 : PS X st (lfS X.K f ts)) (h2 : PSs X rest (lfS X.K f tu)) : PSs X (st :: rest) (lfS X.K f (hSeq ts tu)) := (pss_cons h1 h2).mono fun D σ H q => by
  obtain ⟨F, O, G, s, D', R, ht, k⟩ := q
  exact ⟨F, O, G, s, _, R, ht, ⟨fun G1 s1 σ1 H1 e1 R1 d1 => ⟨F, O, G1, s1, D', R1, d1, k.ex e1⟩, k.rt, k.bk, k.ct⟩⟩
theorem hs_asg {te : TE} {i : Nat} (h : PS X st (tAsg te (gName i))) (m : ∀ σ H Q, lf X.K f t σ H Q → te σ H Q) : PS X st (lfS X.K f (hAsg t i)) := h.mono fun D σ H q => by
  obtain ⟨F, O, G, s, D', R, ht, k⟩ := q
  exact m _ _ _ ⟨F, O, G, s, _, R, ht, fun p s1 G1 H1 v c1 e1 R1 V1 => k.nx _ _ _ _ e1 (R1.put V1) c1⟩
theorem hs_set {i : Nat} {x : Str} {pos' : Pos} (hN : X.N.Nodup) (hi : X.N[i]? = some x) (hx : Loc X.env.scope x) (he : PE X e (lf X.K f t)) (hs : swapsWith e (some (.Name x pos')) pos.line X.env = pure false := by rfl) (hf : X.fn x = true ∨ X.env.scope.names.lookup x = some .local := by first | exact .inl rfl | exact .inr rfl | assumption) :
    PS X (.Assign [.Name x pos'] e pos) (lfS X.K f (hAsg t i)) := hs_asg (ps_set hN hi hx he hs hf) fun _ _ _ q => q
theorem hs_ret (he : PE X e (lf X.K f t)) : PS X (.Return (some e) pos) (lfS X.K f (hRet t)) := (ps_ret he).mono fun D σ H q => by
  obtain ⟨F, O, G, s, D', R, ht, k⟩ := q
  exact ⟨F, O, G, s, _, R, ht, fun p s1 G1 H1 v c1 e1 R1 V1 => k.rt _ _ _ _ _ _ e1 R1 V1 c1⟩
theorem hs_if (hc : PT X c (lfT X.K f tt)) (ha : PSs X sts (lfS X.K f ts)) (hb : PSs X rest (lfS X.K f tu)) : PS X (.If c sts rest pos) (lfS X.K f (hIfS tt ts tu)) := (ps_if hc ha hb).mono fun D σ H q => by
  obtain ⟨F, O, G, s, D', R, ht, k⟩ := q
  refine ⟨F, O, G, s, _, R, ht, fun b s1 G1 H1 c1 e1 R1 => ?_⟩
  cases b with
  | true => exact ⟨F, O, G1, s1, D', R1, c1, k.ex e1⟩
  | false => exact ⟨F, O, G1, s1, D', R1, c1, k.ex e1⟩
theorem hs_for (hp : PassesOwn (model X.prog X.w) X.A X.env X.xe) (hc : X.calm = true) (hi : PI X a e (lfI X.K f it)) (hg : PG X a (lfG X.K f g ws)) (hb : PSs X sts (lfS X.K f ts)) (hs : ∀ x, foldedSetIterable e X.env x = pure x := by intro _; rfl) :
    PS X (.For a e sts [] pos) (lfS X.K f (hFor it g ts)) := (ps_for hp hc hi hg hb hs).mono fun D σ H q => by
  obtain ⟨F, O, G, s, D', R, ht, k⟩ := q
  refine ⟨F, O, G, s, _, R, ht, fun ds s1 G1 H1 J c1 e1 R1 ok => ?_⟩
  refine ⟨fun i m σ2 H2 => ∃ G2 s2, Ex G1 G2 ∧ Rel X.K (fo f F O) G2 s2 σ2 H2 ∧ m = ds.length - i ∧ each g ts D' (ds.drop i) s2, ⟨_, G1, s1, Ex.refl G1, R1, rfl, c1⟩, ?_⟩
  rintro i m σ2 H2 ⟨G2, s2, e2, R2, rfl, w⟩
  obtain ⟨k1, k2⟩ := ok i F O G2 s2 σ2 H2 e2 R2
  by_cases hi : i < ds.length
  · have hd : ds[i]? = some ds[i] := List.getElem?_eq_getElem hi
    obtain ⟨go, yl⟩ := k2 _ hd
    rw [List.drop_eq_getElem_cons hi] at w
    refine Or.inr ⟨go, fun σ' H' => ∃ G3 s3, Ex G1 G3 ∧ Rel X.K (fo f F O) G3 s3 σ' H' ∧ each g ts D' (ds.drop (i + 1)) s3, fun σ' H' h => ?_, fun x H' y => ?_⟩
    · obtain ⟨G3, s3, b1, b2, b3⟩ := h
      exact ⟨_, by omega, G3, s3, b1, b2, rfl, b3⟩
    · obtain ⟨G3, e3, _, R3, V3⟩ := yl x H' y
      refine ⟨F, O, G3, s2, _, _, R3, V3, w, fun s4 σ4 c4 _ R4 => ?_⟩
      exact ⟨F, O, G3, s4, _, R4, c4, ⟨fun G5 s5 σ5 H5 e5 R5 d5 => ⟨G5, s5, (e2.trans e3).trans e5, R5, d5⟩, fun p G5 s5 σ5 H5 v e5 => k.rt p G5 s5 σ5 H5 v (((e1.trans e2).trans e3).trans e5), fun G5 s5 σ5 H5 e5 => k.nx G5 s5 σ5 H5 (((e1.trans e2).trans e3).trans e5), fun G5 s5 σ5 H5 e5 R5 d5 => ⟨G5, s5, (e2.trans e3).trans e5, R5, d5⟩⟩⟩
  · rw [List.drop_eq_nil_of_le (by omega)] at w
    exact Or.inl ⟨k1 (by omega), k.nx _ _ _ _ (e1.trans e2) R2 w⟩
theorem hg_name {i : Nat} (h : PG X a (gName i)) : PG X a (lfG X.K f (gN i) [i]) := h.mono fun v σ H Q q => by
  obtain ⟨F, O, G, s, d, C, R, V, hg, k⟩ := q
  exact k _ _ hg (fun z hz => List.getElem?_set_ne (fun e => hz (by simp [e]))) (R.put (vrf_dat V))
theorem hg_pair {i j : Nat} (h : PG X a (gTup X.K 2 (gCons (gName i) (gCons (gName j) gNil)))) : PG X a (lfG X.K f (gP i j) [i, j]) := h.mono fun v σ H Q q => by
  obtain ⟨F, O, G, s, d, C, R, V, hg, k⟩ := q
  unfold gP at hg
  split at hg
  · rename_i x y
    cases V with
    | tup hs ha =>
      cases ha with
      | cons h1 h2 =>
        cases h2 with
        | cons h2 h3 =>
          cases h3
          exact ⟨_, _, rfl, Evl.ex_t R.gh hs, rfl, _, _, rfl, _, _, rfl, rfl, k _ _ hg (fun z hz => by rw [List.getElem?_set_ne (fun e => hz (by simp [e])), List.getElem?_set_ne (fun e => hz (by simp [e]))]) ((R.put (vrf_dat h1)).put (vrf_dat h2))⟩
  · exact hg.elim
end
end Sk
set_option Elab.async false
set_option linter.all false
set_option maxRecDepth 100000
set_option maxHeartbeats 2000000
namespace Sk
open PySem PySem.Spec PyProof.Rows L2
open Evl (Ex)
@[simp] def hiL (t : HE) : HI := fun s C => t s fun p s1 => match p.frz with
  | some (.list ds) => C ds s1
  | _ => False
@[simp] def hiT (t : HE) : HI := fun s C => t s fun p s1 => match p.frz with
  | some (.tuple ds) => C ds s1
  | _ => False
@[simp] def hiS (t : HE) : HI := fun s C => t s fun p s1 => match p with
  | .dat (.str x) => C (x.cps.toList.map fun c => .str ⟨#[c]⟩) s1
  | _ => False
def rngD (lo : Int) (n : Nat) : List PyData := (List.range n).map fun i => .int (lo + (i : Nat))
@[simp] def hiR1 (ta : HA) : HI := fun s C => ta s fun ps s1 => match ps with
  | [.dat (.int n)] => (-1000000 ≤ n ∧ n ≤ 1000000) ∧ C (rngD 0 n.toNat) s1
  | _ => False
@[simp] def hiR2 (ta : HA) : HI := fun s C => ta s fun ps s1 => match ps with
  | [.dat (.int a), .dat (.int b)] => (-1000000 ≤ a ∧ a ≤ 1000000 ∧ -1000000 ≤ b ∧ b ≤ 1000000) ∧ C (rngD a (b - a).toNat) s1
  | _ => False
def enumD : Nat → List PyData → List PyData
  | _, [] => []
  | i, d :: ds => .tuple [.int i, d] :: enumD (i + 1) ds
@[simp] def hiE (ta : HA) : HI := fun s C => ta s fun ps s1 => match ps with
  | [.dat (.list ds)] => C (enumD 0 ds) s1
  | _ => False
def zipD : List PyData → List PyData → List PyData
  | d :: ds, e :: es => .tuple [d, e] :: zipD ds es
  | _, _ => []
@[simp] def hiZ (ta : HA) : HI := fun s C => ta s fun ps s1 => match ps with
  | [.dat (.list ds), .dat (.list es)] => C (zipD ds es) s1
  | [.dat (.tuple ds), .dat (.tuple es)] => C (zipD ds es) s1
  | _ => False
theorem enumD_at : ∀ {ds : List PyData} {k i : Nat} {d : PyData}, (enumD k ds)[i]? = some d → ∃ e, ds[i]? = some e ∧ d = .tuple [.int (k + i : Nat), e]
  | [], _, _, _, h => by simp [enumD] at h
  | e :: ds, k, 0, d, h => by simp [enumD] at h; exact ⟨e, rfl, by simp [← h]⟩
  | e :: ds, k, i + 1, d, h => by
    obtain ⟨x, h1, h2⟩ := enumD_at (k := k + 1) (i := i) (d := d) (by simpa [enumD] using h)
    exact ⟨x, by simpa using h1, by rw [h2]; simp; omega⟩
theorem enumD_len : ∀ {ds : List PyData} {k : Nat}, (enumD k ds).length = ds.length
  | [], _ => rfl
  | e :: ds, k => by simp [enumD, enumD_len]
section
variable {X : Cx} {f : Fr} {tg e a b c : Expr} {es : List Expr} {t : HE} {r : HA} {pos : Pos}
theorem itOk_list {K : PySem.W.Frag} {G : Hp} {a : Addr} {xs : List V} {ds : List PyData} (h : SqL K G a xs) (hd : DpAll K G xs ds) : ItOk K f G ds (Itl K a) := fun i F O G1 s σ H e R => by
  have hH := Evl.ex_l (e.trans R.gh) h
  refine ⟨fun hi => ⟨xs, hH, by rw [hd.len]; exact hi⟩, fun d hdi => ?_⟩
  obtain ⟨v, hv, V⟩ := hd.at hdi
  exact ⟨⟨xs, v, hH, hv⟩, fun x H' y => by
    obtain ⟨rfl, y⟩ := y
    have := y xs hH
    rw [hv] at this
    cases this
    exact ⟨G1, Ex.refl _, Ex.refl _, R, Dp.ex e _ V⟩⟩
theorem itOk_rng {K : PySem.W.Frag} {G : Hp} {lo : Int} {n : Nat} : ItOk K f G (rngD lo n) (Itr lo n) := fun i F O G1 s σ H e R => by
  refine ⟨fun hi => (show n ≤ i by simpa [rngD] using hi), fun d hdi => ?_⟩
  unfold rngD at hdi
  rw [List.getElem?_map] at hdi
  obtain ⟨k, hk, rfl⟩ := Option.map_eq_some_iff.mp hdi
  obtain ⟨hl, hk2⟩ := List.getElem?_eq_some_iff.mp hk
  simp at hk2 hl
  subst hk2
  exact ⟨hl, fun x H' y => by
    obtain ⟨rfl, rfl⟩ := y
    exact ⟨G1, Ex.refl _, Ex.refl _, R, .int _⟩⟩
theorem itOk_enum {K : PySem.W.Frag} {G : Hp} {a : Addr} {xs : List V} {ds : List PyData} (h : SqL K G a xs) (hd : DpAll K G xs ds) : ItOk K f G (enumD 0 ds) (Ite K a) := fun i F O G1 s σ H e R => by
  have hH := Evl.ex_l (e.trans R.gh) h
  refine ⟨fun hi => ⟨xs, hH, by rw [hd.len]; rw [enumD_len] at hi; exact hi⟩, fun d hdi => ?_⟩
  obtain ⟨x, hx, rfl⟩ := enumD_at hdi
  obtain ⟨v, hv, V⟩ := hd.at hx
  refine ⟨⟨xs, v, hH, hv⟩, fun y H' yl => ?_⟩
  obtain ⟨T, w, rfl, hT, rfl, q⟩ := yl
  have := q xs hH
  rw [hv] at this
  cases this
  have eg := Evl.Ex.new (o := .tup [.int (i : Nat), v]) (R.gn hT)
  exact ⟨_, eg, Evl.Ex.new hT, R.newG hT, .tup (Or.inl (Or.inl upd_same)) (.cons (by rw [Nat.zero_add]; exact .int _) (.cons (Dp.ex (e.trans eg) _ V) .nil)) (Or.inr rfl)⟩
theorem hi_list (h : PE X e (lf X.K f t)) : PI X tg e (lfI X.K f (hiL t)) := (pi_list h).mono fun σ H Q q => by
  obtain ⟨F, O, G, s, C, R, ht, k⟩ := q
  refine ⟨F, O, G, s, _, R, ht, fun p s1 G1 H1 v c1 e1 R1 V1 => ?_⟩
  split at c1
  · rename_i ds hd
    obtain ⟨G2, e2, R2, V2⟩ := R1.frz V1 hd
    cases V2 with
    | lst hs ha => exact ⟨_, rfl, ⟨_, Evl.ex_l R2.gh hs⟩, k _ _ _ _ _ c1 (e1.trans e2) R2 (itOk_list hs ha)⟩
  · exact c1.elim
theorem vr_int {K : PySem.W.Frag} {f : Fr} {G H : Hp} {i : Int} {v : V} (h : VR K f G H (.dat (.int i)) v) : v = .int i := by
  cases (show Dp K G v (.int i) from h)
  rfl
theorem vr_str {K : PySem.W.Frag} {f : Fr} {G H : Hp} {i : Str} {v : V} (h : VR K f G H (.dat (.str i)) v) : v = .str i := by
  cases (show Dp K G v (.str i) from h)
  rfl
theorem hi_rng1 {p : Pos} (hg : Gl X "range") (hm : X.mg "range" = none) (ha : PA X [a] (lfA X.K f r)) (hs : starEach [a] X.env = [(false, eval a X.env)] := by rfl) : PI X tg (.Call (.Name "range" p) [a] [] pos) (lfI X.K f (hiR1 r)) := (pi_range1 hg hm ha hs).mono fun σ H Q q => by
  obtain ⟨F, O, G, s, C, R, ht, k⟩ := q
  refine ⟨F, O, G, s, _, R, ht, fun ps s1 G1 H1 vs c1 e1 R1 V1 => ?_⟩
  split at c1
  · rename_i n
    cases V1 with
    | cons v1 V1 =>
      cases V1
      have := vr_int v1
      subst this
      exact ⟨n, rfl, by omega, by omega, k _ _ _ _ _ c1.2 e1 R1 itOk_rng⟩
  · exact c1.elim
theorem hi_rng2 {p : Pos} (hg : Gl X "range") (hm : X.mg "range" = none) (ha : PA X [a, b] (lfA X.K f r)) (hs : starEach [a, b] X.env = [(false, eval a X.env), (false, eval b X.env)] := by rfl) (hs2 : starEach [b] X.env = [(false, eval b X.env)] := by rfl) : PI X tg (.Call (.Name "range" p) [a, b] [] pos) (lfI X.K f (hiR2 r)) := (pi_range2 hg hm ha hs hs2).mono fun σ H Q q => by
  obtain ⟨F, O, G, s, C, R, ht, k⟩ := q
  refine ⟨F, O, G, s, _, R, ht, fun ps s1 G1 H1 vs c1 e1 R1 V1 => ?_⟩
  split at c1
  · rename_i n m
    cases V1 with
    | cons v1 V1 =>
      cases V1 with
      | cons v2 V1 =>
        cases V1
        have := vr_int v1
        subst this
        have := vr_int v2
        subst this
        exact ⟨n, m, rfl, by omega, k _ _ _ _ _ c1.2 e1 R1 itOk_rng⟩
  · exact c1.elim
theorem hi_enum {p : Pos} {elts : List Expr} {kk : Nat} {tpos : Pos} (hg : Gl X "enumerate") (hm : X.mg "enumerate" = none) (ha : PA X [a] (lfA X.K f r)) (hs : starEach [a] X.env = [(false, eval a X.env)] := by rfl) : PI X (.Tuple elts kk tpos) (.Call (.Name "enumerate" p) [a] [] pos) (lfI X.K f (hiE r)) := (pi_enum hg hm ha hs).mono fun σ H Q q => by
  obtain ⟨F, O, G, s, C, R, ht, k⟩ := q
  refine ⟨F, O, G, s, _, R, ht, fun ps s1 G1 H1 vs c1 e1 R1 V1 => ?_⟩
  split at c1
  · rename_i ds
    cases V1 with
    | cons v1 V1 =>
      cases V1
      have v1 : Dp X.K G1 _ (.list ds) := v1
      cases v1 with
      | lst hs ha => exact ⟨_, _, rfl, Evl.ex_l R1.gh hs, k _ _ _ _ _ c1 e1 R1 (itOk_enum hs ha)⟩
  · exact c1.elim
@[simp] def Sg.wipe (s : Sg) (vs : List Nat) : Sg := ⟨vs.foldr (fun i l => l.set i none) s.sl, s.n⟩
@[simp] def lcs (vs : List Nat) (g : HG) (tt : HT) (t : HE) : List PyData → List PyData → Sg → (PV → Sg → Prop) → Prop
  | [], acc, s, C => C (.own acc) s
  | d :: ds, acc, s, C => g d s fun s1 => tt s1 fun b s2 => if b = true then t s2 fun p s3 => ∃ x, p.frz = some x ∧ acc.length < 100000 ∧ lcs vs g tt t ds (acc ++ [x]) (s3.wipe vs) C else lcs vs g tt t ds acc (s2.wipe vs) C
@[simp] def hLc (it : HI) (g : HG) (tt : HT) (t : HE) (vs : List Nat) : HE := fun s C => it s fun ds s1 => lcs vs g tt t ds [] (s1.wipe vs) C
@[simp] def hYes : HT := fun s C => C true s
theorem wipe_get {σ : L2.St} {s : Sg} {vs : List Nat} : ∀ (i : Nat) (p : PV), (s.wipe vs).sl[i]? = some (some p) → s.sl[i]? = some (some p) ∧ i ∉ vs := by
  induction vs with
  | nil => intro i p h; exact ⟨h, by simp⟩
  | cons v vs ih =>
    intro i p h
    rcases set_get (show ((s.wipe vs).sl.set v none)[i]? = _ from h) with ⟨_, e, _⟩ | ⟨ne, h⟩
    · cases e
    · obtain ⟨h1, h2⟩ := ih i p h
      exact ⟨h1, by simp [h2]; exact fun z => ne z.symm⟩
theorem wipe_len {s : Sg} {vs : List Nat} : (s.wipe vs).sl.length = s.sl.length := by
  induction vs with
  | nil => rfl
  | cons v vs ih => show ((s.wipe vs).sl.set v none).length = _; rw [List.length_set, ih]
theorem Rel.wipe {K : PySem.W.Frag} {G H : Hp} {s : Sg} {σ : L2.St} (R : Rel K f G s σ H) (vs : List Nat) : Rel K f G (s.wipe vs) (L2.wipe σ vs) H where
  gh := R.gh
  fh := R.fh
  go := R.go
  oh := R.oh
  mh := R.mh
  mo := R.mo
  tm := R.tm
  tb := R.tb
  pk := R.pk
  dr := R.dr
  ln := by rw [wipe_length, wipe_len]; exact R.ln
  sl := fun i p h => by
    obtain ⟨h1, h2⟩ := wipe_get (σ := σ) i p h
    obtain ⟨v, h3, h4⟩ := R.sl i p h1
    exact ⟨v, by rw [wipe_out h2]; exact h3, h4⟩
  ds := fun i j p q v ne hi hj mp mq wi wj => by
    obtain ⟨a1, a2⟩ := wipe_get (σ := σ) i p hi
    obtain ⟨b1, b2⟩ := wipe_get (σ := σ) j q hj
    rw [wipe_out a2] at wi
    rw [wipe_out b2] at wj
    exact R.ds i j p q v ne a1 b1 mp mq wi wj
theorem Rel.outw {K : PySem.W.Frag} {G H : Hp} {s : Sg} {σ σ2 : L2.St} {vs : List Nat} (R : Rel K f G s σ2 H) (e : L2.wipe σ2 vs = L2.wipe σ vs) : Rel K f G (s.wipe vs) σ H where
  gh := R.gh
  fh := R.fh
  go := R.go
  oh := R.oh
  mh := R.mh
  mo := R.mo
  tm := R.tm
  tb := R.tb
  pk := R.pk
  dr := R.dr
  ln := by
    have := congrArg List.length e
    rw [wipe_length, wipe_length] at this
    rw [wipe_len, ← R.ln, this]
  sl := fun i p h => by
    obtain ⟨h1, h2⟩ := wipe_get (σ := σ) i p h
    obtain ⟨v, h3, h4⟩ := R.sl i p h1
    have z : σ2[i]? = σ[i]? := by rw [← wipe_out h2, e, wipe_out h2]
    exact ⟨v, by rw [← z]; exact h3, h4⟩
  ds := fun i j p q v ne hi hj mp mq wi wj => by
    obtain ⟨a1, a2⟩ := wipe_get (σ := σ) i p hi
    obtain ⟨b1, b2⟩ := wipe_get (σ := σ) j q hj
    have z1 : σ2[i]? = σ[i]? := by rw [← wipe_out a2, e, wipe_out a2]
    have z2 : σ2[j]? = σ[j]? := by rw [← wipe_out b2, e, wipe_out b2]
    exact R.ds i j p q v ne a1 b1 mp mq (by rw [z1]; exact wi) (by rw [z2]; exact wj)
theorem EntOk.up {en : Ent} {F : Fr} {O : Addr → Prop} {G : Hp} {D : Addr} {o : HO} (h : EntOk en (fo f F O) G) (hF : F.F D = none) : EntOk en (fo f (F.up D o) fun a => O a ∨ a = D) G := { h with
  F := fun a u e => by
    have e2 : F.F a = some u := h.F a u e
    show upd F.F D o a = some u
    rw [upd_ne (fun z => by rw [z, hF] at e2; cases e2)]
    exact e2
  O := fun a e => Or.inl (h.O a e) }
theorem Rel.beside {K : PySem.W.Frag} {F : Fr} {O : Addr → Prop} {G H : Hp} {s : Sg} {σ : L2.St} {D : Addr} {o : HO} (R : Rel K (fo f F O) G s σ H) (hD : H D = none) : Rel K (fo f (F.up D o) fun a => O a ∨ a = D) G s σ (upd H D o) := by
  have ne : ∀ {a : Addr} {u : HO}, H a = some u → a ≠ D := fun h z => by rw [z, hD] at h; cases h
  have no : ∀ {a : Addr}, H a ≠ none → a ≠ D := fun h z => h (by rw [z]; exact hD)
  exact {
    gh := R.gh.trans (Evl.Ex.new hD)
    fh := fun a u m h => by
      have h' : upd F.F D o a = some u := h
      by_cases q : a = D
      · subst q; rw [upd_same] at h' ⊢; exact h'
      · rw [upd_ne q] at h' ⊢; exact R.fh a u m h'
    go := fun a h => h.elim (fun h => R.go a h) fun h => by rw [h]; exact R.gn hD
    oh := fun a h => h.elim (fun h => by rw [upd_ne (no (R.oh a h))]; exact R.oh a h) fun h => by rw [h, upd_same]; intro z; cases z
    mh := fun a h => by rw [upd_ne (no (R.mh a h))]; exact R.mh a h
    mo := fun h => by obtain ⟨a, b, c, d, e⟩ := R.mo h; exact ⟨Or.inl a, Or.inl b, Or.inl c, d, e⟩
    tm := fun p hp => ⟨Or.inl (R.tm p hp).1, (R.tm p hp).2⟩
    tb := fun p hp => (R.tb p hp).keep (fun _ _ _ z => z) (upd_ne (no (R.oh _ (R.tm p hp).1)))
    pk := fun en h => (R.pk en h).up ((R.fr_none hD).elim id fun z => absurd hD (R.mh D z))
    dr := fun h => by
      obtain ⟨a, b, c, d, e⟩ := R.mo h
      exact (R.dr h).keep (upd_ne (no (R.oh _ a))) (upd_ne (no (R.oh _ b))) (upd_ne (no (R.oh _ c)))
    ln := R.ln
    sl := fun i p h => by
      obtain ⟨v, h1, h2⟩ := R.sl i p h
      refine ⟨v, h1, ?_⟩
      cases p with
      | dat d => exact h2
      | drw => exact h2
      | val _ => exact h2
      | dgf _ => exact h2
      | abs _ => exact h2
      | own ds =>
        obtain ⟨a, vs, rfl, k1, k2, k3, k4, k5⟩ := h2
        exact ⟨a, vs, rfl, by rw [upd_ne (ne k1)]; exact k1, k2, fun z => z.elim k3 (ne k1), k4.elim (fun z => Or.inl (by show upd F.F D o a = none; rw [upd_ne (ne k1)]; exact z)) Or.inr, k5⟩
      | byr ds =>
        obtain ⟨a, vs, rfl, k1, k2, k3, k4, k5, k6⟩ := h2
        exact ⟨a, vs, rfl, by rw [upd_ne (ne k1)]; exact k1, k2, fun z => z.elim k3 (ne k1), k4.elim (fun z => Or.inl (by show upd F.F D o a = none; rw [upd_ne (ne k1)]; exact z)) Or.inr, k5, k6⟩
      | lat _ ds =>
        obtain ⟨a, vs, rfl, k1, k2, k3, k4, k5, k6⟩ := h2
        exact ⟨a, vs, rfl, by rw [upd_ne (ne k1)]; exact k1, k2, fun z => z.elim k3 (ne k1), k4.elim (fun z => Or.inl (by show upd F.F D o a = none; rw [upd_ne (ne k1)]; exact z)) Or.inr, k5, k6⟩
      | dct ds =>
        obtain ⟨a, vs, rfl, k1, k2, k3, k4, k5, k6⟩ := h2
        exact ⟨a, vs, rfl, by rw [upd_ne (ne k1)]; exact k1, k2, fun z => z.elim k3 (ne k1), k4.elim (fun z => Or.inl (by show upd F.F D o a = none; rw [upd_ne (ne k1)]; exact z)) Or.inr, k5, k6⟩
      | dcg ds =>
        obtain ⟨a, vs, rfl, k1, k2, k3, k4, k5⟩ := h2
        exact ⟨a, vs, rfl, by rw [upd_ne (ne k1)]; exact k1, k2, fun z => z.elim k3 (ne k1), k4.elim (fun z => Or.inl (by show upd F.F D o a = none; rw [upd_ne (ne k1)]; exact z)) Or.inr, k5⟩
    ds := R.ds }
theorem Rel.beside2 {K : PySem.W.Frag} {F : Fr} {O : Addr → Prop} {G H : Hp} {s : Sg} {σ : L2.St} {D : Addr} {o o' : HO} (R : Rel K (fo f (F.up D o) fun a => O a ∨ a = D) G s σ H) (hF : F.F D = none) (hP : ∀ en, f.e = some en → EntOk en (fo f F O) G) (hM : ¬ F.M D) (hO : ¬ O D) (hd : F.on = true → D ≠ F.m ∧ D ≠ F.l ∧ D ≠ F.c) : Rel K (fo f (F.up D o') fun a => O a ∨ a = D) G s σ (upd H D o') := by
  have gD : G D = none := R.go D (Or.inr rfl)
  exact {
    gh := fun a u h => by rw [upd_ne (fun z => by rw [z, gD] at h; cases h)]; exact R.gh a u h
    fh := fun a u m h => by
      have h' : upd F.F D o' a = some u := h
      by_cases q : a = D
      · subst q; rw [upd_same] at h' ⊢; exact h'
      · rw [upd_ne q] at h' ⊢; exact R.fh a u m (show upd F.F D o a = some u by rw [upd_ne q]; exact h')
    go := R.go
    oh := fun a h => by
      by_cases q : a = D
      · subst q; rw [upd_same]; intro z; cases z
      · rw [upd_ne q]; exact R.oh a h
    mh := fun a h => by
      by_cases q : a = D
      · subst q; rw [upd_same]; intro z; cases z
      · rw [upd_ne q]; exact R.mh a h
    mo := R.mo
    tm := R.tm
    tb := fun p hp => (R.tb p hp).keep (fun _ _ _ z => z) (upd_ne fun z => hM (z ▸ (R.tm p hp).2))
    pk := fun en h => (hP en h).up hF
    dr := fun h => by
      obtain ⟨a, b, c⟩ := hd h
      exact (R.dr h).keep (upd_ne a.symm) (upd_ne b.symm) (upd_ne c.symm)
    ln := R.ln
    sl := fun i p h => by
      obtain ⟨v, h1, h2⟩ := R.sl i p h
      refine ⟨v, h1, ?_⟩
      cases p with
      | dat d => exact h2
      | drw => exact h2
      | val _ => exact h2
      | dgf _ => exact h2
      | abs _ => exact h2
      | own ds =>
        obtain ⟨a, vs, rfl, k1, k2, k3, k4, k5⟩ := h2
        have ne : a ≠ D := fun z => k3 (Or.inr z)
        exact ⟨a, vs, rfl, by rw [upd_ne ne]; exact k1, k2, k3, k4.elim (fun z => Or.inl (by show upd F.F D o' a = none; rw [upd_ne ne]; have z' : upd F.F D o a = none := z; rw [upd_ne ne] at z'; exact z')) Or.inr, k5⟩
      | byr ds =>
        obtain ⟨a, vs, rfl, k1, k2, k3, k4, k5, k6⟩ := h2
        have ne : a ≠ D := fun z => k3 (Or.inr z)
        exact ⟨a, vs, rfl, by rw [upd_ne ne]; exact k1, k2, k3, k4.elim (fun z => Or.inl (by show upd F.F D o' a = none; rw [upd_ne ne]; have z' : upd F.F D o a = none := z; rw [upd_ne ne] at z'; exact z')) Or.inr, k5, k6⟩
      | lat _ ds =>
        obtain ⟨a, vs, rfl, k1, k2, k3, k4, k5, k6⟩ := h2
        have ne : a ≠ D := fun z => k3 (Or.inr z)
        exact ⟨a, vs, rfl, by rw [upd_ne ne]; exact k1, k2, k3, k4.elim (fun z => Or.inl (by show upd F.F D o' a = none; rw [upd_ne ne]; have z' : upd F.F D o a = none := z; rw [upd_ne ne] at z'; exact z')) Or.inr, k5, k6⟩
      | dct ds =>
        obtain ⟨a, vs, rfl, k1, k2, k3, k4, k5, k6⟩ := h2
        have ne : a ≠ D := fun z => k3 (Or.inr z)
        exact ⟨a, vs, rfl, by rw [upd_ne ne]; exact k1, k2, k3, k4.elim (fun z => Or.inl (by show upd F.F D o' a = none; rw [upd_ne ne]; have z' : upd F.F D o a = none := z; rw [upd_ne ne] at z'; exact z')) Or.inr, k5, k6⟩
      | dcg ds =>
        obtain ⟨a, vs, rfl, k1, k2, k3, k4, k5⟩ := h2
        have ne : a ≠ D := fun z => k3 (Or.inr z)
        exact ⟨a, vs, rfl, by rw [upd_ne ne]; exact k1, k2, k3, k4.elim (fun z => Or.inl (by show upd F.F D o' a = none; rw [upd_ne ne]; have z' : upd F.F D o a = none := z; rw [upd_ne ne] at z'; exact z')) Or.inr, k5⟩
    ds := R.ds }
theorem Rel.beside3 {K : PySem.W.Frag} {F : Fr} {O : Addr → Prop} {G H : Hp} {s : Sg} {σ : L2.St} {D : Addr} {vs : List V} {ds : List PyData} (R : Rel K (fo f (F.up D (.lst vs)) fun a => O a ∨ a = D) G s σ H) (hP : ∀ en, f.e = some en → EntOk en (fo f F O) G) (hM : ¬ F.M D) (hO : ¬ O D) (hF : F.F D = none) (hc : F.on = true → D ≠ F.c) (dv : DpAll K G vs ds) : Rel K (fo f F O) G s σ H ∧ VRf K (fo f F O) G H s σ (.own ds) (.ref D) := by
  have hD : H D = some (.lst vs) := R.fh D _ hM (show upd F.F D (.lst vs) D = _ by rw [upd_same])
  have gD : G D = none := R.go D (Or.inr rfl)
  have sl' : ∀ (i : Nat) (p : PV), s.sl[i]? = some (some p) → ∃ v : V, σ[i]? = some (some v) ∧ VR K (fo f F O) G H p v := fun i p h => by
    obtain ⟨v, h1, h2⟩ := R.sl i p h
    refine ⟨v, h1, ?_⟩
    cases p with
    | dat d => exact h2
    | drw => exact h2
    | val _ => exact h2
    | dgf _ => exact h2
    | abs _ => exact h2
    | own ds =>
      obtain ⟨a, vs, rfl, k1, k2, k3, k4, k5⟩ := h2
      have ne : a ≠ D := fun z => k3 (Or.inr z)
      exact ⟨a, vs, rfl, k1, k2, fun z => k3 (Or.inl z), k4.elim (fun z => Or.inl (by have z' : upd F.F D (.lst _) a = none := z; rw [upd_ne ne] at z'; exact z')) Or.inr, k5⟩
    | byr ds =>
      obtain ⟨a, vs, rfl, k1, k2, k3, k4, k5, k6⟩ := h2
      have ne : a ≠ D := fun z => k3 (Or.inr z)
      exact ⟨a, vs, rfl, k1, k2, fun z => k3 (Or.inl z), k4.elim (fun z => Or.inl (by have z' : upd F.F D (.lst _) a = none := z; rw [upd_ne ne] at z'; exact z')) Or.inr, k5, k6⟩
    | lat _ ds =>
      obtain ⟨a, vs, rfl, k1, k2, k3, k4, k5, k6⟩ := h2
      have ne : a ≠ D := fun z => k3 (Or.inr z)
      exact ⟨a, vs, rfl, k1, k2, fun z => k3 (Or.inl z), k4.elim (fun z => Or.inl (by have z' : upd F.F D (.lst _) a = none := z; rw [upd_ne ne] at z'; exact z')) Or.inr, k5, k6⟩
    | dct ds =>
      obtain ⟨a, vs, rfl, k1, k2, k3, k4, k5, k6⟩ := h2
      have ne : a ≠ D := fun z => k3 (Or.inr z)
      exact ⟨a, vs, rfl, k1, k2, fun z => k3 (Or.inl z), k4.elim (fun z => Or.inl (by have z' : upd F.F D (.lst _) a = none := z; rw [upd_ne ne] at z'; exact z')) Or.inr, k5, k6⟩
    | dcg ds =>
      obtain ⟨a, vs, rfl, k1, k2, k3, k4, k5⟩ := h2
      have ne : a ≠ D := fun z => k3 (Or.inr z)
      exact ⟨a, vs, rfl, k1, k2, fun z => k3 (Or.inl z), k4.elim (fun z => Or.inl (by have z' : upd F.F D (.lst _) a = none := z; rw [upd_ne ne] at z'; exact z')) Or.inr, k5⟩
  refine ⟨{ gh := R.gh, fh := fun a u m h => R.fh a u m (show upd F.F D (.lst vs) a = some u from ?_), go := fun a h => R.go a (Or.inl h), oh := fun a h => R.oh a (Or.inl h), mh := R.mh, mo := fun h => ?_, tm := fun p hp => ⟨(R.tm p hp).1.elim id fun z => absurd (z ▸ (R.tm p hp).2) hM, (R.tm p hp).2⟩, tb := R.tb, pk := hP, dr := R.dr, ln := R.ln, sl := sl', ds := R.ds }, ⟨D, vs, rfl, hD, gD, hO, Or.inl hF, dv⟩, fun _ i q h1 h2 h3 => ?_⟩
  · have h' : F.F a = some u := h
    rw [upd_ne (fun z => by rw [z, hF] at h'; cases h')]; exact h'
  · obtain ⟨a, b, c, d, e⟩ := R.mo h
    have nn : ∀ {x : Addr}, (O x ∨ x = D) → F.M x → O x := fun z m => z.elim id fun z => absurd (z ▸ m) hM
    exact ⟨nn a d, nn b e, c.elim id fun z => absurd z.symm (hc h), d, e⟩
  · obtain ⟨v, h4, h5⟩ := R.sl i q h1
    rw [h3] at h4
    cases h4
    cases q with
    | dat d => cases h2
    | drw => cases h2
    | val _ => cases h2
    | dgf _ => cases h2
    | abs _ => cases h2
    | own ds => obtain ⟨p, _, e, _, _, h6, _⟩ := h5; cases e; exact h6 (Or.inr rfl)
    | byr ds => obtain ⟨p, _, e, _, _, h6, _⟩ := h5; cases e; exact h6 (Or.inr rfl)
    | lat _ ds => obtain ⟨p, _, e, _, _, h6, _⟩ := h5; cases e; exact h6 (Or.inr rfl)
    | dct ds => obtain ⟨p, _, e, _, _, h6, _⟩ := h5; cases e; exact h6 (Or.inr rfl)
    | dcg ds => obtain ⟨p, _, e, _, _, h6, _⟩ := h5; cases e; exact h6 (Or.inr rfl)
end
end Sk
set_option Elab.async false
set_option linter.all false
set_option maxRecDepth 100000
set_option maxHeartbeats 2000000
namespace Sk
open PySem PySem.Spec PyProof.Rows L2
open Evl (Ex)
theorem _root_.L2.PTs.mono {X : Cx} {es : List Expr} {t t' : TT} (h : PTs X es t) (m : ∀ σ H Q, t' σ H Q → t σ H Q) : PTs X es t' := ⟨fun pins s σ H Q I q => h.run pins s σ H Q I (m σ H Q q)⟩
theorem pts_yes {X : Cx} {f : Fr} : PTs X [] (lfT X.K f hYes) := pts_nil.mono fun σ H Q q => by
  obtain ⟨F, O, G, s, C, R, ht, k⟩ := q
  exact k _ _ _ _ ht (Ex.refl G) R
theorem wipe_cong {σ σ2 : L2.St} : ∀ {vs : List Nat}, σ2.length = σ.length → (∀ i, i ∉ vs → σ2[i]? = σ[i]?) → L2.wipe σ2 vs = L2.wipe σ vs := fun {vs} hl h => by
  apply List.ext_getElem?
  intro i
  by_cases hi : i ∈ vs
  · have key : ∀ (τ : L2.St) (ws : List Nat), i ∈ ws → (L2.wipe τ ws)[i]? = if i < τ.length then some none else none := fun τ ws => by
      induction ws with
      | nil => intro h; cases h
      | cons w ws ih =>
        intro h
        show ((L2.wipe τ ws).set w none)[i]? = _
        by_cases q : w = i
        · subst q
          rw [List.getElem?_set]
          simp [wipe_length]
        · rw [List.getElem?_set_ne q]
          exact ih (by cases h with
            | head => exact absurd rfl q
            | tail _ h => exact h)
    rw [key _ _ hi, key _ _ hi, hl]
  · rw [wipe_out hi, wipe_out hi]
    exact h i hi
theorem wipe_idem {σ : L2.St} {vs : List Nat} : L2.wipe (L2.wipe σ vs) vs = L2.wipe σ vs := wipe_cong (by rw [wipe_length]) fun i hi => wipe_out hi
theorem Rel.inw {K : PySem.W.Frag} {f : Fr} {G H : Hp} {s0 : Sg} {σ : L2.St} {vs : List Nat} (R : Rel K f G (s0.wipe vs) σ H) : Rel K f G (s0.wipe vs) (L2.wipe σ vs) H where
  gh := R.gh
  fh := R.fh
  go := R.go
  oh := R.oh
  mh := R.mh
  mo := R.mo
  tm := R.tm
  tb := R.tb
  pk := R.pk
  dr := R.dr
  ln := by rw [wipe_length]; exact R.ln
  sl := fun i p h => by
    obtain ⟨v, h3, h4⟩ := R.sl i p h
    exact ⟨v, by rw [wipe_out (wipe_get (σ := σ) i p h).2]; exact h3, h4⟩
  ds := fun i j p q v ne hi hj mp mq wi wj => by
    rw [wipe_out (wipe_get (σ := σ) i p hi).2] at wi
    rw [wipe_out (wipe_get (σ := σ) j q hj).2] at wj
    exact R.ds i j p q v ne hi hj mp mq wi wj
section
variable {X : Cx} {f : Fr} {e : Expr} {t : HE} {tt : HT} {g : HG} {ws : List Nat} {it : HI}
theorem lc_conv {vs : List Nat} (hw : ∀ i, i ∈ ws → i ∈ vs) (hgl : ∀ d s C, g d s C → ∃ C', g d s C' ∧ ∀ s', C' s' → C s' ∧ s'.sl.length = s.sl.length) : ∀ σ H Q, lf X.K f (hLc it g tt t vs) σ H Q → tLc (lfI X.K f it) (lfG X.K f g ws) (lfT X.K f tt) (lf X.K f t) vs σ H Q := fun σ H Q q => by
  obtain ⟨F, O, G, s, C, R, ht, k⟩ := q
  refine ⟨F, O, G, s, _, R, ht, fun ds s1 G1 H1 J c1 e1 R1 ok D hD => ?_⟩
  have hM : ¬ F.M D := fun z => R1.mh D z hD
  have hO : ¬ O D := fun z => R1.oh D z hD
  have hF : F.F D = none := (R1.fr_none hD).elim id fun z => absurd z hM
  have hd : F.on = true → D ≠ F.m ∧ D ≠ F.l ∧ D ≠ F.c := fun h => by
    obtain ⟨a, b, c, _⟩ := R1.mo h
    have nn : ∀ {x : Addr}, O x → D ≠ x := fun z q => hO (by rw [q]; exact z)
    exact ⟨nn a, nn b, nn c⟩
  refine ⟨fun i m H2 => ∃ (G2 : Hp) (s0 : Sg) (acc : List PyData) (vs' : List V), Ex G1 G2 ∧ Rel X.K (fo f (F.up D (.lst vs')) fun a => O a ∨ a = D) G2 (s0.wipe vs) σ H2 ∧ DpAll X.K G2 vs' acc ∧ m = ds.length - i ∧ lcs vs g tt t (ds.drop i) acc (s0.wipe vs) C, ⟨_, G1, s1, [], [], Ex.refl G1, (R1.beside hD).outw rfl, .nil, rfl, c1⟩, ?_⟩
  rintro i m H2 ⟨G2, s0, acc, vs', e2, R2, V2, rfl, w⟩
  obtain ⟨k1, k2⟩ := ok i _ _ G2 _ σ H2 e2 R2
  by_cases hi : i < ds.length
  · have hdi : ds[i]? = some ds[i] := List.getElem?_eq_getElem hi
    obtain ⟨go, yl⟩ := k2 _ hdi
    rw [List.drop_eq_getElem_cons hi] at w
    refine Or.inr ⟨go, fun H' => ∃ (G3 : Hp) (s0 : Sg) (acc : List PyData) (vs' : List V), Ex G1 G3 ∧ Rel X.K (fo f (F.up D (.lst vs')) fun a => O a ∨ a = D) G3 (s0.wipe vs) σ H' ∧ DpAll X.K G3 vs' acc ∧ lcs vs g tt t (ds.drop (i + 1)) acc (s0.wipe vs) C, fun H' h => ?_, fun x H' y => ?_⟩
    · obtain ⟨G3, s3, acc', vs3, b1, b2, b3, b4⟩ := h
      exact ⟨_, by omega, G3, s3, acc', vs3, b1, b2, b3, rfl, b4⟩
    · obtain ⟨G3, e3, _, R3, V3⟩ := yl x H' y
      obtain ⟨C', w', hC'⟩ := hgl _ _ _ w
      refine ⟨_, _, G3, s0.wipe vs, _, C', R3.inw, V3, w', fun s4 σ4 c4 hs R4 => ?_⟩
      obtain ⟨c4, hlen⟩ := hC' s4 c4
      have we : L2.wipe σ4 vs = L2.wipe σ vs := by
        rw [← wipe_idem (σ := σ)]
        refine wipe_cong ?_ fun i hi => hs i fun z => hi (hw i z)
        rw [R4.ln, hlen, wipe_length, ← R3.ln]
      refine ⟨we, _, _, G3, s4, _, R4, c4, fun b s5 G5 H5 c5 e5 R5 => ?_⟩
      cases b with
      | false => exact ⟨G5, s5, acc, vs', (e2.trans e3).trans e5, R5.outw we, Dp.exAll (e3.trans e5) _ V2, c5⟩
      | true =>
        refine ⟨_, _, G5, s5, _, R5, c5, fun p s6 G6 H6 v c6 e6 R6 V6 => ?_⟩
        obtain ⟨x', hx, hlen, hl⟩ := c6
        obtain ⟨G7, e7, R7, V7⟩ := R6.frz V6 hx
        have V2' := Dp.exAll (((e3.trans e5).trans e6).trans e7) _ V2
        refine ⟨vs', R6.fh D _ hM (show upd F.F D (.lst vs') D = _ by rw [upd_same]), by rw [V2.len]; exact Evl.sz_lt hlen, G7, s6, acc ++ [x'], vs' ++ [v], (((e2.trans e3).trans e5).trans e6).trans e7, (R7.beside2 hF (fun en h => (R1.pk en h).ex ((((e2.trans e3).trans e5).trans e6).trans e7)) hM hO hd).outw we, V2'.append (.cons V7 .nil), hl⟩
  · rw [List.drop_eq_nil_of_le (by omega)] at w
    obtain ⟨R5, V5⟩ := R2.beside3 (fun en h => (R1.pk en h).ex e2) hM hO hF (fun h => (hd h).2.2) V2
    exact Or.inl ⟨k1 (by omega), k _ _ _ _ _ w (e1.trans e2) R5 V5⟩
theorem hp_lc {vs : List Nat} (h : PE X e (tLc (lfI X.K f it) (lfG X.K f g ws) (lfT X.K f tt) (lf X.K f t) vs)) (hw : ∀ i, i ∈ ws → i ∈ vs) (hgl : ∀ d s C, g d s C → ∃ C', g d s C' ∧ ∀ s', C' s' → C s' ∧ s'.sl.length = s.sl.length) : PE X e (lf X.K f (hLc it g tt t vs)) := h.mono (lc_conv hw hgl)
theorem hs_setLc {st : Stmt} {i : Nat} {vs : List Nat} (h : PS X st (tAsg (tLc (lfI X.K f it) (lfG X.K f g ws) (lfT X.K f tt) (lf X.K f t) vs) (gName i))) (hw : ∀ i, i ∈ ws → i ∈ vs) (hgl : ∀ d s C, g d s C → ∃ C', g d s C' ∧ ∀ s', C' s' → C s' ∧ s'.sl.length = s.sl.length) : PS X st (lfS X.K f (hAsg (hLc it g tt t vs) i)) := hs_asg h (lc_conv hw hgl)
theorem gl_name {i : Nat} : ∀ d s C, gN i d s C → ∃ C', gN i d s C' ∧ ∀ s', C' s' → C s' ∧ s'.sl.length = s.sl.length := fun d s C h => ⟨fun s' => s' = s.put i (.dat d), rfl, fun s' e => by subst e; exact ⟨h, by simp [Sg.put]⟩⟩
end
abbrev HSp := List PV → Nat → (PV → Nat → Prop) → Prop
def PV.imm : PV → Bool
  | .dat d => Sk.imm d
  | .own ds => immAll ds
  | .dct kvs => immAll (kvs.map (·.2))
  | .dcg _ => false
  | .byr _ => false
  | .lat _ _ => false
  | .drw => true
  | .val _ => true
  | .dgf _ => false
  | .abs _ => false
def PV.isD : PV → Bool
  | .dct _ => true
  | .byr _ => true
  | .lat _ _ => true
  | _ => false
def PV.arg : PV → PV
  | .own ds => .dat (.list ds)
  | .dcg kvs => .dgf kvs
  | p => p
def SpH (K : PySem.W.Frag) (w : World) (T : Tbs) (k : Nat) (sp : HSp) : Sp := fun vs H Q _ => ∃ f G n ps C, f.w = w ∧ f.T = T ∧ f.e = none ∧ f.F = H ∧ (∀ a, f.M a → (f.on = true ∧ (a = f.m ∨ a = f.l)) ∨ f.tab a) ∧ Rel K f G ⟨ps.map some, n⟩ (vs.map some) H ∧ (∀ p ∈ ps, p.mut = false) ∧ ps.length = k ∧ sp ps n C ∧
  ∀ p n' G' H' v, C p n' → Ex G G' → Rel K f G' ⟨[], n'⟩ [] H' → VR K f G' H' p v → Q v H'
@[simp] def hCall (sp : HSp) (k : Nat) (ta : HA) : HE := fun s C => ta s fun ps s' => ps.length = k ∧ (∀ p ∈ ps, p.isD = false) ∧ sp (ps.map PV.arg) s'.n fun p n' => (ps.any PV.mut = true → p.imm = true) ∧ C p ⟨s'.sl, n'⟩
theorem Rel.bare {K : PySem.W.Frag} {f : Fr} {G H : Hp} {s : Sg} {σ : L2.St} (R : Rel K f G s σ H) : Rel K f G ⟨[], s.n⟩ [] H where
  gh := R.gh
  fh := R.fh
  go := R.go
  oh := R.oh
  mh := R.mh
  mo := R.mo
  tm := R.tm
  tb := R.tb
  pk := R.pk
  dr := R.dr
  ln := rfl
  sl := fun i p h => by simp at h
  ds := fun i j p q v _ h => by simp at h
theorem pair_at {K : PySem.W.Frag} {f : Fr} {G H : Hp} : ∀ {ps : List PV} {vs : List V} {i : Nat} {p : PV}, VRs K f G H ps vs → ps[i]? = some p → ∃ v, vs[i]? = some v ∧ VR K f G H p v
  | _, _, i, p, .nil, h => by simp at h
  | _, _, 0, p, .cons h1 h2, h => by simp at h; subst h; exact ⟨_, rfl, h1⟩
  | _, _, i + 1, p, .cons h1 h2, h => by
    obtain ⟨v, a, b⟩ := pair_at (i := i) (p := p) h2 (by simpa using h)
    exact ⟨v, by simpa using a, b⟩
theorem spH_core {K : PySem.W.Frag} {f : Fr} {F : Fr} {O : Addr → Prop} {G H : Hp} {s : Sg} {σ : L2.St} {ps : List PV} {vs : List V} {k : Nat} (R : Rel K (fo f F O) G s σ H) (W : VRs K (fo f F O) G H ps vs) (hk : ps.length = k) (hD : ∀ p ∈ ps, p.isD = false) :
    ∃ (f' : Fr) (Gc : Hp), f'.w = f.w ∧ f'.T = f.T ∧ f'.e = none ∧ f'.F = H ∧ (∀ a, f'.M a → (f'.on = true ∧ (a = f'.m ∨ a = f'.l)) ∨ f'.tab a) ∧ Rel K f' Gc ⟨(ps.map PV.arg).map some, s.n⟩ (vs.map some) H ∧ (∀ p ∈ ps.map PV.arg, p.mut = false) ∧ (ps.map PV.arg).length = k ∧ Ex G Gc ∧
      ∀ (p : PV) (n' : Nat) (G' H' : Hp) (v : V), (ps.any PV.mut = true → p.imm = true) → Ex Gc G' → Rel K f' G' ⟨[], n'⟩ [] H' → VR K f' G' H' p v → ∃ G2, Ex G G2 ∧ Rel K (fo f F O) G2 ⟨s.sl, n'⟩ σ H' ∧ VRf K (fo f F O) G2 H' s σ p v := by
  classical
  let A : Addr → Prop := fun a => ∃ (i : Nat) (p : PV), ps[i]? = some p ∧ ((∃ ds, p = .own ds) ∨ ∃ kvs, p = .dcg kvs) ∧ vs[i]? = some (.ref a)
  let S : Addr → Prop := fun a => ∃ (i : Nat) (q : PV), s.sl[i]? = some (some q) ∧ q.mut = true ∧ σ[i]? = some (some (.ref a))
  have hA : ∀ a, A a → ∃ u, H a = some u ∧ G a = none ∧ ¬ O a ∧ ((∃ ws, u = .lst ws) ∨ ∃ w g, u = GDo w a g) := fun a ⟨i, p0, h1, hp0, h2⟩ => by
    obtain ⟨v, h3, h4⟩ := pair_at W h1
    rw [h2] at h3
    cases h3
    rcases hp0 with ⟨ds, rfl⟩ | ⟨kvs, rfl⟩
    · obtain ⟨p, ws, e, k1, k2, k3, _⟩ := h4
      cases e
      exact ⟨_, k1, k2, k3, Or.inl ⟨ws, rfl⟩⟩
    · obtain ⟨p, ws, e, k1, k2, k3, _⟩ := h4
      cases e
      exact ⟨_, k1, k2, k3, Or.inr ⟨_, ws, rfl⟩⟩
  have hS : ∀ a, S a → H a ≠ none ∧ G a = none ∧ ¬ O a := fun a ⟨i, q, h1, h2, h3⟩ => by
    obtain ⟨v, h4, h5⟩ := R.sl i q h1
    rw [h3] at h4
    cases h4
    cases q with
    | dat d => cases h2
    | drw => cases h2
    | val _ => cases h2
    | dgf _ => cases h2
    | abs _ => cases h2
    | own ds => obtain ⟨p, ws, e, k1, k2, k3, _⟩ := h5; cases e; exact ⟨(by rw [k1]; intro z; cases z), k2, k3⟩
    | byr ds => obtain ⟨p, ws, e, k1, k2, k3, _⟩ := h5; cases e; exact ⟨(by rw [k1]; intro z; cases z), k2, k3⟩
    | lat _ ds => obtain ⟨p, ws, e, k1, k2, k3, _⟩ := h5; cases e; exact ⟨(by rw [k1]; intro z; cases z), k2, k3⟩
    | dct ds => obtain ⟨p, ws, e, k1, k2, k3, _⟩ := h5; cases e; exact ⟨(by rw [k1]; intro z; cases z), k2, k3⟩
    | dcg ds => obtain ⟨p, ws, e, k1, k2, k3, _⟩ := h5; cases e; exact ⟨(by rw [k1]; intro z; cases z), k2, k3⟩
  let Gc : Hp := fun a => if A a then H a else G a
  let O' : Addr → Prop := fun a => (O a ∨ S a) ∧ ¬ A a
  let f' : Fr := ⟨F.on, F.m, F.l, F.c, H, O', fun a => (F.on = true ∧ (a = F.m ∨ a = F.l)) ∨ (fo f F O).tab a, F.r, f.w, f.T, none⟩
  have gc : Ex G Gc := fun a o h => by
    show (if A a then H a else G a) = some o
    split
    · rename_i ha
      obtain ⟨_, _, h2, _⟩ := hA a ha
      rw [h2] at h; cases h
    · exact h
  have oo : ∀ a, O a → O' a := fun a h => ⟨Or.inl h, fun z => by obtain ⟨_, _, _, n, _⟩ := hA a z; exact n h⟩
  have lenv : vs.length = ps.length := by
    have := Paired.length W
    omega
  have Mo : ∀ a, f'.M a → O a := fun a h0 => by
    rcases h0 with ⟨h1, h2⟩ | ⟨q, hq⟩
    case inr => exact (R.tm _ hq).1
    obtain ⟨a1, a2, _⟩ := R.mo h1
    rcases h2 with h2 | h2
    · rw [h2]; exact a1
    · rw [h2]; exact a2
  have R' : Rel K f' Gc ⟨(ps.map PV.arg).map some, s.n⟩ (vs.map some) H := {
    gh := fun a o h => by
      have h' : (if A a then H a else G a) = some o := h
      split at h'
      · exact h'
      · exact R.gh _ _ h'
    fh := fun a o _ h => h
    go := fun a h => by
      show (if A a then H a else G a) = none
      rw [if_neg h.2]
      exact h.1.elim (fun z => R.go a z) fun z => (hS a z).2.1
    oh := fun a h => h.1.elim (fun z => R.oh a z) fun z => (hS a z).1
    mh := fun a h => R.oh a (Mo a h)
    mo := fun h => by
      obtain ⟨a1, a2, a3, _⟩ := R.mo h
      exact ⟨oo _ a1, oo _ a2, oo _ a3, Or.inl ⟨h, Or.inl rfl⟩, Or.inl ⟨h, Or.inr rfl⟩⟩
    tm := fun p hp => ⟨oo _ (R.tm p hp).1, Or.inr ⟨p.2, hp⟩⟩
    tb := fun p hp => (R.tb p hp).keep (fun _ _ _ z => gc _ _ z) rfl
    pk := fun _ h => by cases h
    dr := R.dr
    ln := by simp [lenv]
    sl := fun i p h => by
      rw [List.getElem?_map] at h
      obtain ⟨p0, h1, e⟩ := Option.map_eq_some_iff.mp h
      cases e
      rw [List.getElem?_map] at h1
      obtain ⟨p1, h2, rfl⟩ := Option.map_eq_some_iff.mp h1
      obtain ⟨v, h3, h4⟩ := pair_at W h2
      refine ⟨v, by rw [List.getElem?_map, h3]; rfl, ?_⟩
      cases p1 with
      | dat d => exact Dp.ex gc _ h4
      | drw => exact h4
      | val _ => exact h4
      | dgf _ => obtain ⟨p0, xs0, z1, z2, z3⟩ := h4; exact ⟨p0, xs0, z1, gc _ _ z2, z3.ex gc⟩
      | abs _ => exact fun G9 e9 => h4 G9 (gc.trans e9)
      | dct kvs => have := hD _ (List.mem_of_getElem? h2); cases this
      | dcg kvs =>
        obtain ⟨a, ws, rfl, k1, k2, k3, k4, k5⟩ := h4
        have ha : A a := ⟨i, _, h2, Or.inr ⟨kvs, rfl⟩, h3⟩
        exact ⟨a, ws, rfl, by show (if A a then H a else G a) = _; rw [if_pos ha]; exact k1, k5.ex gc⟩
      | byr kvs => have := hD _ (List.mem_of_getElem? h2); cases this
      | lat _ kvs => have := hD _ (List.mem_of_getElem? h2); cases this
      | own ds =>
        obtain ⟨a, ws, rfl, k1, k2, k3, k4, k5⟩ := h4
        have ha : A a := ⟨i, _, h2, Or.inl ⟨ds, rfl⟩, h3⟩
        exact .lst (Or.inl (Or.inl (by show (if A a then H a else G a) = _; rw [if_pos ha]; exact k1))) (Dp.exAll gc _ k5)
    ds := fun i j p q v _ h _ mp => by
      rw [List.getElem?_map] at h
      obtain ⟨p0, h1, e⟩ := Option.map_eq_some_iff.mp h
      cases e
      rw [List.getElem?_map] at h1
      obtain ⟨p1, h2, rfl⟩ := Option.map_eq_some_iff.mp h1
      cases p1 with
      | dat d => cases mp
      | drw => cases mp
      | val _ => cases mp
      | dgf _ => cases mp
      | abs _ => cases mp
      | own ds => cases mp
      | dct kvs => have := hD _ (List.mem_of_getElem? h2); cases this
      | dcg kvs => cases mp
      | byr kvs => have := hD _ (List.mem_of_getElem? h2); cases this
      | lat _ kvs => have := hD _ (List.mem_of_getElem? h2); cases this }
  refine ⟨f', Gc, rfl, rfl, rfl, rfl, fun a h => h, R', fun p hp => ?_, by simp [hk], gc, fun p n' G' H' v ci e R2 V2 => ?_⟩
  · obtain ⟨p0, h1, rfl⟩ := List.mem_map.mp hp
    cases p0 with
    | dct kvs => have := hD _ h1; cases this
    | byr kvs => have := hD _ h1; cases this
    | lat _ kvs => have := hD _ h1; cases this
    | _ => rfl
  let G2 : Hp := fun a => if A a then none else G' a
  have e2 : Ex G G2 := fun a o h => by
    have n : ¬ A a := fun z => by obtain ⟨_, _, h2, _⟩ := hA a z; rw [h2] at h; cases h
    show (if A a then none else G' a) = some o
    rw [if_neg n]
    exact e _ _ (gc _ _ h)
  have hk2 : ∀ a u, H a = some u → ¬ O a → H' a = some u := fun a u h n => R2.fh a u (fun z => n (Mo a z)) h
  have key : ∀ a, H a ≠ none → ¬ O a → S a → G2 a = none := fun a h n hs => by
    show (if A a then none else G' a) = none
    split
    · rfl
    · rename_i na
      exact R2.go a ⟨Or.inr hs, na⟩
  have slk : ∀ (i : Nat) (p : PV), s.sl[i]? = some (some p) → ∃ v : V, σ[i]? = some (some v) ∧ VR K (fo f F O) G2 H' p v := fun i p h => by
    obtain ⟨w, h1, h2⟩ := R.sl i p h
    refine ⟨w, h1, ?_⟩
    cases p with
    | dat d => exact Dp.ex e2 _ h2
    | drw => exact h2
    | val _ => exact h2
    | dgf _ => obtain ⟨p0, xs0, z1, z2, z3⟩ := h2; exact ⟨p0, xs0, z1, e2 _ _ z2, z3.ex e2⟩
    | abs _ => exact fun G9 e9 => h2 G9 (e2.trans e9)
    | own ds =>
      obtain ⟨a, ws, rfl, k1, k2, k3, k4, k5⟩ := h2
      exact ⟨a, ws, rfl, hk2 a _ k1 k3, key a (by rw [k1]; intro z; cases z) k3 ⟨i, _, h, rfl, h1⟩, k3, k4, Dp.exAll e2 _ k5⟩
    | byr ds =>
      obtain ⟨a, ws, rfl, k1, k2, k3, k4, k5, k6⟩ := h2
      exact ⟨a, ws, rfl, hk2 a _ k1 k3, key a (by rw [k1]; intro z; cases z) k3 ⟨i, _, h, rfl, h1⟩, k3, k4, Dp.exAll e2 _ k5, k6⟩
    | lat _ ds =>
      obtain ⟨a, ws, rfl, k1, k2, k3, k4, k5, k6⟩ := h2
      exact ⟨a, ws, rfl, hk2 a _ k1 k3, key a (by rw [k1]; intro z; cases z) k3 ⟨i, _, h, rfl, h1⟩, k3, k4, Dp.exAll e2 _ k5, k6⟩
    | dct ds =>
      obtain ⟨a, ws, rfl, k1, k2, k3, k4, k5, k6⟩ := h2
      exact ⟨a, ws, rfl, hk2 a _ k1 k3, key a (by rw [k1]; intro z; cases z) k3 ⟨i, _, h, rfl, h1⟩, k3, k4, k5, Dp.exAll e2 _ k6⟩
    | dcg ds =>
      obtain ⟨a, ws, rfl, k1, k2, k3, k4, k5⟩ := h2
      exact ⟨a, ws, rfl, hk2 a _ k1 k3, key a (by rw [k1]; intro z; cases z) k3 ⟨i, _, h, rfl, h1⟩, k3, k4, k5.ex e2⟩
  have R3 : Rel K (fo f F O) G2 ⟨s.sl, n'⟩ σ H' := {
    gh := fun a o h => by
      have h' : (if A a then none else G' a) = some o := h
      split at h'
      · cases h'
      · exact R2.gh _ _ h'
    fh := fun a o m h => R2.fh a o (fun z => by
      rcases z with ⟨h1, h2⟩ | ⟨q, hq⟩
      case inr => exact m (R.tm _ hq).2
      obtain ⟨_, _, _, a4, a5⟩ := R.mo h1
      rcases h2 with h2 | h2
      · exact m (by rw [h2]; exact a4)
      · exact m (by rw [h2]; exact a5)) (R.fh a o m h)
    go := fun a h => by
      show (if A a then none else G' a) = none
      rw [if_neg (oo a h).2]
      exact R2.go a (oo a h)
    oh := fun a h => R2.oh a (oo a h)
    mh := fun a h => by
      by_cases z : f'.M a
      · exact R2.mh a z
      · cases w : H a with
        | none => exact absurd w (R.mh a h)
        | some u => rw [R2.fh a u z w]; intro z; cases z
    mo := R.mo
    tm := R.tm
    tb := fun p hp => (R2.tb p hp).keep2 (fun b o hn hn2 z => by
      show (if A b then none else G' b) = some o
      split
      · rename_i ha
        obtain ⟨u, k1, _, _, k4⟩ := hA b ha
        have q1 : Gc b = some u := by show (if A b then H b else G b) = _; rw [if_pos ha]; exact k1
        rw [e _ _ q1] at z
        cases z
        rcases k4 with ⟨ws, rfl⟩ | ⟨w, g, rfl⟩
        · exact absurd rfl (hn ws)
        · exact absurd rfl (hn2 w g)
      · exact z) rfl
    pk := fun en h => (R.pk en h).ex fun a o h => by
      show (if A a then none else G' a) = some o
      split
      · rename_i ha
        obtain ⟨_, _, h2, _⟩ := hA a ha
        rw [h2] at h; cases h
      · exact e _ _ (gc _ _ h)
    dr := R2.dr
    ln := R.ln
    sl := slk
    ds := R.ds }
  have noA : ps.any PV.mut = false → ∀ a, ¬ A a := fun h a ⟨i, p0, h1, hp0, _⟩ => by
    have := List.any_eq_false.mp h _ (List.mem_of_getElem? h1)
    rcases hp0 with ⟨ds, rfl⟩ | ⟨kvs, rfl⟩ <;> exact this rfl
  have gg : ps.any PV.mut = false → Ex G' G2 := fun h a o ho => by
    show (if A a then none else G' a) = some o
    rw [if_neg (noA h a)]
    exact ho
  have gr : Gr G' G2 := fun a o nt r => by
    have n : ∀ o, G' a = some o → (∀ ws, o ≠ .lst ws) → (∀ w g, o ≠ GDo w a g) → G2 a = some o := fun o ho hn hn2 => by
      show (if A a then none else G' a) = some o
      split
      · rename_i ha
        obtain ⟨u, h1, _, _, k4⟩ := hA a ha
        have : Gc a = some u := by show (if A a then H a else G a) = _; rw [if_pos ha]; exact h1
        rw [e _ _ this] at ho
        cases ho
        rcases k4 with ⟨ws, rfl⟩ | ⟨w, g, rfl⟩
        · exact absurd rfl (hn ws)
        · exact absurd rfl (hn2 w g)
      · exact ho
    exact n _ r (fun ws z => by subst z; exact nt trivial) fun w g z => by subst z; exact nt (by unfold GDo; exact trivial)
  have dpk : ∀ (d : PyData) (w : V), (ps.any PV.mut = true → Sk.imm d = true) → Dp K G' w d → Dp K G2 w d := fun d w hi hd => by
    cases hm : ps.any PV.mut with
    | false => exact Dp.ex (gg hm) _ hd
    | true => exact Dp.gr gr _ (hi hm) hd
  have dpa : ∀ (ds : List PyData) (ws : List V), (ps.any PV.mut = true → immAll ds = true) → DpAll K G' ws ds → DpAll K G2 ws ds := fun d w hi hd => by
    cases hm : ps.any PV.mut with
    | false => exact Dp.exAll (gg hm) _ hd
    | true => exact Dp.grAll gr _ (hi hm) hd
  have newp : ∀ a, G' a = none → ¬ O' a → (H a = none ∨ f'.M a) → G2 a = none ∧ ¬ O a ∧ (F.F a = none ∨ F.M a) ∧ H a = none := fun a h1 h2 h3 => by
    have ha : H a = none := h3.elim id fun z => absurd (oo a (Mo a z)) h2
    refine ⟨?_, fun z => h2 (oo a z), R.fr_none ha, ha⟩
    show (if A a then none else G' a) = none
    split
    · rfl
    · exact h1
  refine ⟨G2, e2, R3, ?_⟩
  cases p with
  | dat d => exact vrf_dat (dpk d v ci V2)
  | drw => exact ⟨V2, fun z => by cases z⟩
  | val _ => exact ⟨V2, fun z => by cases z⟩
  | dgf ds =>
    obtain ⟨p0, xs0, z1, z2, z3⟩ := V2
    cases hm : ps.any PV.mut with
    | false => exact ⟨⟨p0, xs0, z1, gg hm _ _ z2, z3.ex (gg hm)⟩, fun z => by cases z⟩
    | true => have z := ci hm; cases z
  | abs _ =>
    cases hm : ps.any PV.mut with
    | false => exact ⟨fun G9 e9 => V2 G9 ((gg hm).trans e9), fun z => by cases z⟩
    | true => have z := ci hm; cases z
  | own ds =>
    obtain ⟨a, ws, rfl, k1, k2, k3, k4, k5⟩ := V2
    obtain ⟨b1, b2, b3, b4⟩ := newp a k2 k3 k4
    refine ⟨⟨a, ws, rfl, k1, b1, b2, b3, dpa ds ws ci k5⟩, fun _ i q h1 h2 h3 => ?_⟩
    exact (hS a ⟨i, q, h1, h2, h3⟩).1 b4
  | byr ds =>
    obtain ⟨a, ws, rfl, k1, k2, k3, k4, k5, k6⟩ := V2
    obtain ⟨b1, b2, b3, b4⟩ := newp a k2 k3 k4
    refine ⟨⟨a, ws, rfl, k1, b1, b2, b3, dpa ds ws (fun h => by have z := ci h; cases z) k5, k6⟩, fun _ i q h1 h2 h3 => ?_⟩
    exact (hS a ⟨i, q, h1, h2, h3⟩).1 b4
  | lat _ ds =>
    obtain ⟨a, ws, rfl, k1, k2, k3, k4, k5, k6⟩ := V2
    obtain ⟨b1, b2, b3, b4⟩ := newp a k2 k3 k4
    refine ⟨⟨a, ws, rfl, k1, b1, b2, b3, dpa ds ws (fun h => by have z := ci h; cases z) k5, k6⟩, fun _ i q h1 h2 h3 => ?_⟩
    exact (hS a ⟨i, q, h1, h2, h3⟩).1 b4
  | dct ds =>
    obtain ⟨a, ws, rfl, k1, k2, k3, k4, k5, k6⟩ := V2
    obtain ⟨b1, b2, b3, b4⟩ := newp a k2 k3 k4
    refine ⟨⟨a, ws, rfl, k1, b1, b2, b3, k5, dpa _ _ ci k6⟩, fun _ i q h1 h2 h3 => ?_⟩
    exact (hS a ⟨i, q, h1, h2, h3⟩).1 b4
  | dcg ds =>
    obtain ⟨a, ws, rfl, k1, k2, k3, k4, k5⟩ := V2
    obtain ⟨b1, b2, b3, b4⟩ := newp a k2 k3 k4
    have k6 : GRel K G2 ws.2 ds := by
      cases hm : ps.any PV.mut with
      | false => exact k5.ex (gg hm)
      | true => have z := ci hm; cases z
    refine ⟨⟨a, ws, rfl, k1, b1, b2, b3, k6⟩, fun _ i q h1 h2 h3 => ?_⟩
    exact (hS a ⟨i, q, h1, h2, h3⟩).1 b4
theorem spH_call {K : PySem.W.Frag} {f : Fr} {F : Fr} {O : Addr → Prop} {G H : Hp} {s : Sg} {σ : L2.St} {ps : List PV} {vs : List V} {k : Nat} {sp : HSp} {Q : VK} {E : XK} {C : PV → Nat → Prop} (R : Rel K (fo f F O) G s σ H) (W : VRs K (fo f F O) G H ps vs) (hk : ps.length = k) (hD : ∀ p ∈ ps, p.isD = false)
    (h : sp (ps.map PV.arg) s.n fun p n' => (ps.any PV.mut = true → p.imm = true) ∧ C p n')
    (q : ∀ p n' G' H' v, C p n' → Ex G G' → Rel K (fo f F O) G' ⟨s.sl, n'⟩ σ H' → VRf K (fo f F O) G' H' s σ p v → Q v H') : SpH K f.w f.T k sp vs H Q E := by
  obtain ⟨f', Gc, x1, x2, x3, x4, x5, R', x6, x7, _, back⟩ := spH_core (k := k) R W hk hD
  refine ⟨f', Gc, s.n, ps.map PV.arg, _, x1, x2, x3, x4, x5, R', x6, x7, h, fun p n' G' H' v c e R2 V2 => ?_⟩
  obtain ⟨G2, e2, R3, V3⟩ := back p n' G' H' v c.1 e R2 V2
  exact q p n' G2 H' v c.2 e2 R3 V3
section
variable {X : Cx} {f : Fr} {e : Expr} {es : List Expr} {ta : HA} {sp : HSp} {E : XK}
theorem hp_call {k : Nat} (h : ∀ {t : TA}, PA X es t → PE X e (tCall (SpH X.K f.w f.T k sp) [] E t)) (ha : PA X es (lfA X.K f ta)) : PE X e (lf X.K f (hCall sp k ta)) := (h ha).mono fun σ H Q q => by
  obtain ⟨F, O, G, s, C, R, ht, kk⟩ := q
  refine ⟨F, O, G, s, _, R, ht, fun ps s1 G1 H1 vs c1 e1 R1 V1 => ?_⟩
  obtain ⟨c2, c3, c4⟩ := c1
  rw [List.append_nil]
  exact spH_call R1 V1 c2 c3 c4 fun p n' G' H' v c e2 R2 V2 => kk p ⟨s1.sl, n'⟩ G' H' v c (e1.trans e2) R2 V2
theorem vals_len {k : Nat} {K : PySem.W.Frag} {w : World} {T : Tbs} : ∀ vs H Q E, SpH K w T k sp vs H Q E → vs.length = k := fun vs H Q E h => by
  obtain ⟨f, G, n, ps, C, _, _, _, _, _, R, _, hk, _⟩ := h
  have := R.ln
  simp at this
  omega
theorem gnH {P : Program} {w : World} {T : Tbs} {K : PySem.W.Frag} {mg : Str → Option Value} {base : Heap} {k : Nat} {fa : Addr} {fd : FuncData} {x qual : Str} {st : Stmt} {N ps : List Str} {hs : HS} (Fn : Fun K x qual st fa fd) (S : FnScope N ps (defScope st))
    (body : ∀ (cdv : Value), fd.code = cdv → ∀ (A : Around) (outer : List Env) (s : Shared) (H : Hp) (E : XK), (A.deeper (envOfC qual (defScope st) s.heap.objs.size fa cdv)).guards = some [] → Room k (A.deeper (envOfC qual (defScope st) s.heap.objs.size fa cdv)) → PSs (cxOf CX0 P w K mg base N qual (defScope st) fa cdv A outer s H E).nox (defBody st) (lfS K (f0 w T) hs))
    (rd : ∀ pvs n C, pvs.length = ps.length → sp pvs n C → hs ⟨fun s => C (.dat .none) s.n, fun p s => C p s.n, fun _ => False, fun _ => False⟩ ⟨pvs.map some ++ List.replicate (N.length - pvs.length) none, n⟩) :
    GnOk P w K mg base CX0 (k + 1) fa fd ps (SpH K w T ps.length sp) := by
  refine gn_ok Fn S vals_len fun cdv ecd A outer s H vs Q E hgd hr h => ?_
  obtain ⟨⟨on, m, l, c, fF, fO, fM, r, fw, fT, fe⟩, G, n, pvs, C, hw, hT, he, hF, hM, R, hm, hk, hsp, kk⟩ := h
  have hw : fw = w := hw
  have hT : fT = T := hT
  have he : fe = none := he
  subst hw hT he
  let f : Fr := ⟨on, m, l, c, fF, fO, fM, r, fw, fT, none⟩
  have lnv : vs.length = pvs.length := by
    have := R.ln
    simpa using this
  refine ⟨_, body cdv ecd A outer s H E hgd hr, ⟨on, m, l, c, fF, fO, fM, r, fw, fT, none⟩, fO, G, _, _, ?_, rd pvs n C hk hsp, ⟨fun G1 s1 σ1 H1 e1 R1 c => kk _ _ _ _ _ c e1 R1.bare .non, fun p G1 s1 σ1 H1 v e1 R1 V1 c => kk _ _ _ _ _ c e1 R1.bare V1.1, fun _ _ _ _ _ _ z => z.elim, fun _ _ _ _ _ _ z => z.elim⟩⟩
  have ap : ∀ {α : Type} (xs : List α) (m i : Nat) (y : α), (xs.map some ++ List.replicate m none)[i]? = some (some y) → (xs.map some)[i]? = some (some y) := fun xs m i y h => by
    by_cases hi : i < xs.length
    · rw [List.getElem?_append_left (by simpa using hi)] at h; exact h
    · rw [List.getElem?_append_right (by simpa using hi)] at h
      rw [List.getElem?_replicate] at h
      split at h <;> cases h
  have ap2 : ∀ {α : Type} (xs : List α) (m i : Nat) (y : α), (xs.map some)[i]? = some (some y) → (xs.map some ++ List.replicate m none)[i]? = some (some y) := fun xs m i y h => by
    have hi : i < (xs.map some).length := (List.getElem?_eq_some_iff.mp h).1
    rw [List.getElem?_append_left hi]; exact h
  show Rel K f G ⟨_, n⟩ (L2.start N vs) H
  exact { R with
    ln := by simp [L2.start, lnv]
    sl := fun i p h => by
      obtain ⟨v, h1, h2⟩ := R.sl i p (ap _ _ _ _ h)
      exact ⟨v, ap2 _ _ _ _ h1, h2⟩
    ds := fun i j p q v ne hi _ mp => by
      have h1 := ap _ _ _ _ hi
      rw [List.getElem?_map] at h1
      obtain ⟨p0, h2, e⟩ := Option.map_eq_some_iff.mp h1
      cases e
      have := hm _ (List.mem_of_getElem? h2)
      rw [this] at mp
      cases mp }
end
end Sk
set_option Elab.async false
set_option linter.all false
set_option maxRecDepth 100000
set_option maxHeartbeats 2000000
namespace Sk
open PySem PySem.Spec PyProof.Rows L2
open PySem.W (Datum DatumOrd Tup T3 T4)
open Evl (Ex)
def tyD : PyData → String
  | .none => "NoneType"
  | .bool _ => "bool"
  | .int _ => "int"
  | .str _ => "str"
  | .list _ => "list"
  | .tuple _ => "tuple"
  | .dict _ => "dict"
section
variable {X : Cx} {f : Fr}
theorem kit_dp {pins : List (Addr × Obj)} {σ : L2.St} {H : Hp} {s : Shared} {x : V} {u : Value} {d : PyData} (I : Inv X pins σ H s) (h : Dp X.K H x d) (rx : RelV x u) : ∃ P : Heap → Prop, PySem.W.KitX X.K u (.type (tyD d)) P ∧ P s.heap ∧ u ≠ .builtin "__main__.__loader__#opaque" := by
  cases h with
  | non => exact kit_of I rx (.base .non)
  | bl b => exact kit_of I rx (.base (.bl b))
  | int i => exact kit_of I rx (.base (.int i))
  | str i => exact kit_of I rx (.base (.str i))
  | @lst a xs ds hs ha =>
    cases (show u = Value.ref a from rx)
    obtain ⟨its, _, ⟨o, n, h1, h2, _⟩, _⟩ := I.list hs
    exact ⟨_, PySem.W.kitx_list, ⟨o, h1, h2⟩, fun z => nomatch z⟩
  | @tup a xs ds hs ha =>
    cases (show u = Value.ref a from rx)
    obtain ⟨its, _, ⟨o, h1, h2, _⟩, _⟩ := I.tuple hs
    exact ⟨_, PySem.W.kitx_tuple, ⟨o, h1, h2⟩, fun z => nomatch z⟩
  | @emp a hz =>
    cases (show u = Value.ref a from rx)
    obtain ⟨_, _, _, _, o, _, _, h1, h2, _⟩ := (show ObjOk X.prog X.w H s.heap a (.dK []) from I.hok a _ hz)
    exact ⟨_, PySem.W.kitx_dict, ⟨o, h1, h2.1⟩, fun z => nomatch z⟩
theorem VR.dp {K : PySem.W.Frag} {G H : Hp} {p : PV} {v : V} {d : PyData} (h : VR K f G H p v) (g : Ex G H) (e : p.frz = some d) : Dp K H v d := by
  cases p with
  | dat d' => cases e; exact Dp.ex g _ h
  | own ds =>
    cases e
    obtain ⟨a, vs, rfl, h1, _, _, _, h5⟩ := h
    exact .lst (Or.inl (Or.inl h1)) (Dp.exAll g _ h5)
  | dct _ => cases e
  | dcg _ => cases e
  | drw => cases e
  | val _ => cases e
  | dgf _ => cases e
  | abs _ => cases e
  | byr _ => cases e
  | lat _ _ => cases e
def isiW : List PV → (PV → Prop) → Prop := fun ps C => match ps with
  | [p, .val (.ty n)] => ∃ d b, p.frz = some d ∧ kitB (tyD d) n = some b ∧ C (.dat (.bool b))
  | _ => False
@[simp] def i2 (C : Int → Int → Prop) (g : Int → Int → PyData) : List PV → (PV → Prop) → Prop := fun ps K => match ps with
  | [.dat (.int i), .dat (.int j)] => C i j ∧ K (.dat (g i j))
  | _ => False
theorem op_i2 {Cd : Int → Int → Prop} {g : Int → Int → V} {g' : Int → Int → PyData} (hg : ∀ i j G, Dp X.K G (g i j) (g' i j)) : Op X.K f (op2 (rI Cd g)) (i2 Cd g') := fun F O G s σ H ps vs C Q R V w k => by
  unfold i2 at w
  split at w
  · rename_i i j
    cases V with
    | cons v1 V =>
      cases V with
      | cons v2 V =>
        cases V
        cases vr_int v1
        cases vr_int v2
        exact ⟨i, j, rfl, rfl, w.1, k _ _ _ _ w.2 (Ex.refl G) R (vrf_dat (hg i j G))⟩
  · exact w.elim
@[simp] def i2' (g : Int → Int → PyData) : List PV → (PV → Prop) → Prop := fun ps K => match ps with
  | [.dat (.int i), .dat (.int j)] => K (.dat (g i j))
  | _ => False
theorem op_i2' {g : Int → Int → V} {g' : Int → Int → PyData} (hg : ∀ i j G, Dp X.K G (g i j) (g' i j)) : Op X.K f (op2 (rI0 g)) (i2' g') := fun F O G s σ H ps vs C Q R V w k => by
  unfold i2' at w
  split at w
  · rename_i i j
    cases V with
    | cons v1 V =>
      cases V with
      | cons v2 V =>
        cases V
        cases vr_int v1
        cases vr_int v2
        exact ⟨i, j, rfl, rfl, k _ _ _ _ w (Ex.refl G) R (vrf_dat (hg i j G))⟩
  · exact w.elim
abbrev subW := i2' fun i j => .int (i - j)
abbrev fdivW := i2 CDivW fun i j => .int (i / j)
abbrev modW := i2 (fun _ j => 0 < j) fun i j => .int (i % j)
abbrev powW := i2 CPow fun i j => .int (i ^ j.toNat)
abbrev geW := i2' fun i j => .bool (decide (j ≤ i))
theorem op_subW : Op X.K f (op2 (rI0 fun i j => .int (i - j))) subW := op_i2' fun _ _ _ => .int _
theorem op_fdivWW : Op X.K f (op2 (rI CDivW fun i j => .int (i / j))) fdivW := op_i2 fun _ _ _ => .int _
theorem op_modWW : Op X.K f (op2 (rI (fun _ j => 0 < j) fun i j => .int (i % j))) modW := op_i2 fun _ _ _ => .int _
theorem op_powW : Op X.K f (op2 (rI CPow fun i j => .int (i ^ j.toNat))) powW := op_i2 fun _ _ _ => .int _
theorem op_geW : Op X.K f (op2 (rI0 fun i j => .bl (decide (j ≤ i)))) geW := op_i2' fun _ _ _ => .bl _
def dd (sh : PyData → PyData → Prop) (g : PyData → PyData → Bool) : List PV → (PV → Prop) → Prop := fun ps K => match ps with
  | [p, q] => ∃ d e, p.frz = some d ∧ q.frz = some e ∧ sh d e ∧ K (.dat (.bool (g d e)))
  | _ => False
def inS : List PV → (PV → Prop) → Prop := fun ps K => match ps with
  | [.dat (.str c), .dat (.str z)] => ∃ n, c = ⟨#[n]⟩ ∧ K (.dat (.bool (decide (n ∈ z.cps.toList))))
  | _ => False
def isN (neg : Bool) : List PV → (PV → Prop) → Prop := fun ps K => match ps with
  | [.dat d, .dat .none] => K (.dat (.bool (if neg then !(match d with | .none => true | _ => false) else match d with | .none => true | _ => false)))
  | _ => False
end
end Sk
set_option Elab.async false
set_option linter.all false
set_option maxRecDepth 100000
set_option maxHeartbeats 2000000
namespace Sk
open PySem PySem.Spec PyProof.Rows L2
open PySem.W (Datum DatumOrd Tup T3 T4)
open Evl (Ex)
section
variable {X : Cx} {f : Fr}
def rCatL (K : PySem.W.Frag) : R2 := fun x y H Q => ∃ l b xs zs, x = .ref l ∧ y = .ref b ∧ SqL K H l xs ∧ SqL K H b zs ∧ xs.length + zs.length ≤ sizeLine ∧ ∀ p, H p = none → Q (.ref p) (upd H p (.lst (xs ++ zs)))
theorem op_catL : OpR X (binaryOp .Add) (rCatL X.K) := by
  intro pins s σ H x y v u Q I rx ry h
  obtain ⟨l, b, xs, zs, rfl, rfl, hx, hy, hz, q⟩ := h
  cases (show v = Value.ref l from rx)
  cases (show u = Value.ref b from ry)
  obtain ⟨its, r, pl, _⟩ := I.list hx
  obtain ⟨jts, r2, pk, _⟩ := I.list hy
  have l1 := r.length
  have l2 := r2.length
  obtain ⟨⟨c1, d1, t1, z1⟩, g1, q1, m1, y1⟩ := pl.isList
  obtain ⟨⟨c2, d2, t2, z2⟩, g2, q2, m2, y2⟩ := pk.isList
  simp only at q1 y1 q2 y2
  subst q1 y1 q2 y2
  have small : its.toArray.size + jts.toArray.size ≤ sizeLine := by
    simp only [List.size_toArray]
    omega
  have add := list_addW l b its.toArray jts.toArray m1 m2 d1 d2 z1 z2 small
  refine PySem.concat_meets ⟨_, g1, rfl⟩ ⟨_, g2, rfl⟩ noFill_list_add seq_list_add
    PySem.F.slot_list_add PySem.F.entry_list_add
    (PySem.F.args_list_add_2 _ _) add ⟨g1, g2, ?_⟩
  have ea : its.toArray ++ jts.toArray = (its ++ jts).toArray := by simp
  rw [ea]
  exact ⟨V.ref s.heap.objs.size, _, I.lnew (t' := s.toks) (Vals.append r r2) (by rw [List.length_append]; exact hz), rfl, q _ I.fresh⟩
def PV.seq : PV → Option (List PyData)
  | .dat (.list ds) => some ds
  | .dat (.tuple ds) => some ds
  | .own ds => some ds
  | _ => none
theorem VR.sq {K : PySem.W.Frag} {G H : Hp} {p : PV} {v : V} {ds : List PyData} (h : VR K f G H p v) (g : Ex G H) (e : p.seq = some ds) : ∃ a vs, v = .ref a ∧ (SqL K H a vs ∨ SqT K H a vs) ∧ DpAll K G vs ds := by
  cases p with
  | own es =>
    cases e
    obtain ⟨a, vs, rfl, h1, _, _, _, h5⟩ := h
    exact ⟨a, vs, rfl, Or.inl (Or.inl (Or.inl h1)), h5⟩
  | dat d =>
    have h : Dp K G v d := h
    cases h with
    | lst hs ha => cases e; exact ⟨_, _, rfl, Or.inl (Evl.ex_l g hs), ha⟩
    | tup hs ha => cases e; exact ⟨_, _, rfl, Or.inr (Evl.ex_t g hs), ha⟩
    | _ => cases e
  | dct _ => cases e
  | dcg _ => cases e
  | drw => cases e
  | val _ => cases e
  | dgf _ => cases e
  | abs _ => cases e
  | byr _ => cases e
  | lat _ _ => cases e
def PV.lst : PV → Option (List PyData)
  | .dat (.list ds) => some ds
  | .own ds => some ds
  | _ => none
theorem VR.sl {K : PySem.W.Frag} {G H : Hp} {p : PV} {v : V} {ds : List PyData} (h : VR K f G H p v) (g : Ex G H) (e : p.lst = some ds) : ∃ a vs, v = .ref a ∧ SqL K H a vs ∧ DpAll K G vs ds := by
  cases p with
  | own es =>
    cases e
    obtain ⟨a, vs, rfl, h1, _, _, _, h5⟩ := h
    exact ⟨a, vs, rfl, Or.inl (Or.inl h1), h5⟩
  | dat d =>
    have h : Dp K G v d := h
    cases h with
    | lst hs ha => cases e; exact ⟨_, _, rfl, Evl.ex_l g hs, ha⟩
    | tup hs ha => cases e
    | _ => cases e
  | dct _ => cases e
  | dcg _ => cases e
  | drw => cases e
  | val _ => cases e
  | dgf _ => cases e
  | abs _ => cases e
  | byr _ => cases e
  | lat _ _ => cases e
def ixW : List PV → (PV → Prop) → Prop := fun ps C => match ps with
  | [p, .dat (.int i)] => (∃ ds d, p.seq = some ds ∧ atI ds i = some d ∧ C (.dat d)) ∨ ∃ z c, p = .dat (.str z) ∧ z.length ≤ 100000 ∧ atI z.cps.toList i = some c ∧ C (.dat (.str ⟨#[c]⟩))
  | _ => False
theorem atI_dp {K : PySem.W.Frag} {G : Hp} {vs : List V} {ds : List PyData} {i : Int} {d : PyData} (h : DpAll K G vs ds) (e : atI ds i = some d) : ∃ v, atI vs i = some v ∧ Dp K G v d := by
  unfold atI at e ⊢
  rw [h.len]
  cases q : ixN ds.length i with
  | none => rw [q] at e; cases e
  | some j =>
    rw [q] at e
    exact h.at e
theorem op_ixW : Op X.K f (op2 (rIx X.K)) ixW := fun F O G s σ H ps vs C Q R V w k => by
  unfold ixW at w
  split at w
  · rename_i p i
    cases V with
    | cons v1 V =>
      cases V with
      | cons v2 V =>
        cases V
        cases vr_int v2
        rcases w with ⟨ds, d, h1, h2, h3⟩ | ⟨z, c, rfl, h1, h2, h3⟩
        · obtain ⟨a, ws, rfl, hs, ha⟩ := v1.sq R.gh h1
          obtain ⟨x, hx, dx⟩ := atI_dp ha h2
          rcases hs with hs | hs
          · exact Or.inl ⟨a, ws, i, x, rfl, rfl, hs, hx, k _ _ _ _ h3 (Ex.refl G) R (vrf_dat dx)⟩
          · exact Or.inr (Or.inl ⟨a, ws, i, x, rfl, rfl, hs, hx, k _ _ _ _ h3 (Ex.refl G) R (vrf_dat dx)⟩)
        · cases vr_str v1
          exact Or.inr (Or.inr ⟨z, i, c, rfl, rfl, Evl.sz_of h1, h2, k _ _ _ _ h3 (Ex.refl G) R (vrf_dat (.str _))⟩)
  · exact w.elim
def lenW : List PV → (PV → Prop) → Prop := fun ps C => match ps with
  | [p] => (∃ ds, p.seq = some ds ∧ C (.dat (.int ds.length))) ∨ (∃ z, p = .dat (.str z) ∧ z.length ≤ sizeLine ∧ C (.dat (.int z.length))) ∨ ∃ kvs, p = .dct kvs ∧ C (.dat (.int kvs.length))
  | _ => False
def listW : List PV → (PV → Prop) → Prop := fun ps C => match ps with
  | [p] => ∃ ds, p.seq = some ds ∧ C (.own ds)
  | _ => False
def tupW : List PV → (PV → Prop) → Prop := fun ps C => match ps with
  | [p] => ∃ ds, p.seq = some ds ∧ C (.dat (.tuple ds))
  | _ => False
def reprW : List PV → (PV → Prop) → Prop := fun ps C => match ps with
  | [p] => ∃ d, p.frz = some d ∧ d.showable = true ∧ (d.hasDict = false ∨ d = .dict []) ∧ d.depth ≤ 100 ∧ d.shown.length ≤ sizeLine ∧ C (.dat (.str d.shown))
  | _ => False
theorem op_reprW : Op X.K f (rRepr X.K) reprW := fun F O G s σ H ps vs C Q R V w k => by
  unfold reprW at w
  split at w
  · cases V with
    | cons v1 V =>
      cases V
      obtain ⟨d, h1, h2, h3, h4, h5, h6⟩ := w
      exact ⟨_, d, rfl, v1.dp R.gh h1, h2, h3, h4, h5, k _ _ _ _ h6 (Ex.refl G) R (vrf_dat (.str _))⟩
  · exact w.elim
end
end Sk
set_option Elab.async false
set_option linter.all false
set_option maxRecDepth 100000
set_option maxHeartbeats 2000000
namespace Sk
open PySem PySem.Spec PyProof.Rows L2
open PySem.W (Datum DatumOrd Tup T3 T4)
open Evl (Ex)
section
variable {X : Cx} {f : Fr}
def rRepL (K : PySem.W.Frag) : R2 := fun x y H Q => ∃ l k xs, x = .ref l ∧ y = .int k ∧ SqL K H l xs ∧ -(2 ^ 63) ≤ k ∧ k < 2 ^ 63 ∧ xs.length * k.toNat ≤ sizeLine ∧ ∀ p, H p = none → Q (.ref p) (upd H p (.lst (List.replicate k.toNat xs).flatten))
theorem op_repL : OpR X (binaryOp .Mult) (rRepL X.K) := by
  intro pins s σ H x y v u Q I rx ry h
  obtain ⟨l, k, xs, rfl, rfl, hx, b1, b2, hz, q⟩ := h
  cases (show v = Value.ref l from rx)
  obtain ⟨t, rfl⟩ := (show ∃ t, u = Value.int k t from ry)
  obtain ⟨its, r, pl, _⟩ := I.list hx
  have l1 := r.length
  obtain ⟨⟨c1, d1, t1, z1⟩, g1, q1, m1, y1⟩ := pl.isList
  simp only at q1 y1
  subst q1 y1
  have sz : its.toArray.size * k.toNat ≤ 2 ^ 24 := by
    simp only [List.size_toArray]
    rw [← l1]
    exact hz
  have fit : ¬ (!Builtin.List.listFitsIndex k) = true := by simp [Builtin.List.listFitsIndex]; omega
  have lng : ¬ Builtin.List.listTooLong (its.toArray.size * k.toNat) = true := by simp [Builtin.List.listTooLong, sizeLine]; simpa using sz
  have inner := lm_list_mul_any l its.toArray m1 d1 z1 k t fit (by omega) lng
  have outer := lm_int_rmul_list_any k t l its.toArray m1 d1 z1
  refine wpAny_binaryOp_repeat_ref (T := "list") (U := "int") (by decide) ⟨_, g1, rfl⟩ (fun s' => typeIs_int s' k t)
    noFill_list_mul PySem.F.fills_int_mul PySem.F.slot_int_rmul
    repeat_list PySem.F.slot_int_index.lookup ?_
  refine call_meets PySem.F.slot_int_rmul (typeIs_int s k t) PySem.F.entry_int_rmul
    (PySem.F.args_int_rmul_2 _ _) outer ⟨g1, rfl, ⟨_, g1, rfl⟩, ?_⟩
  refine call_meets PySem.F.slot_list_mul ⟨_, g1, rfl⟩ PySem.F.entry_list_mul
    (PySem.F.args_list_mul_2 _ _) inner ⟨g1, ?_⟩
  have ea : List.foldl (fun x1 x2 => x1 ++ x2) #[] (List.replicate (if its.toArray.isEmpty = true then 0 else k.toNat) its.toArray) = (List.replicate k.toNat its).flatten.toArray := listMul_foldl_if ..
  rw [ea]
  exact ⟨V.ref s.heap.objs.size, _, I.lnew (t' := s.toks) (r.rep k.toNat) (by rw [PyProof.Rows.lm_len_rep_flat, Nat.mul_comm]; exact hz), rfl, q _ I.fresh⟩
def rAddAll (K : PySem.W.Frag) : R2 := fun x y H Q => (rI0 (fun i j => .int (i + j)) x y H Q) ∨ (∃ i j, x = .str i ∧ y = .str j ∧ i.length + j.length ≤ sizeLine ∧ Q (.str (i ++ j)) H) ∨ rCatL K x y H Q
theorem op_addAll : OpR X (binaryOp .Add) (rAddAll X.K) := by
  intro pins s σ H x y v u Q I rx ry h
  rcases h with h | h | h
  · exact op_add pins s σ H x y v u Q I rx ry h
  · exact op_add_str pins s σ H x y v u Q I rx ry h
  · exact op_catL pins s σ H x y v u Q I rx ry h
def addW : List PV → (PV → Prop) → Prop := fun ps C => match ps with
  | [.dat (.int i), .dat (.int j)] => C (.dat (.int (i + j)))
  | [.dat (.str a), .dat (.str b)] => a.length + b.length ≤ 100000 ∧ C (.dat (.str (a ++ b)))
  | [p, q] => ∃ ds es, p.lst = some ds ∧ q.lst = some es ∧ ds.length + es.length ≤ 100000 ∧ C (.own (ds ++ es))
  | _ => False
theorem op_addW : Op X.K f (op2 (rAddAll X.K)) addW := fun F O G s σ H ps vs C Q R V w k => by
  unfold addW at w
  split at w
  · cases V with
    | cons v1 V =>
      cases V with
      | cons v2 V =>
        cases V
        cases vr_int v1
        cases vr_int v2
        exact Or.inl ⟨_, _, rfl, rfl, k _ _ _ _ w (Ex.refl G) R (vrf_dat (.int _))⟩
  · cases V with
    | cons v1 V =>
      cases V with
      | cons v2 V =>
        cases V
        cases vr_str v1
        cases vr_str v2
        exact Or.inr (Or.inl ⟨_, _, rfl, rfl, Evl.sz_of w.1, k _ _ _ _ w.2 (Ex.refl G) R (vrf_dat (.str _))⟩)
  · cases V with
    | cons v1 V =>
      cases V with
      | cons v2 V =>
        cases V
        obtain ⟨ds, es, h1, h2, h3, h4⟩ := w
        obtain ⟨a, xs, rfl, s1, d1⟩ := v1.sl R.gh h1
        obtain ⟨b, ys, rfl, s2, d2⟩ := v2.sl R.gh h2
        exact Or.inr (Or.inr ⟨a, b, xs, ys, rfl, rfl, s1, s2, by rw [d1.len, d2.len]; exact Evl.sz_of h3, fun p hp => k _ _ _ _ h4 (Ex.refl G) (R.new hp) (R.own hp (d1.append d2))⟩)
  · exact w.elim
def rMulAll (K : PySem.W.Frag) : R2 := fun x y H Q => (rI CMulW (fun i j => .int (i * j)) x y H Q) ∨ rRepL K x y H Q
theorem op_mulAll : OpR X (binaryOp .Mult) (rMulAll X.K) := by
  intro pins s σ H x y v u Q I rx ry h
  rcases h with h | h
  · exact op_mulW pins s σ H x y v u Q I rx ry h
  · exact op_repL pins s σ H x y v u Q I rx ry h
def mulW' : List PV → (PV → Prop) → Prop := fun ps C => match ps with
  | [.dat (.int i), .dat (.int j)] => CMulW i j ∧ C (.dat (.int (i * j)))
  | [p, .dat (.int k)] => ∃ ds, p.lst = some ds ∧ k ≤ 100000 ∧ -100000 ≤ k ∧ ds.length * k.toNat ≤ 100000 ∧ C (.own (List.replicate k.toNat ds).flatten)
  | _ => False
theorem dpAll_rep {K : PySem.W.Frag} {G : Hp} {vs : List V} {ds : List PyData} (h : DpAll K G vs ds) : ∀ n, DpAll K G (List.replicate n vs).flatten (List.replicate n ds).flatten
  | 0 => .nil
  | n + 1 => by
    rw [List.replicate_succ, List.replicate_succ, List.flatten_cons, List.flatten_cons]
    exact h.append (dpAll_rep h n)
theorem op_mulW' : Op X.K f (op2 (rMulAll X.K)) mulW' := fun F O G s σ H ps vs C Q R V w k => by
  unfold mulW' at w
  split at w
  · cases V with
    | cons v1 V =>
      cases V with
      | cons v2 V =>
        cases V
        cases vr_int v1
        cases vr_int v2
        exact Or.inl ⟨_, _, rfl, rfl, w.1, k _ _ _ _ w.2 (Ex.refl G) R (vrf_dat (.int _))⟩
  · cases V with
    | cons v1 V =>
      cases V with
      | cons v2 V =>
        cases V
        cases vr_int v2
        obtain ⟨ds, h1, h2, h3, h4, h5⟩ := w
        obtain ⟨a, xs, rfl, s1, d1⟩ := v1.sl R.gh h1
        exact Or.inr ⟨a, _, xs, rfl, rfl, s1, by omega, by omega, by rw [d1.len]; exact Evl.sz_of h4, fun p hp => k _ _ _ _ h5 (Ex.refl G) (R.new hp) (R.own hp (dpAll_rep d1 _))⟩
  · exact w.elim
def cutD (ds : List PyData) (lo hi : Option Int) : List PyData := (ds.drop (HT.sIx ds.length 0 lo)).take (HT.sIx ds.length ds.length hi - HT.sIx ds.length 0 lo)
@[simp] def slW (p : PV) (lo hi : Option Int) (C : PV → Prop) : Prop := match p with
  | .dat (.str z) => z.length ≤ sizeLine ∧ C (.dat (.str (cutS z lo hi)))
  | .dat (.tuple ds) => C (.dat (.tuple (cutD ds lo hi)))
  | .dat (.list ds) => C (.own (cutD ds lo hi))
  | .own ds => C (.own (cutD ds lo hi))
  | _ => False
abbrev HOp := Sg → (Option Int → Sg → Prop) → Prop
@[simp] def hNo : HOp := fun s C => C none s
@[simp] def hPt (t : HE) : HOp := fun s C => t s fun p s1 => ∃ i, p = .dat (.int i) ∧ C (some i) s1
theorem _root_.L2.PO.mono {e : Option Expr} {t t' : TO} (h : PO X e t) (m : ∀ σ H Q, t' σ H Q → t σ H Q) : PO X e t' := ⟨fun pins s σ H Q I q => h.run pins s σ H Q I (m σ H Q q)⟩
@[simp] def hSl (j : Nat) (tl th : HOp) : HE := fun s C => (∃ p, s.sl[j]? = some (some p)) ∧ tl s fun lo s1 => th s1 fun hi s2 => ∃ p, s2.sl[j]? = some (some p) ∧ slW p lo hi fun q => C q s2
end
end Sk
set_option Elab.async false
set_option linter.all false
set_option maxRecDepth 100000
set_option maxHeartbeats 2000000
namespace Sk
open PySem PySem.Spec PyProof.Rows L2
open PySem.W (Datum DatumOrd Tup T3 T4)
open Evl (Ex)
class Srt (α : Type) [DecidableEq α] [DatumOrd α] : Prop extends OrdL α where
  kind : (∀ a : α, ∃ x r, (Datum.toD a) = PyData.tuple (x :: r)) ∨ ∀ a : α, (Datum.toD a) ≠ PyData.none ∧ ∀ xs, (Datum.toD a) ≠ PyData.tuple xs
instance : Srt Int where
  kind := Or.inr fun a => ⟨fun z => (by cases z), fun xs (z : PyData.int a = _) => (by cases z)⟩
instance : Srt Str where
  kind := Or.inr fun a => ⟨fun z => (by cases z), fun xs (z : PyData.str a = _) => (by cases z)⟩
instance {α β : Type} [DecidableEq α] [DatumOrd α] [DecidableEq β] [DatumOrd β] [OrdL α] [OrdL β] : Srt (α × β) where
  kind := Or.inl fun a => ⟨_, _, rfl⟩
section
variable {X : Cx} {f : Fr}
end
class FK (α : Type) [DecidableEq α] [DatumOrd α] where
  key : α → Key
  rt : Bool
  inj : ∀ a b, key a = key b → a = b
  isR : ∀ a, (key a).isRight = rt
  toV : ∀ (K : PySem.W.Frag) (G : Hp) (v : V) (a : α), Dp K G v (Datum.toD a) → v = kV (key a)
  ofV : ∀ (K : PySem.W.Frag) (G : Hp) (a : α), Dp K G (kV (key a)) (Datum.toD a)
  ltk : ∀ a b : α, PyProof.Rows.lexLt itemOrd [kc (key a)] [kc (key b)] = DatumOrd.lt a b
instance : FK Int where
  key := .inl
  rt := false
  inj := fun a b h => Sum.inl.inj h
  isR := fun _ => rfl
  toV := fun K G v a h => by cases (show Dp K G v (.int a) from h); rfl
  ofV := fun K G a => .int a
  ltk := fun a b => by rw [← DatumOrd.lt_eq]; show _ = PySem.W.dataLt (.int a) (.int b); simp only [PySem.W.dataLt, PySem.W.keyToks, kc]
instance : FK Str where
  key := .inr
  rt := true
  inj := fun a b h => Sum.inr.inj h
  isR := fun _ => rfl
  toV := fun K G v a h => by cases (show Dp K G v (.str a) from h); rfl
  ofV := fun K G a => .str a
  ltk := fun a b => by rw [← DatumOrd.lt_eq]; show _ = PySem.W.dataLt (.str a) (.str b); simp only [PySem.W.dataLt, PySem.W.keyToks, kc]
section
variable {X : Cx} {f : Fr} {α β : Type} [DecidableEq α] [DatumOrd α] [DecidableEq β] [DatumOrd β] [FK α] [FK β] [OrdL α] [OrdL β]
def pk (p : α × β) : List Key := [FK.key p.1, FK.key p.2]
end
section
variable {X : Cx} {f : Fr}
end
end Sk
set_option Elab.async false
set_option linter.all false
set_option maxRecDepth 100000
set_option maxHeartbeats 2000000
namespace Sk
open PySem PySem.Spec PyProof.Rows L2
open PySem.W (Datum DatumOrd Tup T3 T4)
open Evl (Ex)
section
variable {K : PySem.W.Frag} {f : Fr} {F : Fr} {O : Addr → Prop} {G H : Hp} {s : Sg} {σ : L2.St}
theorem Rel.poke {j : Nat} {q p : PV} {a : Addr} {u o : HO} (R : Rel K (fo f F O) G s σ H) (hj : s.sl[j]? = some (some q)) (hm : q.mut = true) (hs : σ[j]? = some (some (.ref a))) (ha : H a = some u) (ga : G a = none) (oa : ¬ O a) (fa : F.F a = none ∨ F.M a)
    (V : VR K (fo f F O) G (upd H a o) p (.ref a)) : Rel K (fo f F O) G (s.put j p) σ (upd H a o) := by
  have jl : j < s.sl.length := (List.getElem?_eq_some_iff.mp hj).1
  exact {
    gh := fun b u h => by rw [upd_ne (fun z => by rw [z, ga] at h; cases h)]; exact R.gh b u h
    fh := fun b u m h => by
      have ne : b ≠ a := fun z => by
        subst z
        rcases fa with fa | fa
        · rw [show F.F b = some u from h] at fa; cases fa
        · exact m fa
      rw [upd_ne ne]; exact R.fh b u m h
    go := R.go
    oh := fun b h => by
      have ne : b ≠ a := fun z => oa (by rw [← z]; exact h)
      rw [upd_ne ne]; exact R.oh b h
    mh := fun b h => by
      by_cases e : b = a
      · subst e; rw [upd_same]; intro z; cases z
      · rw [upd_ne e]; exact R.mh b h
    mo := R.mo
    tm := R.tm
    tb := fun p hp => (R.tb p hp).keep (fun _ _ _ z => z) (upd_ne fun e => oa (e ▸ (R.tm p hp).1))
    pk := R.pk
    dr := fun h => by
      obtain ⟨x, y, z, _⟩ := R.mo h
      exact (R.dr h).keep (upd_ne fun e => oa (e ▸ x)) (upd_ne fun e => oa (e ▸ y)) (upd_ne fun e => oa (e ▸ z))
    ln := by simp only [Sg.put, List.length_set]; exact R.ln
    sl := fun i r hr => by
      rcases set_get hr with ⟨e, e2, hl⟩ | ⟨e, h2⟩
      · cases e2
        subst e
        exact ⟨_, hs, V⟩
      · obtain ⟨w, hw, hv⟩ := R.sl i r h2
        refine ⟨w, hw, ?_⟩
        cases r with
        | dat d => exact hv
        | drw => exact hv
        | val _ => exact hv
        | dgf _ => exact hv
        | abs _ => exact hv
        | own ds =>
          obtain ⟨b, ws, rfl, k1, k2, k3, k4, k5⟩ := hv
          have ne : b ≠ a := fun z => R.ds j i q _ _ e hj h2 hm rfl hs (by rw [hw, z])
          exact ⟨b, ws, rfl, by rw [upd_ne ne]; exact k1, k2, k3, k4, k5⟩
        | byr ds =>
          obtain ⟨b, ws, rfl, k1, k2, k3, k4, k5, k6⟩ := hv
          have ne : b ≠ a := fun z => R.ds j i q _ _ e hj h2 hm rfl hs (by rw [hw, z])
          exact ⟨b, ws, rfl, by rw [upd_ne ne]; exact k1, k2, k3, k4, k5, k6⟩
        | lat _ ds =>
          obtain ⟨b, ws, rfl, k1, k2, k3, k4, k5, k6⟩ := hv
          have ne : b ≠ a := fun z => R.ds j i q _ _ e hj h2 hm rfl hs (by rw [hw, z])
          exact ⟨b, ws, rfl, by rw [upd_ne ne]; exact k1, k2, k3, k4, k5, k6⟩
        | dcg ds =>
          obtain ⟨b, ws, rfl, k1, k2, k3, k4, k5⟩ := hv
          have ne : b ≠ a := fun z => R.ds j i q _ _ e hj h2 hm rfl hs (by rw [hw, z])
          exact ⟨b, ws, rfl, by rw [upd_ne ne]; exact k1, k2, k3, k4, k5⟩
        | dct ds =>
          obtain ⟨b, ws, rfl, k1, k2, k3, k4, k5, k6⟩ := hv
          have ne : b ≠ a := fun z => R.ds j i q _ _ e hj h2 hm rfl hs (by rw [hw, z])
          exact ⟨b, ws, rfl, by rw [upd_ne ne]; exact k1, k2, k3, k4, k5, k6⟩
    ds := fun x y pa pb w ne hx hy mx my wx wy => by
      rcases set_get hx with ⟨e, e2, hl⟩ | ⟨e, h2⟩
      · cases e2
        subst e
        rcases set_get hy with ⟨e', e2', _⟩ | ⟨e', h2'⟩
        · exact ne e'
        · exact R.ds _ y q pb w ne hj h2' hm my wx wy
      · rcases set_get hy with ⟨e', e2', _⟩ | ⟨e', h2'⟩
        · cases e2'
          subst e'
          exact R.ds x _ pa q w ne h2 hj mx hm wx wy
        · exact R.ds x y pa pb w ne h2 h2' mx my wx wy }
end
@[simp] def hApp (j : Nat) (t : HE) : HE := fun s C => (∃ ds, s.sl[j]? = some (some (.own ds))) ∧ t s fun p s1 => ∃ x ds, p.frz = some x ∧ s1.sl[j]? = some (some (.own ds)) ∧ ds.length < 100000 ∧ C (.dat .none) (s1.put j (.own (ds ++ [x])))
@[simp] def hPop (j : Nat) : HE := fun s C => ∃ ds d, s.sl[j]? = some (some (.own ds)) ∧ ds[ds.length - 1]? = some d ∧ C (.dat d) (s.put j (.own ds.dropLast))
@[simp] def hSetL (j : Nat) (t ti : HE) : HS := fun D s => t s fun p s1 => ∃ x, p.frz = some x ∧ (∃ ds, s1.sl[j]? = some (some (.own ds))) ∧ ti s1 fun q s2 => ∃ k n ds, q = .dat (.int k) ∧ s2.sl[j]? = some (some (.own ds)) ∧ ixN ds.length k = some n ∧ D.nx (s2.put j (.own (ds.set n x)))
@[simp] def keyD : PyData → Option Key
  | .int i => some (.inl i)
  | .str x => some (.inr x)
  | _ => none
def putD (kvs : List (Key × PyData)) (k : Key) (d : PyData) : List (Key × PyData) := if (kvs.any fun kv => decide (kv.1 = k)) = true then kvs.map (fun kv => if kv.1 = k then (kv.1, d) else kv) else kvs ++ [(k, d)]
def mergeD (kvs more : List (Key × PyData)) : List (Key × PyData) := more.foldl (fun acc kv => putD acc kv.1 kv.2) kvs
@[simp] def hDnew : HE := fun s C => C (.dct []) s
@[simp] def hDput (j : Nat) (t ti : HE) : HS := fun D s => t s fun p s1 => ∃ x, p.frz = some x ∧ (∃ kvs, s1.sl[j]? = some (some (.dct kvs))) ∧ ti s1 fun q s2 => ∃ d k kvs, q = .dat d ∧ keyD d = some k ∧ s2.sl[j]? = some (some (.dct kvs)) ∧ kvs.length < 100000 ∧ D.nx (s2.put j (.dct (putD kvs k x)))
section
variable {K : PySem.W.Frag} {G : Hp}
def KVD (K : PySem.W.Frag) (G : Hp) (ws : List (Key × V)) (kvs : List (Key × PyData)) : Prop := ws.map (·.1) = kvs.map (·.1) ∧ DpAll K G (ws.map (·.2)) (kvs.map (·.2))
theorem KVD.nil : KVD K G [] [] := ⟨rfl, .nil⟩
theorem KVD.cons_inv {ws : List (Key × V)} {k : Key} {d : PyData} {kvs : List (Key × PyData)} (h : KVD K G ws ((k, d) :: kvs)) : ∃ v r, ws = (k, v) :: r ∧ Dp K G v d ∧ KVD K G r kvs := by
  obtain ⟨h1, h2⟩ := h
  match ws, h1, h2 with
  | (k', v) :: r, h1, h2 =>
    simp only [List.map_cons, List.cons.injEq] at h1
    obtain ⟨e1, e2⟩ := h1
    subst e1
    cases h2 with
    | cons a b => exact ⟨v, r, rfl, a, e2, b⟩
theorem KVD.cons {v : V} {k : Key} {d : PyData} {r : List (Key × V)} {kvs : List (Key × PyData)} (h : Dp K G v d) (t : KVD K G r kvs) : KVD K G ((k, v) :: r) ((k, d) :: kvs) := ⟨by simp [t.1], .cons h t.2⟩
theorem KVD.any {k : Key} : ∀ {kvs : List (Key × PyData)} {ws : List (Key × V)}, KVD K G ws kvs → (ws.any fun kv => decide (kv.1 = k)) = (kvs.any fun kv => decide (kv.1 = k))
  | [], ws, h => by
    have : ws = [] := by
      have := congrArg List.length h.1
      simpa using this
    subst this; rfl
  | (k', d) :: kvs, ws, h => by
    obtain ⟨v, r, rfl, _, t⟩ := h.cons_inv
    simp [KVD.any t]
theorem KVD.map {k : Key} {v : V} {d : PyData} (hd : Dp K G v d) : ∀ {kvs : List (Key × PyData)} {ws : List (Key × V)}, KVD K G ws kvs → KVD K G (ws.map fun kv => if kv.1 = k then (kv.1, v) else kv) (kvs.map fun kv => if kv.1 = k then (kv.1, d) else kv)
  | [], ws, h => by
    have : ws = [] := by
      have := congrArg List.length h.1
      simpa using this
    subst this; exact .nil
  | (k', d') :: kvs, ws, h => by
    obtain ⟨v', r, rfl, h1, t⟩ := h.cons_inv
    by_cases e : k' = k
    · simp only [List.map_cons, e, if_true]
      exact .cons hd (KVD.map hd t)
    · simp only [List.map_cons, e, if_false]
      exact .cons h1 (KVD.map hd t)
theorem KVD.snoc {k : Key} {v : V} {d : PyData} (hd : Dp K G v d) {kvs : List (Key × PyData)} {ws : List (Key × V)} (h : KVD K G ws kvs) : KVD K G (ws ++ [(k, v)]) (kvs ++ [(k, d)]) := ⟨by simp [h.1], by simp only [List.map_append]; exact h.2.append (.cons hd .nil)⟩
theorem KVD.put {k : Key} {v : V} {d : PyData} (hd : Dp K G v d) {kvs : List (Key × PyData)} {ws : List (Key × V)} (h : KVD K G ws kvs) : KVD K G (putK ws k v) (putD kvs k d) := by
  unfold putK putD
  rw [KVD.any h]
  split
  · exact h.map hd
  · exact h.snoc hd
end
section
variable {X : Cx} {f : Fr} {e o a : Expr} {t ti : HE} {x : Str} {apos cpos pos p : Pos}
theorem hs_setL {j : Nat} {st : Stmt} (h : PS X st (tAsg (lf X.K f t) (gSub (tVar j) (lf X.K f ti) rSetL))) : PS X st (lfS X.K f (hSetL j t ti)) := h.mono fun D σ H q => by
  obtain ⟨F, O, G, s, D', R, ht, k⟩ := q
  refine ⟨F, O, G, s, _, R, ht, fun p s1 G1 H1 y c1 e1 R1 V1 => ?_⟩
  obtain ⟨x, hx, ⟨ds0, hj0⟩, c2⟩ := c1
  obtain ⟨G2, e2, R2, V2⟩ := R1.frz V1 hx
  obtain ⟨v, hv, _⟩ := R2.sl j _ hj0
  refine ⟨v, hv, F, O, G2, s1, _, R2, c2, fun q s3 G3 H3 z c3 e3 R3 V3 => ?_⟩
  obtain ⟨i, n, ds, rfl, hj1, hn, c4⟩ := c3
  obtain ⟨v', hv', V'⟩ := R3.sl j _ hj1
  rw [hv] at hv'
  cases hv'
  obtain ⟨b, ws, eb, m1, m2, m3, m4, m5⟩ := V'
  subst eb
  cases vr_int V3.1
  refine ⟨b, ws, i, n, rfl, rfl, m1, by rw [m5.len]; exact hn, k.nx _ _ _ _ ((e1.trans e2).trans e3) ?_ c4⟩
  exact R3.poke hj1 rfl hv m1 m2 m3 m4 ⟨_, _, rfl, upd_same, m2, m3, m4, m5.set (Dp.ex e3 _ V2)⟩
end
end Sk
set_option Elab.async false
set_option linter.all false
set_option maxRecDepth 100000
set_option maxHeartbeats 2000000
namespace Sk
open PySem PySem.Spec PyProof.Rows L2
open PySem.W (Datum DatumOrd Tup T3 T4)
open Evl (Ex)
def joinW (a : Str) : List PV → (PV → Prop) → Prop := fun ps C => match ps with
  | [p] => ∃ ys : List Str, p.seq = some (ys.map .str) ∧ (ys.map (·.length)).sum + ys.length * a.length ≤ 16777216 ∧ C (.dat (.str (Txt.join a ys)))
  | _ => False
def pairsD : List PyData → Option (List (Key × PyData))
  | [] => some []
  | .tuple [d, e] :: r => match keyD d, pairsD r with
    | some k, some t => some ((k, e) :: t)
    | _, _ => none
  | _ => none
@[simp] def hUpd (j : Nat) (t : HE) : HE := fun s C => (∃ kvs, s.sl[j]? = some (some (.dct kvs))) ∧ t s fun p s1 => ∃ more kvs, p = .dct more ∧ s1.sl[j]? = some (some (.dct kvs)) ∧ kvs.length + more.length ≤ 100000 ∧ C (.dat .none) (s1.put j (.dct (mergeD kvs more)))
section
variable {X : Cx} {f : Fr}
theorem op_joinW {a : Str} : Op X.K f (op1 fun x H Q => ∃ b p, ∃ ys : List Str, V.str a = .str b ∧ [x] = [V.ref p] ∧ (SqL X.K H p (ys.map V.str) ∨ SqT X.K H p (ys.map V.str)) ∧ (ys.map (·.length)).sum + ys.length * b.length ≤ 16777216 ∧ Q (.str (Txt.join b ys)) H) (joinW a) := fun F O G s σ H ps vs C Q R V w k => by
  unfold joinW at w
  split at w
  · cases V with
    | cons v2 V =>
      cases V
      obtain ⟨ys, h1, h2, h3⟩ := w
      obtain ⟨b, ws, rfl, hs, ha⟩ := v2.sq R.gh h1
      have e : ws = ys.map V.str := strs_dpAll ha
      subst e
      exact ⟨_, b, ys, rfl, rfl, hs, h2, k _ _ _ _ h3 (Ex.refl G) R (vrf_dat (.str _))⟩
  · exact w.elim
theorem hp_join {o e : Expr} {a : Str} {ob : HA → HA} {apos pos : Pos} (A : PE X o (tC (.str a))) (B : Opd X f e ob) (hs : starEach [e] X.env = [(false, eval e X.env)] := by rfl) (hbase : attributeBase o "join" X.env (eval o X.env) = eval o X.env := by rfl) (hline : (apos.endLine == pos.line) = true := by rfl) :
    PE X (.Call (.Attribute o "join" apos) [e] [] pos) (lf X.K f (hC (joinW a) (ob hNil))) := by
  obtain ⟨tb, b1, b2⟩ := B.ex
  refine (pe_m1 PySem.F.slot_str_join PySem.F.type_str_join mt_join A b1 hs hbase hline).mono fun σ H Q q => ?_
  have z := b2 tNil hNil (fun σ H Q q => by
    obtain ⟨F, O, G, s, C, R, ht, k⟩ := q
    exact k _ _ _ _ _ ht (Ex.refl G) R .nil) σ H _ ((op_joinW (X := X) (f := f) (a := a)).lift _ σ H Q q)
  exact ⟨⟨a, rfl⟩, z⟩
class SK (α : Type) [DecidableEq α] [DatumOrd α] [FK α] [OrdL α] : Prop where
  run : ∀ (P : Program) (w : World) (h : Heap), ∃ (good : Value → Prop) (S : SrtK P w h good), (∀ (k : α) v, keyIs (FK.key k) v = true → good v) ∧
    ∀ (ms : List α) (us : List Value), Paired (fun k v => keyIs k v = true) (ms.map FK.key) us → us.Pairwise (Upto S.κ) → (ms.map FK.key).Nodup → Rising ms
instance : SK Int where
  run := fun P w h => ⟨_, srtI P w h, (fun k v hv => by
    rcases keyIs_shape hv with ⟨i, u, e, rfl⟩ | ⟨i, u, e, rfl⟩ <;> first | exact ⟨i, u, rfl⟩ | cases e), fun ms us h1 h2 h3 => List.Pairwise.imp (fun {a b} (z : a < b) => decide_eq_true z) (lt_of_upto h1 h2 h3)⟩
instance : SK Str where
  run := fun P w h => ⟨_, srtS P w h, (fun k v hv => by
    rcases keyIs_shape hv with ⟨i, u, e, rfl⟩ | ⟨i, u, e, rfl⟩ <;> first | exact ⟨i, u, rfl⟩ | cases e), fun ms us h1 h2 h3 => List.Pairwise.imp (fun {a b} (z : a.cps.toList < b.cps.toList) => (show decide (a.cps.toList < b.cps.toList) = true from decide_eq_true z)) (slt_of_upto h1 h2 h3)⟩
end
end Sk
set_option Elab.async false
set_option linter.all false
set_option maxRecDepth 100000
set_option maxHeartbeats 2000000
namespace Sk
open PySem PySem.Spec PyProof.Rows L2
open PySem.W (Datum DatumOrd Tup T3 T4)
open Evl (Ex)
def rEqP (K : PySem.W.Frag) (neg : Bool) : R2 := fun x y H Q => ∃ d e, Dp K H x d ∧ Dp K H y e ∧ d.plain = true ∧ e.plain = true ∧ min d.depth e.depth ≤ 60 ∧ Q (.bl (if neg then !PyData.eqv d e else PyData.eqv d e)) H
def eqP (neg : Bool) : List PV → (PV → Prop) → Prop := fun ps C => match ps with
  | [p, q] => ∃ d e, p.frz = some d ∧ q.frz = some e ∧ d.plain = true ∧ e.plain = true ∧ min d.depth e.depth ≤ 60 ∧ C (.dat (.bool (if neg then !PyData.eqv d e else PyData.eqv d e)))
  | _ => False
section
variable {X : Cx} {f : Fr}
theorem op_eqP (hu : X.A.units + 64 < cLine) : OpR X (compareOp .Eq) (rEqP X.K false) := by
  intro pins s σ H x y v u Q I rx ry h
  obtain ⟨d, e, hd, he, sd, se, hm, q⟩ := h
  obtain ⟨as, r1⟩ := Dp.reads I d x v hd rx
  obtain ⟨bs, r2⟩ := Dp.reads I e y u he ry
  exact SeqAt.eq_plain r1 r2 sd se (by omega) ⟨.bl _, H, I, rfl, q⟩
theorem op_neP (hu : X.A.units + 64 < cLine) : OpR X (compareOp .NotEq) (rEqP X.K true) := by
  intro pins s σ H x y v u Q I rx ry h
  obtain ⟨d, e, hd, he, sd, se, hm, q⟩ := h
  obtain ⟨as, r1⟩ := Dp.reads I d x v hd rx
  obtain ⟨bs, r2⟩ := Dp.reads I e y u he ry
  exact SeqAt.ne_plain r1 r2 sd se (by omega) ⟨.bl _, H, I, rfl, q⟩
theorem op_eqPW {neg : Bool} : Op X.K f (op2 (rEqP X.K neg)) (eqP neg) := fun F O G s σ H ps vs C Q R V w k => by
  unfold eqP at w
  split at w
  · obtain ⟨d, e, h1, h2, h3, h4, h6, h5⟩ := w
    cases V with
    | cons v1 V =>
      cases V with
      | cons v2 V =>
        cases V
        exact ⟨d, e, v1.dp R.gh h1, v2.dp R.gh h2, h3, h4, h6, k _ _ _ _ h5 (Ex.refl G) R (vrf_dat (.bl _))⟩
  · exact w.elim
theorem plainAll_D {α : Type} [DecidableEq α] [Datum α] : ∀ xs : List α, PyData.plainAll (xs.map Datum.toD) = true
  | [] => rfl
  | x :: xs => by rw [List.map_cons, PyData.plainAll, Datum.plain, plainAll_D xs]; rfl
end
theorem Rel.drawn {K : PySem.W.Frag} {f : Fr} {G H H' : Hp} {s : Sg} {σ : L2.St} {n' : Nat} (R : Rel K f G s σ H) (on : f.on = true) (d : DrwOk f.m f.l f.c n' H') (k : ∀ a o, a ≠ f.m → a ≠ f.l → H a = some o → H' a = some o) : Rel K f G ⟨[], n'⟩ [] H' := by
  obtain ⟨o1, o2, o3, m1, m2⟩ := R.mo on
  have h1 : H' f.m ≠ none := by obtain ⟨_, _, _, _, h, _⟩ := d; rw [h]; intro z; cases z
  have h2 : H' f.l ≠ none := by obtain ⟨_, _, _, _, _, _, _, _, _, _, h, _⟩ := d; rw [h]; intro z; cases z
  have some : ∀ a, H a ≠ none → H' a ≠ none := fun a h => by
    by_cases e1 : a = f.m
    · rw [e1]; exact h1
    by_cases e2 : a = f.l
    · rw [e2]; exact h2
    cases q : H a with
    | none => exact absurd q h
    | some u => rw [k a u e1 e2 q]; intro z; cases z
  obtain ⟨_, _, _, _, hm0, _, _, _, _, _, hl0, _⟩ := R.dr on
  exact {
    gh := fun a o h => k a o (fun z => by rw [z, R.go _ o1] at h; cases h) (fun z => by rw [z, R.go _ o2] at h; cases h) (R.gh _ _ h)
    fh := fun a o m h => k a o (fun z => m (by rw [z]; exact m1)) (fun z => m (by rw [z]; exact m2)) (R.fh a o m h)
    go := R.go
    oh := fun a h => some a (R.oh a h)
    mh := fun a h => some a (R.mh a h)
    mo := R.mo
    tm := R.tm
    tb := fun p hp => by
      obtain ⟨ps, q1, q2, q3⟩ := R.tb p hp
      exact ⟨ps, k _ _ (fun z => by rw [z, hm0] at q1; cases q1) (fun z => by rw [z, hl0] at q1; cases q1) q1, q2, q3⟩
    pk := R.pk
    dr := fun _ => d
    ln := rfl
    sl := fun i p h => by simp at h
    ds := fun i j p q v _ h => by simp at h }
def spMixed : HSp := fun ps n C => ∃ c k : Int, ps = [.dat (.int c), .dat (.int k)] ∧ 0 ≤ c ∧ c < 4294967296 ∧ 0 ≤ k ∧ k < 536870912 ∧ ∀ i : Int, 0 ≤ i → i < 2147483647 → C (.dat (.int i)) n
def spDraw : HSp := fun ps n C => ∃ k : Int, ps = [.drw, .dat (.int k)] ∧ 0 < k ∧ k ≤ 1000000 ∧ n < 268435456 ∧ ∀ i : Int, 0 ≤ i → i < k → C (.dat (.int i)) (n + 1)
end Sk
set_option Elab.async false
set_option linter.all false
set_option maxRecDepth 100000
set_option maxHeartbeats 2000000
namespace Sk
open PySem PySem.Spec PyProof.Rows L2
open PySem.W (Datum DatumOrd Tup T3 T4)
open Evl (Ex)
structure Has (P : Program) (w : World) (T : Tbs) (K : PySem.W.Frag) (mg : Str → Option Value) (base : Heap) (k : Nat) (x : Str) (n : Nat) (sp : HSp) : Prop where
  ex : ∃ fa fd ps, ps.length = n ∧ GnOk P w K mg base CX0 k fa fd ps (SpH K w T n sp) ∧ mg x = some (.ref fa) ∧ PySem.W.keepIn K (.ref fa) = true ∧ Binds K fd ps []
structure Cst (K : PySem.W.Frag) (mg : Str → Option Value) (x : Str) (d : PyData) : Prop where
  ex : ∃ v u, mg x = some u ∧ RelV v u ∧ ∀ G, Dp K G v d
theorem u64 {k : Nat} {A : Around} (r : Room k A) : A.units + 64 < cLine := by have := r.un; omega
theorem u1 {k : Nat} {A : Around} (r : Room k A) : A.units + 1 < cLine := by have := r.un; omega
theorem u150 {k : Nat} {A : Around} (r : Room k A) : A.units + 150 < cLine := by have := r.un; omega
section
variable {X : Cx} {T : Tbs} {en : Option Ent} {e a o : Expr} {es : List Expr} {ta : HA} {sp : HSp} {x : Str} {p pos : Pos} {k n : Nat} {d : PyData}
theorem hp_callH (h : Has X.prog X.w T X.K X.mg X.base k x n sp) (hgd : X.A.guards = some []) (hr : Room k X.A) (hg : Gl X x) (ha : PA X (e :: es) (lfA X.K (f1 X.w T en) ta))
    (hdb : (x == ("__debug__" : Str)) = false := by decide) (he : starEach (e :: es) X.env = (false, eval e X.env) :: starEach es X.env := by rfl) (hpl : (backTo pos (starEach es X.env)).any (·.1) = false := by rfl) : PE X (.Call (.Name x p) (e :: es) [] pos) (lf X.K (f1 X.w T en) (hCall sp n ta)) := by
  obtain ⟨fa, fd, ps, _, G, hm, kp, b⟩ := h.ex
  exact hp_call (f := f1 X.w T en) (E := E0) (fun z => pe_callG G hgd hr hg hm kp b pass0 z hdb he hpl) ha
end
@[simp] def hD1 (k : Key) (d : PyData) : HE := fun s C => C (.dct [(k, d)]) s
theorem Has.mk' {P : Program} {w : World} {T : Tbs} {K : PySem.W.Frag} {mg : Str → Option Value} {base : Heap} {k : Nat} {fa : Addr} {fd : FuncData} {x : Str} {st : Stmt} {N ps : List Str} {hs : HS} {sp : HSp} (Fn : Fun K x x st fa fd) (hm : mg x = some (.ref fa)) (b : Binds K fd ps []) (S : FnScope N ps (defScope st))
    (body : ∀ (cdv : Value), fd.code = cdv → ∀ (A : Around) (outer : List Env) (s : Shared) (H : Hp) (E : XK), (A.deeper (envOfC x (defScope st) s.heap.objs.size fa cdv)).guards = some [] → Room k (A.deeper (envOfC x (defScope st) s.heap.objs.size fa cdv)) → PSs (cxOf CX0 P w K mg base N x (defScope st) fa cdv A outer s H E).nox (defBody st) (lfS K (f0 w T) hs))
    (rd : ∀ pvs n C, pvs.length = ps.length → sp pvs n C → hs ⟨fun s => C (.dat .none) s.n, fun p s => C p s.n, fun _ => False, fun _ => False⟩ ⟨pvs.map some ++ List.replicate (N.length - pvs.length) none, n⟩) : Has P w T K mg base (k + 1) x ps.length sp :=
  ⟨fa, fd, ps, rfl, gnH Fn S body rd, hm, Fn.kp, b⟩
end Sk
set_option Elab.async false
set_option linter.all false
set_option maxRecDepth 100000
set_option maxHeartbeats 2000000
namespace Sk
open PySem PySem.Spec PyProof.Rows L2
open PySem.W (Datum DatumOrd Tup T3 T4)
open Evl (Ex)
mutual
theorem reads_imm {h : Heap} : ∀ {v : Value} {d : PyData} {as : List Addr}, imm d = true → Reads h v d as → as = []
  | _, _, _, _, .none => rfl
  | _, _, _, _, .bool _ => rfl
  | _, _, _, _, .int _ _ => rfl
  | _, _, _, _, .str _ _ => rfl
  | _, _, _, e, .list _ _ _ _ => nomatch e
  | _, _, _, e, .tuple _ _ _ h => reads_immAll e h
  | _, _, _, e, .dict _ _ _ _ _ => nomatch e
theorem reads_immAll {h : Heap} : ∀ {vs : List Value} {ds : List PyData} {as : List Addr}, immAll ds = true → ReadsAll h vs ds as → as = []
  | _, _, _, _, .nil => rfl
  | _, _, _, e, .cons h1 h2 => by
    unfold immAll at e
    rw [Bool.and_eq_true] at e
    rw [reads_imm e.1 h1, reads_immAll e.2 h2]
    rfl
end
end Sk
set_option Elab.async false
set_option linter.all false
set_option maxRecDepth 100000
set_option maxHeartbeats 2000000
namespace Sk
open PySem PySem.Spec PyProof.Rows L2
open PySem.W (Datum DatumOrd Tup T3 T4)
open Evl (Ex)
def LamStep (P : Addr) (q : Str) (G H G1 H1 : Hp) : Prop :=
  (G1 = G ∧ H1 = H) ∨ ∃ (ps more : Array Value) (c' : Addr), H P = some (.tbl ps) ∧ H c' = none ∧ H1 = upd (upd H P (.tbl (ps ++ more))) c' (LamX.CodeO c' q) ∧ G1 = upd G c' (LamX.CodeO c' q) ∧ TabOk G1 H1 P q
section
variable {K : PySem.W.Frag} {f : Fr} {G G1 H H1 : Hp} {s : Sg} {σ : L2.St} {P : Addr} {q : Str}
theorem LamStep.keep (h : LamStep P q G H G1 H1) {b : Addr} {o : HO} (e : H b = some o) (n : ∀ ps, o ≠ .tbl ps) : H1 b = some o := by
  rcases h with ⟨_, rfl⟩ | ⟨ps, more, c', h1, h2, rfl, rfl, h5⟩
  · exact e
  · rw [upd_ne (ne_of_none e h2), upd_ne (fun z => n ps (Option.some.inj (e.symm.trans (by rw [z]; exact h1))))]
    exact e
theorem LamStep.noB (h : LamStep P q G H G1 H1) {b : Addr} (e : H1 b = none) : H b = none := by
  rcases h with ⟨_, rfl⟩ | ⟨ps, more, c', h1, h2, rfl, rfl, h5⟩
  · exact e
  · by_cases z : b = c'
    · rw [z]; exact h2
    · rw [upd_ne z] at e
      by_cases z2 : b = P
      · rw [z2, upd_same] at e; cases e
      · rw [upd_ne z2] at e; exact e
theorem LamStep.g (h : LamStep P q G H G1 H1) (gh : Ex G H) : Ex G G1 := by
  rcases h with ⟨rfl, _⟩ | ⟨ps, more, c', h1, h2, rfl, rfl, h5⟩
  · exact Ex.refl _
  · exact Evl.Ex.new (Evl.fresh_back gh h2)
theorem VR.tab {p : PV} {v : V} (h : VR K f G H p v) (st : LamStep P q G H G1 H1) (gh : Ex G H) : VR K f G1 H1 p v := by
  have g := st.g gh
  have gn : ∀ a o, H a = some o → G a = none → G1 a = none := fun a o h1 h2 => by
    rcases st with ⟨rfl, _⟩ | ⟨ps, more, c', e1, e2, rfl, rfl, e5⟩
    · exact h2
    · rw [upd_ne (ne_of_none h1 e2)]; exact h2
  cases p with
  | dat d => exact Dp.ex g _ h
  | own ds =>
    obtain ⟨p, vs, rfl, h1, h2, h3, h4, h5⟩ := h
    exact ⟨p, vs, rfl, st.keep h1 (fun _ z => by cases z), gn _ _ h1 h2, h3, h4, Dp.exAll g _ h5⟩
  | dct kvs =>
    obtain ⟨p, vs, rfl, h1, h2, h3, h4, h5, h6⟩ := h
    exact ⟨p, vs, rfl, st.keep h1 (fun _ z => by cases z), gn _ _ h1 h2, h3, h4, h5, Dp.exAll g _ h6⟩
  | dcg kvs =>
    obtain ⟨p, vs, rfl, h1, h2, h3, h4, h5⟩ := h
    exact ⟨p, vs, rfl, st.keep h1 (fun _ z => by unfold GDo at z; cases z), gn _ _ h1 h2, h3, h4, h5.ex g⟩
  | dgf kvs =>
    obtain ⟨p, vs, rfl, h1, h2⟩ := h
    exact ⟨p, vs, rfl, g _ _ h1, h2.ex g⟩
  | abs _ => exact fun G9 e9 => h G9 (g.trans e9)
  | drw => exact h
  | val w => exact h
  | byr ds =>
    obtain ⟨p, vs, rfl, h1, h2, h3, h4, h5, h6⟩ := h
    exact ⟨p, vs, rfl, st.keep h1 (fun _ z => by cases z), gn _ _ h1 h2, h3, h4, Dp.exAll g _ h5, h6⟩
  | lat _ ds =>
    obtain ⟨p, vs, rfl, h1, h2, h3, h4, h5, h6⟩ := h
    exact ⟨p, vs, rfl, st.keep h1 (fun _ z => by cases z), gn _ _ h1 h2, h3, h4, Dp.exAll g _ h5, h6⟩
theorem Rel.lam (R : Rel K f G s σ H) (hm : (P, q) ∈ f.T) (hu : ∀ p ∈ f.T, p.1 = P → p.2 = q) (st : LamStep P q G H G1 H1) : Rel K f G1 s σ H1 := by
  have st0 := st
  have g := st.g R.gh
  rcases st with ⟨rfl, rfl⟩ | ⟨ps, more, c', h1, h2, rfl, rfl, h5⟩
  · exact R
  have gP : G P = none := R.go P (R.tm _ hm).1
  have mP : f.M P := (R.tm _ hm).2
  have some' : ∀ a, H a ≠ none → upd (upd H P (.tbl (ps ++ more))) c' (LamX.CodeO c' q) a ≠ none := fun a h z => h (st0.noB z)
  refine { gh := fun b o hb => ?_, fh := fun a o m h => ?_, go := fun a h => ?_, oh := fun a h => some' a (R.oh a h), mh := fun a h => some' a (R.mh a h), mo := R.mo, tm := R.tm, tb := fun p hp => ?_, pk := fun en h => (R.pk en h).ex g, dr := fun h => ?_, ln := R.ln, sl := fun i p h => ?_, ds := R.ds }
  · by_cases z : b = c'
    · rw [z, upd_same] at hb ⊢; exact hb
    · rw [upd_ne z] at hb ⊢
      rw [upd_ne (fun z2 => by rw [z2, gP] at hb; cases hb)]
      exact R.gh _ _ hb
  · have e := R.fh a o m h
    rw [upd_ne (ne_of_none e h2), upd_ne (fun z => m (by rw [z]; exact mP))]
    exact e
  · rw [upd_ne (fun z => R.oh a h (by rw [z]; exact h2))]
    exact R.go a h
  · by_cases z : p.1 = P
    · rw [z, hu p hp z]; exact h5
    · obtain ⟨ps', a1, a2, a3⟩ := R.tb p hp
      refine ⟨ps', ?_, a2, fun pos cv hc => ?_⟩
      · rw [upd_ne (ne_of_none a1 h2), upd_ne z]; exact a1
      · obtain ⟨c, e1, e2⟩ := a3 pos cv hc
        exact ⟨c, e1, g _ _ e2⟩
  · obtain ⟨k, cs, ls, rest, k1, k2, k3, k4, k5, k6, k7, k8⟩ := R.dr h
    exact ⟨k, cs, ls, rest, st0.keep k1 (fun _ z => by cases z), k2, k3, st0.keep k4 (fun _ z => by cases z), k5, k6, st0.keep k7 (fun _ z => by cases z), k8⟩
  · obtain ⟨v, e1, e2⟩ := R.sl i p h
    exact ⟨v, e1, e2.tab st0 R.gh⟩
end
structure Mkr (X : Cx) (P : Addr) (q : Str) : Prop where
  ex : ∃ c, LamX.TabB X.base X.mg c P ∧ X.env.code = .ref c
  qu : X.env.qual ++ "<lambda>" = q
section
variable {X : Cx} {pins : List (Addr × Obj)} {σ : L2.St} {H G : Hp} {s : Shared} {E : Value → Shared → Prop}
end
end Sk
set_option Elab.async false
set_option linter.all false
set_option maxRecDepth 100000
set_option maxHeartbeats 2000000
namespace Sk
open PySem PySem.Spec PyProof.Rows L2
open PySem.W (Datum DatumOrd Tup T3 T4)
open Evl (Ex)
def sortK {α κ : Type} [DecidableEq κ] [DatumOrd κ] (k : α → κ) (xs : List α) : List α := xs.mergeSort fun a b => leD (k a) (k b)
theorem LamStep.gh {P : Addr} {q : Str} {G H G1 H1 : Hp} (st : LamStep P q G H G1 H1) (gh : Ex G H) (gP : G P = none) : Ex G1 H1 := by
  rcases st with ⟨rfl, rfl⟩ | ⟨ps, more, c', h1, h2, rfl, rfl, h5⟩
  · exact gh
  · intro b o hb
    by_cases z : b = c'
    · rw [z, upd_same] at hb ⊢; exact hb
    · rw [upd_ne z] at hb ⊢
      rw [upd_ne (fun z2 => by rw [z2, gP] at hb; cases hb)]
      exact gh _ _ hb
theorem LamStep.sl {P : Addr} {q : Str} {G H G1 H1 : Hp} {K : PySem.W.Frag} {a : Addr} {ws : List V} (st : LamStep P q G H G1 H1) (h : SqL K H a ws) : SqL K H1 a ws := by
  rcases h with (h | ⟨o, h⟩) | h
  · exact Or.inl (Or.inl (st.keep h fun _ z => by cases z))
  · exact Or.inl (Or.inr ⟨o, st.keep h fun _ z => by cases z⟩)
  · exact Or.inr h
section
variable {X : Cx} {pins : List (Addr × Obj)} {σ : L2.St} {H : Hp} {s : Shared}
structure KSc (x : Str) (params : Arguments) (sc : Scope) : Prop where
  kind : sc.kind = .function
  co : sc.isCoroutine = false
  gen : sc.isGenerator = false
  par : sc.names.lookup x = some .local
  cell : ∀ y ∈ sc.names, y.2 ≠ .cell
  free : ∀ y ∈ sc.names, y.2 ≠ .free
  dflt : ∀ env : Env, defaultsOf params env = ([], [])
  bind : ∀ (body : Expr) (q : Str) (cl : List (Str × Addr)) (pm cv ctv v : Value), bindArgs (PySem.W.kla_fn "<lambda>" q params body sc cl pm cv ctv) ⟨[v], []⟩ = pure [(x, v)]
end
end Sk
set_option Elab.async false
set_option linter.all false
set_option maxRecDepth 100000
set_option maxHeartbeats 2000000
namespace Sk
open PySem PySem.Spec PyProof.Rows L2
open PySem.W (Datum DatumOrd Tup T3 T4)
open Evl (Ex)
section
variable {X : Cx} {f : Fr} {α κ : Type} [DecidableEq α] [Datum α] [Im α] [DecidableEq κ] [DatumOrd κ] [Srt κ] {k : α → κ} {P : Addr} {q : Str}
end
section
variable {α κ : Type} [DecidableEq κ] [DatumOrd κ] [OrdL κ] {k : α → κ}
theorem sortK_perm (xs : List α) : (sortK k xs).Perm xs := List.mergeSort_perm _ _
@[simp] theorem sortK_len (xs : List α) : (sortK k xs).length = xs.length := (sortK_perm xs).length_eq
end
end Sk
set_option Elab.async false
set_option linter.all false
set_option maxRecDepth 100000
set_option maxHeartbeats 2000000
namespace Sk
open PySem PySem.Spec PyProof.Rows L2
open Evl (Ex)
abbrev HSpR := List PV → List PyData → Nat → (PV → List PyData → Nat → Prop) → Prop
def SpHR (K : PySem.W.Frag) (w : World) (T : Tbs) (k : Nat) (sp : HSpR) : Sp := fun vs H Q _ => ∃ f G n ps ds C, f.w = w ∧ f.T = T ∧ f.e = none ∧ f.F = H ∧ (∀ a, f.M a → ((f.on = true ∧ (a = f.m ∨ a = f.l)) ∨ f.tab a) ∨ a = f.r) ∧ Rel K f G ⟨(ps ++ [.byr ds]).map some, n⟩ (vs.map some) H ∧ (∀ p ∈ ps, p.mut = false) ∧ ps.length = k ∧ sp ps ds n C ∧
  ∀ p es n' G' H' v, C p es n' → Ex G G' → Rel K f G' ⟨[some (.byr es)], n'⟩ [some (.ref f.r)] H' → VRf K f G' H' ⟨[some (.byr es)], n'⟩ [some (.ref f.r)] p v → Q v H'
section
variable {X : Cx} {T : Tbs} {e x a : Expr} {oa : HA → HA} {sp : HSpR} {E : XK}
theorem valsR_len {k : Nat} {K : PySem.W.Frag} {w : World} {T : Tbs} : ∀ vs H Q E, SpHR K w T k sp vs H Q E → vs.length = k + 1 := fun vs H Q E h => by
  obtain ⟨f, G, n, ps, ds, C, _, _, _, _, _, R, _, hk, _⟩ := h
  have := R.ln
  simp at this
  omega
theorem gnHR {P : Program} {w : World} {T : Tbs} {K : PySem.W.Frag} {mg : Str → Option Value} {base : Heap} {k kk : Nat} {fa : Addr} {fd : FuncData} {x qual : Str} {st : Stmt} {N ps : List Str} {hs : HS} (Fn : Fun K x qual st fa fd) (S : FnScope N ps (defScope st)) (hps : ps.length = kk + 1)
    (body : ∀ (cdv : Value), fd.code = cdv → ∀ (A : Around) (outer : List Env) (s : Shared) (H : Hp) (E : XK), (A.deeper (envOfC qual (defScope st) s.heap.objs.size fa cdv)).guards = some [] → Room k (A.deeper (envOfC qual (defScope st) s.heap.objs.size fa cdv)) → PSs (cxOf CX0 P w K mg base N qual (defScope st) fa cdv A outer s H E).nox (defBody st) (lfS K (f0 w T) hs))
    (rd : ∀ pvs ds n C, pvs.length = kk → sp pvs ds n C → hs ⟨fun s => ∃ es, s.sl[kk]? = some (some (.byr es)) ∧ C (.dat .none) es s.n, fun p s => ∃ es, s.sl[kk]? = some (some (.byr es)) ∧ C p es s.n, fun _ => False, fun _ => False⟩ ⟨(pvs ++ [PV.byr ds]).map some ++ List.replicate (N.length - (pvs.length + 1)) none, n⟩) :
    GnOk P w K mg base CX0 (k + 1) fa fd ps (SpHR K w T kk sp) := by
  refine gn_ok Fn S (fun vs H Q E h => by rw [hps]; exact valsR_len vs H Q E h) fun cdv ecd A outer s H vs Q E hgd hr h => ?_
  obtain ⟨⟨on, m, l, c, fF, fO, fM, r, fw, fT, fe⟩, G, n, pvs, ds, C, hw, hT, he, hF, hM, R, hm, hk, hsp, fin⟩ := h
  have hw : fw = w := hw
  have hT : fT = T := hT
  have he : fe = none := he
  subst hw hT he
  let f : Fr := ⟨on, m, l, c, fF, fO, fM, r, fw, fT, none⟩
  have lnv : vs.length = pvs.length + 1 := by
    have := R.ln
    simpa using this
  have endR : ∀ {G1 H1 : Hp} {s1 : Sg} {σ1 : L2.St} {es : List PyData}, Rel K f G1 s1 σ1 H1 → s1.sl[kk]? = some (some (.byr es)) → Rel K f G1 ⟨[some (.byr es)], s1.n⟩ [some (.ref f.r)] H1 ∧ σ1[kk]? = some (some (.ref f.r)) := fun {G1 H1 s1 σ1 es} R1 h1 => by
    obtain ⟨w1, h2, h3⟩ := R1.sl kk _ h1
    obtain ⟨b, ws, rfl, k1, k2, k3, k4, k5, rfl⟩ := h3
    refine ⟨{ gh := R1.gh, fh := R1.fh, go := R1.go, oh := R1.oh, mh := R1.mh, mo := R1.mo, tm := R1.tm, tb := R1.tb, pk := R1.pk, dr := R1.dr, ln := rfl, sl := fun i p h => ?_, ds := fun i j p q v ne hi hj _ _ _ => ?_ }, h2⟩
    · match i, h with
      | 0, h => simp at h; subst h; exact ⟨_, rfl, _, ws, rfl, k1, k2, k3, k4, k5, rfl⟩
      | i + 1, h => simp at h
    · match i, j, hi, hj, ne with
      | 0, 0, _, _, ne => exact absurd rfl ne
      | 0, j + 1, _, hj, _ => simp at hj
      | i + 1, _, hi, _, _ => simp at hi
  refine ⟨_, body cdv ecd A outer s H E hgd hr, f, f.O, G, _, _, ?_, rd pvs ds n C hk hsp, ⟨fun G1 s1 σ1 H1 e1 R1 c => ?_, fun p G1 s1 σ1 H1 v e1 R1 V1 c => ?_, fun _ _ _ _ _ _ z => z.elim, fun _ _ _ _ _ _ z => z.elim⟩⟩
  · have ap : ∀ {α : Type} (xs : List α) (m i : Nat) (y : α), (xs.map some ++ List.replicate m none)[i]? = some (some y) → (xs.map some)[i]? = some (some y) := fun xs m i y h => by
      by_cases hi : i < xs.length
      · rw [List.getElem?_append_left (by simpa using hi)] at h; exact h
      · rw [List.getElem?_append_right (by simpa using hi)] at h
        rw [List.getElem?_replicate] at h
        split at h <;> cases h
    have ap2 : ∀ {α : Type} (xs : List α) (m i : Nat) (y : α), (xs.map some)[i]? = some (some y) → (xs.map some ++ List.replicate m none)[i]? = some (some y) := fun xs m i y h => by
      have hi : i < (xs.map some).length := (List.getElem?_eq_some_iff.mp h).1
      rw [List.getElem?_append_left hi]; exact h
    show Rel K f G ⟨_, n⟩ (L2.start N vs) H
    exact { R with
      ln := by simp [L2.start, lnv]; omega
      sl := fun i p h => by
        obtain ⟨v, h1, h2⟩ := R.sl i p (ap _ _ _ _ h)
        exact ⟨v, ap2 _ _ _ _ h1, h2⟩
      ds := fun i j p q v ne hi hj mp mq wi wj => by
        obtain ⟨v1, h1, _⟩ := R.sl i p (ap _ _ _ _ hi)
        obtain ⟨v2, h2, _⟩ := R.sl j q (ap _ _ _ _ hj)
        have e1 := ap2 _ (N.length - vs.length) _ _ h1
        have e2 := ap2 _ (N.length - vs.length) _ _ h2
        have f1 : v1 = v := by
          have : (L2.start N vs)[i]? = some (some v1) := e1
          rw [this] at wi
          exact Option.some.inj (Option.some.inj wi)
        have f2 : v2 = v := by
          have : (L2.start N vs)[j]? = some (some v2) := e2
          rw [this] at wj
          exact Option.some.inj (Option.some.inj wj)
        subst f1
        rw [f2] at h2
        exact R.ds i j p q _ ne (ap _ _ _ _ hi) (ap _ _ _ _ hj) mp mq h1 h2 }
  · obtain ⟨es, h1, c⟩ := c
    obtain ⟨R2, _⟩ := endR R1 h1
    exact fin _ _ _ _ _ _ c e1 R2 (vrf_dat .non)
  · obtain ⟨es, h1, c⟩ := c
    obtain ⟨R2, h2⟩ := endR R1 h1
    refine fin _ _ _ _ _ _ c e1 R2 ⟨V1.1, fun m i q hi hq => ?_⟩
    match i, hi with
    | 0, hi => 
      intro z
      exact V1.2 m kk _ h1 rfl (by rw [h2]; exact z)
    | i + 1, hi => simp at hi
end
structure HasR (P : Program) (w : World) (T : Tbs) (K : PySem.W.Frag) (mg : Str → Option Value) (base : Heap) (k : Nat) (x : Str) (n : Nat) (sp : HSpR) : Prop where
  ex : ∃ fa fd ps, ps.length = n + 1 ∧ GnOk P w K mg base CX0 k fa fd ps (SpHR K w T n sp) ∧ mg x = some (.ref fa) ∧ PySem.W.keepIn K (.ref fa) = true ∧ Binds K fd ps []
section
variable {X : Cx} {T : Tbs} {e a o : Expr} {y : Expr} {oa : HA → HA} {sp : HSpR} {x : Str} {p pos : Pos} {k n j : Nat}
end
theorem HasR.mk' {P : Program} {w : World} {T : Tbs} {K : PySem.W.Frag} {mg : Str → Option Value} {base : Heap} {k n : Nat} {fa : Addr} {fd : FuncData} {x : Str} {st : Stmt} {N ps : List Str} {hs : HS} {sp : HSpR} (hn : ps.length = n + 1) (Fn : Fun K x x st fa fd) (hm : mg x = some (.ref fa)) (b : Binds K fd ps []) (S : FnScope N ps (defScope st))
    (body : ∀ (cdv : Value), fd.code = cdv → ∀ (A : Around) (outer : List Env) (s : Shared) (H : Hp) (E : XK), (A.deeper (envOfC x (defScope st) s.heap.objs.size fa cdv)).guards = some [] → Room k (A.deeper (envOfC x (defScope st) s.heap.objs.size fa cdv)) → PSs (cxOf CX0 P w K mg base N x (defScope st) fa cdv A outer s H E).nox (defBody st) (lfS K (f0 w T) hs))
    (rd : ∀ pvs ds n' C, pvs.length = n → sp pvs ds n' C → hs ⟨fun s => ∃ es, s.sl[n]? = some (some (.byr es)) ∧ C (.dat .none) es s.n, fun p s => ∃ es, s.sl[n]? = some (some (.byr es)) ∧ C p es s.n, fun _ => False, fun _ => False⟩ ⟨(pvs ++ [PV.byr ds]).map some ++ List.replicate (N.length - (pvs.length + 1)) none, n'⟩) : HasR P w T K mg base (k + 1) x n sp :=
  ⟨fa, fd, ps, hn, gnHR Fn S hn body rd, hm, Fn.kp, b⟩
@[simp] def hAppR (j : Nat) (t : HE) : HE := fun s C => (∃ ds, s.sl[j]? = some (some (.byr ds))) ∧ t s fun p s1 => ∃ x ds, p.frz = some x ∧ s1.sl[j]? = some (some (.byr ds)) ∧ ds.length < 100000 ∧ C (.dat .none) (s1.put j (.byr (ds ++ [x])))
section
variable {X : Cx} {f : Fr} {e a : Expr} {t : HE}
end
end Sk
set_option Elab.async false
set_option linter.all false
set_option maxRecDepth 100000
set_option maxHeartbeats 4000000
namespace Sk
open PySem PySem.Spec PyProof.Rows L2
open Evl (Ex)
def t_draw (K : PySem.W.Frag) (w : World) (T : Tbs) : TS :=
  tSeq (tAsg (tDGet (tVar 0) (tC (.str "at"))) (gName 2))
  (tSeq (sDPut (tVar 0) (tC (.str "at")) (tOp (rI0 fun i j => .int (i + j)) (tVar 2) (tC (.int 1))))
  (tSeq (tIfS (tTest (tOp (rEqP K true) (tDGet (tVar 0) (tC (.str "left"))) (tLst tNil)))
      (tSeq (tAsg (tOp (rI (fun _ j => 0 < j) fun i j => .int (i % j)) (tVar 2) (tCB (fun xs H Q => ∃ p ys, xs = [.ref p] ∧ (SqL K H p ys ∨ SqT K H p ys) ∧ Q (.int ys.length) H) (tCons (tDGet (tVar 0) (tC (.str "left"))) tNil))) (gName 3))
      (tSeq (tAsg (tOp (rIxL K) (tDGet (tVar 0) (tC (.str "left"))) (tVar 3)) (gName 4))
        (tIfS (tTest (tOp (rI0 fun i j => .bl (decide (j < i))) (tVar 4) (tC (.int 0))))
          (tSeq (tAsg (tOp (rI CDivW fun i j => .int (i / j)) (tVar 4) (tVar 1)) (gSub (tDGet (tVar 0) (tC (.str "left"))) (tVar 3) rSetL))
            (tRet (tOp (rI (fun _ j => 0 < j) fun i j => .int (i % j)) (tVar 4) (tVar 1)))) tNext))) tNext)
  (tRet (tOp (rI (fun _ j => 0 < j) fun i j => .int (i % j))
    (tCall (SpH K w T 2 spMixed) [] E0 (tCons (tCall (SpH K w T 2 spMixed) [] E0 (tCons (tOp (rI0 fun i j => .int (i + j)) (tOp (rIxL K) (tDGet (tVar 0) (tC (.str "cells"))) (tOp (rI (fun _ j => 0 < j) fun i j => .int (i % j)) (tVar 2) (tC (.int 64)))) (tOp (rI CMulW fun i j => .int (i * j)) (tC (.int 31)) (tOp (rI CDivW fun i j => .int (i / j)) (tVar 2) (tC (.int 64))))) (tCons (tVar 2) tNil)))
      (tCons (tOp (rI0 fun i j => .int (i + j)) (tVar 2) (tC (.int 7))) tNil))) (tVar 1)))))
section
variable {K : PySem.W.Frag}
theorem plain_ints (ls : List Int) : PyData.plainAll (ls.map PyData.int) = true := plainAll_D (α := Int) ls
theorem eqv_nil (ds : List PyData) : PyData.eqv (.list ds) (.list []) = ds.isEmpty := by
  cases ds <;> simp [PyData.eqv, PyData.eqvAll]
abbrev dkv (c l : Addr) (k : Int) (rest : List (Key × V)) : List (Key × V) := (.inr "cells", .ref c) :: (.inr "left", .ref l) :: (.inr "at", .int k) :: rest
theorem k_cl : ¬ ((Sum.inr ("cells" : Str) : Key) = Sum.inr ("left" : Str)) := by decide
theorem k_ca : ¬ ((Sum.inr ("cells" : Str) : Key) = Sum.inr ("at" : Str)) := by decide
theorem k_la : ¬ ((Sum.inr ("left" : Str) : Key) = Sum.inr ("at" : Str)) := by decide
theorem k_al : ¬ ((Sum.inr ("at" : Str) : Key) = Sum.inr ("left" : Str)) := by decide
theorem v_cells {c l : Addr} {k : Int} {rest : List (Key × V)} : valV (dkv c l k rest) (.inr "cells") = some (.ref c) := valV_pos rfl
theorem v_left {c l : Addr} {k : Int} {rest : List (Key × V)} : valV (dkv c l k rest) (.inr "left") = some (.ref l) := by rw [valV_neg k_cl, valV_pos rfl]
theorem v_at {c l : Addr} {k : Int} {rest : List (Key × V)} : valV (dkv c l k rest) (.inr "at") = some (.int k) := by rw [valV_neg k_ca, valV_neg k_la, valV_pos rfl]
abbrev rmL (r : Int) : List (Key × V) := ([] : List (Key × V))
theorem put_at {c l : Addr} {k i r : Int} : putK (dkv c l k (rmL r)) (.inr "at") (.int i) = dkv c l i (rmL r) := by
  have e1 := k_ca
  have e2 := k_la
  have e3 : ¬ ((Sum.inr ("room" : Str) : Key) = Sum.inr ("at" : Str)) := by decide
  unfold putK
  rw [if_pos (by simp [dkv])]
  simp [dkv, rmL, e1, e2, e3]
theorem put_left {c l l' : Addr} {k r : Int} : putK (dkv c l k (rmL r)) (.inr "left") (.ref l') = dkv c l' k (rmL r) := by
  have e1 := k_cl
  have e2 := k_al
  have e3 : ¬ ((Sum.inr ("room" : Str) : Key) = Sum.inr ("left" : Str)) := by decide
  unfold putK
  rw [if_pos (by simp [dkv])]
  simp [dkv, rmL, e1, e2, e3]
theorem dget_of {H : Hp} {a : Addr} {kvs : List (Key × V)} {x : Str} {v : V} (h : H a = some (.dK kvs)) (e : valV kvs (.inr x) = some v) : DGet H a (.str x) (some v) := .inl ⟨kvs, .inr x, .inl h, rfl, e.symm⟩
theorem big_dkv {c l : Addr} {k : Int} {rest : List (Key × V)} (h : rest.length ≤ 100) : (dkv c l k rest).length < sizeLine := by
  show rest.length + 3 < sizeLine
  rw [sizeLine_eq]; omega
theorem mod_at {ls : List Int} {k : Int} (h0 : 0 ≤ k) (hl : ls ≠ []) : ∃ j x, ixN (ls.map V.int).length (k % (ls.map V.int).length) = some j ∧ ls[j]? = some x := by
  have hp : 0 < ls.length := List.length_pos_iff.mpr hl
  have h1 : 0 ≤ k % (ls.length : Int) := Int.emod_nonneg _ (by omega)
  have h2 : k % (ls.length : Int) < ls.length := Int.emod_lt_of_pos _ (by omega)
  have hj : (k % (ls.length : Int)).toNat < ls.length := by omega
  refine ⟨(k % (ls.length : Int)).toNat, ls[(k % (ls.length : Int)).toNat], ?_, List.getElem?_eq_getElem hj⟩
  unfold ixN
  rw [List.length_map, if_pos h1, if_pos h2]
theorem rd_draw {w : World} {T : Tbs} {vs : List V} {H : Hp} {Q : VK} {E : XK} (h : SpH K w T 2 spDraw vs H Q E) : t_draw K w T ⟨fun _ H' => Q .non H', Q, fun _ _ => False, fun _ _ => False⟩ (L2.start ["_law_m", "_law_many", "_law_k", "_law_at", "_law_cell"] vs) H := by
  obtain ⟨f, G, n, ps, C, hw, hT, he, hF, hM, R, hm, hk, ⟨k, rfl, k0, k1, hn, hC⟩, kk⟩ := h
  subst hw hT
  obtain ⟨v0, e0, on, rfl⟩ := R.sl 0 _ rfl
  obtain ⟨v1, e1, V1⟩ := R.sl 1 _ rfl
  cases vr_int V1
  have hv : vs = [.ref f.m, .int k] := by
    have ln := R.ln
    match vs, e0, e1, ln with
    | [a, b], e0, e1, _ =>
      simp at e0 e1
      rw [e0, e1]
  subst hv
  obtain ⟨at', cs, ls, rest, hmm, a0, an, hc, hcl, hcb, hl, hll, hlb, ⟨rr, rfl⟩, hcn⟩ := R.dr on
  have hmm : H f.m = some (.dK (dkv f.c f.l at' (rmL rr))) := hmm
  have ml : f.m ≠ f.l := fun z => by rw [z, hl] at hmm; cases hmm
  have mc : f.m ≠ f.c := fun z => by rw [z, hc] at hmm; cases hmm
  -- k = m["at"]; m["at"] = k + 1
  refine ⟨.ref f.m, rfl, f.m, .int at', rfl, dget_of hmm v_at, ?_⟩
  refine ⟨_, rfl, at', 1, rfl, rfl, .ref f.m, rfl, f.m, _, rfl, DPut.k (k := .inr "at") hmm (big_dkv (by simp)), ?_⟩
  rw [put_at]
  -- what holds from now on
  have keep : ∀ (H' : Hp), (∀ a o, a ≠ f.m → a ≠ f.l → H a = some o → H' a = some o) → H' f.m = some (.dK (dkv f.c f.l (at' + 1) (rmL rr))) → ∀ ls' : List Int, H' f.l = some (.lst (ls'.map V.int)) → ls'.length ≤ 63 → (∀ x ∈ ls', 0 ≤ x) → Rel K f G ⟨[], n + 1⟩ [] H' := fun H' hk' h1 ls' h2 h3 h4 =>
    R.drawn on ⟨at' + 1, cs, ls', rmL rr, h1, by omega, by show at' + 1 ≤ ((n + 1 : Nat) : Int); have : at' ≤ ((n : Nat) : Int) := an; omega, hk' _ _ mc.symm hcn hc, hcl, hcb, h2, h3, h4, ⟨rr, rfl⟩, hcn⟩ hk'
  -- the last row
  have last : ∀ (σ : L2.St) (H' : Hp), σ[0]? = some (some (.ref f.m)) → σ[1]? = some (some (.int k)) → σ[2]? = some (some (.int at')) → (∀ a o, a ≠ f.m → a ≠ f.l → H a = some o → H' a = some o) → H' f.m = some (.dK (dkv f.c f.l (at' + 1) (rmL rr))) → H' f.l = some (.lst (ls.map V.int)) →
      (tRet (tOp (rI (fun _ j => 0 < j) fun i j => .int (i % j))
        (tCall (SpH K f.w f.T 2 spMixed) [] E0 (tCons (tCall (SpH K f.w f.T 2 spMixed) [] E0 (tCons (tOp (rI0 fun i j => .int (i + j)) (tOp (rIxL K) (tDGet (tVar 0) (tC (.str "cells"))) (tOp (rI (fun _ j => 0 < j) fun i j => .int (i % j)) (tVar 2) (tC (.int 64)))) (tOp (rI CMulW fun i j => .int (i * j)) (tC (.int 31)) (tOp (rI CDivW fun i j => .int (i / j)) (tVar 2) (tC (.int 64))))) (tCons (tVar 2) tNil)))
          (tCons (tOp (rI0 fun i j => .int (i + j)) (tVar 2) (tC (.int 7))) tNil))) (tVar 1))) ⟨fun _ H' => Q .non H', Q, fun _ _ => False, fun _ _ => False⟩ σ H' := by
    intro σ H' s0 s1 s2 hk' h1 h2
    have R' := keep H' hk' h1 ls h2 hll hlb
    have hc' := hk' _ _ mc.symm hcn hc
    have b : at' ≤ ((n : Nat) : Int) := an
    have m0 : 0 ≤ at' % 64 := Int.emod_nonneg _ (by decide)
    have m1 : at' % 64 < 64 := Int.emod_lt_of_pos _ (by decide)
    have hj : (at' % 64).toNat < cs.length := by omega
    have hx := List.getElem_mem hj
    obtain ⟨x0, x1⟩ := hcb _ hx
    have d0 : 0 ≤ at' / 64 := Int.ediv_nonneg a0 (by decide)
    have d1 : at' / 64 ≤ at' := Int.ediv_le_self _ a0
    have d2 : at' / 64 < 4194305 := by omega
    have hat : atI (cs.map V.int) (at' % 64) = some (.int cs[(at' % 64).toNat]) := by
      unfold atI ixN
      rw [List.length_map, if_pos m0, if_pos (by omega)]
      show (cs.map V.int)[(at' % 64).toNat]? = _
      rw [List.getElem?_map, List.getElem?_eq_getElem hj]; rfl
    refine ⟨.ref f.m, s0, f.m, .ref f.c, rfl, dget_of h1 v_cells, .int at', s2, at', 64, rfl, rfl, (by show (0 : Int) < 64; decide), f.c, _, at' % 64, _, rfl, rfl, Or.inl (Or.inl hc'), hat, ?_⟩
    refine ⟨.int at', s2, at', 64, rfl, rfl, wide_div (b := 7) (by decide) (by decide) (by decide) (by decide), 31, at' / 64, rfl, rfl, wide_mul (a := 6) (b := 40) (by decide) (by omega) (by decide) (by decide) (by decide), _, 31 * (at' / 64), rfl, rfl, .int at', s2, ?_⟩
    have call : ∀ (p q : Int) (H2 : Hp) (n2 : Nat) (G2 : Hp) (Q2 : VK), Rel K f G2 ⟨[], n2⟩ [] H2 → 0 ≤ p → p < 4294967296 → 0 ≤ q → q < 536870912 → (∀ (i : Int) H3 G3, 0 ≤ i → i < 2147483647 → Ex G2 G3 → Rel K f G3 ⟨[], n2⟩ [] H3 → Q2 (.int i) H3) → SpH K f.w f.T 2 spMixed ([.int p, .int q] ++ []) H2 Q2 E0 := by
      intro p q H2 n2 G2 Q2 R2 p0 p1 q0 q1 kq
      refine spH_call (f := f) (F := f) (O := f.O) (s := ⟨[], n2⟩) (σ := []) (ps := [.dat (.int p), .dat (.int q)]) (C := fun pv n' => n' = n2 ∧ ∃ i : Int, pv = .dat (.int i) ∧ 0 ≤ i ∧ i < 2147483647) R2 (.cons (.int p) (.cons (.int q) .nil)) rfl (fun a ha => by
        rcases List.mem_cons.mp ha with rfl | ha
        · rfl
        · rcases List.mem_cons.mp ha with rfl | ha
          · rfl
          · cases ha) ⟨p, q, rfl, p0, p1, q0, q1, fun i i0 i1 => ⟨(fun z => by cases z), rfl, i, rfl, i0, i1⟩⟩ fun pv n' G3 H3 v c e3 R3 V3 => ?_
      obtain ⟨rfl, i, rfl, i0, i1⟩ := c
      cases vr_int V3.1
      exact kq i H3 G3 i0 i1 e3 R3
    refine call _ _ _ _ _ _ R' (by omega) (by omega) a0 (by omega) fun i H3 G3 i0 i1 e3 R3 => ?_
    refine ⟨.int at', s2, at', 7, rfl, rfl, ?_⟩
    refine call _ _ _ _ _ _ R3 i0 (by omega) (by omega) (by omega) fun i2 H4 G4 j0 j1 e4 R4 => ?_
    refine ⟨.int k, s1, i2, k, rfl, rfl, k0, ?_⟩
    exact kk _ _ _ _ _ (hC _ (Int.emod_nonneg _ (by omega)) (Int.emod_lt_of_pos _ k0)) (e3.trans e4) R4 (.int _)
  generalize hH1 : upd H f.m (.dK (dkv f.c f.l (at' + 1) (rmL rr))) = H1
  have h1m : H1 f.m = some (.dK (dkv f.c f.l (at' + 1) (rmL rr))) := by rw [← hH1, upd_same]
  have h1o : ∀ a o, a ≠ f.m → H a = some o → H1 a = some o := fun a o ne h => by rw [← hH1, upd_ne ne]; exact h
  have h1l := h1o _ _ ml.symm hl
  -- if m["left"] != []
  refine ⟨.ref f.m, rfl, f.m, .ref f.l, rfl, dget_of h1m v_left, Nat.zero_le _, fun p hp => ?_⟩
  have pm : f.m ≠ p := fun z => by rw [← z, h1m] at hp; cases hp
  have pl : f.l ≠ p := fun z => by rw [← z, h1l] at hp; cases hp
  have h2m : upd H1 p (.lst []) f.m = some (.dK (dkv f.c f.l (at' + 1) (rmL rr))) := by rw [upd_ne pm]; exact h1m
  have h2l : upd H1 p (.lst []) f.l = some (.lst (ls.map V.int)) := by rw [upd_ne pl]; exact h1l
  have h2o : ∀ a o, a ≠ f.m → a ≠ f.l → H a = some o → upd H1 p (.lst []) a = some o := fun a o n1 n2 h => by
    have z := h1o a o n1 h
    rw [upd_ne (fun e => by rw [e, hp] at z; cases z)]; exact z
  refine ⟨.list (ls.map .int), .list [], .lst (Or.inl (Or.inl h2l)) (dpAll_ints _), .lst (Or.inl (Or.inl upd_same)) .nil, plain_ints ls, rfl, (by
    have : PyData.depth (.list []) ≤ 60 := by simp [PyData.depth, PyData.depthAll]
    omega), _, rfl, ?_⟩
  rw [eqv_nil]
  cases hls : ls with
  | nil =>
    refine iteF ?_
    exact last _ _ rfl rfl rfl h2o h2m h2l
  | cons y r =>
    refine iteT ?_
    have ne : ls ≠ [] := by rw [hls]; intro z; cases z
    have hp2 : 0 < ls.length := List.length_pos_iff.mpr ne
    obtain ⟨j, x, hj, hx⟩ := mod_at a0 ne
    have x0 : 0 ≤ x := hlb x (List.mem_of_getElem? hx)
    have jl : j < ls.length := (List.getElem?_eq_some_iff.mp hx).1
    refine ⟨.int at', rfl, .ref f.m, rfl, f.m, .ref f.l, rfl, dget_of h2m v_left, f.l, _, rfl, Or.inl (Or.inl (Or.inl h2l)), at', _, rfl, rfl, (by show (0 : Int) < ((ls.map V.int).length : Nat); rw [List.length_map]; omega), ?_⟩
    refine ⟨.ref f.m, rfl, f.m, .ref f.l, rfl, dget_of h2m v_left, _, rfl, f.l, _, _, .int x, rfl, rfl, Or.inl (Or.inl h2l), (by unfold atI; rw [hj]; show (ls.map V.int)[j]? = _; rw [List.getElem?_map, hx]; rfl), ?_⟩
    refine ⟨_, rfl, x, 0, rfl, rfl, _, rfl, ?_⟩
    by_cases hx0 : 0 < x
    · rw [decide_eq_true hx0]
      refine iteT ?_
      refine ⟨_, rfl, _, rfl, x, k, rfl, rfl, wide_div (b := 30) k0 (by omega) (by decide) (by decide), .ref f.m, rfl, f.m, .ref f.l, rfl, dget_of h2m v_left, _, rfl, f.l, _, _, j, rfl, rfl, h2l, hj, ?_⟩
      refine ⟨_, rfl, _, rfl, x, k, rfl, rfl, k0, ?_⟩
      have q0 : 0 ≤ x / k := Int.ediv_nonneg x0 (by omega)
      have hset : (ls.map V.int).set j (.int (x / k)) = (ls.set j (x / k)).map V.int := by rw [List.map_set]
      rw [hset]
      refine kk _ (n + 1) G _ _ (hC _ (Int.emod_nonneg _ (by omega)) (Int.emod_lt_of_pos _ k0)) (Ex.refl G) (keep _ (fun a o n1 n2 h => by rw [upd_ne n2]; exact h2o a o n1 n2 h) (by rw [upd_ne ml]; exact h2m) _ upd_same (by rw [List.length_set]; exact hll) fun z hz => ?_) (.int _)
      rcases List.mem_or_eq_of_mem_set hz with hz | rfl
      · exact hlb z hz
      · exact q0
    · rw [decide_eq_false hx0]
      exact iteF (last _ _ rfl rfl rfl h2o h2m h2l)
end
end Sk
set_option Elab.async false
set_option linter.all false
set_option maxRecDepth 100000
set_option maxHeartbeats 4000000
namespace Sk
open PySem PySem.Spec PyProof.Rows L2
open Evl (Ex)
def spFolded : HSp := fun ps n C => ∃ ns : List Int, ps = [.dat (.list (ns.map .int))] ∧ ns.length ≤ 63 ∧ ∀ cs : List Int, cs.length = 64 → (∀ x ∈ cs, 0 ≤ x ∧ x < 2147483647) → C (.own (cs.map .int)) n
def h_lefts : HE := hLc (hiL (hV 0)) (gN 2) hYes (hIf (hB (hC geW (hL 2 (hE (hC powW (hE (hK (.int 10)) (hE (hK (.int 18)) hNil))) hNil)))) (hV 2) (hK (.int 0))) [2]
def t_begun (K : PySem.W.Frag) (w : World) (more : List (TE × TE)) : TS :=
  tSeq (tAsg (tDisp ((tC (.str "cells"), tCall (SpH K w [] 1 spFolded) [] E0 (tCons (tVar 0) tNil)) :: (tC (.str "left"), tLst tNil) :: (tC (.str "at"), tC (.int 0)) :: more)) (gName 1))
  (tSeq (sDPut (tVar 1) (tC (.str "left")) (lf K (f0 w []) h_lefts)) (tRet (tVar 1)))
def spBegun (K : PySem.W.Frag) : Sp := fun vs H Q _ => ∃ (a : Addr) (ns : List Int), vs = [.ref a] ∧ SqL K H a (ns.map V.int) ∧ ns.length ≤ 63 ∧ ∀ m l c H', Ex H H' → H m = none → H l = none → H c = none → DrwOk m l c 0 H' → Q (.ref m) H'
def mores (kv : List (Str × Int)) : List (TE × TE) := kv.map fun p => (tC (.str p.1), tC (.int p.2))
theorem tp_mores {σ : L2.St} : ∀ (kv : List (Str × Int)) (H : Hp) (Q : List (V × V) → Hp → Prop), Q (kv.map fun p => (V.str p.1, V.int p.2)) H → tPairs (mores kv) σ H Q
  | [], _, _, h => h
  | p :: kv, H, Q, h => tp_mores kv H _ h
theorem lefts_ok (ds : List Int) : ∀ (acc : List Int) (p0 : Option PV), acc.length + ds.length ≤ 63 → (∀ x ∈ acc, 0 ≤ x) →
    lcs [2] (gN 2) hYes (hIf (hB (hC geW (hL 2 (hE (hC powW (hE (hK (.int 10)) (hE (hK (.int 18)) hNil))) hNil)))) (hV 2) (hK (.int 0))) (ds.map .int) (acc.map .int) ⟨[p0, none, none], 0⟩ (fun p s' => ∃ ls : List Int, p = .own (ls.map .int) ∧ ls.length ≤ 63 ∧ ∀ x ∈ ls, 0 ≤ x) := by
  induction ds with
  | nil => intro acc p0 h h2; exact ⟨acc, rfl, by simpa using h, h2⟩
  | cons d ds ih =>
    intro acc p0 h h2
    have hp : CPow 10 18 := by unfold CPow; decide
    have step : ∀ x : Int, 0 ≤ x → lcs [2] (gN 2) hYes (hIf (hB (hC geW (hL 2 (hE (hC powW (hE (hK (.int 10)) (hE (hK (.int 18)) hNil))) hNil)))) (hV 2) (hK (.int 0))) (ds.map .int) ((acc.map PyData.int) ++ [.int x]) ⟨[p0, none, none], 0⟩ (fun p s' => ∃ ls : List Int, p = .own (ls.map .int) ∧ ls.length ≤ 63 ∧ ∀ x ∈ ls, 0 ≤ x) := fun x hx => by
      have e : (acc.map PyData.int) ++ [.int x] = (acc ++ [x]).map .int := by simp
      rw [e]
      refine ih _ _ (by simp at h ⊢; omega) fun y hy => ?_
      rcases List.mem_append.mp hy with hy | hy
      · exact h2 y hy
      · rw [List.mem_singleton.mp hy]; exact hx
    have al : (acc.map PyData.int).length < 100000 := by simp at h ⊢; omega
    simp only [List.map_cons, lcs, gN, hYes, hIf, hB, hC, hL, hE, hNil, hK, hV, i2, i2', Sg.put, List.set_cons_succ, List.set_cons_zero, List.getElem?_cons_succ, List.getElem?_cons_zero, PV.frz, if_true, Option.some.injEq, exists_eq_left', PV.dat.injEq]
    refine ⟨⟨_, rfl⟩, hp, _, rfl, ?_⟩
    by_cases hd : (10 : Int) ^ Int.toNat 18 ≤ d
    · rw [decide_eq_true hd]
      have d0 : 0 ≤ d := by
        have : (0 : Int) ≤ 10 ^ Int.toNat 18 := by decide
        omega
      exact ⟨al, step d d0⟩
    · rw [decide_eq_false hd]
      exact ⟨al, step 0 (Int.le_refl _)⟩
theorem rd_begun {w : World} {K : PySem.W.Frag} {kv : List (Str × Int)} {vs : List V} {H : Hp} {Q : VK} {E : XK} (hkv : ∃ r : Int, kv = ([] : List (Str × Int))) (hmer : ∀ c l, mergeK [] ((Sum.inr ("cells" : Str), V.ref c) :: (Sum.inr ("left" : Str), V.ref l) :: (Sum.inr ("at" : Str), V.int 0) :: kv.map fun p => ((Sum.inr p.1 : Key), V.int p.2)) = dkv c l 0 (kv.map fun p => ((Sum.inr p.1 : Key), V.int p.2)))
    (h : spBegun K vs H Q E) : t_begun K w (mores kv) ⟨fun _ H' => Q .non H', Q, fun _ _ => False, fun _ _ => False⟩ (L2.start ["_law_script", "_law_m", "_law_cell"] vs) H := by
  obtain ⟨a, ns, rfl, hs, hn, k⟩ := h
  intro m0 hm0
  have e1 : Ex H (upd H m0 (.dK [])) := Evl.Ex.new hm0
  have hs1 := Evl.ex_l e1 hs
  -- folded(script)
  refine ⟨.ref a, rfl, ?_⟩
  refine ⟨⟨false, 0, 0, 0, upd H m0 (.dK []), fun _ => False, fun _ => False, 0, w, [], none⟩, upd H m0 (.dK []), 0, [.dat (.list (ns.map .int))], fun p n' => ∃ cs : List Int, p = .own (cs.map .int) ∧ cs.length = 64 ∧ ∀ x ∈ cs, 0 ≤ x ∧ x < 2147483647, rfl, rfl, rfl, rfl, (fun _ z => z.elim), ?_, ?_, rfl, ⟨ns, rfl, hn, fun cs h1 h2 => ⟨cs, rfl, h1, h2⟩⟩, ?_⟩
  · exact {
      gh := Ex.refl _
      fh := fun _ _ _ h => h
      go := fun _ z => z.elim
      oh := fun _ z => z.elim
      mh := fun _ z => z.elim
      mo := fun z => by cases z
      tm := fun _ h => by cases h
      tb := fun _ h => by cases h
      pk := fun _ h => by cases h
      dr := fun z => by cases z
      ln := rfl
      sl := fun i p h => by
        match i, h with
        | 0, h =>
          simp at h; subst h
          exact ⟨.ref a, rfl, .lst hs1 (dpAll_ints ns)⟩
        | i + 1, h => simp at h
      ds := fun i j p q v _ h _ mp => by
        match i, h with
        | 0, h => simp at h; subst h; cases mp
        | i + 1, h => simp at h }
  · intro p hp
    rcases List.mem_cons.mp hp with rfl | hp
    · rfl
    · cases hp
  intro p n' G' H1 v c eG R V
  obtain ⟨cs, rfl, hcl, hcb⟩ := c
  obtain ⟨c, ws, rfl, hc, _, _, hcF, hcd⟩ := V
  have hws := ints_dpAll hcd
  subst hws
  have e2 : Ex (upd H m0 (.dK [])) H1 := fun b o hb => R.fh b o (fun z => z) hb
  have hc0 : upd H m0 (.dK []) c = none := hcF.elim id fun z => z.elim
  have hcm : c ≠ m0 := fun z => by rw [z, upd_same] at hc0; cases hc0
  have hcH : H c = none := by rw [upd_ne hcm] at hc0; exact hc0
  have hm1 : H1 m0 = some (.dK []) := e2 _ _ upd_same
  -- []
  refine ⟨Nat.zero_le _, fun l0 hl0 => ?_⟩
  have e3 : Ex H1 (upd H1 l0 (.lst [])) := Evl.Ex.new hl0
  have hm2 := e3 _ _ hm1
  refine tp_mores kv _ _ ⟨hm2, (Sum.inr ("cells" : Str), V.ref c) :: (Sum.inr ("left" : Str), V.ref l0) :: (Sum.inr ("at" : Str), V.int 0) :: kv.map (fun p => ((Sum.inr p.1 : Key), V.int p.2)), ?_, ?_, ?_⟩
  · simp only [List.map_cons, List.map_map, kV, List.cons.injEq, true_and]
    rfl
  · obtain ⟨rr, rfl⟩ := hkv; simp only [List.length_cons, List.length_map, List.length_nil]; omega
  rw [hmer]
  generalize hr : (kv.map fun p => ((Sum.inr p.1 : Key), V.int p.2)) = rest
  obtain ⟨rr, rfl⟩ := hkv
  have hr : rest = rmL rr := hr.symm
  subst hr
  -- m["left"] = [..]
  generalize hH2 : upd (upd H1 l0 (.lst [])) m0 (.dK (dkv c l0 0 (rmL rr))) = H2
  have m2 : H2 m0 = some (.dK (dkv c l0 0 (rmL rr))) := by rw [← hH2, upd_same]
  have o2 : ∀ b o, b ≠ m0 → H1 b = some o → H2 b = some o := fun b o ne h => by rw [← hH2, upd_ne ne]; exact e3 _ _ h
  have s2 : SqL K H2 a (ns.map V.int) := by
    rcases hs with (hs | ⟨ob, hs⟩) | hs
    · exact Or.inl (Or.inl (o2 _ _ (ne_of_none hs hm0) (e2 _ _ (e1 _ _ hs))))
    · exact Or.inl (Or.inr ⟨ob, o2 _ _ (ne_of_none hs hm0) (e2 _ _ (e1 _ _ hs))⟩)
    · exact Or.inr hs
  refine ⟨⟨false, 0, 0, 0, H2, fun _ => False, fun _ => False, 0, w, [], none⟩, fun _ => False, H2, ⟨[some (.dat (.list (ns.map .int))), none, none], 0⟩, fun p s' => ∃ ls : List Int, p = .own (ls.map .int) ∧ ls.length ≤ 63 ∧ ∀ x ∈ ls, 0 ≤ x, ?_, ?_, ?_⟩
  · exact {
      gh := Ex.refl _
      fh := fun _ _ _ h => h
      go := fun _ z => z.elim
      oh := fun _ z => z.elim
      mh := fun _ z => z.elim
      mo := fun z => by cases z
      tm := fun _ h => by cases h
      tb := fun _ h => by cases h
      pk := fun _ h => by cases h
      dr := fun z => by cases z
      ln := rfl
      sl := fun i p h => by
        match i, h with
        | 0, h =>
          simp at h; subst h
          exact ⟨.ref a, rfl, .lst s2 (dpAll_ints ns)⟩
        | 1, h => simp at h
        | 2, h => simp at h
        | i + 3, h => simp at h
      ds := fun i j p q v _ h _ mp => by
        match i, h with
        | 0, h => simp at h; subst h; cases mp
        | 1, h => simp at h
        | 2, h => simp at h
        | i + 3, h => simp at h }
  · exact lefts_ok ns [] _ (by simpa using hn) (fun x hx => by cases hx)
  intro p s' G3 H3 v c3 e3' R3 V3
  obtain ⟨ls, rfl, hll, hlb⟩ := c3
  obtain ⟨⟨l1, ws, rfl, hl1, _, _, hF1, hd1⟩, _⟩ := V3
  have hws := ints_dpAll hd1
  subst hws
  have n2 : H2 l1 = none := hF1.elim id fun z => z.elim
  have e4 : Ex H2 H3 := fun b o hb => R3.fh b o (fun z => z) hb
  refine ⟨.ref m0, rfl, m0, _, rfl, DPut.k (k := .inr "left") (e4 _ _ m2) (big_dkv (by simp)), ?_⟩
  rw [put_left]
  refine ⟨.ref m0, rfl, ?_⟩
  have c2 : H2 c = some (.lst (cs.map V.int)) := o2 _ _ hcm hc
  have lm : l1 ≠ m0 := fun z => by rw [z, m2] at n2; cases n2
  have all : ∀ b o, H b = some o → H3 b = some o := fun b o hb => e4 _ _ (o2 _ _ (ne_of_none hb hm0) (e2 _ _ (e1 _ _ hb)))
  refine k m0 l1 c _ (fun b o hb => by rw [upd_ne (ne_of_none hb hm0)]; exact all b o hb) hm0 ?_ hcH ⟨0, cs, ls, rmL rr, upd_same, Int.le_refl _, Int.le_refl _, by rw [upd_ne hcm]; exact e4 _ _ c2, hcl, hcb, by rw [upd_ne lm]; exact hl1, hll, hlb, ⟨rr, rfl⟩, fun z => by rw [z, n2] at c2; cases c2⟩
  cases q : H l1 with
  | none => rfl
  | some o => rw [o2 _ _ lm (e2 _ _ (e1 _ _ q))] at n2; cases n2
end Sk
set_option Elab.async false
set_option linter.all false
set_option maxRecDepth 100000
set_option maxHeartbeats 4000000
namespace Sk
open PySem PySem.Spec PyProof.Rows L2
open Evl (Ex)
def spLaw (K : PySem.W.Frag) (T : Tbs) : Sp := fun vs H Q _ => (∀ p ∈ T, H p.1 = some (.tbl #[])) ∧ ∃ (a : Addr) (ns : List Int), vs = [.ref a] ∧ SqL K H a (ns.map V.int) ∧ ns.length ≤ 63 ∧ ∀ H', Q (.bl true) H'
abbrev lawD : HD := ⟨fun _ => False, fun p _ => p = .dat (.bool true), fun _ => False, fun _ => False⟩
theorem law_begin {w : World} {T : Tbs} {K : PySem.W.Frag} {N : List Str} {n : Nat} {t : HS} {a : Addr} {ns : List Int} {H : Hp} {Q : VK} (hN : N.length = n + 2) (hT : ∀ p ∈ T, H p.1 = some (.tbl #[])) (hS : SqL K H a (ns.map V.int)) (hl : ns.length ≤ 63) (q : ∀ H', Q (.bl true) H')
    (rd : t lawD ⟨some (.dat (.list (ns.map .int))) :: some .drw :: List.replicate n none, 0⟩) :
    (tSeq (tAsg (tCall (spBegun K) [] E0 (tCons (tVar 0) tNil)) (gName 1)) (lfS K (f0 w T) t)) ⟨fun _ H' => Q .non H', Q, fun _ _ => False, fun _ _ => False⟩ (L2.start N [.ref a]) H := by
  have e : L2.start N [.ref a] = some (.ref a) :: none :: List.replicate n none := by
    unfold L2.start
    rw [hN]
    rfl
  rw [e]
  refine ⟨.ref a, rfl, a, ns, rfl, hS, hl, fun m l c H' ex hm hlx hc dr => ?_⟩
  obtain ⟨k, cs, ls, rest, h1, h2, h3, h4, h5, h6, h7, h8⟩ := id dr
  classical
  show lfS K (f0 w T) t _ (some (.ref a) :: some (.ref m) :: List.replicate n none) H'
  let tb : Addr → Prop := fun b => ∃ q, (b, q) ∈ T
  have ht : ∀ b, tb b → H b = some (.tbl #[]) := fun b ⟨q, hq⟩ => hT _ hq
  let G : Hp := fun b => if tb b then none else H b
  have hG : Ex G H := fun b o h => by
    have h : (if tb b then none else H b) = some o := h
    split at h
    · cases h
    · exact h
  have hS' : SqL K G a (ns.map V.int) := by
    have up : ∀ o, H a = some o → (∀ xs, o ≠ .tbl xs) → G a = some o := fun o h hn => by
      show (if tb a then none else H a) = some o
      rw [if_neg fun z => by rw [ht _ z] at h; cases h; exact hn _ rfl]
      exact h
    rcases hS with (h | ⟨ob, h⟩) | h
    · exact Or.inl (Or.inl (up _ h fun xs z => by cases z))
    · exact Or.inl (Or.inr ⟨ob, up _ h fun xs z => by cases z⟩)
    · exact Or.inr h
  refine ⟨⟨true, m, l, c, H', fun b => (b = m ∨ b = l ∨ b = c) ∨ tb b, fun b => (b = m ∨ b = l) ∨ tb b, 0, w, T, none⟩, fun b => (b = m ∨ b = l ∨ b = c) ∨ tb b, G, ⟨some (.dat (.list (ns.map .int))) :: some .drw :: List.replicate n none, 0⟩, lawD, ?_, rd, ?_⟩
  · exact {
      gh := hG.trans ex
      fh := fun _ _ _ h => h
      go := fun b hb => by
        show (if tb b then none else H b) = none
        split
        · rfl
        · rename_i nt
          rcases hb with (rfl | rfl | rfl) | hb
          · exact hm
          · exact hlx
          · exact hc
          · exact absurd hb nt
      oh := fun b hb => by
        rcases hb with (rfl | rfl | rfl) | hb
        · rw [h1]; intro z; cases z
        · rw [h7]; intro z; cases z
        · rw [h4]; intro z; cases z
        · rw [ex _ _ (ht _ hb)]; intro z; cases z
      mh := fun b hb => by
        rcases hb with (rfl | rfl) | hb
        · rw [h1]; intro z; cases z
        · rw [h7]; intro z; cases z
        · rw [ex _ _ (ht _ hb)]; intro z; cases z
      mo := fun _ => ⟨Or.inl (Or.inl rfl), Or.inl (Or.inr (Or.inl rfl)), Or.inl (Or.inr (Or.inr rfl)), Or.inl (Or.inl rfl), Or.inl (Or.inr rfl)⟩
      tm := fun p hp => ⟨Or.inr ⟨p.2, hp⟩, Or.inr ⟨p.2, hp⟩⟩
      tb := fun p hp => ⟨#[], ex _ _ (hT p hp), True.intro, fun pos cv hc => by
        have z : codeAmong pos [] = some cv := hc
        simp [codeAmong] at z⟩
      pk := fun _ h => by cases h
      dr := fun _ => dr
      ln := by simp
      sl := fun i p h => by
        match i, h with
        | 0, h =>
          simp at h; subst h
          exact ⟨.ref a, rfl, .lst hS' (dpAll_ints ns)⟩
        | 1, h =>
          simp at h; subst h
          exact ⟨.ref m, rfl, rfl, rfl⟩
        | i + 2, h =>
          simp only [List.getElem?_cons_succ] at h
          rw [List.getElem?_replicate] at h
          split at h <;> cases h
      ds := fun i j p q v _ h _ mp => by
        match i, h with
        | 0, h => simp at h; subst h; cases mp
        | 1, h => simp at h; subst h; cases mp
        | i + 2, h =>
          simp only [List.getElem?_cons_succ] at h
          rw [List.getElem?_replicate] at h
          split at h <;> cases h }
  · exact {
      nx := fun _ _ _ _ _ _ z => z.elim
      rt := fun p G s σ H2 v _ R V z => by
        have z : p = .dat (.bool true) := z
        subst z
        have e := vr_bool V
        subst e
        exact q H2
      bk := fun _ _ _ _ _ _ z => z.elim
      ct := fun _ _ _ _ _ _ z => z.elim }
section
variable {P : Program} {w : World} {K : PySem.W.Frag} {mg : Str → Option Value} {base h : Heap} {fa : Addr} {fd : FuncData}
theorem ok_law {T : Tbs} {k n : Nat} {st : Stmt} {N : List Str} {hs : HS} (Fn : Fun K "law" "law" st fa fd) (S : FnScope N ["_law_script"] (defScope st)) (hN : N.length = n + 2)
    (body : ∀ (cdv : Value), fd.code = cdv → ∀ (A : Around) (outer : List Env) (s : Shared) (H : Hp) (E : XK), (A.deeper (envOfC "law" (defScope st) s.heap.objs.size fa cdv)).guards = some [] → Room k (A.deeper (envOfC "law" (defScope st) s.heap.objs.size fa cdv)) →
      PSs (cxOf CX0 P w K mg base N "law" (defScope st) fa cdv A outer s H E).nox (defBody st) (tSeq (tAsg (tCall (spBegun K) [] E0 (tCons (tVar 0) tNil)) (gName 1)) (lfS K (f0 w T) hs)))
    (rd : ∀ ns : List Int, ns.length ≤ 63 → hs lawD ⟨some (.dat (.list (ns.map .int))) :: some .drw :: List.replicate n none, 0⟩) : GnOk P w K mg base CX0 (k + 1) fa fd ["_law_script"] (spLaw K T) := by
  refine gn_ok Fn S (fun vs H Q E h => by obtain ⟨_, a, ns, rfl, _⟩ := h; rfl) fun cdv ecd A outer s H vs Q E hgd hr h => ?_
  obtain ⟨hT, a, ns, rfl, hS, hl, q⟩ := h
  exact ⟨_, body cdv ecd A outer s H E hgd hr, law_begin hN hT hS hl q (rd ns hl)⟩
theorem has_draw {T : Tbs} {x : Str} {st : Stmt} {k : Nat} (hk : 1 ≤ k) (Fn : Fun K x x st fa fd) (hm : mg x = some (.ref fa)) {ps : List Str} (hp : ps.length = 2) (b : Binds K fd ps []) {t : TS} {N : List Str} (S : FnScope N ps (defScope st))
    (body : ∀ (cdv : Value), fd.code = cdv → ∀ (A : Around) (outer : List Env) (s : Shared) (H : Hp) (E : XK), (A.deeper (envOfC x (defScope st) s.heap.objs.size fa cdv)).guards = some [] → Room 1 (A.deeper (envOfC x (defScope st) s.heap.objs.size fa cdv)) →
      PSs (cxOf CX0 P w K mg base N x (defScope st) fa cdv A outer s H E).nox (defBody st) t)
    (rd : ∀ vs H Q (E : XK), SpH K w T 2 spDraw vs H Q E → t ⟨fun _ H' => Q .non H', Q, fun _ _ => False, fun _ _ => False⟩ (L2.start N vs) H) : Has P w T K mg base 2 x 2 spDraw :=
  ⟨fa, fd, ps, hp, gn_ok Fn S (fun vs H Q E h => by rw [hp]; exact vals_len vs H Q E h) fun cdv ecd A outer s H vs Q E hgd hr h => ⟨t, body cdv ecd A outer s H E hgd hr, rd vs H Q E h⟩, hm, Fn.kp, b⟩
theorem begun_ok {st : Stmt} {N : List Str} {t : TS} (Fn : Fun K "_law_begun" "_law_begun" st fa fd) (S : FnScope N ["_law_script"] (defScope st))
    (body : ∀ (cdv : Value), fd.code = cdv → ∀ (A : Around) (outer : List Env) (s : Shared) (H : Hp) (E : XK), (A.deeper (envOfC "_law_begun" (defScope st) s.heap.objs.size fa cdv)).guards = some [] → Room 1 (A.deeper (envOfC "_law_begun" (defScope st) s.heap.objs.size fa cdv)) →
      PSs (cxOf CX0 P w K mg base N "_law_begun" (defScope st) fa cdv A outer s H E).nox (defBody st) t)
    (rd : ∀ vs H Q (E : XK), spBegun K vs H Q E → t ⟨fun _ H' => Q .non H', Q, fun _ _ => False, fun _ _ => False⟩ (L2.start N vs) H) : GnOk P w K mg base CX0 2 fa fd ["_law_script"] (spBegun K) :=
  gn_ok Fn S (fun vs H Q E h => by obtain ⟨a, ns, rfl, _⟩ := h; rfl) fun cdv ecd A outer s H vs Q E hgd hr h => ⟨t, body cdv ecd A outer s H E hgd hr, rd vs H Q E h⟩
end
end Sk
set_option Elab.async false
set_option linter.all false
set_option maxRecDepth 100000
set_option maxHeartbeats 2000000
namespace Sk
open PySem PySem.Spec PyProof.Rows L2
section
variable {P : Program} {w : World} {K : PySem.W.Frag} {mg mb : Str → Option Value} {k : Nat} {fa a : Addr} {fd : FuncData} {x : Str} {sp : Sp} {s1 : Shared} {vs : List Value} {ns : List Int} {cs : List (Addr × Addr)}
end
end Sk
namespace Sk
open PySem PySem.Spec PyProof.Rows L2
open Evl (Ex)
def ClsN (K : PySem.W.Frag) (x : Str) (C : Addr) : Prop := PySem.W.nsIn K mainGlobals x = some (some (.ref C))
theorem ClsN.inj {K : PySem.W.Frag} {x : Str} {C D : Addr} (h : ClsN K x C) (g : ClsN K x D) : C = D := by
  unfold ClsN at h g
  rw [h] at g
  cases g
  rfl
abbrev HX := Str → Sg → Prop
abbrev HSpX := List PV → Nat → (PV → Nat → Prop) → (Str → Nat → Prop) → Prop
def SpHX (K : PySem.W.Frag) (w : World) (T : Tbs) (k : Nat) (sp : HSpX) : Sp := fun vs H Q E => ∃ (f : Fr) (G : Hp) (n : Nat) (ps : List PV) (C : PV → Nat → Prop) (Z : Str → Nat → Prop), f.w = w ∧ f.T = T ∧ f.e = none ∧ f.F = H ∧ (∀ a, f.M a → (f.on = true ∧ (a = f.m ∨ a = f.l)) ∨ f.tab a) ∧ Rel K f G ⟨ps.map some, n⟩ (vs.map some) H ∧ (∀ p ∈ ps, p.mut = false) ∧ ps.length = k ∧ sp ps n C Z ∧
  (∀ p n' G' H' v, C p n' → Ex G G' → Rel K f G' ⟨[], n'⟩ [] H' → VR K f G' H' p v → Q v H') ∧
  (∀ x a n' G' H', Z x n' → ClsN K x a → Ex G G' → Rel K f G' ⟨[], n'⟩ [] H' → E (.ref a) none H')
def Lk (K : PySem.W.Frag) (W : WX) (w : World) (T : Tbs) (en : Ent) (Z : HX) : Prop := ∀ (x : Str) (a : Addr) (s : Sg) (σ : L2.St) (G H : Hp) (F : Fr) (O : Addr → Prop), ClsN K x a → Rel K (fo (f1 w T (some en)) F O) G s σ H → Z x s → W (.ref a) none σ H
def Ent.fr (en : Ent) (w : World) (T : Tbs) : Fr := ⟨en.on, en.m, en.l, en.c, en.F, en.O, en.M, en.r, w, T, none⟩
theorem Rel.ent {K : PySem.W.Frag} {w : World} {T : Tbs} {en : Ent} {F : Fr} {O : Addr → Prop} {G H : Hp} {s : Sg} {σ : L2.St} (R : Rel K (fo (f1 w T (some en)) F O) G s σ H) : Rel K (en.fr w T) G ⟨[], s.n⟩ [] H ∧ Ex en.G G := by
  have p := R.pk en rfl
  have eM : F.M = en.M := p.M
  have eO : ∀ a, en.O a → O a := p.O
  have eF : Ex en.F F.F := p.F
  have eon : F.on = en.on := p.on
  have em : F.m = en.m := p.m
  have el : F.l = en.l := p.l
  have ec : F.c = en.c := p.c
  refine ⟨?_, p.G⟩
  exact {
    gh := R.gh
    fh := fun a o m h => R.fh a o (fun z => m (by have z : F.M a := z; rw [eM] at z; exact z)) (eF a o h)
    go := fun a h => R.go a (eO a h)
    oh := fun a h => R.oh a (eO a h)
    mh := fun a h => R.mh a (by show F.M a; rw [eM]; exact h)
    mo := p.mo
    tm := p.tm
    tb := fun q hq => R.tb q hq
    pk := fun _ h => by cases h
    dr := fun h => by
      have := R.dr (by show F.on = true; rw [eon]; exact h)
      have e2 : DrwOk F.m F.l F.c s.n H := this
      rw [em, el, ec] at e2
      exact e2
    ln := rfl
    sl := fun i p h => by simp at h
    ds := fun i j p q v _ h => by simp at h }
def entOf (f : Fr) (G : Hp) : Ent := ⟨f.on, f.m, f.l, f.c, f.F, f.O, f.M, f.r, G⟩
theorem entOf_ok {K : PySem.W.Frag} {f : Fr} {G H : Hp} {s : Sg} {σ : L2.St} (R : Rel K f G s σ H) : EntOk (entOf f G) f G := ⟨rfl, rfl, rfl, rfl, Ex.refl _, fun _ h => h, rfl, rfl, Ex.refl _, R.mo, R.tm⟩
theorem Rel.re {K : PySem.W.Frag} {f : Fr} {G H : Hp} {s : Sg} {σ : L2.St} (R : Rel K f G s σ H) (e : Option Ent) (h : ∀ en, e = some en → EntOk en f G) : Rel K { f with e := e } G s σ H := {
  gh := R.gh
  fh := R.fh
  go := R.go
  oh := R.oh
  mh := R.mh
  mo := R.mo
  tm := R.tm
  tb := R.tb
  pk := fun en q => { (h en q) with }
  dr := R.dr
  ln := R.ln
  sl := fun i p q => by
    obtain ⟨v, h1, h2⟩ := R.sl i p q
    exact ⟨v, h1, by cases p <;> exact h2⟩
  ds := R.ds }
section
variable {P : Program} {w : World} {K : PySem.W.Frag} {mg : Str → Option Value} {base : Heap} {CX : CXT} {k : Nat} {f : Addr} {fd : FuncData} {ps : List Str} {sp : Sp}
theorem gn_okX {x qual : Str} {st : Stmt} {N : List Str} (F : Fun K x qual st f fd) (S : FnScope N ps (defScope st)) (len : ∀ vs H Q E, sp vs H Q E → vs.length = ps.length)
    (body : ∀ (cdv : Value), fd.code = cdv → ∀ (A : Around) (outer : List Env) (s : Shared) (H : Hp) (vs : List V) (Q : VK) (E : XK),
      (A.deeper (envOfC qual (defScope st) s.heap.objs.size f cdv)).guards = some [] → Room k (A.deeper (envOfC qual (defScope st) s.heap.objs.size f cdv)) → sp vs H Q E →
      ∃ t, PSs (cxOf CX P w K mg base N qual (defScope st) f cdv A outer s H E) (defBody st) t ∧ t { nx := fun _ H' => Q .non H', rt := Q } (start N vs) H) :
    GnOk P w K mg base CX (k + 1) f fd ps sp := by
  obtain ⟨oc, od, kV, doc, pm, an, cdv, ct, osl, efd, lk, hcd⟩ := F.ex
  subst efd
  refine ⟨len, fun {A outer s H args us vs Q E} hgd hr e0 hb r hsp => ?_⟩
  have hl := len _ _ _ _ hsp
  have hin : K.In s.heap := e0.mod.kin.keeps fun b o e => (e0.bs b o e).1
  have hlim : s.heap.NoLimit := e0.mod.nolimit.keeps fun b o e => (e0.bs b o e).1
  refine codeAny_call_function hr.depth (hin _ _ lk) rfl S.co S.gen rfl (PySem.W.codeRec_of hin hcd) (hb _ _ _ _ ?_)
  refine wpAny_newFunctionEnv_cells S.kind (fun y hy => ?_) fun env he s1 hx => ?_
  · rcases S.par y.1 (List.of_mem_zip (show (y.1, y.2) ∈ ps.zip us from hy)).1 with q | q
    · exact Or.inl q
    · exact Or.inr ⟨q, PySem.W.cellsFrom_some _ _ _ (Or.inl q)⟩
  subst he
  refine ⟨hlim.keeps hx.toInCall.keep, codeAny_func ?_⟩
  obtain ⟨t, ht, hq⟩ := body cdv rfl A outer s H vs Q E (guards_deeper A _ hgd) (hr.deeper _) hsp
  have I := inv_start (CX := CX) (E := E) (qual := qual) (f := f) (cd := cdv) S hr.hd e0 hl r hx
  have ret : ∀ {σ' : L2.St} {H' : Hp} {v : V} {u : Value} {s' : Shared}, Inv (cxOf CX P w K mg base N qual (defScope st) f cdv A outer s H E) [] σ' H' s' → RelV v u → Q v H' → CE outer P w H s Q u s' :=
    fun J rv q => ⟨_, _, J.os, J.bare, J.base, J.hok, rv, q⟩
  refine wpAny_mono (ht.run [] s1 (start N vs) H _ I hq) (fun fl s' hs => ?_) fun e s' hs => hs
  cases fl with
  | ret u => obtain ⟨v, σ', H', J, rv, q⟩ := hs; exact ret J rv q
  | next => obtain ⟨σ', H', J, q⟩ := hs; exact ret (v := V.non) (u := Value.none) J rfl q
  | brk => obtain ⟨_, _, _, q⟩ := hs; exact q.elim
  | cont => obtain ⟨_, _, _, q⟩ := hs; exact q.elim
end
section
variable {X : Cx} {CX : CXT} {k : Nat} {f : Addr} {fd : FuncData} {ps : List Str} {sp : Sp} {E : L2.St → XK} {x : Str} {p pos : Pos} {e : Expr} {es : List Expr} {t : TA}
end
@[simp] def hCallX (sp : HSpX) (k : Nat) (Z : HX) (ta : HA) : HE := fun s C => ta s fun ps s' => ps.length = k ∧ (∀ p ∈ ps, p.isD = false) ∧ sp (ps.map PV.arg) s'.n (fun p n' => (ps.any PV.mut = true → p.imm = true) ∧ C p ⟨s'.sl, n'⟩) (fun x n' => Z x ⟨s'.sl, n'⟩)
@[simp] def hRaise (x : Str) (Z : HX) : HS := fun _ s => Z x s
section
variable {X : Cx} {T : Tbs} {en : Ent} {W : WX} {Z : HX} {e : Expr} {es : List Expr} {ta : HA} {sp : HSpX} {x : Str} {p pos : Pos} {k n : Nat}
end
structure HasX (P : Program) (w : World) (T : Tbs) (K : PySem.W.Frag) (mg : Str → Option Value) (base : Heap) (k : Nat) (x : Str) (n : Nat) (sp : HSpX) : Prop where
  ex : ∃ fa fd ps, ps.length = n ∧ GnOk P w K mg base (L2.CX P w) k fa fd ps (SpHX K w T n sp) ∧ mg x = some (.ref fa) ∧ PySem.W.keepIn K (.ref fa) = true ∧ Binds K fd ps []
section
variable {X : Cx} {T : Tbs} {en : Ent} {W : WX} {Z : HX} {e : Expr} {es : List Expr} {ta : HA} {sp : HSpX} {x : Str} {p pos : Pos} {k n : Nat}
end
theorem valsX_len {k : Nat} {K : PySem.W.Frag} {w : World} {T : Tbs} {sp : HSpX} : ∀ vs H Q E, SpHX K w T k sp vs H Q E → vs.length = k := fun vs H Q E h => by
  obtain ⟨f, G, n, ps, C, Z, _, _, _, _, _, R, _, hk, _⟩ := h
  have := R.ln
  simp at this
  omega
theorem start_at {α : Type} (xs : List α) (m i : Nat) (y : α) (h : (xs.map some ++ List.replicate m none)[i]? = some (some y)) : (xs.map some)[i]? = some (some y) := by
  by_cases hi : i < xs.length
  · rw [List.getElem?_append_left (by simpa using hi)] at h; exact h
  · rw [List.getElem?_append_right (by simpa using hi), List.getElem?_replicate] at h
    split at h <;> cases h
theorem start_up {α : Type} (xs : List α) (m i : Nat) (y : α) (h : (xs.map some)[i]? = some (some y)) : (xs.map some ++ List.replicate m none)[i]? = some (some y) := by
  have hi : i < (xs.map some).length := (List.getElem?_eq_some_iff.mp h).1
  rw [List.getElem?_append_left hi]
  exact h
theorem HasX.mk' {P : Program} {w : World} {T : Tbs} {K : PySem.W.Frag} {mg : Str → Option Value} {base : Heap} {k : Nat} {fa : Addr} {fd : FuncData} {x : Str} {st : Stmt} {N ps : List Str} {hs : HX → HS} {sp : HSpX} (Fn : Fun K x x st fa fd) (hm : mg x = some (.ref fa)) (b : Binds K fd ps []) (S : FnScope N ps (defScope st))
    (body : ∀ (cdv : Value), fd.code = cdv → ∀ (A : Around) (outer : List Env) (s : Shared) (H : Hp) (E : XK) (en : Ent) (Z : HX), (A.deeper (envOfC x (defScope st) s.heap.objs.size fa cdv)).guards = some [] → Room k (A.deeper (envOfC x (defScope st) s.heap.objs.size fa cdv)) →
      Takes (cxOf (L2.CX P w) P w K mg base N x (defScope st) fa cdv A outer s H E) (fun cls d _ H => E cls d H) → Lk K (fun cls d _ H => E cls d H) w T en Z → PSs (cxOf (L2.CX P w) P w K mg base N x (defScope st) fa cdv A outer s H E) (defBody st) (lfS K (f1 w T (some en)) (hs Z)))
    (rd : ∀ pvs n C Z, pvs.length = ps.length → sp pvs n C Z → hs (fun x s => Z x s.n) ⟨fun s => C (.dat .none) s.n, fun p s => C p s.n, fun _ => False, fun _ => False⟩ ⟨pvs.map some ++ List.replicate (N.length - pvs.length) none, n⟩) : HasX P w T K mg base (k + 1) x ps.length sp := by
  refine ⟨fa, fd, ps, rfl, gn_okX Fn S valsX_len fun cdv ecd A outer s H vs Q E hgd hr h => ?_, hm, Fn.kp, b⟩
  obtain ⟨⟨on, m, l, c, fF, fO, fM, r, fw, fT, fe⟩, G, n, pvs, C, Z, hw, hT, he, hF, hM, R, hmu, hk, hsp, kn, kx⟩ := h
  have hw : fw = w := hw
  have hT : fT = T := hT
  have he : fe = none := he
  subst hw hT he
  let f : Fr := ⟨on, m, l, c, fF, fO, fM, r, fw, fT, none⟩
  have R : Rel K f G ⟨pvs.map some, n⟩ (vs.map some) H := R
  have lnv : vs.length = pvs.length := by
    have := R.ln
    simpa using this
  have lk : Lk K (fun cls d _ H => E cls d H) fw fT (entOf f G) (fun x s => Z x s.n) := fun x a s1 σ1 G1 H1 F O hc R1 z => by
    obtain ⟨R2, e2⟩ := R1.ent
    exact kx x a _ G1 H1 z hc e2 R2
  refine ⟨_, body cdv ecd A outer s H E (entOf f G) (fun x s => Z x s.n) hgd hr (takes_of rfl rfl rfl rfl) lk, f, fO, G, ⟨pvs.map some ++ List.replicate (N.length - pvs.length) none, n⟩, _, ?_, rd pvs n C Z hk hsp, ⟨fun G1 s1 σ1 H1 e1 R1 c => ?_, fun p G1 s1 σ1 H1 v e1 R1 V1 c => ?_, fun _ _ _ _ _ _ z => z.elim, fun _ _ _ _ _ _ z => z.elim⟩⟩
  · have R5 := R.re (some (entOf f G)) fun en q => by
      cases q
      exact entOf_ok R
    show Rel K { f with e := some (entOf f G) } G ⟨_, n⟩ (L2.start N vs) H
    exact { R5 with
      ln := by simp [L2.start, lnv]
      sl := fun i p h => by
        obtain ⟨v, h1, h2⟩ := R5.sl i p (start_at _ _ _ _ h)
        exact ⟨v, start_up _ _ _ _ h1, h2⟩
      ds := fun i j p q v ne hi _ mp => by
        have h1 := start_at _ _ _ _ hi
        rw [List.getElem?_map] at h1
        obtain ⟨p0, h2, e⟩ := Option.map_eq_some_iff.mp h1
        cases e
        have := hmu _ (List.mem_of_getElem? h2)
        rw [this] at mp
        cases mp }
  · exact kn _ _ _ _ _ c e1 R1.ent.1 .non
  · exact kn _ _ _ _ _ c e1 R1.ent.1 (by cases p <;> exact V1.1)
end Sk
set_option Elab.async false
set_option linter.all false
set_option maxRecDepth 100000
set_option maxHeartbeats 2000000
namespace Sk
open PySem PySem.Spec PyProof.Rows L2
open Evl (Ex)
def ExH (cls : Value) (a : Addr) : HO := .ext fun h => ∃ (o : Obj) (fs : Array Value), h.get? a = some o ∧ Zc cls none o ∧ o.data = .fields fs
section
variable {X : Cx} {pins : List (Addr × Obj)} {σ : L2.St} {H : Hp} {s : Shared} {a : Addr} {o : Obj} {fs : Array Value} {cls : Value}
end
section
variable {X : Cx} {x n : Str} {c : Value} {i : Nat} {body suite : List Stmt} {b₀ : Stmt} {np pos pos' : Pos} {tb : WX → TS} {ts : Addr → Value → TS} {Wout : WX}
end
end Sk
set_option Elab.async false
set_option linter.all false
set_option maxRecDepth 100000
set_option maxHeartbeats 2000000
namespace Sk
open PySem PySem.Spec PyProof.Rows L2
open Evl (Ex)
def exNames : List Str := ["BadDeeds", "BadHand", "BadHouse", "BadMachine", "BadNode", "BadRow", "BadWay", "BadPaper", "NoName", "TooGreat"]
def exAll : List Str := "HandError" :: "BadText" :: exNames
def exSub (x y : Str) : Bool := decide (x = y) || decide (y = ("HandError" : Str))
def exAt (K : PySem.W.Frag) (x : Str) : Option Addr := match PySem.W.nsIn K mainGlobals x with
  | some (some (.ref C)) => some C
  | _ => none
theorem exAt_of {K : PySem.W.Frag} {x : Str} {C : Addr} (h : ClsN K x C) : exAt K x = some C := by
  unfold ClsN at h
  unfold exAt
  rw [h]
def exOne (K : PySem.W.Frag) (C : Addr) : Bool :=
  (PySem.W.findIn K (.ref C) "__getattribute__" == some (some (.builtin "BaseException.__getattribute__"))) && ((PySem.W.findIn K (.ref C) "__getattr__" == some none) && ((PySem.W.subIn K (.ref C) (.type "BaseException") == some true) && ((PySem.W.hasDictIn K C) &&
  ((PySem.W.findIn K (.ref C) "__class__" == some (some (.builtin "object.__class__"))) && ((PySem.W.specialIn K (.builtin "object.__class__") "__get__" == some (some (.builtin "getset_descriptor.__get__"))) && ((PySem.W.takesIn K (.builtin "object.__class__") == some true) && ((PySem.W.mroIn K C (.type "object") == some true) &&
  ((PySem.W.excIn K C [.type "ValueError", .type "Exception", .type "BaseException", .type "object"] "ValueError.__new__") && ((PySem.W.keepIn K (.ref C)) && ((PySem.W.typeIn K (.ref C) == some (.type "type")) && (PySem.W.kitOne K (.ref C) (.type "ValueError") == some true)))))))))))
def exPair (K : PySem.W.Frag) (x : Str) (C : Addr) (y : Str) : Bool := match exAt K y with
  | none => true
  | some D => (PySem.W.kitOne K (.ref C) (.ref D) == some (exSub x y)) && (PySem.W.exmOne K (.ref C) (.ref D) == some (exSub x y))
def exOk (K : PySem.W.Frag) (x : Str) : Bool := match exAt K x with
  | none => true
  | some C => exOne K C && exAll.all (exPair K x C)
def exNon (K : PySem.W.Frag) : Bool := exAll.all fun y => match exAt K y with
  | none => true
  | some D => PySem.W.kitOne K (.type "NoneType") (.ref D) == some false
structure ExF (K : PySem.W.Frag) (C : Addr) : Prop where
  e : ExcC K C
  x : PySem.W.excIn K C [.type "ValueError", .type "Exception", .type "BaseException", .type "object"] "ValueError.__new__" = true
  k : PySem.W.keepIn K (.ref C) = true
  t : PySem.W.typeIn K (.ref C) = some (.type "type")
  v : PySem.W.kitOne K (.ref C) (.type "ValueError") = some true
structure ExT (K : PySem.W.Frag) : Prop where
  ok : ∀ x ∈ exNames, exOk K x = true
  no : exNon K = true
section
variable {K : PySem.W.Frag} {x y : Str} {C D : Addr}
theorem exOne_of (h : exOne K C = true) : ExF K C := by
  unfold exOne at h
  simp only [Bool.and_eq_true, beq_iff_eq] at h
  obtain ⟨h1, h2, h3, h4, h5, h6, h7, h8, h9, ha, hb, hc⟩ := h
  exact ⟨⟨h1, h2, h3, h4, h5, h6, h7, h8⟩, h9, ha, hb, hc⟩
theorem ExT.one (T : ExT K) (hx : x ∈ exNames) (h : ClsN K x C) : ExF K C := by
  have := T.ok x hx
  unfold exOk at this
  rw [exAt_of h] at this
  simp only [Bool.and_eq_true] at this
  exact exOne_of this.1
theorem ExT.two (T : ExT K) (hx : x ∈ exNames) (hy : y ∈ exAll) (h : ClsN K x C) (g : ClsN K y D) : PySem.W.kitOne K (.ref C) (.ref D) = some (exSub x y) ∧ PySem.W.exmOne K (.ref C) (.ref D) = some (exSub x y) := by
  have := T.ok x hx
  unfold exOk at this
  rw [exAt_of h] at this
  simp only [Bool.and_eq_true, List.all_eq_true] at this
  have := this.2 y hy
  unfold exPair at this
  rw [exAt_of g] at this
  simp only [Bool.and_eq_true, beq_iff_eq] at this
  exact this
theorem ExT.non (T : ExT K) (hy : y ∈ exAll) (g : ClsN K y D) : PySem.W.kitOne K (.type "NoneType") (.ref D) = some false := by
  have := T.no
  unfold exNon at this
  rw [List.all_eq_true] at this
  have := this y hy
  rw [exAt_of g] at this
  exact eq_of_beq this
end
def ExcAt (G : Hp) (C a : Addr) : Prop := G a = some (ExH (.ref C) a) ∨ G a = some (ExO (.ref C) a)
theorem ExcAt.ex {G G' : Hp} {C a : Addr} (h : ExcAt G C a) (e : Ex G G') : ExcAt G' C a := h.imp (fun h => e _ _ h) fun h => e _ _ h
def excR (x : Str) : PySem.W.Frag → Hp → V → Prop := fun K G v => ∃ a C, v = .ref a ∧ ClsN K x C ∧ ExcAt G C a
abbrev excPV (x : Str) : PV := .abs (excR x)
theorem vr_excO {K : PySem.W.Frag} {f : Fr} {G H : Hp} {x : Str} {a C : Addr} (hc : ClsN K x C) (h : G a = some (ExO (.ref C) a)) : VR K f G H (excPV x) (.ref a) := fun G2 e => ⟨a, C, rfl, hc, Or.inr (e _ _ h)⟩
theorem excPV_at {K : PySem.W.Frag} {f : Fr} {G H : Hp} {x : Str} {v : V} (h : VR K f G H (excPV x) v) : ∃ a C, v = .ref a ∧ ClsN K x C ∧ ExcAt G C a := h G (Ex.refl G)
def TyE (K : PySem.W.Frag) (H : Hp) (x : V) (t : Value) : Prop := (∃ a C, x = .ref a ∧ ExcAt H C a ∧ ExcC K C ∧ t = .ref C) ∨ (x = .non ∧ t = .type "NoneType")
theorem TyE.ex {K : PySem.W.Frag} {H H' : Hp} {x : V} {t : Value} (e : Ex H H') (h : TyE K H x t) : TyE K H' x t := h.imp (fun ⟨a, C, h1, h2, h3⟩ => ⟨a, C, h1, h2.ex e, h3⟩) id
section
variable {X : Cx}
theorem kit_x {σ : L2.St} {H : Hp} {pins : List (Addr × Obj)} {s : Shared} {x : V} {t u : Value} (I : Inv X pins σ H s) (r : RelV x u) (h : TyE X.K H x t) : ∃ P, PySem.W.KitX X.K u t P ∧ P s.heap ∧ u ≠ .builtin "__main__.__loader__#opaque" := by
  rcases h with ⟨a, C, rfl, h, ec, rfl⟩ | ⟨rfl, rfl⟩
  · cases (show u = Value.ref a from r)
    obtain ⟨o, fs, e1, z, e2⟩ : ∃ (o : Obj) (fs : Array Value), s.heap.get? a = some o ∧ Zc (.ref C) none o ∧ o.data = .fields fs := by
      rcases h with h | h
      · exact (show ObjOk X.prog X.w H s.heap a (ExH (.ref C) a) from I.hok a _ h).1
      · obtain ⟨⟨o, fs, e1, z, e2, _⟩, _⟩ := (show ObjOk X.prog X.w H s.heap a (ExO (.ref C) a) from I.hok a _ h)
        exact ⟨o, fs, e1, z, e2⟩
    obtain ⟨oc, od, oda, osl⟩ := o
    obtain ⟨z1, z2⟩ := z
    dsimp only at z1 z2 e2
    subst z1 z2 e2
    exact ⟨_, PySem.W.handS_kitx_exc ec.hg ec.hk ec.hs ec.hd ec.ha ec.hn ec.ht ec.hm, ⟨e1, rfl, rfl, trivial⟩, fun z => nomatch z⟩
  · exact kit_dp (d := .none) I .non r
end
structure NmC (X : Cx) (e : Expr) (y : Str) : Prop where
  ex : ∃ C, ClsN X.K y C ∧ PE X e (tC (.ref C))
  al : y ∈ exAll
section
variable {X : Cx} {f : Fr} {a : Expr} {oa : HA → HA} {p q pos : Pos} {e1 : Expr} {es : List Expr} {y1 : Str} {ys : List Str}
theorem tyE_of {K : PySem.W.Frag} {G H : Hp} {f : Fr} {p : PV} {v : V} (T : ExT K) (g : Ex G H) (V1 : VR K f G H p v) : (∀ x, x ∈ exNames → p = excPV x → ∃ t, TyE K H v t ∧ ∀ y D, y ∈ exAll → ClsN K y D → PySem.W.kitOne K t (.ref D) = some (exSub x y)) ∧
    (p = .dat .none → ∃ t, TyE K H v t ∧ ∀ y D, y ∈ exAll → ClsN K y D → PySem.W.kitOne K t (.ref D) = some false) := by
  refine ⟨fun x hx e => ?_, fun e => ?_⟩
  · subst e
    obtain ⟨b, C, rfl, hc, hg⟩ := excPV_at V1
    exact ⟨.ref C, Or.inl ⟨b, C, rfl, hg.ex g, (T.one hx hc).e, rfl⟩, fun y D hy hd => (T.two hx hy hc hd).1⟩
  · subst e
    cases (show Dp K G v .none from V1)
    exact ⟨_, Or.inr ⟨rfl, rfl⟩, fun y D hy hd => T.non hy hd⟩
inductive NmL (X : Cx) : List Expr → List Str → Prop
  | nil : NmL X [] []
  | cons {x y : Str} {q : Pos} {es : List Expr} {ys : List Str} (h : NmC X (.Name x q) y) (t : NmL X es ys) : NmL X (.Name x q :: es) (y :: ys)
theorem NmL.pa {es : List Expr} {ys : List Str} (h : NmL X es ys) : ∃ Cs : List Addr, PA X es (fun σ H Q => Q (Cs.map V.ref) H) ∧ Paired (fun y C => y ∈ exAll ∧ ClsN X.K y C) ys Cs := by
  induction h with
  | nil => exact ⟨[], pa_nil.mono fun σ H Q q => q, .nil⟩
  | @cons x y q es ys h t ih =>
    obtain ⟨Cs, h1, h3⟩ := ih
    obtain ⟨D, hD, pD⟩ := h.ex
    exact ⟨D :: Cs, (pa_cons pD h1 rfl).mono fun σ H Q q => q, .cons ⟨h.al, hD⟩ h3⟩
end
end Sk
set_option Elab.async false
set_option linter.all false
set_option maxRecDepth 100000
set_option maxHeartbeats 2000000
namespace Sk
open PySem PySem.Spec PyProof.Rows L2
open PySem.W (Datum DatumOrd Tup T3 T4)
open Evl (Ex)
theorem lcs_map {α : Type} {vs : List Nat} {g : HG} {t : HE} {s : Sg} {xs : List α} (e f : α → PyData)
    (h : ∀ a ∈ xs, ∀ K : PV → Sg → Prop, (∀ s3, s3.wipe vs = s → K (.dat (f a)) s3) → g (e a) s fun s1 => t s1 K) :
    ∀ (acc : List PyData) (C : PV → Sg → Prop), acc.length + xs.length ≤ 100000 → C (.own (acc ++ xs.map f)) s → lcs vs g hYes t (xs.map e) acc s C := by
  induction xs with
  | nil => intro acc C _ c; simpa using c
  | cons a xs ih =>
    intro acc C hl c
    have hl' : acc.length + (xs.length + 1) ≤ 100000 := by simpa using hl
    show g (e a) s fun s1 => hYes s1 fun b s2 => if b = true then t s2 fun p s3 => ∃ x, p.frz = some x ∧ acc.length < 100000 ∧ lcs vs g hYes t (xs.map e) (acc ++ [x]) (s3.wipe vs) C else lcs vs g hYes t (xs.map e) acc (s2.wipe vs) C
    refine h a List.mem_cons_self _ fun s3 hs3 => ⟨f a, rfl, by omega, ?_⟩
    rw [hs3]
    refine ih (fun b hb => h b (List.mem_cons_of_mem _ hb)) _ C (by simp; omega) ?_
    simpa using c
theorem eqP_D {α : Type} [DecidableEq α] [Datum α] {neg : Bool} {p q : PV} {C : PV → Prop} (a b : α) (hp : p.frz = some (Datum.toD a)) (hq : q.frz = some (Datum.toD b)) (hd : Datum.depth α ≤ 60) (c : C (.dat (.bool (if neg then !decide (a = b) else decide (a = b))))) : eqP neg [p, q] C := by
  refine ⟨_, _, hp, hq, Datum.plain a, Datum.plain b, ?_, ?_⟩
  · have := Datum.depth_le a
    omega
  · rw [Datum.eqv]; exact c
@[simp] def ty_str : PyData → Bool
  | .none => false
  | .bool _ => false
  | .int _ => false
  | .str _ => true
  | .list _ => false
  | .tuple _ => false
  | .dict _ => false
theorem kit_str (d : PyData) : kitB (tyD d) "str" = some (ty_str d) := by cases d <;> rfl
@[simp] def ty_int : PyData → Bool
  | .none => false
  | .bool _ => true
  | .int _ => true
  | .str _ => false
  | .list _ => false
  | .tuple _ => false
  | .dict _ => false
theorem kit_int (d : PyData) : kitB (tyD d) "int" = some (ty_int d) := by cases d <;> rfl
@[simp] def ty_bool : PyData → Bool
  | .none => false
  | .bool _ => true
  | .int _ => false
  | .str _ => false
  | .list _ => false
  | .tuple _ => false
  | .dict _ => false
theorem kit_bool (d : PyData) : kitB (tyD d) "bool" = some (ty_bool d) := by cases d <;> rfl
@[simp] def ty_tuple : PyData → Bool
  | .none => false
  | .bool _ => false
  | .int _ => false
  | .str _ => false
  | .list _ => false
  | .tuple _ => true
  | .dict _ => false
theorem kit_tuple (d : PyData) : kitB (tyD d) "tuple" = some (ty_tuple d) := by cases d <;> rfl
@[simp] def ty_list : PyData → Bool
  | .none => false
  | .bool _ => false
  | .int _ => false
  | .str _ => false
  | .list _ => true
  | .tuple _ => false
  | .dict _ => false
theorem kit_list (d : PyData) : kitB (tyD d) "list" = some (ty_list d) := by cases d <;> rfl
@[simp] theorem frz_dat {d : PyData} : (PV.dat d).frz = some d := rfl
@[simp] theorem frz_own {d : List PyData} : (PV.own d).frz = some (.list d) := rfl
@[simp] theorem lst_dat {d : List PyData} : (PV.dat (.list d)).lst = some d := rfl
@[simp] theorem lst_own' {d : List PyData} : (PV.own d).lst = some d := rfl
@[simp] theorem seq_lst {d : List PyData} : (PV.dat (.list d)).seq = some d := rfl
@[simp] theorem seq_tup {d : List PyData} : (PV.dat (.tuple d)).seq = some d := rfl
@[simp] theorem seq_str {z : Str} : (PV.dat (.str z)).seq = none := rfl
@[simp] theorem lst_str {z : Str} : (PV.dat (.str z)).lst = none := rfl
@[simp] theorem lst_tp {d : List PyData} : (PV.dat (.tuple d)).lst = none := rfl
@[simp] theorem seq_own {d : List PyData} : (PV.own d).seq = some d := rfl
@[simp] theorem arg_dat {d : PyData} : (PV.dat d).arg = .dat d := rfl
@[simp] theorem arg_own {d : List PyData} : (PV.own d).arg = .dat (.list d) := rfl
@[simp] theorem arg_drw : PV.drw.arg = .drw := rfl
@[simp] theorem mut_dat {d : PyData} : (PV.dat d).mut = false := rfl
@[simp] theorem mut_own {d : List PyData} : (PV.own d).mut = true := rfl
@[simp] theorem mut_drw : PV.drw.mut = false := rfl
@[simp] theorem isD_dat {d : PyData} : (PV.dat d).isD = false := rfl
@[simp] theorem isD_own {d : List PyData} : (PV.own d).isD = false := rfl
@[simp] theorem isD_drw : PV.drw.isD = false := rfl
@[simp] theorem isi_str {d : PyData} {C : PV → Prop} : isiW [.dat d, .val (.ty "str")] C ↔ C (.dat (.bool (ty_str d))) := by simp [isiW, kit_str]
@[simp] theorem isi_int {d : PyData} {C : PV → Prop} : isiW [.dat d, .val (.ty "int")] C ↔ C (.dat (.bool (ty_int d))) := by simp [isiW, kit_int]
@[simp] theorem isi_bool {d : PyData} {C : PV → Prop} : isiW [.dat d, .val (.ty "bool")] C ↔ C (.dat (.bool (ty_bool d))) := by simp [isiW, kit_bool]
@[simp] theorem isi_tuple {d : PyData} {C : PV → Prop} : isiW [.dat d, .val (.ty "tuple")] C ↔ C (.dat (.bool (ty_tuple d))) := by simp [isiW, kit_tuple]
@[simp] theorem isi_list {d : PyData} {C : PV → Prop} : isiW [.dat d, .val (.ty "list")] C ↔ C (.dat (.bool (ty_list d))) := by simp [isiW, kit_list]
@[simp] theorem isi_own {ds : List PyData} {C : PV → Prop} : isiW [.own ds, .val (.ty "list")] C ↔ C (.dat (.bool true)) := by simp [isiW, kit_list]
@[simp] theorem len_str {z : Str} {C : PV → Prop} : lenW [.dat (.str z)] C ↔ z.length ≤ sizeLine ∧ C (.dat (.int z.length)) := by simp [lenW]
@[simp] theorem len_tup {ds : List PyData} {C : PV → Prop} : lenW [.dat (.tuple ds)] C ↔ C (.dat (.int ds.length)) := by simp [lenW]
@[simp] theorem len_lst {ds : List PyData} {C : PV → Prop} : lenW [.dat (.list ds)] C ↔ C (.dat (.int ds.length)) := by simp [lenW]
@[simp] theorem len_own {ds : List PyData} {C : PV → Prop} : lenW [.own ds] C ↔ C (.dat (.int ds.length)) := by simp [lenW]
@[simp] theorem ix_tup {ds : List PyData} {i : Int} {C : PV → Prop} : ixW [.dat (.tuple ds), .dat (.int i)] C ↔ ∃ d, atI ds i = some d ∧ C (.dat d) := by simp [ixW]
@[simp] theorem ix_lst {ds : List PyData} {i : Int} {C : PV → Prop} : ixW [.dat (.list ds), .dat (.int i)] C ↔ ∃ d, atI ds i = some d ∧ C (.dat d) := by simp [ixW]
@[simp] theorem ix_own {ds : List PyData} {i : Int} {C : PV → Prop} : ixW [.own ds, .dat (.int i)] C ↔ ∃ d, atI ds i = some d ∧ C (.dat d) := by simp [ixW]
@[simp] theorem ix_st {z : Str} {i : Int} {C : PV → Prop} : ixW [.dat (.str z), .dat (.int i)] C ↔ z.length ≤ 100000 ∧ ∃ c, atI z.cps.toList i = some c ∧ C (.dat (.str ⟨#[c]⟩)) := by simp [ixW]
@[simp] theorem add_ii {i j : Int} {C : PV → Prop} : addW [.dat (.int i), .dat (.int j)] C ↔ C (.dat (.int (i + j))) := Iff.rfl
@[simp] theorem add_ss {i j : Str} {C : PV → Prop} : addW [.dat (.str i), .dat (.str j)] C ↔ i.length + j.length ≤ 100000 ∧ C (.dat (.str (i ++ j))) := Iff.rfl
@[simp] theorem mul_ii {i j : Int} {C : PV → Prop} : mulW' [.dat (.int i), .dat (.int j)] C ↔ CMulW i j ∧ C (.dat (.int (i * j))) := Iff.rfl
@[simp] theorem lst_own {ds : List PyData} {C : PV → Prop} : listW [.own ds] C ↔ C (.own ds) := by simp [listW]
@[simp] theorem lst_lst {ds : List PyData} {C : PV → Prop} : listW [.dat (.list ds)] C ↔ C (.own ds) := by simp [listW]
@[simp] theorem lst_tup {ds : List PyData} {C : PV → Prop} : listW [.dat (.tuple ds)] C ↔ C (.own ds) := by simp [listW]
@[simp] theorem tup_own {ds : List PyData} {C : PV → Prop} : tupW [.own ds] C ↔ C (.dat (.tuple ds)) := by simp [tupW]
@[simp] theorem tup_lst {ds : List PyData} {C : PV → Prop} : tupW [.dat (.list ds)] C ↔ C (.dat (.tuple ds)) := by simp [tupW]
@[simp] theorem in_sign {c : Nat} {z : Str} {C : PV → Prop} : inS [.dat (.str ⟨#[c]⟩), .dat (.str z)] C ↔ C (.dat (.bool (decide (c ∈ z.cps.toList)))) := by
  simp [inS]
def isNoneD : PyData → Bool
  | .none => true
  | _ => false
@[simp] theorem is_none {d : PyData} {C : PV → Prop} : isN false [.dat d, .dat .none] C ↔ C (.dat (.bool (isNoneD d))) := by cases d <;> simp [isN, isNoneD]
@[simp] theorem not_none {d : PyData} {C : PV → Prop} : isN true [.dat d, .dat .none] C ↔ C (.dat (.bool (!isNoneD d))) := by cases d <;> simp [isN, isNoneD]
@[simp] theorem eq_int {i j : Int} {neg : Bool} {C : PV → Prop} : eqP neg [.dat (.int i), .dat (.int j)] C ↔ C (.dat (.bool (if neg then !decide (i = j) else decide (i = j)))) := by
  have h : PyData.eqv (.int i) (.int j) = decide (i = j) := Datum.eqv i j
  simp [eqP, h, PyData.plain, PyData.depth]
@[simp] theorem eq_str {i j : Str} {neg : Bool} {C : PV → Prop} : eqP neg [.dat (.str i), .dat (.str j)] C ↔ C (.dat (.bool (if neg then !decide (i = j) else decide (i = j)))) := by
  have h : PyData.eqv (.str i) (.str j) = decide (i = j) := Datum.eqv i j
  simp [eqP, h, PyData.plain, PyData.depth]
end Sk
set_option Elab.async false
set_option linter.all false
set_option maxRecDepth 100000
set_option maxHeartbeats 2000000
namespace Sk
open PySem PySem.Spec PyProof.Rows L2
open Evl (Ex)
theorem DpAll.erase {K : PySem.W.Frag} {H : Hp} {vs : List V} {ds : List PyData} (a : DpAll K H vs ds) (n : Nat) : DpAll K H (vs.eraseIdx n) (ds.eraseIdx n) := by
  rw [List.eraseIdx_eq_take_drop_succ, List.eraseIdx_eq_take_drop_succ]
  exact (a.take n).append (a.drop (n + 1))
@[simp] def hPopAt (j : Nat) (t : HE) : HE := fun s C => (∃ ds, s.sl[j]? = some (some (.own ds))) ∧ t s fun p s1 => ∃ ds i k d, p = .dat (.int i) ∧ s1.sl[j]? = some (some (.own ds)) ∧ ixN ds.length i = some k ∧ i.natAbs ≤ 1000000 ∧ ds[k]? = some d ∧ C (.dat d) (s1.put j (.own (ds.eraseIdx k)))
@[simp] def hRev (j : Nat) : HE := fun s C => ∃ ds, s.sl[j]? = some (some (.own ds)) ∧ C (.dat .none) (s.put j (.own ds.reverse))
@[simp] def hExt (j : Nat) (t : HE) : HE := fun s C => (∃ ds, s.sl[j]? = some (some (.own ds))) ∧ t s fun p s1 => ∃ ds es, p = .own es ∧ s1.sl[j]? = some (some (.own ds)) ∧ ds.length + es.length ≤ 100000 ∧ C (.dat .none) (s1.put j (.own (ds ++ es)))
@[simp] def hIdx (j : Nat) (t : HE) : HE := fun s C => (∃ p ns, s.sl[j]? = some (some p) ∧ p.lst = some ((ns : List Int).map .int)) ∧ t s fun q s1 => ∃ p ns, ∃ a : Int, ∃ k, s1.sl[j]? = some (some p) ∧ p.lst = some ((ns : List Int).map .int) ∧ q = .dat (.int a) ∧ ns[k]? = some a ∧ (∀ m, m < k → ns[m]? ≠ some a) ∧ C (.dat (.int (k : Nat))) s1
@[simp] def hAug (op : Int → Int → Int) (i : Nat) (t : HE) : HS := fun D s => ∃ a, s.sl[i]? = some (some (.dat (.int a))) ∧ t s fun p s1 => ∃ b, p = .dat (.int b) ∧ D.nx (s1.put i (.dat (.int (op a b))))
@[simp] def hAugL (op : Int → Int → Int) (j : Nat) (ti t : HE) : HS := fun D s => (∃ ds, s.sl[j]? = some (some (.own ds))) ∧ ti s fun q s1 => ∃ k n ds a, q = .dat (.int k) ∧ s1.sl[j]? = some (some (.own ds)) ∧ ixN ds.length k = some n ∧ ds[n]? = some (.int a) ∧ t s1 fun p s2 => ∃ b es m, p = .dat (.int b) ∧ s2.sl[j]? = some (some (.own es)) ∧ ixN es.length k = some m ∧ D.nx (s2.put j (.own (es.set m (.int (op a b)))))
def rgD (a b : Int) : List PyData := (List.range (b - a).toNat).map fun i => PyData.int (a + (i : Nat))
@[simp] def hLR1 (ta : HA) : HE := hC (fun ps C => match ps with
  | [.dat (.int n)] => (-1000000 ≤ n ∧ n ≤ 1000000) ∧ C (.own (rgD 0 n))
  | _ => False) ta
@[simp] def hTR1 (ta : HA) : HE := hC (fun ps C => match ps with
  | [.dat (.int n)] => (-1000000 ≤ n ∧ n ≤ 1000000) ∧ C (.dat (.tuple (rgD 0 n)))
  | _ => False) ta
@[simp] def hLR2 (ta : HA) : HE := hC (fun ps C => match ps with
  | [.dat (.int a), .dat (.int b)] => (-1000000 ≤ a ∧ a ≤ 1000000 ∧ -1000000 ≤ b ∧ b ≤ 1000000) ∧ C (.own (rgD a b))
  | _ => False) ta
@[simp] def max2W : List PV → (PV → Prop) → Prop := i2' fun i j => .int (if j > i then j else i)
@[simp] def min2W : List PV → (PV → Prop) → Prop := i2' fun i j => .int (if j < i then j else i)
@[simp] def hSlE (t : HE) (tl th : HOp) : HE := fun s C => t s fun p s1 => ∃ d, p.frz = some d ∧ tl s1 fun lo s2 => th s2 fun hi s3 => slW (.dat d) lo hi fun q => C q s3
section
variable {X : Cx} {f : Fr} {e o a b : Expr} {es : List Expr} {t ti tt : HE} {r : HA} {x : Str} {apos cpos pos p : Pos} {oa ob : HA → HA}
end
end Sk
set_option Elab.async false
set_option linter.all false
set_option maxRecDepth 100000
set_option maxHeartbeats 2000000
namespace Sk
open PySem PySem.Spec PyProof.Rows L2
open Evl (Ex)
def Fr.ups (F : Fr) (B : Hp) : Fr := ⟨F.on, F.m, F.l, F.c, fun a => (B a).or (F.F a), F.O, F.M, F.r, F.w, F.T, F.e⟩
structure RelB (K : PySem.W.Frag) (f F : Fr) (O : Addr → Prop) (B G : Hp) (s : Sg) (σ : L2.St) (H : Hp) : Prop where
  r : Rel K (fo f (F.ups B) fun a => O a ∨ B a ≠ none) G s σ H
  b : ∀ a, B a ≠ none → ¬ F.M a ∧ ¬ O a ∧ F.F a = none ∧ (F.on = true → a ≠ F.m ∧ a ≠ F.l ∧ a ≠ F.c)
  pk : ∀ en, f.e = some en → EntOk en (fo f F O) G
theorem EntOk.ups {f F : Fr} {O : Addr → Prop} {B G : Hp} {en : Ent} (h : EntOk en (fo f F O) G) (b : ∀ a, B a ≠ none → F.F a = none) : EntOk en (fo f (F.ups B) fun a => O a ∨ B a ≠ none) G := { h with
  F := fun a u e => by
    have e2 : F.F a = some u := h.F a u e
    have e3 : B a = none := by
      cases q : B a with
      | none => rfl
      | some w => rw [b a (by rw [q]; intro z; cases z)] at e2; cases e2
    show (B a).or (F.F a) = some u
    rw [e3, e2]; rfl
  O := fun a e => Or.inl (h.O a e) }
section
variable {K : PySem.W.Frag} {f F : Fr} {O : Addr → Prop} {B G G' H H' : Hp} {s : Sg} {σ : L2.St} {a p : Addr} {o o' : HO}
theorem RelB.start (R : Rel K (fo f F O) G s σ H) : RelB K f F O (fun _ => none) G s σ H := by
  refine ⟨?_, fun a h => absurd rfl h, R.pk⟩
  have e : (fo f (F.ups fun _ => none) fun a => O a ∨ (none : Option HO) ≠ none) = fo f F O := by
    have e1 : (fun a => O a ∨ (none : Option HO) ≠ none) = O := by
      funext a
      exact propext ⟨fun h => h.elim id fun z => absurd rfl z, Or.inl⟩
    rw [e1]; rfl
  rw [e]; exact R
theorem RelB.at (R : RelB K f F O B G s σ H) (h : B a = some o) : H a = some o := by
  have hb := R.b a (by rw [h]; intro z; cases z)
  exact R.r.fh a o hb.1 (show (B a).or (F.F a) = some o by rw [h]; rfl)
theorem RelB.gn (R : RelB K f F O B G s σ H) (h : B a = some o) : G a = none := R.r.go a (Or.inr (by rw [h]; intro z; cases z))
theorem VR.upB {f1 f2 : Fr} {q : PV} {v : V} (h : VR K f1 G H q v) (on : f2.on = f1.on) (hm : f2.m = f1.m) (hr : f2.r = f1.r) (hw : f2.w = f1.w) (e : ∀ b u, H b = some u → ¬ f1.O b → H' b = some u ∧ ¬ f2.O b ∧ ((f1.F b = none ∨ f1.M b) → (f2.F b = none ∨ f2.M b))) : VR K f2 G H' q v := by
  cases q with
  | dat d => exact h
  | drw => exact ⟨on ▸ h.1, by rw [hm]; exact h.2⟩
  | val _ => exact h
  | dgf _ => obtain ⟨p0, xs0, z1, z2, z3⟩ := h; exact ⟨p0, xs0, z1, by rw [hw]; exact z2, z3⟩
  | abs _ => exact h
  | own ds =>
    obtain ⟨b, vs, rfl, k1, k2, k3, k4, k5⟩ := h
    obtain ⟨z1, z2, z3⟩ := e b _ k1 k3
    exact ⟨b, vs, rfl, z1, k2, z2, z3 k4, k5⟩
  | byr ds =>
    obtain ⟨b, vs, rfl, k1, k2, k3, k4, k5, k6⟩ := h
    obtain ⟨z1, z2, z3⟩ := e b _ k1 k3
    exact ⟨b, vs, rfl, z1, k2, z2, z3 k4, k5, by rw [hr]; exact k6⟩
  | lat _ ds =>
    obtain ⟨b, vs, rfl, k1, k2, k3, k4, k5, k6⟩ := h
    obtain ⟨z1, z2, z3⟩ := e b _ k1 k3
    exact ⟨b, vs, rfl, z1, k2, z2, z3 k4, k5, k6⟩
  | dct ds =>
    obtain ⟨b, vs, rfl, k1, k2, k3, k4, k5⟩ := h
    obtain ⟨z1, z2, z3⟩ := e b _ k1 k3
    exact ⟨b, vs, rfl, z1, k2, z2, z3 k4, k5⟩
  | dcg ds =>
    obtain ⟨b, vs, rfl, k1, k2, k3, k4, k5⟩ := h
    obtain ⟨z1, z2, z3⟩ := e b _ k1 k3
    exact ⟨b, vs, rfl, by rw [hw]; exact z1, k2, z2, z3 k4, k5⟩
theorem RelB.new (R : RelB K f F O B G s σ H) (h : H a = none) : RelB K f F O (upd B a o) G s σ (upd H a o) := by
  have ne : ∀ {b : Addr} {u : HO}, H b = some u → b ≠ a := fun h1 z => by rw [z, h] at h1; cases h1
  have no : ∀ {b : Addr}, H b ≠ none → b ≠ a := fun h1 z => h1 (by rw [z]; exact h)
  have hM : ¬ F.M a := fun z => R.r.mh a z h
  have hB : B a = none := by
    cases q : B a with
    | none => rfl
    | some u => have := R.at q; rw [h] at this; cases this
  have hO : ¬ O a := fun z => R.r.oh a (Or.inl z) h
  have hF : F.F a = none := by
    cases q : F.F a with
    | none => rfl
    | some u =>
      have := R.r.fh a u hM (show (B a).or (F.F a) = some u by rw [hB, q]; rfl)
      rw [h] at this; cases this
  refine ⟨?_, fun b hb => ?_, R.pk⟩
  · exact {
      gh := R.r.gh.trans (Evl.Ex.new h)
      fh := fun b u m hb => by
        have hb : ((upd B a o) b).or (F.F b) = some u := hb
        by_cases q : b = a
        · subst q; rw [upd_same] at hb ⊢; exact hb
        · rw [upd_ne q] at hb ⊢; exact R.r.fh b u m hb
      go := fun b hb => by
        by_cases q : b = a
        · subst q; exact R.r.gn h
        · refine R.r.go b (hb.imp id fun z => ?_)
          rw [upd_ne q] at z; exact z
      oh := fun b hb => by
        by_cases q : b = a
        · subst q; rw [upd_same]; intro z; cases z
        · rw [upd_ne q]
          refine R.r.oh b (hb.imp id fun z => ?_)
          rw [upd_ne q] at z; exact z
      mh := fun b hb => by rw [upd_ne (no (R.r.mh b hb))]; exact R.r.mh b hb
      mo := fun hb => by
        obtain ⟨x, y, z, d, e⟩ := R.r.mo hb
        have up : ∀ {b : Addr}, (O b ∨ B b ≠ none) → (O b ∨ upd B a o b ≠ none) := fun {b} w => w.imp id fun z => by
          by_cases q : b = a
          · subst q; rw [upd_same]; intro z; cases z
          · rw [upd_ne q]; exact z
        exact ⟨up x, up y, up z, d, e⟩
      tm := fun p hp => ⟨(R.r.tm p hp).1.imp id fun z => by
          by_cases q : p.1 = a
          · rw [q, upd_same]; intro z; cases z
          · rw [upd_ne q]; exact z, (R.r.tm p hp).2⟩
      tb := fun p hp => (R.r.tb p hp).keep (fun _ _ _ z => z) (upd_ne (no (R.r.oh _ (R.r.tm p hp).1)))
      pk := fun en he => (R.pk en he).ups fun b hb => by
        by_cases q : b = a
        · rw [q]; exact hF
        · rw [upd_ne q] at hb; exact (R.b b hb).2.2.1
      dr := fun hb => by
        obtain ⟨x, y, z, d, e⟩ := R.r.mo hb
        exact (R.r.dr hb).keep (upd_ne (no (R.r.oh _ x))) (upd_ne (no (R.r.oh _ y))) (upd_ne (no (R.r.oh _ z)))
      ln := R.r.ln
      sl := fun i q hq => by
        obtain ⟨v, h1, h2⟩ := R.r.sl i q hq
        refine ⟨v, h1, h2.upB rfl rfl rfl rfl fun b u hb hn => ?_⟩
        have z := ne hb
        refine ⟨by rw [upd_ne z]; exact hb, fun w => hn (w.imp id fun y => by rw [upd_ne z] at y; exact y), fun w => w.imp (fun y => ?_) id⟩
        show ((upd B a o) b).or (F.F b) = none
        rw [upd_ne z]; exact y
      ds := R.r.ds }
  · by_cases q : b = a
    · subst q
      refine ⟨hM, hO, hF, fun on => ?_⟩
      obtain ⟨x, y, z, _⟩ := R.r.mo on
      exact ⟨fun e => R.r.oh _ x (e ▸ h), fun e => R.r.oh _ y (e ▸ h), fun e => R.r.oh _ z (e ▸ h)⟩
    · rw [upd_ne q] at hb; exact R.b b hb
theorem RelB.set (R : RelB K f F O B G s σ H) (h : B a = some o) : RelB K f F O (upd B a o') G s σ (upd H a o') := by
  have hb0 : B a ≠ none := by rw [h]; intro z; cases z
  have gD := R.gn h
  have up : ∀ {b : Addr}, (O b ∨ upd B a o' b ≠ none) → (O b ∨ B b ≠ none) := fun {b} w => w.imp id fun z => by
    by_cases q : b = a
    · subst q; exact hb0
    · rw [upd_ne q] at z; exact z
  have dn : ∀ {b : Addr}, (O b ∨ B b ≠ none) → (O b ∨ upd B a o' b ≠ none) := fun {b} w => w.imp id fun z => by
    by_cases q : b = a
    · subst q; rw [upd_same]; intro z; cases z
    · rw [upd_ne q]; exact z
  refine ⟨?_, fun b hb => ?_, R.pk⟩
  · exact {
      gh := fun b u hb => by rw [upd_ne (fun z => by rw [z, gD] at hb; cases hb)]; exact R.r.gh b u hb
      fh := fun b u m hb => by
        have hb : ((upd B a o') b).or (F.F b) = some u := hb
        by_cases q : b = a
        · subst q; rw [upd_same] at hb ⊢; exact hb
        · rw [upd_ne q] at hb ⊢; exact R.r.fh b u m hb
      go := fun b hb => R.r.go b (up hb)
      oh := fun b hb => by
        by_cases q : b = a
        · subst q; rw [upd_same]; intro z; cases z
        · rw [upd_ne q]; exact R.r.oh b (up hb)
      mh := fun b hb => by
        by_cases q : b = a
        · subst q; rw [upd_same]; intro z; cases z
        · rw [upd_ne q]; exact R.r.mh b hb
      mo := fun hb => by
        obtain ⟨x, y, z, d, e⟩ := R.r.mo hb
        exact ⟨dn x, dn y, dn z, d, e⟩
      tm := fun p hp => ⟨dn (R.r.tm p hp).1, (R.r.tm p hp).2⟩
      tb := fun p hp => (R.r.tb p hp).keep (fun _ _ _ z => z) (upd_ne fun e => (R.b a hb0).1 (e ▸ (R.r.tm p hp).2))
      pk := fun en he => (R.pk en he).ups fun b hb => by
        by_cases q : b = a
        · rw [q]; exact (R.b a hb0).2.2.1
        · rw [upd_ne q] at hb; exact (R.b b hb).2.2.1
      dr := fun hb => by
        obtain ⟨x, y, z⟩ := (R.b a hb0).2.2.2 hb
        exact (R.r.dr hb).keep (upd_ne x.symm) (upd_ne y.symm) (upd_ne z.symm)
      ln := R.r.ln
      sl := fun i q hq => by
        obtain ⟨v, h1, h2⟩ := R.r.sl i q hq
        refine ⟨v, h1, h2.upB rfl rfl rfl rfl fun b u hb hn => ?_⟩
        have z : b ≠ a := fun e => hn (Or.inr (e ▸ hb0))
        refine ⟨by rw [upd_ne z]; exact hb, fun w => hn (up w), fun w => w.imp (fun y => ?_) id⟩
        show ((upd B a o') b).or (F.F b) = none
        rw [upd_ne z]; exact y
      ds := R.r.ds }
  · by_cases q : b = a
    · subst q; exact R.b b hb0
    · rw [upd_ne q] at hb; exact R.b b hb
theorem RelB.done {vs : List V} {ds : List PyData} (R : RelB K f F O B G s σ H) (hp : B p = some (.lst vs)) (hds : ∀ G', Ex G G' → (∀ a o, a ≠ p → B a = some o → G' a = some o) → DpAll K G' vs ds) : ∃ G', Ex G G' ∧ Rel K (fo f F O) G' s σ H ∧ VRf K (fo f F O) G' H s σ (.own ds) (.ref p) := by
  have hpn : B p ≠ none := by rw [hp]; intro z; cases z
  let G1 : Hp := fun a => if a = p then G a else (B a).or (G a)
  have e1 : Ex G G1 := fun a o h => by
    show (if a = p then G a else (B a).or (G a)) = some o
    by_cases q : a = p
    · rw [if_pos q]; exact h
    · rw [if_neg q]
      cases w : B a with
      | none => exact h
      | some u => rw [R.gn w] at h; cases h
  have g1 : ∀ a o, a ≠ p → B a = some o → G1 a = some o := fun a o ne h => by
    show (if a = p then G a else (B a).or (G a)) = some o
    rw [if_neg ne, h]; rfl
  have nB : ∀ {a : Addr}, B a = none → G1 a = G a := fun {a} h => by
    show (if a = p then G a else (B a).or (G a)) = G a
    rw [h]; split <;> rfl
  have gp : G1 p = none := by
    show (if p = p then G p else (B p).or (G p)) = none
    rw [if_pos rfl]; exact R.gn hp
  have bO : ∀ {a : Addr}, ¬ (O a ∨ B a ≠ none) → B a = none := fun {a} h => by
    cases q : B a with
    | none => rfl
    | some u => exact absurd (Or.inr (by rw [q]; intro z; cases z)) h
  have R1 : Rel K (fo f F O) G1 s σ H := {
    gh := fun a o h => by
      have h : (if a = p then G a else (B a).or (G a)) = some o := h
      by_cases q : a = p
      · rw [if_pos q] at h; exact R.r.gh a o h
      · rw [if_neg q] at h
        cases w : B a with
        | none => rw [w] at h; exact R.r.gh a o h
        | some u => rw [w] at h; cases h; exact R.at w
    fh := fun a o m h => R.r.fh a o m (by
      show (B a).or (F.F a) = some o
      cases w : B a with
      | none => exact h
      | some u => have := (R.b a (by rw [w]; intro z; cases z)).2.2.1; rw [show F.F a = some o from h] at this; cases this)
    go := fun a h => by
      have : B a = none := by
        cases w : B a with
        | none => rfl
        | some u => exact absurd h (R.b a (by rw [w]; intro z; cases z)).2.1
      rw [nB this]; exact R.r.go a (Or.inl h)
    oh := fun a h => R.r.oh a (Or.inl h)
    mh := R.r.mh
    mo := fun h => by
      obtain ⟨x, y, z, d, e⟩ := R.r.mo h
      have c : ∀ {a : Addr}, (a = F.m ∨ a = F.l ∨ a = F.c) → (O a ∨ B a ≠ none) → O a := fun {a} w h2 => h2.elim id fun n => by
        obtain ⟨n1, n2, n3⟩ := (R.b a n).2.2.2 h
        rcases w with w | w | w
        · exact absurd w n1
        · exact absurd w n2
        · exact absurd w n3
      exact ⟨c (Or.inl rfl) x, c (Or.inr (Or.inl rfl)) y, c (Or.inr (Or.inr rfl)) z, d, e⟩
    tm := fun p hp => ⟨(R.r.tm p hp).1.elim id fun z => absurd (R.r.tm p hp).2 (R.b _ z).1, (R.r.tm p hp).2⟩
    tb := fun p hp => (R.r.tb p hp).keep (fun _ _ _ z => e1 _ _ z) rfl
    pk := fun en he => (R.pk en he).ex e1
    dr := R.r.dr
    ln := R.r.ln
    sl := fun i q hq => by
      obtain ⟨v, h1, h2⟩ := R.r.sl i q hq
      refine ⟨v, h1, ?_⟩
      have h3 : VR K (fo f (F.ups B) fun a => O a ∨ B a ≠ none) G1 H q v := by
        cases q with
        | dat d => exact Dp.ex e1 _ h2
        | drw => exact h2
        | val _ => exact h2
        | dgf _ => obtain ⟨p0, xs0, z1, z2, z3⟩ := h2; exact ⟨p0, xs0, z1, e1 _ _ z2, z3.ex e1⟩
        | abs _ => exact fun G9 e9 => h2 G9 (e1.trans e9)
        | own ds =>
          obtain ⟨b, vs, rfl, k1, k2, k3, k4, k5⟩ := h2
          exact ⟨b, vs, rfl, k1, by rw [nB (bO k3)]; exact k2, k3, k4, Dp.exAll e1 _ k5⟩
        | byr ds =>
          obtain ⟨b, vs, rfl, k1, k2, k3, k4, k5, k6⟩ := h2
          exact ⟨b, vs, rfl, k1, by rw [nB (bO k3)]; exact k2, k3, k4, Dp.exAll e1 _ k5, k6⟩
        | lat _ ds =>
          obtain ⟨b, vs, rfl, k1, k2, k3, k4, k5, k6⟩ := h2
          exact ⟨b, vs, rfl, k1, by rw [nB (bO k3)]; exact k2, k3, k4, Dp.exAll e1 _ k5, k6⟩
        | dct ds =>
          obtain ⟨b, vs, rfl, k1, k2, k3, k4, k5, k6⟩ := h2
          exact ⟨b, vs, rfl, k1, by rw [nB (bO k3)]; exact k2, k3, k4, k5, Dp.exAll e1 _ k6⟩
        | dcg ds =>
          obtain ⟨b, vs, rfl, k1, k2, k3, k4, k5⟩ := h2
          exact ⟨b, vs, rfl, k1, by rw [nB (bO k3)]; exact k2, k3, k4, k5.ex e1⟩
      refine h3.upB rfl rfl rfl rfl fun b u hb hn => ⟨hb, fun z => hn (Or.inl z), fun w => w.imp (fun y => ?_) id⟩
      have y : (B b).or (F.F b) = none := y
      rw [bO hn] at y; exact y
    ds := R.r.ds }
  obtain ⟨n1, n2, n3, n4⟩ := R.b p hpn
  refine ⟨G1, e1, R1, ⟨p, vs, rfl, R.at hp, gp, n2, Or.inl n3, hds G1 e1 g1⟩, fun _ i q h1 h2 h3 => ?_⟩
  obtain ⟨v, h4, h5⟩ := R.r.sl i q h1
  rw [h3] at h4
  cases h4
  cases q with
  | dat d => cases h2
  | drw => cases h2
  | val _ => cases h2
  | dgf _ => cases h2
  | abs _ => cases h2
  | own ds => obtain ⟨p, _, e, _, _, h6, _⟩ := h5; cases e; exact h6 (Or.inr hpn)
  | byr ds => obtain ⟨p, _, e, _, _, h6, _⟩ := h5; cases e; exact h6 (Or.inr hpn)
  | lat _ ds => obtain ⟨p, _, e, _, _, h6, _⟩ := h5; cases e; exact h6 (Or.inr hpn)
  | dct ds => obtain ⟨p, _, e, _, _, h6, _⟩ := h5; cases e; exact h6 (Or.inr hpn)
  | dcg ds => obtain ⟨p, _, e, _, _, h6, _⟩ := h5; cases e; exact h6 (Or.inr hpn)
end
end Sk
set_option Elab.async false
set_option linter.all false
set_option maxRecDepth 100000
set_option maxHeartbeats 2000000
namespace Sk
open PySem PySem.Spec PyProof.Rows L2
open Evl (Ex)
abbrev HN := (Sg → List (List PyData) → Prop) → Sg → List (List PyData) → Prop
def NstOk (K : PySem.W.Frag) (G B : Hp) (p : Addr) (L : List (List PyData)) : Prop := ∃ ps : List Addr, B p = some (.lst (ps.map V.ref)) ∧ (p :: ps).Nodup ∧ Paired (fun a ds => ∃ vs, B a = some (.lst vs) ∧ DpAll K G vs ds) ps L
theorem paired_get {α β : Type} {R : α → β → Prop} : ∀ {xs : List α} {ys : List β} {i : Nat} {y : β}, Paired R xs ys → ys[i]? = some y → ∃ x, xs[i]? = some x ∧ R x y
  | _, _, _, _, .nil, h => by simp at h
  | _, _, 0, _, .cons r _, h => by simp at h; subst h; exact ⟨_, rfl, r⟩
  | _, _, i + 1, _, .cons _ t, h => by
    obtain ⟨x, a, b⟩ := paired_get (i := i) t (by simpa using h)
    exact ⟨x, by simpa using a, b⟩
theorem paired_set {α β : Type} {R R' : α → β → Prop} : ∀ {xs : List α} {ys : List β} {i : Nat} {x : α} {y : β}, xs.Nodup → Paired R xs ys → xs[i]? = some x → R' x y → (∀ a b, a ≠ x → R a b → R' a b) → Paired R' xs (ys.set i y)
  | _, _, _, _, _, _, .nil, h, _, _ => by simp at h
  | a :: xs, b :: ys, 0, x, y, nd, .cons r t, h, h2, h3 => by
    simp at h; subst h
    obtain ⟨n1, n2⟩ := List.nodup_cons.mp nd
    refine .cons h2 ?_
    have go : ∀ {us : List α} {ws : List β}, a ∉ us → Paired R us ws → Paired R' us ws := fun {us ws} n t => by
      induction t with
      | nil => exact .nil
      | cons r _ ih => exact .cons (h3 _ _ (fun e => n (by rw [e]; exact List.mem_cons_self)) r) (ih fun e => n (List.mem_cons_of_mem _ e))
    exact go n1 t
  | a :: xs, b :: ys, i + 1, x, y, nd, .cons r t, h, h2, h3 => by
    obtain ⟨n1, n2⟩ := List.nodup_cons.mp nd
    have h' : xs[i]? = some x := by simpa using h
    exact .cons (h3 _ _ (fun e => n1 (by rw [e]; exact List.mem_of_getElem? h')) r) (paired_set n2 t h' h2 h3)
theorem paired_mono {α β : Type} {R R' : α → β → Prop} {xs : List α} {ys : List β} (h : Paired R xs ys) (m : ∀ a b, R a b → R' a b) : Paired R' xs ys := by
  induction h with
  | nil => exact .nil
  | cons r _ ih => exact .cons (m _ _ r) ih
section
variable {K : PySem.W.Frag} {f F : Fr} {O : Addr → Prop} {B G G' H H' : Hp} {s : Sg} {σ : L2.St} {a p : Addr} {o o' : HO} {L : List (List PyData)}
theorem NstOk.ex (h : NstOk K G B p L) (e : Ex G G') : NstOk K G' B p L := by
  obtain ⟨ps, h1, h2, h3⟩ := h
  exact ⟨ps, h1, h2, paired_mono h3 fun a ds ⟨vs, b1, b2⟩ => ⟨vs, b1, Dp.exAll e _ b2⟩⟩
theorem NstOk.done (R : RelB K f F O B G s σ H) (h : NstOk K G B p L) : ∃ G', Ex G G' ∧ Rel K (fo f F O) G' s σ H ∧ VRf K (fo f F O) G' H s σ (.own (L.map PyData.list)) (.ref p) := by
  obtain ⟨ps, h1, h2, h3⟩ := h
  obtain ⟨n1, n2⟩ := List.nodup_cons.mp h2
  refine R.done h1 fun G' e g => ?_
  have go : ∀ {us : List Addr} {ws : List (List PyData)}, (∀ u ∈ us, u ≠ p) → Paired (fun a ds => ∃ vs, B a = some (.lst vs) ∧ DpAll K G vs ds) us ws → DpAll K G' (us.map V.ref) (ws.map PyData.list) := fun {us ws} n t => by
    induction t with
    | nil => exact .nil
    | cons r _ ih =>
      obtain ⟨vs, b1, b2⟩ := r
      exact .cons (.lst (Or.inl (Or.inl (g _ _ (n _ List.mem_cons_self) b1))) (Dp.exAll e _ b2)) (ih fun u hu => n u (List.mem_cons_of_mem _ hu))
  exact go (fun u hu e => n1 (e ▸ hu)) h3
end
@[simp] def neach (g : HG) (t : HN) (Q : Sg → List (List PyData) → Prop) : List PyData → Sg → List (List PyData) → Prop
  | [], s, L => Q s L
  | d :: ds, s, L => g d s fun s1 => t (neach g t Q ds) s1 L
@[simp] def nFor (it : HI) (g : HG) (t : HN) : HN := fun Q s L => it s fun ds s1 => neach g t Q ds s1 L
@[simp] def nIf (c : HT) (t : HN) : HN := fun Q s L => c s fun b s1 => if b = true then t Q s1 L else Q s1 L
@[simp] def nApp (tk tv : HE) : HN := fun Q s L => tk s fun q s1 => ∃ k n l, q = .dat (.int k) ∧ ixN L.length k = some n ∧ L[n]? = some l ∧ l.length < 100000 ∧ tv s1 fun p s2 => ∃ x, p.frz = some x ∧ Q s2 (L.set n (l ++ [x]))
section
variable {X : Cx} {f : Fr} {e a b c : Expr} {es : List Expr} {st : Stmt} {sts rest : List Stmt} {tk tv : HE} {tt : HT} {tn : HN} {g : HG} {ws : List Nat} {it : HI} {j : Nat} {pos : Pos}
end
end Sk
set_option Elab.async false
set_option linter.all false
set_option maxRecDepth 100000
set_option maxHeartbeats 2000000
namespace Sk
open PySem PySem.Spec PyProof.Rows L2
open Evl (Ex)
theorem Rel.free {K : PySem.W.Frag} {f : Fr} {G H : Hp} {s : Sg} {σ : L2.St} {j : Nat} {x : Option V} (R : Rel K f G s σ H) : Rel K f G (s.off j) (σ.set j x) H where
  gh := R.gh
  fh := R.fh
  go := R.go
  oh := R.oh
  mh := R.mh
  mo := R.mo
  tm := R.tm
  tb := R.tb
  pk := R.pk
  dr := R.dr
  ln := by simp only [Sg.off, List.length_set]; exact R.ln
  sl := fun i q hq => by
    rcases set_get hq with ⟨_, e2, _⟩ | ⟨e, h2⟩
    · cases e2
    · obtain ⟨v, h3, h4⟩ := R.sl i q h2
      exact ⟨v, by rw [List.getElem?_set_ne e]; exact h3, h4⟩
  ds := fun a b pa pb w ne ha hb ma mb wa wb => by
    rcases set_get ha with ⟨_, e2, _⟩ | ⟨e, h2⟩
    · cases e2
    rcases set_get hb with ⟨_, e2', _⟩ | ⟨e', h2'⟩
    · cases e2'
    rw [List.getElem?_set_ne e] at wa
    rw [List.getElem?_set_ne e'] at wb
    exact R.ds a b pa pb w ne h2 h2' ma mb wa wb
section
variable {X : Cx} {f : Fr} {st1 st2 : Stmt} {rest : List Stmt} {tn : HN} {tu : HS} {it : HI} {vs : List Nat} {i j : Nat}
end
end Sk
set_option Elab.async false
set_option linter.all false
set_option maxRecDepth 100000
set_option maxHeartbeats 2000000
namespace Sk
open PySem PySem.Spec PyProof.Rows L2
open PySem.W (Datum DatumOrd Tup T3 T4)
open Evl (Ex)
section
variable {K : PySem.W.Frag} {f F : Fr} {O : Addr → Prop} {B G G1 H H1 : Hp} {s s1 : Sg} {σ σ1 : L2.St} {cs : List Addr}
end
@[simp] def npick (jk : Nat) (tt : HT) : List (List PyData) → Sg → (List Bool → Prop) → Prop
  | [], _, C => C []
  | l :: ls, s, C => tt (s.put jk (.dat (.list l))) fun b s1 => s1 = s.put jk (.dat (.list l)) ∧ npick jk tt ls s fun bs => C (b :: bs)
section
variable {X : Cx} {f : Fr} {st1 st2 : Stmt} {jk ji jv j : Nat} {vs : List Nat} {tt : HT}
end
end Sk
set_option Elab.async false
set_option linter.all false
set_option maxRecDepth 100000
set_option maxHeartbeats 2000000
namespace Sk
open PySem
abbrev RE := NestedKey × Value × Value
def reE (w : World) (x : RE) : DictEntry := ⟨x.1.hash w, x.2.1, x.2.2⟩
section
variable {prog : Program} {w : World} {A : Around} {E : Value → Shared → Prop} {s : Shared} {d : Addr} {o : Obj} {es : Array DictEntry} {ep : Nat} {xs : List RE} {k : NestedKey} {key v : Value}
end
end Sk
namespace Sk
open PySem PySem.Calls
def GAt (w : World) (h : Heap) (d : Addr) (xs : List RE) : Prop :=
  (∀ x ∈ xs, NestedIs h x.1 x.2.1 ∧ x.1.depth ≤ 8) ∧ (xs.map (·.1)).Nodup ∧ ∃ o es ep, h.get? d = some o ∧ o.ExactDict ∧ o.data = .dict es ep ∧ es.toList = xs.map (reE w)
def gval (xs : List RE) (k : NestedKey) : Option Value := (xs.find? fun x => decide (x.1 = k)).map (·.2.2)
section
variable {xs : List RE} {k : NestedKey} {key v : Value}
end
section
variable {prog : Program} {w : World} {A : Around} {E : Value → Shared → Prop} {s : Shared} {d : Addr} {xs : List RE} {k : NestedKey} {key v : Value}
theorem GAt.lt {h : Heap} (m : GAt w h d xs) : d < h.objs.size := let ⟨_, _, _, _, _, h1, _⟩ := m; Heap.lt_size h1
theorem GAt.keep {h h' : Heap} (m : GAt w h d xs) (hd : ∀ o, h.get? d = some o → h'.get? d = some o) (hk : ∀ b o vs n, h.get? b = some o → o.data = .seq vs n → h'.get? b = some o) : GAt w h' d xs := by
  obtain ⟨a, b, o, es, ep, h1, h2⟩ := m
  exact ⟨fun x hx => ⟨NestedIs.at hk _ _ (a x hx).1, (a x hx).2⟩, b, o, es, ep, hd o h1, h2⟩
variable {T : String} {arg : Addr} {fp wr : List Addr} {n : Nat} {Rl : Nat → Value → Value → Prop} {OK : Heap → Prop} {ps : List RE}
end
end Sk
set_option Elab.async false
set_option linter.all false
set_option maxRecDepth 100000
set_option maxHeartbeats 2000000
namespace Sk
open PySem PySem.Spec PyProof.Rows L2
open Evl (Ex)
def putG (xs : List GEnt) (k : NestedKey) (y v : V) : List GEnt := if (xs.any fun x => decide (x.1 = k)) = true then xs.map (fun x => if x.1 = k then (x.1, x.2.1, v) else x) else xs ++ [(k, y, v)]
def RdG (w : World) (H : Hp) (a : Addr) (xs : List GEnt) : Prop := ∃ o, H a = some (GDo w a (o, xs))
section
variable {X : Cx} {pins : List (Addr × Obj)} {σ : L2.St} {H : Hp} {s : Shared} {a : Addr} {xs : List GEnt} {rs : List RE} {k : NestedKey} {y v : V} {u r : Value} {d : PyData}
mutual
theorem dp_nested (I : Inv X pins σ H s) : ∀ (d : PyData) {v : V} {u : Value}, imm d = true → Dp X.K H v d → RelV v u → NestedIs s.heap (keyN d) u
  | .none, _, _, _, h, r => by
    cases h
    cases r
    exact .none
  | .bool b, _, _, _, h, r => by
    cases h
    cases r
    exact .bool rfl
  | .int i, _, _, _, h, r => by
    cases h
    obtain ⟨t, rfl⟩ := r
    exact .int i t
  | .str x, _, _, _, h, r => by
    cases h
    obtain ⟨t, rfl⟩ := r
    exact .text x t
  | .list _, _, _, i, _, _ => by simp [imm] at i
  | .dict _, _, _, i, _, _ => by simp [imm] at i
  | .tuple ds, _, _, i, h, r => by
    cases h with
    | tup hs ha =>
      cases r
      obtain ⟨its, rv, ⟨o, h1, h2, n, h3⟩, _⟩ := I.tuple hs
      exact .tup h1 h2 h3 (by simpa using dp_nesteds I ds (by simpa [imm] using i) ha rv)
theorem dp_nesteds (I : Inv X pins σ H s) : ∀ (ds : List PyData) {vs : List V} {us : List Value}, immAll ds = true → DpAll X.K H vs ds → Vals vs us → NestedAll s.heap (keyNs ds) us
  | [], _, _, _, h, r => by
    cases h
    cases r
    exact .nil
  | d :: ds, _, _, i, h, r => by
    cases h with
    | cons h1 h2 =>
      cases r with
      | cons r1 r2 =>
        have i' : imm d = true ∧ immAll ds = true := by simpa [immAll] using i
        exact .cons (dp_nested I d i'.1 h1 r1) (dp_nesteds I ds i'.2 h2 r2)
end
variable {A : Around} {E : Value → Shared → Prop}
end
section
variable {X : Cx} {a b c o e i value : Expr} {td ty tv : TE} {pos pos' : Pos}
end
end Sk
set_option Elab.async false
set_option linter.all false
set_option maxRecDepth 100000
set_option maxHeartbeats 2000000
namespace Sk
open PySem PySem.Spec PyProof.Rows L2
open Evl (Ex)
def getG (kvs : List (PyData × PyData)) (d : PyData) : Option PyData := (kvs.find? fun kv => decide (keyN kv.1 = keyN d)).map (·.2)
def putDG (kvs : List (PyData × PyData)) (d x : PyData) : List (PyData × PyData) := if (kvs.any fun kv => decide (keyN kv.1 = keyN d)) = true then kvs.map (fun kv => if keyN kv.1 = keyN d then (kv.1, x) else kv) else kvs ++ [(d, x)]
def PV.dg : PV → Option (List (PyData × PyData))
  | .dcg kvs => some kvs
  | .dgf kvs => some kvs
  | _ => none
section
variable {K : PySem.W.Frag} {G H : Hp} {f : Fr} {xs : List GEnt} {kvs : List (PyData × PyData)} {y v : V} {d x : PyData} {p : PV}
abbrev GQ (K : PySem.W.Frag) (G : Hp) : GEnt → PyData × PyData → Prop := fun x kv => x.1 = keyN kv.1 ∧ KeyOk kv.1 ∧ Dp K G x.2.1 kv.1 ∧ Dp K G x.2.2 kv.2
theorem GRel.nil : GRel K G [] [] := ⟨rfl, (fun _ h => by cases h), .nil, .nil⟩
theorem GRel.pairs : ∀ {kvs : List (PyData × PyData)} {xs : List GEnt}, GRel K G xs kvs → Paired (GQ K G) xs kvs
  | [], xs, h => by
    have : xs = [] := by simpa using congrArg List.length h.ks
    subst this
    exact .nil
  | kv :: kvs, xs, h => by
    obtain ⟨h1, h2, h3, h4⟩ := h
    match xs, h1, h3, h4 with
    | x :: xs, h1, h3, h4 =>
      simp only [List.map_cons, List.cons.injEq] at h1
      cases h3 with
      | cons a1 a2 =>
        cases h4 with
        | cons b1 b2 => exact .cons ⟨h1.1, h2 kv List.mem_cons_self, a1, b1⟩ (GRel.pairs ⟨h1.2, fun z hz => h2 z (List.mem_cons_of_mem _ hz), a2, b2⟩)
theorem GRel.of : ∀ {xs : List GEnt} {kvs : List (PyData × PyData)}, Paired (GQ K G) xs kvs → GRel K G xs kvs
  | _, _, .nil => GRel.nil
  | _, _, .cons h t => by
    obtain ⟨h1, h2, h3, h4⟩ := GRel.of t
    refine ⟨by rw [List.map_cons, List.map_cons, h1, h.1], fun kv hk => ?_, .cons h.2.2.1 h3, .cons h.2.2.2 h4⟩
    rcases List.mem_cons.mp hk with rfl | hk
    · exact h.2.1
    · exact h2 kv hk
theorem gq_any : ∀ {xs : List GEnt} {kvs : List (PyData × PyData)}, Paired (GQ K G) xs kvs → (xs.any fun z => decide (z.1 = keyN d)) = (kvs.any fun kv => decide (keyN kv.1 = keyN d))
  | _, _, .nil => rfl
  | _, _, .cons h t => by rw [List.any_cons, List.any_cons, gq_any t, h.1]
theorem gq_map (hx : Dp K G v x) : ∀ {xs : List GEnt} {kvs : List (PyData × PyData)}, Paired (GQ K G) xs kvs → Paired (GQ K G) (xs.map fun z => if z.1 = keyN d then (z.1, z.2.1, v) else z) (kvs.map fun kv => if keyN kv.1 = keyN d then (kv.1, x) else kv)
  | _, _, .nil => .nil
  | _, _, .cons (a := z) (b := kv) h t => by
    rw [List.map_cons, List.map_cons]
    refine .cons ?_ (gq_map hx t)
    by_cases e : keyN kv.1 = keyN d
    · rw [if_pos (h.1.trans e), if_pos e]
      exact ⟨h.1, h.2.1, h.2.2.1, hx⟩
    · rw [if_neg (fun q => e (h.1.symm.trans q)), if_neg e]
      exact h
theorem gq_snoc {z : GEnt} {kv : PyData × PyData} (h : GQ K G z kv) : ∀ {xs : List GEnt} {kvs : List (PyData × PyData)}, Paired (GQ K G) xs kvs → Paired (GQ K G) (xs ++ [z]) (kvs ++ [kv])
  | _, _, .nil => .cons h .nil
  | _, _, .cons h1 t => .cons h1 (gq_snoc h t)
theorem GRel.put (h : GRel K G xs kvs) (hd : Dp K G y d) (ok : KeyOk d) (hx : Dp K G v x) : GRel K G (putG xs (keyN d) y v) (putDG kvs d x) := by
  refine GRel.of ?_
  unfold putG putDG
  rw [gq_any h.pairs]
  split
  · exact gq_map hx h.pairs
  · exact gq_snoc ⟨rfl, ok, hd, hx⟩ h.pairs
theorem GRel.len (h : GRel K G xs kvs) : xs.length = kvs.length := by simpa using congrArg List.length h.ks
theorem VR.dg (h : VR K f G H p v) (g : Ex G H) (e : p.dg = some kvs) : ∃ a xs, v = .ref a ∧ RdG f.w H a xs ∧ GRel K G xs kvs := by
  cases p with
  | dcg k2 =>
    cases e
    obtain ⟨a, q, rfl, h1, _, _, _, h2⟩ := h
    exact ⟨a, q.2, rfl, ⟨q.1, h1⟩, h2⟩
  | dgf k2 =>
    cases e
    obtain ⟨a, q, rfl, h1, h2⟩ := h
    exact ⟨a, q.2, rfl, ⟨q.1, g _ _ h1⟩, h2⟩
  | _ => cases e
end
@[simp] def hDnewG : HE := fun s C => C (.dcg []) s
def dgetGW : List PV → (PV → Prop) → Prop := fun ps C => match ps with
  | [p, .dat d] => ∃ kvs x, p.dg = some kvs ∧ KeyOk d ∧ getG kvs d = some x ∧ C (.dat x)
  | _ => False
def dinGW (neg : Bool) : List PV → (PV → Prop) → Prop := fun ps C => match ps with
  | [.dat d, p] => ∃ kvs, p.dg = some kvs ∧ KeyOk d ∧ C (.dat (.bool (if neg then !(getG kvs d).isSome else (getG kvs d).isSome)))
  | _ => False
@[simp] def hDputG (j : Nat) (t ti : HE) : HS := fun D s => t s fun p s1 => ∃ x, p.frz = some x ∧ (∃ kvs, s1.sl[j]? = some (some (.dcg kvs))) ∧ ti s1 fun q s2 => ∃ d kvs, q = .dat d ∧ KeyOk d ∧ s2.sl[j]? = some (some (.dcg kvs)) ∧ kvs.length < 100000 ∧ D.nx (s2.put j (.dcg (putDG kvs d x)))
@[simp] def hGet3 (j : Nat) (ta : HA) : HE := fun s C => (∃ p kvs, s.sl[j]? = some (some p) ∧ p.dg = some kvs) ∧ ta s fun ps s1 => ∃ d x p kvs, ps = [.dat d, .dat x] ∧ s1.sl[j]? = some (some p) ∧ p.dg = some kvs ∧ KeyOk d ∧ C (.dat ((getG kvs d).getD x)) s1
@[simp] def hSetd (j : Nat) (ta : HA) : HE := fun s C => (∃ kvs, s.sl[j]? = some (some (.dcg kvs))) ∧ ta s fun ps s1 => ∃ d x kvs, ps = [.dat d, .dat x] ∧ s1.sl[j]? = some (some (.dcg kvs)) ∧ KeyOk d ∧ kvs.length < 100000 ∧ (∀ y, getG kvs d = some y → C (.dat y) s1) ∧ (getG kvs d = none → C (.dat x) (s1.put j (.dcg (putDG kvs d x))))
section
variable {X : Cx} {f : Fr} {a b c o e i value : Expr} {t ti : HE} {ta : HA} {oa ob : HA → HA} {pos pos' apos cpos : Pos}
def mergeDG (kvs more : List (PyData × PyData)) : List (PyData × PyData) := more.foldl (fun acc kv => putDG acc kv.1 kv.2) kvs
end
end Sk
set_option Elab.async false
set_option linter.all false
set_option maxRecDepth 100000
set_option maxHeartbeats 2000000
namespace Sk
open PySem PySem.Spec PyProof.Rows L2
open Evl (Ex)
@[simp] def hVG (j : Nat) : HE := fun s C => ∃ p kvs, s.sl[j]? = some (some p) ∧ p.dg = some kvs ∧ C (.dgf kvs) (s.put j (.dgf kvs))
@[simp] def hiG (t : HE) : HI := fun s C => t s fun p s1 => ∃ kvs, p.dg = some kvs ∧ C (kvs.map (·.1)) s1
section
variable {X : Cx} {f : Fr} {a e : Expr} {t : HE}
end
end Sk
set_option Elab.async false
set_option linter.all false
set_option maxRecDepth 100000
set_option maxHeartbeats 2000000
namespace Sk
open PySem PySem.Spec PyProof.Rows L2
open Evl (Ex)
@[simp] def hFz (t : HE) : HE := fun s C => t s fun p s1 => ∃ kvs, p.dg = some kvs ∧ C (.dgf kvs) s1
@[simp] def hEF (t : HE) (r : HA) : HA := fun s C => t s fun p s1 => ∃ kvs, p.dg = some kvs ∧ r s1 fun ps s2 => C (.dgf kvs :: ps) s2
section
variable {X : Cx} {f : Fr} {e : Expr} {es : List Expr} {t : HE} {ta : HA}
end
end Sk
set_option Elab.async false
set_option linter.all false
set_option maxRecDepth 100000
set_option maxHeartbeats 2000000
namespace Sk
open PySem PySem.Spec PyProof.Rows L2
open Evl (Ex)
section
variable {X : Cx} {f : Fr}
end
section
variable {X : Cx} {f : Fr} {a : Expr} {oa : HA → HA} {p q pos : Pos}
end
@[simp] def hOff (i : Nat) (D : HD) : HD := ⟨fun s => D.nx (s.off i), D.rt, fun s => D.bk (s.off i), fun s => D.ct (s.off i)⟩
@[simp] def hTry (y : Str) (i : Nat) (tb : HX → HS) (ts : HS) (Zo : HX) : HS := fun D s => tb (fun x s1 => x ∈ exNames ∧ i < s1.sl.length ∧ ((exSub x y = true ∧ ts (hOff i D) (s1.put i (excPV x))) ∨ (exSub x y = false ∧ Zo x s1))) D s
section
variable {K : PySem.W.Frag} {f : Fr} {G H : Hp} {s : Sg} {σ : L2.St} {i : Nat}
end
theorem Rel.to {K : PySem.W.Frag} {w : World} {T : Tbs} {e1 e2 : Option Ent} {F : Fr} {O : Addr → Prop} {G H : Hp} {s : Sg} {σ : L2.St} (R : Rel K (fo (f1 w T e1) F O) G s σ H) (h : ∀ en, e2 = some en → EntOk en (fo (f1 w T e2) F O) G) : Rel K (fo (f1 w T e2) F O) G s σ H :=
  R.re e2 fun en q => { (h en q) with }
theorem VRf.to {K : PySem.W.Frag} {w : World} {T : Tbs} {e1 e2 : Option Ent} {F : Fr} {O : Addr → Prop} {G H : Hp} {s : Sg} {σ : L2.St} {p : PV} {v : V} (V : VRf K (fo (f1 w T e1) F O) G H s σ p v) : VRf K (fo (f1 w T e2) F O) G H s σ p v := ⟨by cases p <;> exact V.1, V.2⟩
section
variable {X : Cx} {T : Tbs} {eo : Option Ent} {y n : Str} {i : Nat} {body suite : List Stmt} {b₀ : Stmt} {np pos pos' : Pos} {tb : HX → HS} {ts : HS} {Wout : WX} {Zo : HX} {CY : Addr}
end
end Sk
set_option Elab.async false
set_option linter.all false
set_option maxRecDepth 100000
set_option maxHeartbeats 2000000
namespace Sk
open PySem PySem.Spec PyProof.Rows L2
open Evl (Ex)
def EC (K : PySem.W.Frag) (mg : Str → Option Value) (y : Str) : Prop := ∃ C, ClsN K y C ∧ mg y = some (.ref C)
section
variable {X : Cx} {T : Tbs} {eo : Option Ent} {en : Ent} {W : WX} {Z : HX} {x y n : Str} {i j : Nat} {body suite : List Stmt} {b₀ : Stmt} {p q p2 np pos pos' : Pos} {tb : HX → HS} {ts : HS} {Wout : WX} {Zo : HX}
theorem nmC (e : EC X.K X.mg y) (hg : Gl X y) (al : y ∈ exAll := by decide) (hdb : (y == ("__debug__" : Str)) = false := by decide) : NmC X (.Name y q) y := by
  obtain ⟨C, c1, c2⟩ := e
  exact ⟨⟨C, c1, pe_glob hg c2 (v := .ref C) rfl hdb⟩, al⟩
end
theorem HasX.has {P : Program} {w : World} {T : Tbs} {K : PySem.W.Frag} {mg : Str → Option Value} {base : Heap} {k : Nat} {x : Str} {n : Nat} {sp : HSpX} (h : HasX P w T K mg base k x n sp) : Has P w T K mg base k x n (fun ps m C => sp ps m C fun _ _ => False) := by
  obtain ⟨fa, fd, ps, hl, G, hm, hk, hb⟩ := h.ex
  refine ⟨fa, fd, ps, hl, ⟨fun vs H Q E q => ?_, fun {A outer s H args us vs Q E} hgd hr e0 bb r q => ?_⟩, hm, hk, hb⟩
  · have := vals_len _ _ _ _ q
    rw [this, hl]
  · obtain ⟨f, G1, n1, ps1, C, x1, x2, x3, x4, x5, R, x6, x7, x8, x9⟩ := q
    have q2 : SpHX K w T n sp vs H Q (fun _ _ _ => False) := ⟨f, G1, n1, ps1, C, fun _ _ => False, x1, x2, x3, x4, x5, R, x6, x7, x8, x9, fun _ _ _ _ _ z => z.elim⟩
    refine codeAny_mono (G.go hgd hr e0 bb r q2) fun res s1 w1 => ?_
    match res, w1 with
    | .ok (.ret u), w1 => exact w1
    | .error e, w1 =>
      obtain ⟨_, _, _, _, _, _, _, _, _, _, _, _, z⟩ := w1
      exact z.elim
end Sk
set_option Elab.async false
set_option linter.all false
set_option maxRecDepth 100000
set_option maxHeartbeats 2000000
namespace Sk
open PySem PySem.Spec PyProof.Rows L2
open NdefX (NF CellsAt NScope ncx envF startF)
open Evl (Ex)
def PinO (a : Addr) (o : Obj) : HO := .ext fun h => h.get? a = some o
theorem pinO_at {P : Program} {w : World} {H : Hp} {h : Heap} {a : Addr} {o : Obj} (hok : HOk P w H h) (e : H a = some (PinO a o)) : h.get? a = some o := (hok a _ e).1
structure Lam where
  fa : Addr
  c : Addr
  q : Str
  params : Arguments
  body : Expr
  scope : Scope
  cl : List (Str × Addr)
  pm : Value
  ctv : Value
  cvs : List V
  cds : List PyData
abbrev Lam.obj (L : Lam) : Obj := PySem.W.kla_obj "<lambda>" L.q L.params L.body L.scope L.cl L.pm L.c L.ctv
abbrev Lam.nf (L : Lam) : NF := ⟨"<lambda>", L.q, L.params, [], L.scope, L.cl, L.c⟩
def lamR (L : Lam) : PySem.W.Frag → Hp → V → Prop := fun K G v => v = .ref L.fa ∧ G L.fa = some (PinO L.fa L.obj) ∧ G L.c = some (LamX.CodeO L.c L.q) ∧ DpAll K G L.cvs L.cds
section
variable {P : Program} {w : World} {K : PySem.W.Frag} {mg : Str → Option Value} {base : Heap} {CX : CXT} {k : Nat} {N ps fr : List Str} {L : Lam}
theorem lam_run {A : Around} {outer : List Env} {s : Shared} {H : Hp} {us : List Value} {vs : List V} {ws : List (Option V)} {Q : VK} {E : XK} {tb : TE} (S : NScope N ps fr L.scope) (hr : Room (k + 1) A) (e0 : Env0 P w K mg base A outer s H) (hf : H L.fa = some (PinO L.fa L.obj)) (hc : H L.c = some (LamX.CodeO L.c L.q))
    (C : CellsAt L.cl fr ws s.heap H) (r : Vals vs us) (hl : vs.length = ps.length) (hb : bindArgs (PySem.W.kla_fn "<lambda>" L.q L.params L.body L.scope L.cl L.pm (.ref L.c) L.ctv) ⟨us, []⟩ = pure (ps.zip us))
    (body : PE (ncx CX P w K mg base N L.nf L.fa A outer s H E) L.body tb) (ht : tb (startF N vs ws) H Q) : codeAny (model P w) A (.call (.ref L.fa) ⟨us, []⟩) (CR CX outer P w H s Q E) s := by
  have lim : s.heap.NoLimit := e0.mod.nolimit.keeps fun b o e => (e0.bs b o e).1
  have ho := pinO_at e0.hok hf
  refine PySem.W.kla_callFunE hr.depth ho rfl S.co S.gen rfl (NdefX.codeO_at e0.hok hc) ?_
  rw [hb]
  refine wpAny_pure (wpAny_newFunctionEnv S.nocell (fun y hy => S.par y.1 (List.of_mem_zip (show (y.1, y.2) ∈ ps.zip us from hy)).1) (fun h₁ hns hsb => ⟨lim.fresh _ hsb, ?_⟩) S.kind)
  have kp : ∀ b o, s.heap.get? b = some o → h₁.get? b = some o := fun b o e => hsb.extBut b o (Nat.ne_of_lt (Heap.lt_size e)) (Heap.get?_push_of_some _ e)
  have I : Inv (ncx CX P w K mg base N L.nf L.fa A outer s H E) [] (startF N vs ws) H { s with heap := h₁, toks := s.toks + (ps.zip us).length } := NdefX.inv_startN S hr.hd e0 hl r C hns kp
  refine PySem.W.kla_codeExpr (wpAny_mono (body.run [] _ (startF N vs ws) H Q I ht) (fun u s1 z => ?_) fun e s1 z => z)
  obtain ⟨v, H1, J, rv, q⟩ := z
  exact ⟨v, H1, J.os, J.bare, J.base, J.hok, rv, q⟩
end
theorem Rel.withData {K : PySem.W.Frag} {f : Fr} {G H : Hp} {ps : List PV} {n : Nat} {vs cvs : List V} {cds : List PyData} (R : Rel K f G ⟨ps.map some, n⟩ (vs.map some) H) (hm : ∀ p ∈ ps, p.mut = false) (h : DpAll K G cvs cds) (m : Nat) :
    Rel K f G ⟨(ps ++ cds.map PV.dat).map some ++ List.replicate m none, n⟩ (vs.map some ++ (cvs.map some ++ List.replicate m none)) H := by
  have lv : vs.length = ps.length := by simpa using R.ln
  have lc : cvs.length = cds.length := h.len
  have sl : ∀ (i : Nat) (p : PV), ((ps ++ cds.map PV.dat).map some ++ List.replicate m none)[i]? = some (some p) → p.mut = false ∧ ∃ v : V, (vs.map some ++ (cvs.map some ++ List.replicate m none))[i]? = some (some v) ∧ VR K f G H p v := fun i p hi => by
    have h1 := start_at _ _ _ _ hi
    rw [List.getElem?_map] at h1
    obtain ⟨p0, h2, e⟩ := Option.map_eq_some_iff.mp h1
    cases e
    by_cases q : i < ps.length
    · rw [List.getElem?_append_left q] at h2
      obtain ⟨v, h3, h4⟩ := R.sl i p (by show (ps.map some)[i]? = _; rw [List.getElem?_map, h2]; rfl)
      exact ⟨hm p (List.mem_of_getElem? h2), v, by rw [List.getElem?_append_left (by simp; omega)]; exact h3, h4⟩
    · rw [List.getElem?_append_right (by omega), List.getElem?_map] at h2
      obtain ⟨d, h5, e⟩ := Option.map_eq_some_iff.mp h2
      cases e
      obtain ⟨v, h6, h7⟩ := DpAll.at h h5
      refine ⟨rfl, v, ?_, h7⟩
      rw [List.getElem?_append_right (by simp; omega), List.length_map, lv, List.getElem?_append_left (by rw [List.length_map]; exact (List.getElem?_eq_some_iff.mp h6).1), List.getElem?_map, h6]
      rfl
  exact { R with
    ln := by simp [lv, lc]
    sl := fun i p hi => (sl i p hi).2
    ds := fun i j p q v ne hi hj mp => by rw [(sl i p hi).1] at mp; cases mp }
def Lko (K : PySem.W.Frag) (W : WX) (w : World) (T : Tbs) (eo : Option Ent) (Z : HX) : Prop := ∀ (x : Str) (a : Addr) (s : Sg) (σ : L2.St) (G H : Hp) (F : Fr) (O : Addr → Prop), ClsN K x a → Rel K (fo (f1 w T eo) F O) G s σ H → Z x s → W (.ref a) none σ H
@[simp] def hCallV (i : Nat) (R : PySem.W.Frag → Hp → V → Prop) (np : Nat) (spc : HSpX) (Z : HX) (ta : HA) : HE := fun s C => s.sl[i]? = some (some (.abs R)) ∧ ta s fun ps s' => ps.length = np ∧ (∀ p ∈ ps, p.isD = false) ∧ spc (ps.map PV.arg) s'.n (fun p n' => (ps.any PV.mut = true → p.imm = true) ∧ C p ⟨s'.sl, n'⟩) (fun x n' => Z x ⟨s'.sl, n'⟩)
structure CloRule (X : Cx) (a : Str) (i : Nat) (T : Tbs) (R : PySem.W.Frag → Hp → V → Prop) (np : Nat) (spc : HSpX) : Prop where
  c1 : ∀ {pn : List (Addr × Obj)} {xe : Value → Shared → Prop} {W : WX} {eo : Option Ent} {Z : HX} {e : Expr} {es : List Expr} {ta : HA} {p pos : Pos}, Takes (X.tr pn xe) W → Lko X.K W X.w T eo Z → PA (X.tr pn xe) (e :: es) (lfA X.K (f1 X.w T eo) ta) →
    starEach (e :: es) X.env = (false, eval e X.env) :: starEach es X.env → (backTo pos (starEach es X.env)).any (·.1) = false → PE (X.tr pn xe) (.Call (.Name a p) (e :: es) [] pos) (lf X.K (f1 X.w T eo) (hCallV i R np spc Z ta))
  c0 : ∀ {pn : List (Addr × Obj)} {xe : Value → Shared → Prop} {W : WX} {eo : Option Ent} {Z : HX} {p pos : Pos}, Takes (X.tr pn xe) W → Lko X.K W X.w T eo Z → PE (X.tr pn xe) (.Call (.Name a p) [] [] pos) (lf X.K (f1 X.w T eo) (hCallV i R np spc Z hNil))
def spLam (m : Nat) (hb : HX → HE) (cds : List PyData) : HSpX := fun ps n C Z => hb (fun x s => Z x s.n) ⟨(ps ++ cds.map PV.dat).map some ++ List.replicate m none, n⟩ fun p s => C p s.n
section
variable {X : Cx} {T : Tbs} {L : Lam} {N ps fr : List Str} {k : Nat} {hb : HX → HE}
theorem lam_call {pn : List (Addr × Obj)} {xe : Value → Shared → Prop} {W : WX} {eo : Option Ent} {Z : HX} (hgd : X.A.guards = some []) (hr : Room (k + 1) X.A) (S : NScope N ps fr L.scope) (hbind : ∀ us : List Value, us.length = ps.length → bindArgs (PySem.W.kla_fn "<lambda>" L.q L.params L.body L.scope L.cl L.pm (.ref L.c) L.ctv) ⟨us, []⟩ = pure (ps.zip us))
    (C0 : CellsAt L.cl fr (L.cvs.map some) X.s_0.heap X.H_0) (nf : ∀ y c, L.cl.lookup y = some c → c ∉ X.fs) (nx : ∀ y c, L.cl.lookup y = some c → c ∉ X.ex)
    (body : ∀ (A : Around) (outer : List Env) (s : Shared) (H : Hp) (E : XK) (en : Ent) (Z : HX), (A.deeper (envF L.nf L.fa s.heap.objs.size)).guards = some [] → Room k (A.deeper (envF L.nf L.fa s.heap.objs.size)) → Takes (ncx (L2.CX X.prog X.w) X.prog X.w X.K X.mg X.base N L.nf L.fa A outer s H E) (fun cls d _ H => E cls d H) → Lk X.K (fun cls d _ H => E cls d H) X.w T en Z → PE (ncx (L2.CX X.prog X.w) X.prog X.w X.K X.mg X.base N L.nf L.fa A outer s H E) L.body (lf X.K (f1 X.w T (some en)) (hb Z)))
    (tk : Takes (X.tr pn xe) W) (lk : Lko X.K W X.w T eo Z) {pins : List (Addr × Obj)} {s : Shared} {σ : L2.St} {H : Hp} {us : List Value} {vs : List V} {pvs : List PV} {G : Hp} {sg : Sg} {F : Fr} {O : Addr → Prop} {Q : VK} {C : PV → Sg → Prop} (I : Inv (X.tr pn xe) pins σ H s) (r : Vals vs us)
    (R : Rel X.K (fo (f1 X.w T eo) F O) G sg σ H) (V1 : VRs X.K (fo (f1 X.w T eo) F O) G H pvs vs) (hL : lamR L X.K G (.ref L.fa)) (hk : pvs.length = ps.length) (hD : ∀ p ∈ pvs, p.isD = false)
    (hsp : spLam (N.length - ps.length - fr.length) hb L.cds (pvs.map PV.arg) sg.n (fun p n' => (pvs.any PV.mut = true → p.imm = true) ∧ C p ⟨sg.sl, n'⟩) (fun x n' => Z x ⟨sg.sl, n'⟩))
    (kk : ∀ p s' G' H' v, C p s' → Ex G G' → Rel X.K (fo (f1 X.w T eo) F O) G' s' σ H' → VRf X.K (fo (f1 X.w T eo) F O) G' H' s' σ p v → Q v H') :
    wpAny (model X.prog X.w) X.A (call (.ref L.fa) us) (EP (X.tr pn xe) pins σ Q) xe s := by
  obtain ⟨_, h1, h2, h3⟩ := hL
  have C2 : CellsAt L.cl fr (L.cvs.map some) s.heap H := NdefX.CellsAt.later (X := X.tr pn xe) C0 nf nx I
  obtain ⟨⟨on, m, l, c, fF, fO, fM, fr', fw, fT, fe⟩, Gc, x1, x2, x3, x4, x5, R', x6, x7, x8, back⟩ := spH_core (k := ps.length) R V1 hk hD
  have x1 : fw = X.w := x1
  have x2 : fT = T := x2
  have x3 : fe = none := x3
  subst x1 x2 x3
  let f' : Fr := ⟨on, m, l, c, fF, fO, fM, fr', X.w, fT, none⟩
  have hl : vs.length = ps.length := by
    have := Paired.length V1
    omega
  have hu : us.length = ps.length := by rw [← r.length]; exact hl
  have lc : L.cvs.length = fr.length := by
    have := C2.len
    simpa using this
  let en : Ent := entOf f' Gc
  have RL := R'.withData x6 (Dp.exAll x8 _ h3) (N.length - ps.length - fr.length)
  have RE := RL.re (some en) fun en2 q => by cases q; exact { (entOf_ok RL) with }
  have lkL : Lk X.K (fun cls d _ H => W cls d σ H) X.w fT en (fun x s1 => Z x ⟨sg.sl, s1.n⟩) := fun x a s1 σ1 G1 H1 F1 O1 hc R1 z => by
    obtain ⟨R2, e2⟩ := R1.ent
    obtain ⟨G2, e3, R3, _⟩ := back (.dat .none) s1.n G1 H1 .non (fun _ => rfl) e2 R2 .non
    exact lk x a _ σ G2 H1 F O hc R3 z
  have hgd2 : (X.A.deeper (envF L.nf L.fa s.heap.objs.size)).guards = some [] := guards_deeper X.A _ hgd
  have run := lam_run (CX := L2.CX X.prog X.w) (E := WE W σ) (Q := Q) (us := us) (vs := vs) S hr I.env0 (R.gh _ _ h1) (R.gh _ _ h2) C2 r hl (hbind us hu)
    (body X.A X.stack s H (WE W σ) en _ hgd2 (hr.deeper _) (takes_of rfl rfl rfl rfl) lkL)
  refine wpAny_call (codeAny_mono (run ?_) fun res s' hq => ?_)
  · refine ⟨f', f'.O, Gc, _, _, ?_, hsp, fun p s' G' H' v c e R2 V2 => ?_⟩
    · have es : startF N vs (L.cvs.map some) = vs.map some ++ (L.cvs.map some ++ List.replicate (N.length - ps.length - fr.length) none) := by
        unfold startF
        rw [hl, List.length_map, lc]
      rw [es]
      exact RE
    · have R3 : Rel X.K (en.fr X.w fT) G' ⟨[], s'.n⟩ [] H' := R2.ent.1
      obtain ⟨G2, e3, R4, V4⟩ := back p s'.n G' H' v c.1 e R3 (by cases p <;> exact V2.1)
      exact kk p _ G2 H' v c.2 e3 R4 V4
  · match res, hq with
    | .error e, hq => exact passAt tk σ pins H s e s' I hq
    | .ok (.ret u), hq => exact I.after hq
theorem fnAt_lam {σ : L2.St} {H : Hp} {pins : List (Addr × Obj)} {s : Shared} {Y : Cx} (I : Inv Y pins σ H s) (h : H L.fa = some (PinO L.fa L.obj)) : PySem.W.FnAt L.fa s.heap := ⟨_, _, _, _, pinO_at I.hok h⟩
theorem clo_rule {a : Str} {i : Nat} (hN : X.N[i]? = some a) (hv : Vis X.env.scope a) (hgd : X.A.guards = some []) (hr : Room (k + 1) X.A) (S : NScope N ps fr L.scope) (hbind : ∀ us : List Value, us.length = ps.length → bindArgs (PySem.W.kla_fn "<lambda>" L.q L.params L.body L.scope L.cl L.pm (.ref L.c) L.ctv) ⟨us, []⟩ = pure (ps.zip us))
    (C0 : CellsAt L.cl fr (L.cvs.map some) X.s_0.heap X.H_0) (nf : ∀ y c, L.cl.lookup y = some c → c ∉ X.fs) (nx : ∀ y c, L.cl.lookup y = some c → c ∉ X.ex)
    (body : ∀ (A : Around) (outer : List Env) (s : Shared) (H : Hp) (E : XK) (en : Ent) (Z : HX), (A.deeper (envF L.nf L.fa s.heap.objs.size)).guards = some [] → Room k (A.deeper (envF L.nf L.fa s.heap.objs.size)) → Takes (ncx (L2.CX X.prog X.w) X.prog X.w X.K X.mg X.base N L.nf L.fa A outer s H E) (fun cls d _ H => E cls d H) → Lk X.K (fun cls d _ H => E cls d H) X.w T en Z → PE (ncx (L2.CX X.prog X.w) X.prog X.w X.K X.mg X.base N L.nf L.fa A outer s H E) L.body (lf X.K (f1 X.w T (some en)) (hb Z)))
    (hd : (a == ("__debug__" : Str)) = false := by decide) (hcd : (a == ("__classdict__" : Str)) = false := by decide) : CloRule X a i T (lamR L) ps.length (spLam (N.length - ps.length - fr.length) hb L.cds) where
  c1 := fun {pn xe W eo Z e es ta p pos} tk lk ha he hpl => ⟨fun pins s σ H Q I q => by
    obtain ⟨F, O, G, sg, C, R, ⟨hi, hta⟩, kk⟩ := q
    obtain ⟨v0, hσ, V0⟩ := R.sl i _ hi
    have e0 : v0 = .ref L.fa := (V0 G (Ex.refl G)).1
    subst e0
    have nm := (pe_var (X := X.tr pn xe) (pos := p) (i := i) hN hv hd hcd).run pins s σ H (fun v H1 => v = .ref L.fa ∧ H1 = H) I ⟨.ref L.fa, hσ, rfl, rfl⟩
    refine wpAny_Call_Name_kw (thn nm fun u s1 w => ?_)
    obtain ⟨v1, H1, I1, r1, ev, eH⟩ := w
    subst ev eH
    obtain rfl : u = Value.ref L.fa := r1
    refine PySem.W.callWith_F (first := []) (fnAt_lam I1 (R.gh _ _ (V0 G (Ex.refl G)).2.1)) (thn (ha.run pos pins s1 σ _ (fun vs H2 => ∃ pvs sg2 G2, (pvs.length = ps.length ∧ (∀ p ∈ pvs, p.isD = false) ∧ spLam (N.length - ps.length - fr.length) hb L.cds (pvs.map PV.arg) sg2.n (fun p n' => (pvs.any PV.mut = true → p.imm = true) ∧ C p ⟨sg2.sl, n'⟩) (fun x n' => Z x ⟨sg2.sl, n'⟩)) ∧ Ex G G2 ∧ Rel X.K (fo (f1 X.w T eo) F O) G2 sg2 σ H2 ∧ VRs X.K (fo (f1 X.w T eo) F O) G2 H2 pvs vs) I1 ⟨F, O, G, sg, _, R, hta, fun pvs sg2 G2 H2 vs c2 e2 R2 V2 => ⟨pvs, sg2, G2, c2, e2, R2, V2⟩⟩) fun us s2 w => ?_) he hpl
    obtain ⟨vs, H2, I2, r, pvs, sg2, G2, ⟨c1, c2, c3⟩, e2, R2, V2⟩ := w
    have hL := V0 G2 e2
    exact ⟨fnAt_lam I2 (R2.gh _ _ hL.2.1), lam_call hgd hr S hbind C0 nf nx body tk lk I2 r R2 V2 hL c1 c2 c3 fun p s' G' H' v c e R3 V3 => kk p s' G' H' v c (e2.trans e) R3 V3⟩⟩
  c0 := fun {pn xe W eo Z p pos} tk lk => ⟨fun pins s σ H Q I q => by
    obtain ⟨F, O, G, sg, C, R, ⟨hi, hta⟩, kk⟩ := q
    obtain ⟨v0, hσ, V0⟩ := R.sl i _ hi
    have e0 : v0 = .ref L.fa := (V0 G (Ex.refl G)).1
    subst e0
    have nm := (pe_var (X := X.tr pn xe) (pos := p) (i := i) hN hv hd hcd).run pins s σ H (fun v H1 => v = .ref L.fa ∧ H1 = H) I ⟨.ref L.fa, hσ, rfl, rfl⟩
    refine wpAny_Call_Name_kw (thn nm fun u s1 w => ?_)
    obtain ⟨v1, H1, I1, r1, ev, eH⟩ := w
    subst ev eH
    obtain rfl : u = Value.ref L.fa := r1
    obtain ⟨c1, c2, c3⟩ := hta
    have hL := V0 G (Ex.refl G)
    refine PySem.W.callWith_F0 (first := []) (fnAt_lam I1 (R.gh _ _ hL.2.1)) ?_
    exact lam_call (pvs := []) (vs := []) (us := []) hgd hr S hbind C0 nf nx body tk lk I1 .nil R .nil hL c1 c2 c3 fun p s' G' H' v c e R3 V3 => kk p s' G' H' v c e R3 V3⟩
end
end Sk
set_option Elab.async false
set_option linter.all false
set_option maxRecDepth 100000
set_option maxHeartbeats 2000000
namespace Sk
open PySem PySem.Spec PyProof.Rows L2
open NdefX (NF CellsAt NScope ncx envF startF Caps slotAt)
open Evl (Ex)
section
variable {X : Cx} {pins : List (Addr × Obj)} {σ : L2.St} {H G : Hp} {s : Shared}
theorem Inv.track {a : Addr} {o : Obj} {h : HO} (I : Inv X pins σ H s) (ha : s.heap.get? a = some o) (na : H a = none) (nc : ∀ v, o.data ≠ .cell v) (nL : a ≠ X.env.locals) (n0 : X.s_0.heap.get? a = none) (np : ∀ p ∈ X.pn ++ pins, p.1 ≠ a) (ok : ObjOk X.prog X.w (upd H a h) s.heap a h) :
    Inv X pins σ (upd H a h) s where
  ok := I.ok
  os := I.os
  bare := I.bare
  base := {
    keep := I.base.keep
    slot := I.base.slot
    free := fun b u e n hx => by
      have ne : b ≠ a := fun z => by rw [z, n0] at e; cases e
      rw [upd_ne ne]
      exact I.base.free b u e n hx
    there := I.base.there
    tups := fun b xs e => by
      have e2 := I.base.tups b xs e
      rw [upd_ne (ne_of_none e2 na)]; exact e2
    frzs := fun b u v e => by
      have e2 := I.base.frzs b u v e
      rw [upd_ne (ne_of_none e2 na)]; exact e2
    tbls := fun b ps e => by
      obtain ⟨more, e2⟩ := I.base.tbls b ps e
      exact ⟨more, by rw [upd_ne (ne_of_none e2 na)]; exact e2⟩ }
  loc := I.loc
  cell := I.cell
  free := by rw [upd_ne nL.symm]; exact I.free
  freeC := fun y c e => by
    obtain ⟨v, ob, e1, e2⟩ := I.cell y c e
    have ne : c ≠ a := fun z => by
      rw [z, ha] at e1
      cases e1
      exact nc _ e2
    rw [upd_ne ne]
    exact I.freeC y c e
  pin := fun p hp => by
    obtain ⟨q1, q2, q3⟩ := I.pin p hp
    exact ⟨q1, by rw [upd_ne (np p hp)]; exact q2, q3⟩
  hok := fun b u e => by
    by_cases z : b = a
    · subst z
      rw [upd_same] at e
      cases e
      exact ok
    · rw [upd_ne z] at e
      exact (I.hok b u e).stay (fun c v _ q => q) (fun c q => by rw [upd_ne (ne_of_none q na)]; exact q) fun c xs q => by rw [upd_ne (ne_of_none q na)]; exact q
  len := I.len
theorem lam_make4 {P : Addr} {q : Str} {params : Arguments} {body : Expr} {scope : Scope} {pos : Pos} {E : Value → Shared → Prop} {Q : Value → Shared → Prop} (I : Inv X pins σ H s) (M : Mkr X P q) (hex : X.ex = []) (gh : Ex G H) (hT : TabOk G H P q) (hdef : defaultsOf params X.env = ([], [])) (fr : ∀ y ∈ scope.names, y.2 = .free → ∃ c, X.env.cells.lookup y.1 = some c)
    (h : ∀ (fa c' : Addr) (pm ctv : Value) (G1 H1 : Hp) (s' : Shared), LamStep P q G H G1 H1 → H1 fa = none → G1 c' = some (LamX.CodeO c' q) → Inv X pins σ (upd H1 fa (PinO fa (PySem.W.kla_obj "<lambda>" q params body scope (cloFrom X.env.cells scope.names []) pm c' ctv))) s' → Q (.ref fa) s') :
    wpAny (model X.prog X.w) X.A (eval (.Lambda params body scope pos) X.env) Q E s := by
  obtain ⟨c, TB, hcode⟩ := M.ex
  obtain rfl := M.qu
  obtain ⟨ps, hP, ht, ha⟩ := hT
  refine PySem.W.kla_eval hdef ?_
  have bP : s.heap.BuiltinsAt X.mg P := TB.bm.keeps I.bk
  have hP' : s.heap.get? P = some { cls := .none, data := .fields ps } := I.hok P _ hP
  -- the object made is new
  have fin : ∀ {fa c' : Addr} {pm ctv : Value} {G1 H1 : Hp} {s' : Shared}, Inv X pins σ H1 s' → LamStep P (X.env.qual ++ "<lambda>") G H G1 H1 → s.heap.get? fa = none → H1 fa = none → G1 c' = some (LamX.CodeO c' (X.env.qual ++ "<lambda>")) → s'.heap.get? fa = some (PySem.W.kla_obj "<lambda>" (X.env.qual ++ "<lambda>") params body scope (cloFrom X.env.cells scope.names []) pm c' ctv) → Q (.ref fa) s' := fun {fa c' pm ctv G1 H1 s'} I1 st n1 n2 hc hf => by
    refine h fa c' pm ctv G1 H1 s' st n2 hc (Inv.track I1 hf n2 (fun v z => by cases z) (fun z => ?_) ?_ (fun p hp z => ?_) ⟨hf, ⟨_, hf⟩, fun h1 h2 w k => k _ w⟩)
    · obtain ⟨m, ⟨o, es, ep, ho, _⟩, _⟩ := I.loc
      rw [z, ho] at n1; cases n1
    · cases e : X.s_0.heap.get? fa with
      | none => rfl
      | some o =>
        obtain ⟨o2, e2⟩ := I.base.there fa o e (by rw [hex]; exact List.not_mem_nil)
        rw [n1] at e2; cases e2
    · have := (I.pin p hp).1
      rw [z, n1] at this; cases this
  cases hc : codeAmong pos ps.toList with
  | none =>
    refine PySem.W.kla_makeFunction (mg := X.mg) (c := c) (P := P) (ps := ps) (closure_ok fr) I.ok.glob (I.mod.glob.keeps I.bk) hcode (TB.code.keeps I.bk) hP' ht hc TB.gP bP fun c' ctv h' tk hx hge hlt hrec htb => ?_
    obtain ⟨c2, oc, vs, t, e2, hoc, hd, hv⟩ := hrec
    cases e2
    have nC : H c' = none := I.hok.fresh hge
    have I1 := LamX.inv_table (t' := tk) (more := #[rawInt pos.line, rawInt pos.col, .ref c']) (h' := h'.push (PySem.W.kla_obj "<lambda>" (X.env.qual ++ "<lambda>") params body scope (cloFrom X.env.cells scope.names []) ((X.mg "__name__").getD .none) c' ctv)) I hP
      (fun b o hb e => Heap.get?_push_of_some _ (hx b o hb e)) (Heap.get?_push_of_some _ htb) hge ⟨oc, vs, t, Heap.get?_push_of_some _ hoc, hd, hv⟩
    have eL : (ps ++ #[rawInt pos.line, rawInt pos.col, .ref c']).toList = ps.toList ++ [rawInt pos.line, rawInt pos.col, .ref c'] := by simp
    have gc : G c' = none := Evl.fresh_back gh nC
    have nf : s.heap.get? h'.objs.size = none := Heap.get?_none_of_le (Nat.le_trans hge (Nat.le_of_lt hlt))
    refine fin I1 (.inr ⟨ps, _, c', hP, nC, rfl, rfl, _, by rw [upd_ne (ne_of_none hP nC), upd_same], by rw [eL]; exact PySem.TriplesOk_snoc _ _ _ _ ht, fun p' cv hcv => ?_⟩) nf ?_ upd_same (Heap.get?_push_size _ rfl)
    · rw [eL] at hcv
      rcases LamX.among_app _ ht hcv with z | z
      · obtain ⟨c0, e1, e2⟩ := ha p' cv z
        exact ⟨c0, e1, by rw [upd_ne (ne_of_none e2 gc)]; exact e2⟩
      · exact ⟨c', z, upd_same⟩
    · have n1 : H h'.objs.size = none := I.hok.fresh (Nat.le_trans hge (Nat.le_of_lt hlt))
      rw [upd_ne (Nat.ne_of_gt hlt), upd_ne (fun z => by rw [z, hP] at n1; cases n1)]
      exact n1
  | some cv =>
    obtain ⟨c', e, hco⟩ := ha pos cv hc
    subst e
    refine PySem.W.kla_makeFunctionHit (mg := X.mg) (c := c) (P := P) (ps := ps) (closure_ok fr) I.ok.glob (I.mod.glob.keeps I.bk) hcode (TB.code.keeps I.bk) hP' ht hc bP fun ctv h' tk hx hsz => ?_
    exact fin (I.kept fun b o e => Heap.get?_push_of_some _ (hx b o e)) (.inl ⟨rfl, rfl⟩) (Heap.get?_none_of_le hsz) (I.hok.fresh hsz) hco (Heap.get?_push_size _ rfl)
end
structure HasC (P : Program) (w : World) (T : Tbs) (K : PySem.W.Frag) (mg : Str → Option Value) (base : Heap) (k : Nat) (x : Str) (n np : Nat) (spC : (PySem.W.Frag → Hp → V → Prop) → HSpX → HSpX) : Prop where
  ex : ∃ (z : Str) (ga : Addr) (fd : FuncData) (ps N : List Str) (sc : Scope) (cdv : Value) (a : Str) (i : Nat), ps.length = n ∧ mg x = some (.ref ga) ∧ PySem.W.keepIn K (.ref ga) = true ∧ Binds K fd ps [] ∧ N[i]? = some a ∧ Vis sc a ∧ (a == ("__debug__" : Str)) = false ∧ (a == ("__classdict__" : Str)) = false ∧
    ∀ {A : Around} {outer : List Env} {s : Shared} {H : Hp} {args : Args} {us : List Value} {vs : List V} {R : PySem.W.Frag → Hp → V → Prop} {spc : HSpX} {Q : VK} {E : XK}, A.guards = some [] → Room k A → Env0 P w K mg base A outer s H → BindsTo s fd args (ps.zip us) → Vals vs us →
      CloRule (cxOf (L2.CX P w) P w K mg base N z sc ga cdv A outer s H E) a i T R np spc → SpHX K w T n (spC R spc) vs H Q E → codeAny (model P w) A (.call (.ref ga) args) (CR (L2.CX P w) outer P w H s Q E) s
theorem HasC.mk' {P : Program} {w : World} {T : Tbs} {K : PySem.W.Frag} {mg : Str → Option Value} {base : Heap} {k i np : Nat} {fa : Addr} {fd : FuncData} {x y a : Str} {st : Stmt} {N ps : List Str} {hs : (PySem.W.Frag → Hp → V → Prop) → HSpX → HX → HS} {spC : (PySem.W.Frag → Hp → V → Prop) → HSpX → HSpX} (Fn : Fun K x x st fa fd) (hm : mg y = some (.ref fa)) (b : Binds K fd ps []) (S : FnScope N ps (defScope st)) (hN : N[i]? = some a) (hv : Vis (defScope st) a)
    (body : ∀ (cdv : Value), fd.code = cdv → ∀ (A : Around) (outer : List Env) (s : Shared) (H : Hp) (E : XK) (en : Ent) (Z : HX) (R : PySem.W.Frag → Hp → V → Prop) (spc : HSpX), (A.deeper (envOfC x (defScope st) s.heap.objs.size fa cdv)).guards = some [] → Room k (A.deeper (envOfC x (defScope st) s.heap.objs.size fa cdv)) →
      Takes (cxOf (L2.CX P w) P w K mg base N x (defScope st) fa cdv A outer s H E) (fun cls d _ H => E cls d H) → Lk K (fun cls d _ H => E cls d H) w T en Z → CloRule (cxOf (L2.CX P w) P w K mg base N x (defScope st) fa cdv A outer s H E) a i T R np spc → PSs (cxOf (L2.CX P w) P w K mg base N x (defScope st) fa cdv A outer s H E) (defBody st) (lfS K (f1 w T (some en)) (hs R spc Z)))
    (rd : ∀ R spc pvs n C Z, pvs.length = ps.length → spC R spc pvs n C Z → hs R spc (fun x s => Z x s.n) ⟨fun s => C (.dat .none) s.n, fun p s => C p s.n, fun _ => False, fun _ => False⟩ ⟨pvs.map some ++ List.replicate (N.length - pvs.length) none, n⟩)
    (hd : (a == ("__debug__" : Str)) = false := by decide) (hcd : (a == ("__classdict__" : Str)) = false := by decide) : HasC P w T K mg base (k + 1) y ps.length np spC := by
  obtain ⟨oc, od, kV, doc, pm, an, cdv, ct, osl, efd, lk, hcd0⟩ := Fn.ex
  subst efd
  refine ⟨x, fa, _, ps, N, defScope st, cdv, a, i, rfl, hm, Fn.kp, b, hN, hv, hd, hcd, fun {A outer s H args us vs R spc Q E} hgd hr e0 hb r rule hsp => ?_⟩
  have hl := valsX_len _ _ _ _ hsp
  have hin : K.In s.heap := e0.mod.kin.keeps fun b o e => (e0.bs b o e).1
  have hlim : s.heap.NoLimit := e0.mod.nolimit.keeps fun b o e => (e0.bs b o e).1
  refine codeAny_call_function hr.depth (hin _ _ lk) rfl S.co S.gen rfl (PySem.W.codeRec_of hin hcd0) (hb _ _ _ _ ?_)
  refine wpAny_newFunctionEnv_cells S.kind (fun y hy => ?_) fun env he s1 hx => ?_
  · rcases S.par y.1 (List.of_mem_zip (show (y.1, y.2) ∈ ps.zip us from hy)).1 with q | q
    · exact Or.inl q
    · exact Or.inr ⟨q, PySem.W.cellsFrom_some _ _ _ (Or.inl q)⟩
  subst he
  refine ⟨hlim.keeps hx.toInCall.keep, codeAny_func ?_⟩
  obtain ⟨⟨on, m, l, c, fF, fO, fM, fr, fw, fT, fe⟩, G, n, pvs, C, Z, hw, hT, he, hF, hM, Rl, hmu, hk, hsp2, kn, kx⟩ := hsp
  have hw : fw = w := hw
  have hT : fT = T := hT
  have he : fe = none := he
  subst hw hT he
  let f : Fr := ⟨on, m, l, c, fF, fO, fM, fr, fw, fT, none⟩
  have Rl : Rel K f G ⟨pvs.map some, n⟩ (vs.map some) H := Rl
  have lnv : vs.length = pvs.length := by
    have := Rl.ln
    simpa using this
  have lkx : Lk K (fun cls d _ H => E cls d H) fw fT (entOf f G) (fun x s => Z x s.n) := fun x a s1 σ1 G1 H1 F O hc R1 z => by
    obtain ⟨R2, e2⟩ := R1.ent
    exact kx x a _ G1 H1 z hc e2 R2
  have ht := body cdv rfl A outer s H E (entOf f G) (fun x s => Z x s.n) R spc (guards_deeper A _ hgd) (hr.deeper _) (takes_of rfl rfl rfl rfl) lkx rule
  have I := inv_start (CX := L2.CX P fw) (E := E) (qual := x) (f := fa) (cd := cdv) S hr.hd e0 hl r hx
  have R5 := Rl.re (some (entOf f G)) fun en q => by
    cases q
    exact entOf_ok Rl
  have q0 : (lfS K (f1 fw fT (some (entOf f G))) (hs R spc fun x s => Z x s.n)) { nx := fun _ H' => Q .non H', rt := Q } (start N vs) H := by
    refine ⟨f, fO, G, ⟨pvs.map some ++ List.replicate (N.length - pvs.length) none, n⟩, _, ?_, rd R spc pvs n C Z hk hsp2, ⟨fun G1 s1 σ1 H1 e1 R1 c => ?_, fun p G1 s1 σ1 H1 v e1 R1 V1 c => ?_, fun _ _ _ _ _ _ z => z.elim, fun _ _ _ _ _ _ z => z.elim⟩⟩
    · show Rel K { f with e := some (entOf f G) } G ⟨_, n⟩ (L2.start N vs) H
      exact { R5 with
        ln := by simp [L2.start, lnv]
        sl := fun i p h => by
          obtain ⟨v, h1, h2⟩ := R5.sl i p (start_at _ _ _ _ h)
          exact ⟨v, start_up _ _ _ _ h1, h2⟩
        ds := fun i j p q v ne hi _ mp => by
          have h1 := start_at _ _ _ _ hi
          rw [List.getElem?_map] at h1
          obtain ⟨p0, h2, e⟩ := Option.map_eq_some_iff.mp h1
          cases e
          have := hmu _ (List.mem_of_getElem? h2)
          rw [this] at mp
          cases mp }
    · exact kn _ _ _ _ _ c e1 R1.ent.1 .non
    · exact kn _ _ _ _ _ c e1 R1.ent.1 (by cases p <;> exact V1.1)
  have ret : ∀ {σ' : L2.St} {H' : Hp} {v : V} {u : Value} {s' : Shared}, Inv (cxOf (L2.CX P fw) P fw K mg base N x (defScope st) fa cdv A outer s H E) [] σ' H' s' → RelV v u → Q v H' → CE outer P fw H s Q u s' :=
    fun J rv q => ⟨_, _, J.os, J.bare, J.base, J.hok, rv, q⟩
  refine wpAny_mono (ht.run [] s1 (start N vs) H _ I q0) (fun fl s' w => ?_) fun e s' w => w
  match fl, w with
  | .ret u, ⟨v, σ', H', J, rv, q⟩ => exact ret J rv q
  | .next, ⟨σ', H', J, q⟩ => exact ret (v := V.non) (u := Value.none) J rfl q
  | .brk, ⟨_, _, _, q⟩ => exact q.elim
  | .cont, ⟨_, _, _, q⟩ => exact q.elim
end Sk
set_option Elab.async false
set_option linter.all false
set_option maxRecDepth 100000
set_option maxHeartbeats 2000000
namespace Sk
open PySem PySem.Spec PyProof.Rows L2
open NdefX (NF CellsAt NScope ncx envF startF Caps slotAt)
open Evl (Ex)
@[simp] def caps : List Nat → List (Option PV) → Option (List PyData)
  | [], _ => some []
  | j :: js, sl => match sl[j]? with
    | some (some (.dat d)) => (caps js sl).map (d :: ·)
    | _ => none
theorem caps_vals {K : PySem.W.Frag} {f : Fr} {G H : Hp} {s : Sg} {σ : L2.St} (R : Rel K f G s σ H) : ∀ {js : List Nat} {cds : List PyData}, caps js s.sl = some cds → ∃ cvs : List V, js.map (slotAt σ) = cvs.map some ∧ DpAll K G cvs cds
  | [], cds, h => by
    cases h
    exact ⟨[], rfl, .nil⟩
  | j :: js, cds, h => by
    unfold caps at h
    split at h
    · rename_i d hd
      obtain ⟨ds, h1, rfl⟩ := Option.map_eq_some_iff.mp h
      obtain ⟨cvs, h2, h3⟩ := caps_vals R h1
      obtain ⟨v, h4, h5⟩ := R.sl j _ hd
      exact ⟨v :: cvs, by rw [List.map_cons, List.map_cons, h2, NdefX.slotAt_of h4], .cons h5 h3⟩
    · cases h
section
variable {X : Cx} {T : Tbs} {eo : Option Ent} {W : WX} {Z : HX} {k kc n np : Nat} {x q : Str} {P : Addr} {spC : (PySem.W.Frag → Hp → V → Prop) → HSpX → HSpX} {N ps fr : List Str} {js : List Nat} {params : Arguments} {body : Expr} {scope : Scope} {hb : HX → HE}
structure LamOk (X : Cx) (T : Tbs) (P : Addr) (q : Str) (kc : Nat) (N ps fr : List Str) (js : List Nat) (params : Arguments) (body : Expr) (scope : Scope) (hb : HX → HE) : Prop where
  mkr : Mkr X P q
  mT : (P, q) ∈ T
  uT : ∀ p ∈ T, p.1 = P → p.2 = q
  df : defaultsOf params X.env = ([], [])
  S : NScope N ps fr scope
  fk : ∀ y ∈ scope.names, y.2 = .free → X.env.scope.names.lookup y.1 = some .cell ∨ X.env.scope.names.lookup y.1 = some .free
  ff : ∀ y ∈ fr, (y, NameKind.free) ∈ scope.names
  at_ : js.map (fun j => X.N[j]?) = fr.map some
  bind : ∀ (cl : List (Str × Addr)) (pm : Value) (c : Addr) (ctv : Value) (us : List Value), us.length = ps.length → bindArgs (PySem.W.kla_fn "<lambda>" q params body scope cl pm (.ref c) ctv) ⟨us, []⟩ = pure (ps.zip us)
  body : ∀ (fa c : Addr) (cl : List (Str × Addr)) (pm ctv : Value) (cvs : List V) (cds : List PyData) (A : Around) (outer : List Env) (s : Shared) (H : Hp) (E : XK) (en : Ent) (Z : HX), (A.deeper (envF (Lam.nf ⟨fa, c, q, params, body, scope, cl, pm, ctv, cvs, cds⟩) fa s.heap.objs.size)).guards = some [] → Room kc (A.deeper (envF (Lam.nf ⟨fa, c, q, params, body, scope, cl, pm, ctv, cvs, cds⟩) fa s.heap.objs.size)) →
    Takes (ncx (L2.CX X.prog X.w) X.prog X.w X.K X.mg X.base N (Lam.nf ⟨fa, c, q, params, body, scope, cl, pm, ctv, cvs, cds⟩) fa A outer s H E) (fun cls d _ H => E cls d H) → Lk X.K (fun cls d _ H => E cls d H) X.w T en Z → PE (ncx (L2.CX X.prog X.w) X.prog X.w X.K X.mg X.base N (Lam.nf ⟨fa, c, q, params, body, scope, cl, pm, ctv, cvs, cds⟩) fa A outer s H E) body (lf X.K (f1 X.w T (some en)) (hb Z))
def tLamMk (X : Cx) (P : Addr) (q : Str) (params : Arguments) (body : Expr) (scope : Scope) : TE := fun σ H Q => ∃ G, Ex G H ∧ TabOk G H P q ∧ ∀ (fa c : Addr) (pm ctv : Value) (G1 H1 : Hp), LamStep P q G H G1 H1 → H1 fa = none → G1 c = some (LamX.CodeO c q) → Q (.ref fa) (upd H1 fa (PinO fa (PySem.W.kla_obj "<lambda>" q params body scope (cloFrom X.env.cells scope.names []) pm c ctv)))
theorem pe_lamMk {pos : Pos} (hex : X.ex = []) (L : LamOk X T P q kc N ps fr js params body scope hb) : PE X (.Lambda params body scope pos) (tLamMk X P q params body scope) := ⟨fun pins s σ H Q I w => by
  obtain ⟨G, gh, hT, w⟩ := w
  refine lam_make4 I L.mkr hex gh hT L.df (fun y hy e => (L.fk y hy e).elim (fun z => I.ok.has _ (.inl z)) fun z => I.ok.has _ (.inr z)) fun fa c pm ctv G1 H1 s1 st n1 hc I1 => ?_
  exact ⟨.ref fa, _, I1, rfl, w fa c pm ctv G1 H1 st n1 hc⟩⟩
theorem cells_nf {pins : List (Addr × Obj)} {σ : L2.St} {H : Hp} {s : Shared} (I : Inv X pins σ H s) (hfn : X.fn = fun _ => true) (hst : X.stack = X.env :: X.outer) (hfr : X.env.frame = some X.env.locals) {y : Str} {c : Addr} (e : X.env.cells.lookup y = some c) : c ∉ frs X.stack := fun hm => by
  rw [hst] at hm
  obtain ⟨en, he, q⟩ := List.mem_filterMap.mp hm
  rcases List.mem_cons.mp he with rfl | he
  · rw [hfr] at q
    cases q
    exact I.cne y _ e rfl
  · obtain ⟨_, o, ho, _⟩ := I.ok.funs.mem (List.mem_filterMap.mpr ⟨en, he, q⟩)
    have h1 := Heap.lt_size ho
    have h2 := I.ok.cab y c (by rw [hfn]) e
    exact absurd h2 (Nat.not_le.mpr h1)
theorem callC_run {pn : List (Addr × Obj)} (h : HasC X.prog X.w T X.K X.mg X.base k x n ps.length spC) (L : LamOk X T P q kc N ps fr js params body scope hb) (tk : Takes X W) (lk : Lko X.K W X.w T eo Z) (hgd : X.A.guards = some []) (hr : Room k X.A) (hkc : kc + 2 ≤ k) (hex : X.ex = []) (hfn : X.fn = fun _ => true) (hst : X.stack = X.env :: X.outer) (hfr : X.env.frame = some X.env.locals)
    {pins : List (Addr × Obj)} {s : Shared} {σ : L2.St} {H : Hp} {us : List Value} {vs : List V} {pvs : List PV} {G : Hp} {sg : Sg} {F : Fr} {O : Addr → Prop} {Q : VK} {C : PV → Sg → Prop} {fa c ga : Addr} {pm ctv u : Value} {cds : List PyData} (hga : X.mg x = some (.ref ga))
    (I : Inv X pins σ H s) (r : Vals (vs ++ [.ref fa]) us) (R : Rel X.K (fo (f1 X.w T eo) F O) G sg σ H) (V1 : VRs X.K (fo (f1 X.w T eo) F O) G H pvs vs) (hm : ∀ p ∈ pvs, p.mut = false ∧ p.isD = false) (hl : pvs.length + 1 = n)
    (h1 : G fa = some (PinO fa (PySem.W.kla_obj "<lambda>" q params body scope (cloFrom X.env.cells scope.names []) pm c ctv))) (h2 : G c = some (LamX.CodeO c q)) (hcap : caps js sg.sl = some cds)
    (hsp : ∀ R, spC R (spLam (N.length - ps.length - fr.length) hb cds) (pvs.map PV.arg ++ [.abs R]) sg.n (fun p n' => C p ⟨sg.sl, n'⟩) (fun x n' => Z x ⟨sg.sl, n'⟩))
    (kk : ∀ p s' G' H' v, C p s' → Ex G G' → Rel X.K (fo (f1 X.w T eo) F O) G' s' σ H' → VRf X.K (fo (f1 X.w T eo) F O) G' H' s' σ p v → Q v H') :
    wpAny (model X.prog X.w) X.A (call (.ref ga) us) (EP X pins σ Q) X.xe s := by
  obtain ⟨zq, ga2, fd, gps, gN, sc, cdv, a, i, hgl, hm2, _, hbi, hN, hv, hd1, hd2, go⟩ := h.ex
  rw [hga] at hm2
  cases hm2
  obtain ⟨cvs, hcv, hdp⟩ := caps_vals R hcap
  let Lm : Lam := ⟨fa, c, q, params, body, scope, cloFrom X.env.cells scope.names [], pm, ctv, cvs, cds⟩
  have cap : Caps X (cloFrom X.env.cells scope.names []) fr js := Caps.made I.ok L.fk L.ff L.at_
  have C0 : CellsAt (cloFrom X.env.cells scope.names []) fr (cvs.map some) s.heap H := by
    rw [← hcv]
    exact NdefX.cells_of I cap
  have hr2 : Room (kc + 2) X.A := hr.mono hkc
  have rule : CloRule (cxOf (L2.CX X.prog X.w) X.prog X.w X.K X.mg X.base gN zq sc ga cdv X.A X.stack s H (WE W σ)) a i T (lamR Lm) ps.length (spLam (N.length - ps.length - fr.length) hb cds) :=
    clo_rule (X := cxOf (L2.CX X.prog X.w) X.prog X.w X.K X.mg X.base gN zq sc ga cdv X.A X.stack s H (WE W σ)) (L := Lm) (k := kc) hN hv (guards_deeper X.A _ hgd) (hr2.deeper _) L.S (fun us h => L.bind _ _ _ _ us h) C0 (fun y c e => cells_nf I hfn hst hfr (cap.sub y c e)) (fun y c e z => by cases z)
      (fun A outer s H E en Z g1 g2 g3 g4 => L.body fa c _ pm ctv cvs cds A outer s H E en Z g1 g2 g3 g4) hd1 hd2
  have VA : VR X.K (fo (f1 X.w T eo) F O) G H (.abs (lamR Lm)) (.ref fa) := fun G2 e => ⟨rfl, e _ _ h1, e _ _ h2, Dp.exAll e _ hdp⟩
  have VS : VRs X.K (fo (f1 X.w T eo) F O) G H (pvs ++ [.abs (lamR Lm)]) (vs ++ [.ref fa]) := by
    have key : ∀ {pvs : List PV} {vs : List V}, VRs X.K (fo (f1 X.w T eo) F O) G H pvs vs → VRs X.K (fo (f1 X.w T eo) F O) G H (pvs ++ [.abs (lamR Lm)]) (vs ++ [.ref fa]) := fun {pvs vs} h => by
      unfold VRs at *
      induction h with
      | nil => exact .cons VA .nil
      | cons a _ ih => exact .cons a ih
    exact key V1
  have hnm : (pvs ++ [PV.abs (lamR Lm)]).any PV.mut = false := by
    rw [List.any_eq_false]
    intro p hp
    rcases List.mem_append.mp hp with hp | hp
    · rw [(hm p hp).1]; simp
    · rw [List.mem_singleton.mp hp]
      show ¬ (false = true)
      simp
  obtain ⟨f', Gc, x1, x2, x3, x4, x5, R', x6, x7, _, back⟩ := spH_core (k := n) R VS (by rw [List.length_append, List.length_singleton]; exact hl) (fun p hp => by
    rcases List.mem_append.mp hp with hp | hp
    · exact (hm p hp).2
    · rw [List.mem_singleton.mp hp]; rfl)
  have sp : SpHX X.K X.w T n (spC (lamR Lm) (spLam (N.length - ps.length - fr.length) hb cds)) (vs ++ [.ref fa]) H Q (WE W σ) := by
    refine ⟨f', Gc, sg.n, _, (fun p n' => C p ⟨sg.sl, n'⟩), (fun y n' => Z y ⟨sg.sl, n'⟩), x1, x2, x3, x4, x5, R', x6, x7, ?_, fun p n' G' H' v c e R2 V2 => ?_, fun y a n' G' H' z hc e R2 => ?_⟩
    · rw [List.map_append]
      exact hsp (lamR Lm)
    · obtain ⟨G2, e2, R3, V3⟩ := back p n' G' H' v (fun z => by rw [hnm] at z; cases z) e R2 V2
      exact kk p _ G2 H' v c e2 R3 V3
    · obtain ⟨G2, e2, R3, _⟩ := back (.dat .none) n' G' H' .non (fun _ => rfl) e R2 .non
      exact lk y a _ σ G2 H' F O hc R3 z
  have hlu : (us ++ []).length = gps.length := by
    have l1 : vs.length = pvs.length := (Paired.length V1).symm
    rw [List.append_nil, ← r.length, List.length_append, List.length_singleton, hgl]
    omega
  have bb := hbi s us I.kIn hlu
  rw [List.append_nil] at bb
  refine wpAny_call (codeAny_mono (go hgd hr I.env0 bb r rule sp) fun res s' hq => ?_)
  match res, hq with
  | .error e, hq => exact passAt tk σ pins H s e s' I hq
  | .ok (.ret u), hq => exact I.after hq
@[simp] def hCallC0 (spC : (PySem.W.Frag → Hp → V → Prop) → HSpX → HSpX) (m : Nat) (js : List Nat) (hb : HX → HE) (Z : HX) : HE := fun s C => ∃ cds, caps js s.sl = some cds ∧ ∀ R, spC R (spLam m hb cds) [.abs R] s.n (fun p n' => C p ⟨s.sl, n'⟩) (fun x n' => Z x ⟨s.sl, n'⟩)
@[simp] def hCallC1 (spC : (PySem.W.Frag → Hp → V → Prop) → HSpX → HSpX) (m : Nat) (js : List Nat) (hb : HX → HE) (Z : HX) (te : HE) : HE := fun s C => te s fun p s1 => ∃ d, p.frz = some d ∧ ∃ cds, caps js s1.sl = some cds ∧ ∀ R, spC R (spLam m hb cds) [.dat d, .abs R] s1.n (fun p n' => C p ⟨s1.sl, n'⟩) (fun x n' => Z x ⟨s1.sl, n'⟩)
@[simp] def hFrzJ (j : Nat) (t : HE) : HE := fun s C => match s.sl[j]? with
  | some (some (.own ds)) => t (s.put j (.dat (.list ds))) C
  | _ => t s C
theorem lam_step {F : Fr} {O : Addr → Prop} {G H G1 H1 : Hp} {s : Sg} {σ : L2.St} {fa : Addr} {o : Obj} (hmT : (P, q) ∈ T) (huT : ∀ p ∈ T, p.1 = P → p.2 = q) (R : Rel X.K (fo (f1 X.w T eo) F O) G s σ H) (st : LamStep P q G H G1 H1) (n1 : H1 fa = none) :
    Rel X.K (fo (f1 X.w T eo) F O) (upd G1 fa (PinO fa o)) s σ (upd H1 fa (PinO fa o)) ∧ Ex G (upd G1 fa (PinO fa o)) ∧ Ex G1 (upd G1 fa (PinO fa o)) := by
  have g := st.g R.gh
  have R1 := R.lam hmT huT st
  exact ⟨R1.newG n1, g.trans (Evl.Ex.new (R1.gn n1)), Evl.Ex.new (R1.gn n1)⟩
theorem hp_callC0 {p lpos pos : Pos} (h : HasC X.prog X.w T X.K X.mg X.base k x 1 ps.length spC) (L : LamOk X T P q kc N ps fr js params body scope hb) (tk : Takes X W) (lk : Lko X.K W X.w T eo Z) (hgd : X.A.guards = some []) (hr : Room k X.A) (hkc : kc + 2 ≤ k) (hex : X.ex = []) (hfn : X.fn = fun _ => true) (hst : X.stack = X.env :: X.outer) (hfr : X.env.frame = some X.env.locals) (hg : Gl X x)
    (hdb : (x == ("__debug__" : Str)) = false := by decide) : PE X (.Call (.Name x p) [.Lambda params body scope lpos] [] pos) (lf X.K (f1 X.w T eo) (hCallC0 spC (N.length - ps.length - fr.length) js hb Z)) := ⟨fun pins s σ H Q I w => by
  obtain ⟨F, O, G, sg, C, R, ⟨cds, hcap, hsp⟩, kk⟩ := w
  obtain ⟨_, ga, _, _, _, _, _, _, _, _, hga, hkp, _⟩ := h.ex
  refine wpAny_Call_Name_kw (ld_glob I hg hga ?_ hdb)
  have ha := pa_cons (pe_lamMk (pos := lpos) hex L) pa_nil rfl
  refine PySem.W.callWith_K (h₀ := X.base) I.ok.mod.kin hkp (thn (ha.run pos pins s σ H (fun vs H2 => ∃ (fa c : Addr) (pm ctv : Value) (G2 : Hp), vs = [.ref fa] ∧ Ex G G2 ∧ Rel X.K (fo (f1 X.w T eo) F O) G2 sg σ H2 ∧ G2 fa = some (PinO fa (PySem.W.kla_obj "<lambda>" q params body scope (cloFrom X.env.cells scope.names []) pm c ctv)) ∧ G2 c = some (LamX.CodeO c q)) I ?_) fun us s2 w => ?_) rfl rfl
  · exact ⟨G, R.gh, R.tb _ L.mT, fun fa c pm ctv G1 H1 st n1 hc => by
      obtain ⟨R2, e1, e2⟩ := lam_step (o := PySem.W.kla_obj "<lambda>" q params body scope (cloFrom X.env.cells scope.names []) pm c ctv) L.mT L.uT R st n1
      exact ⟨fa, c, pm, ctv, _, rfl, e1, R2, upd_same, e2 _ _ hc⟩⟩
  · obtain ⟨vs, H2, I2, r, fa, c, pm, ctv, G2, rfl, e2, R2, g1, g2⟩ := w
    rw [List.nil_append]
    exact ⟨I2.kIn, callC_run (vs := []) (pvs := []) (u := .none) (pn := []) h L tk lk hgd hr hkc hex hfn hst hfr hga I2 r R2 .nil (fun _ h => by cases h) rfl g1 g2 hcap hsp fun p s' G' H' v c e R3 V3 => kk p s' G' H' v c (e2.trans e) R3 V3⟩⟩
end
end Sk
set_option Elab.async false
set_option linter.all false
set_option maxRecDepth 100000
set_option maxHeartbeats 2000000
namespace Sk
open PySem PySem.Spec PyProof.Rows L2
open NdefX (NF CellsAt NScope ncx envF startF Caps slotAt)
section
variable {X : Cx} {T : Tbs} {eo : Option Ent} {W : WX} {Z : HX} {k kc n np m : Nat} {x q : Str} {P : Addr} {spC : (PySem.W.Frag → Hp → V → Prop) → HSpX → HSpX} {N ps fr : List Str} {js : List Nat} {params : Arguments} {body : Expr} {scope : Scope} {hb : HX → HE}
theorem hc0 {p lpos pos : Pos} (tk : Takes X W) (lk : Lko X.K W X.w T eo Z) (hgd : X.A.guards = some []) (hr : Room k X.A) (hex : X.ex = []) (hfn : X.fn = fun _ => true) (hst : X.stack = X.env :: X.outer) (hfr : X.env.frame = some X.env.locals) (hg : Gl X x) (h : HasC X.prog X.w T X.K X.mg X.base k x 1 np spC) (hnp : ps.length = np) (hm : N.length - ps.length - fr.length = m) (hkc : kc + 2 ≤ k) (L : LamOk X T P q kc N ps fr js params body scope hb) 
    (hdb : (x == ("__debug__" : Str)) = false := by decide) : PE X (.Call (.Name x p) [.Lambda params body scope lpos] [] pos) (lf X.K (f1 X.w T eo) (hCallC0 spC m js hb Z)) := by
  subst hnp hm
  exact hp_callC0 h L tk lk hgd hr hkc hex hfn hst hfr hg hdb
end
end Sk
set_option Elab.async false
set_option linter.all false
set_option maxRecDepth 100000
set_option maxHeartbeats 2000000
namespace Sk
open PySem PySem.Spec PyProof.Rows L2
open PySem.W (Datum DatumOrd Tup T3 T4)
class KD (α : Type) [DecidableEq α] [Datum α] where
  inj : ∀ a b : α, keyN (Datum.toD a) = keyN (Datum.toD b) → a = b
  imm : ∀ a : α, imm (Datum.toD a) = true
  dep : Nat
  dle : ∀ a : α, (keyN (Datum.toD a)).depth ≤ dep
theorem keyNs_inj {α : Type} [DecidableEq α] [Datum α] [KD α] : ∀ {xs ys : List α}, keyNs (xs.map Datum.toD) = keyNs (ys.map Datum.toD) → xs = ys
  | [], [], _ => rfl
  | [], _ :: _, h => by simp [keyNs] at h
  | _ :: _, [], h => by simp [keyNs] at h
  | x :: xs, y :: ys, h => by
    simp only [List.map_cons, keyNs, List.cons.injEq] at h
    rw [KD.inj x y h.1, keyNs_inj h.2]
theorem immAll_D {α : Type} [DecidableEq α] [Datum α] [KD α] : ∀ xs : List α, immAll (xs.map Datum.toD) = true
  | [] => rfl
  | x :: xs => by rw [List.map_cons, immAll, KD.imm, immAll_D xs]; rfl
theorem depAll_D {α : Type} [DecidableEq α] [Datum α] [KD α] : ∀ xs : List α, NestedKey.depthAll (keyNs (xs.map Datum.toD)) ≤ KD.dep α
  | [] => Nat.zero_le _
  | x :: xs => by
    simp only [List.map_cons, keyNs, NestedKey.depthAll]
    exact Nat.max_le.mpr ⟨KD.dle x, depAll_D xs⟩
instance : KD Int where
  inj a b h := by cases h; rfl
  imm _ := rfl
  dep := 0
  dle _ := Nat.le_refl _
instance : KD Str where
  inj a b h := by cases h; rfl
  imm _ := rfl
  dep := 0
  dle _ := Nat.le_refl _
instance : KD Bool where
  inj a b h := by cases a <;> cases b <;> first | rfl | (simp [keyN, Datum.toD] at h)
  imm _ := rfl
  dep := 0
  dle a := by cases a <;> exact Nat.le_refl _
instance {α β : Type} [DecidableEq α] [Datum α] [DecidableEq β] [Datum β] [KD α] [KD β] : KD (α × β) where
  inj a b h := by
    have h : NestedKey.tup [keyN (Datum.toD a.1), keyN (Datum.toD a.2)] = NestedKey.tup [keyN (Datum.toD b.1), keyN (Datum.toD b.2)] := h
    injection h with h
    simp only [List.cons.injEq, and_true] at h
    exact Prod.ext (KD.inj _ _ h.1) (KD.inj _ _ h.2)
  imm a := by
    show (Sk.imm (Datum.toD a.1) && (Sk.imm (Datum.toD a.2) && true)) = true
    rw [KD.imm, KD.imm]; rfl
  dep := max (KD.dep α) (KD.dep β) + 1
  dle a := by
    show max (keyN (Datum.toD a.1)).depth (max (keyN (Datum.toD a.2)).depth 0) + 1 ≤ _
    have h1 := KD.dle a.1
    have h2 := KD.dle a.2
    omega
instance {α : Type} [DecidableEq α] [Datum α] [KD α] : KD (Tup α) where
  inj a b h := by
    have h : NestedKey.tup (keyNs (a.items.map Datum.toD)) = NestedKey.tup (keyNs (b.items.map Datum.toD)) := h
    injection h with h
    have := keyNs_inj h
    cases a; cases b
    simp at this
    rw [this]
  imm a := immAll_D a.items
  dep := KD.dep α + 1
  dle a := by
    show NestedKey.depthAll (keyNs (a.items.map Datum.toD)) + 1 ≤ _
    exact Nat.succ_le_succ (depAll_D a.items)
instance {α β γ : Type} [DecidableEq α] [Datum α] [DecidableEq β] [Datum β] [DecidableEq γ] [Datum γ] [KD α] [KD β] [KD γ] : KD (T3 α β γ) where
  inj a b h := by
    have h : NestedKey.tup [keyN (Datum.toD a.a), keyN (Datum.toD a.b), keyN (Datum.toD a.c)] = NestedKey.tup [keyN (Datum.toD b.a), keyN (Datum.toD b.b), keyN (Datum.toD b.c)] := h
    injection h with h
    simp only [List.cons.injEq, and_true] at h
    cases a; cases b
    simp only at h
    rw [KD.inj _ _ h.1, KD.inj _ _ h.2.1, KD.inj _ _ h.2.2]
  imm a := by
    show (Sk.imm (Datum.toD a.a) && (Sk.imm (Datum.toD a.b) && (Sk.imm (Datum.toD a.c) && true))) = true
    rw [KD.imm, KD.imm, KD.imm]; rfl
  dep := max (KD.dep α) (max (KD.dep β) (KD.dep γ)) + 1
  dle a := by
    show max (keyN (Datum.toD a.a)).depth (max (keyN (Datum.toD a.b)).depth (max (keyN (Datum.toD a.c)).depth 0)) + 1 ≤ _
    have h1 := KD.dle a.a
    have h2 := KD.dle a.b
    have h3 := KD.dle a.c
    omega
section
variable {α : Type} [DecidableEq α] [Datum α] [KD α]
end
@[simp] theorem din_dcg {d : PyData} {kvs : List (PyData × PyData)} {neg : Bool} {C : PV → Prop} : dinGW neg [.dat d, .dcg kvs] C ↔ KeyOk d ∧ C (.dat (.bool (if neg then !(getG kvs d).isSome else (getG kvs d).isSome))) := by simp [dinGW, PV.dg]
@[simp] theorem din_dgf {d : PyData} {kvs : List (PyData × PyData)} {neg : Bool} {C : PV → Prop} : dinGW neg [.dat d, .dgf kvs] C ↔ KeyOk d ∧ C (.dat (.bool (if neg then !(getG kvs d).isSome else (getG kvs d).isSome))) := by simp [dinGW, PV.dg]
@[simp] theorem dget_dcg {d : PyData} {kvs : List (PyData × PyData)} {C : PV → Prop} : dgetGW [.dcg kvs, .dat d] C ↔ ∃ x, KeyOk d ∧ getG kvs d = some x ∧ C (.dat x) := by simp [dgetGW, PV.dg]
@[simp] theorem dget_dgf {d : PyData} {kvs : List (PyData × PyData)} {C : PV → Prop} : dgetGW [.dgf kvs, .dat d] C ↔ ∃ x, KeyOk d ∧ getG kvs d = some x ∧ C (.dat x) := by simp [dgetGW, PV.dg]
@[simp] theorem dg_dcg {kvs : List (PyData × PyData)} : PV.dg (.dcg kvs) = some kvs := rfl
@[simp] theorem dg_dgf {kvs : List (PyData × PyData)} : PV.dg (.dgf kvs) = some kvs := rfl
inductive Rch {α : Type} (B : α → Prop) (nx : α → List α) : α → Prop where
  | base {x : α} (h : B x) : Rch B nx x
  | step {x y : α} (h : Rch B nx x) (hy : y ∈ nx x) : Rch B nx y
structure WL {α : Type} (B : α → Prop) (nx : α → List α) (met wt : List α) : Prop where
  nd : met.Nodup
  mr : ∀ x ∈ met, Rch B nx x
  wr : ∀ x ∈ wt, Rch B nx x
  bs : ∀ x, B x → x ∈ met ∨ x ∈ wt
  cl : ∀ x ∈ met, ∀ y ∈ nx x, y ∈ met ∨ y ∈ wt
section
variable {α : Type} {B : α → Prop} {nx : α → List α} {met wt : List α} {e : α}
theorem WL.end (h : WL B nx met []) {x : α} : x ∈ met ↔ Rch B nx x := by
  constructor
  · exact h.mr x
  · intro r
    induction r with
    | base hb => exact (h.bs _ hb).resolve_right List.not_mem_nil
    | step _ hy ih => exact (h.cl _ ih _ hy).resolve_right List.not_mem_nil
theorem WL.go (h : WL B nx met (wt ++ [e])) (he : e ∉ met) : WL B nx (met ++ [e]) (wt ++ nx e) := by
  have re := h.wr e (by simp)
  have up : ∀ {x}, (x ∈ met ∨ x ∈ wt ++ [e]) → (x ∈ met ++ [e] ∨ x ∈ wt ++ nx e) := fun {x} q => by
    rcases q with q | q
    · exact Or.inl (List.mem_append.mpr (Or.inl q))
    · rcases List.mem_append.mp q with q | q
      · exact Or.inr (List.mem_append.mpr (Or.inl q))
      · rw [List.mem_singleton.mp q]; exact Or.inl (by simp)
  refine ⟨List.nodup_append.mpr ⟨h.nd, by simp, fun a ha b hb q => he (by rw [← List.mem_singleton.mp hb, ← q]; exact ha)⟩, fun x hx => ?_, fun x hx => ?_, fun x hx => up (h.bs x hx), fun x hx y hy => ?_⟩
  · rcases List.mem_append.mp hx with hx | hx
    · exact h.mr x hx
    · rw [List.mem_singleton.mp hx]; exact re
  · rcases List.mem_append.mp hx with hx | hx
    · exact h.wr x (List.mem_append.mpr (Or.inl hx))
    · exact .step re hx
  · rcases List.mem_append.mp hx with hx | hx
    · exact up (h.cl x hx y hy)
    · rw [List.mem_singleton.mp hx] at hy
      exact Or.inr (List.mem_append.mpr (Or.inr hy))
end
end Sk
set_option Elab.async false
set_option linter.all false
set_option maxRecDepth 100000
set_option maxHeartbeats 2000000
namespace Sk
open PySem PySem.Spec PyProof.Rows L2
open Evl (Ex)
@[simp] def gPL (i j : Nat) : HG := fun d s C => match d with
  | .list [a, b] => C ((s.put i (.dat a)).put j (.dat b))
  | _ => False
@[simp] def gTL (i j k : Nat) : HG := fun d s C => match d with
  | .list [a, b, c] => C (((s.put i (.dat a)).put j (.dat b)).put k (.dat c))
  | _ => False
section
variable {X : Cx} {f : Fr} {a : Expr} {i j l : Nat}
end
theorem lcs_n {α β : Type} {vs : List Nat} {g : HG} {t : HE} {sl : List (Option PV)} {P : β → Prop} {toD : β → PyData} {c N : Nat} (e : α → PyData) : ∀ (xs : List α) (acc : List PyData) (n : Nat) (C : PV → Sg → Prop),
    (∀ a ∈ xs, ∀ n, n ≤ N → ∀ K : PV → Sg → Prop, (∀ (b : β) (n' : Nat) (s3 : Sg), P b → n' ≤ n + c → s3.wipe vs = ⟨sl, n'⟩ → K (.dat (toD b)) s3) → g (e a) ⟨sl, n⟩ fun s1 => t s1 K) → n + c * xs.length ≤ N → acc.length + xs.length ≤ 100000 →
    (∀ (bs : List β) (n' : Nat), bs.length = xs.length → (∀ b ∈ bs, P b) → n' ≤ n + c * xs.length → C (.own (acc ++ bs.map toD)) ⟨sl, n'⟩) → lcs vs g hYes t (xs.map e) acc ⟨sl, n⟩ C := by
  intro xs
  induction xs with
  | nil => intro acc n C _ _ _ fin; simpa using fin [] n rfl (fun b h => by cases h) (by simp)
  | cons a xs ih =>
    intro acc n C h hN hl fin
    have hl' : acc.length + (xs.length + 1) ≤ 100000 := by simpa using hl
    have hN' : n + c * (xs.length + 1) ≤ N := by simpa using hN
    rw [Nat.mul_succ] at hN'
    show g (e a) ⟨sl, n⟩ fun s1 => hYes s1 fun b s2 => if b = true then t s2 fun p s3 => ∃ x, p.frz = some x ∧ acc.length < 100000 ∧ lcs vs g hYes t (xs.map e) (acc ++ [x]) (s3.wipe vs) C else lcs vs g hYes t (xs.map e) acc (s2.wipe vs) C
    refine h a List.mem_cons_self n (by omega) _ fun b n' s3 hb hn' hs => ⟨_, rfl, by omega, ?_⟩
    rw [hs]
    refine ih _ n' C (fun a' ha' => h a' (List.mem_cons_of_mem _ ha')) (by omega) (by simp; omega) fun bs n2 h1 h2 h3 => ?_
    have := fin (b :: bs) n2 (by simp [h1]) (fun x hx => by
      rcases List.mem_cons.mp hx with rfl | hx
      · exact hb
      · exact h2 x hx) (by simp only [List.length_cons, Nat.mul_succ]; omega)
    simpa using this
end Sk
set_option Elab.async false
set_option linter.all false
set_option maxRecDepth 100000
set_option maxHeartbeats 2000000
namespace Sk
open PySem PySem.Spec PyProof.Rows L2
open Evl (Ex)
@[simp] def inRW (neg : Bool) : List PV → (PV → Prop) → Prop := i2' fun i n => .bool (if neg then !decide (0 ≤ i ∧ i < n) else decide (0 ≤ i ∧ i < n))
section
variable {X : Cx} {f : Fr} {a b : Expr} {oa ob : HA → HA} {p q pos : Pos}
end
end Sk
namespace Sk
open PySem PySem.Spec PyProof.Rows L2
section
variable {prog : Program} {w : World} {A : Around} {E : Value → Shared → Prop} {s : Shared}
abbrev IsZipF (h : Heap) (z TI TO : Addr) (f0 : Value) (f1 : Bool) : Prop :=
  h.get? z = some { cls := .type "zip", dict := none, data := .fields #[f0, .bool f1, .bool false, .ref TI, .ref TO], slots := #[] }
def F0 (v : Value) : Prop := v = .none ∨ ∃ T : Addr, v = rawInt T
end
@[simp] def hiZN (ta : HA) : HI := fun s C => ta s fun ps s1 => match ps with
  | [.dat (.tuple ds), .dat (.tuple es)] => C (zipD ds es) s1
  | _ => False
section
variable {X : Cx} {f : Fr} {a b : Expr} {r : HA}
end
end Sk
set_option Elab.async false
set_option linter.all false
set_option maxRecDepth 100000
set_option maxHeartbeats 2000000
namespace Sk
open PySem PySem.Spec PyProof.Rows L2
open Evl (Ex)
section
variable {X : Cx} {f : Fr} {a : Expr} {oa : HA → HA} {p q pos q1 q2 : Pos}
end
end Sk
namespace Sk
open PySem PySem.Spec PyProof.Rows L2
open Evl (Ex)
section
variable {X : Cx} {f : Fr} {tg e : Expr} {t : HE}
@[simp] def hiA (t : HE) : HI := fun s C => t s fun p s1 => match p.frz with
  | some (.list ds) => C ds s1
  | some (.tuple ds) => C ds s1
  | _ => False
end
end Sk
set_option Elab.async false
set_option linter.all false
set_option maxRecDepth 100000
set_option maxHeartbeats 1000000
namespace Sk
open PySem PySem.Spec PyProof.Rows L2
open Evl (Ex)
section
variable {X : Cx}
variable {f : Fr}
end
end Sk
set_option maxHeartbeats 2000000
namespace Sk
open PySem PySem.Spec PyProof.Rows L2
open Evl (Ex)
section
variable {X : Cx} {f : Fr}
@[simp] def hUpdL (j : Nat) (t : HE) : HE := fun s C => (∃ kvs, s.sl[j]? = some (some (.dct kvs))) ∧ t s fun p s1 => ∃ ds more kvs, p.lst = some ds ∧ pairsD ds = some more ∧ s1.sl[j]? = some (some (.dct kvs)) ∧ kvs.length + more.length ≤ 100000 ∧ C (.dat .none) (s1.put j (.dct (mergeD kvs more)))
end
end Sk
set_option Elab.async false
set_option linter.all false
set_option maxRecDepth 100000
namespace Sk
open PySem PySem.Spec PyProof.Rows L2
open PySem.W (Datum DatumOrd Tup T3 T4)
open Evl (Ex)
section
variable {X : Cx} {f : Fr}
end
end Sk
set_option maxHeartbeats 2000000
namespace Sk
open PySem PySem.Spec PyProof.Rows L2
open Evl (Ex)
section
variable {X : Cx} {f : Fr}
def isB (neg : Bool) : List PV → (PV → Prop) → Prop := fun ps C => match ps with
  | [.dat (.bool a), .dat (.bool b)] => C (.dat (.bool (if neg then !(a == b) else a == b)))
  | _ => False
end
end Sk
set_option Elab.async false
set_option linter.all false
set_option maxRecDepth 100000
set_option maxHeartbeats 2000000
namespace Sk
open PySem PySem.Spec PyProof.Rows L2
open Evl (Ex)
open Sem (wp)
open AutoSeq1 (wpAny_loadPart')
section
variable {prog : Program} {w : World} {A : Around} {E : Value → Shared → Prop} {s : Shared}
end
section
variable {X : Cx} {f : Fr} {a : Expr} {r : HA} {pos : Pos}
@[simp] def hiET (ta : HA) : HI := fun s C => ta s fun ps s1 => match ps with
  | [.dat (.tuple ds)] => C (enumD 0 ds) s1
  | _ => False
end
end Sk
set_option Elab.async false
set_option linter.all false
set_option maxRecDepth 100000
set_option maxHeartbeats 2000000
namespace Sk
open PySem PySem.Spec PyProof.Rows L2
open PySem.W (Datum DatumOrd Tup T3 T4)
open Evl (Ex)
section
variable {w : World} {prog : Program} {A : Around} {E : Value → Shared → Prop} {d : Addr}
end
def flatV : List (V × V) → List V
  | [] => []
  | p :: r => p.1 :: p.2 :: flatV r
def flatD : List (PyData × PyData) → List PV
  | [] => []
  | p :: r => .dat p.1 :: .dat p.2 :: flatD r
structure PPh (X : Cx) (f : Fr) (pos : Pos) (keys : List (Option Expr)) (values : List Expr) (r : HA) : Prop where
  ex : ∃ trs, PPs X pos keys values trs ∧ ∀ σ H (Q : List V → Hp → Prop), lfA X.K f r σ H Q → tPairs trs σ H fun ps H' => Q (flatV ps) H'
@[simp] def hDispG (r : HA) : HE := fun s C => r s fun ps s1 => ∃ kvs, ps = flatD kvs ∧ (∀ kv ∈ kvs, KeyOk kv.1) ∧ kvs.length ≤ 15 ∧ C (.dcg (mergeDG [] kvs)) s1
section
variable {X : Cx} {f : Fr} {pos : Pos}
@[simp] def hParG (i j : Nat) (t u : HE) : HS := fun D s => t s fun p s1 => p.mut = false ∧ u s1 fun q s2 => D.nx ((s2.put i p).put j q)
end
end Sk
set_option Elab.async false
set_option linter.all false
set_option maxRecDepth 100000
set_option maxHeartbeats 2000000
namespace Sk
open PySem PySem.Spec PyProof.Rows L2
open PySem.W (Datum DatumOrd Tup T3 T4)
open Evl (Ex)
section
variable {P : Program} {w : World} {A : Around} {E : Value → Shared → Prop} {s : Shared}
end
section
variable {X : Cx} {f : Fr}
end
end Sk
set_option Elab.async false
set_option linter.all false
set_option maxRecDepth 100000
set_option maxHeartbeats 2000000
namespace Sk
open PySem PySem.Spec PyProof.Rows L2
open Evl (Ex)
section
variable {X : Cx} {f : Fr} {e a b c : Expr} {d d1 d2 : PyData} {pos : Pos} {k : Nat}
@[simp] def hPar3 (i j l : Nat) (p q r : PV) : HS := fun D s => i < s.sl.length ∧ j < s.sl.length ∧ l < s.sl.length ∧ D.nx (((s.put i p).put j q).put l r)
end
end Sk
set_option maxHeartbeats 4000000
namespace Sk
open PySem PySem.Spec PyProof.Rows L2
open PySem.W (Datum DatumOrd Tup T3 T4)
open Evl (Ex)
section
variable {X : Cx} {f : Fr}
def intW : List PV → (PV → Prop) → Prop := fun ps C => match ps with
  | [.dat (.bool b)] => C (.dat (.int (if b = true then 1 else 0)))
  | [.dat (.int i)] => C (.dat (.int i))
  | _ => False
@[simp] theorem int_bool {b : Bool} {C : PV → Prop} : intW [.dat (.bool b)] C ↔ C (.dat (.int (if b = true then 1 else 0))) := by simp [intW]
@[simp] theorem int_int {i : Int} {C : PV → Prop} : intW [.dat (.int i)] C ↔ C (.dat (.int i)) := by simp [intW]
@[simp] def hExtV (j i : Nat) : HE := fun s C => ∃ ds es, s.sl[j]? = some (some (.own ds)) ∧ s.sl[i]? = some (some (.own es)) ∧ ds.length + es.length ≤ 100000 ∧ C (.dat .none) (s.put j (.own (ds ++ es)))
end
end Sk
set_option Elab.async false
set_option linter.all false
set_option maxRecDepth 100000
set_option maxHeartbeats 4000000
namespace Sk
open PySem PySem.Spec PyProof.Rows L2
open PySem.W (Datum DatumOrd Tup T3 T4)
open Evl (Ex)
section
variable {X : Cx} {f : Fr}
variable {α κ : Type} [DecidableEq α] [Datum α] [Im α] [DecidableEq κ] [DatumOrd κ] [Srt κ] {k : α → κ} {P : Addr} {q : Str}
end
end Sk
set_option Elab.async false
set_option linter.all false
set_option maxRecDepth 100000
set_option maxHeartbeats 4000000
namespace Sk
open PySem PySem.Spec PyProof.Rows L2
open PySem.W (Datum DatumOrd Tup T3 T4)
open Evl (Ex)
section
variable {X : Cx}
variable {f : Fr}
end
end Sk
set_option Elab.async false
set_option linter.all false
set_option maxRecDepth 100000
set_option maxHeartbeats 4000000
namespace Sk
open PySem PySem.Spec PyProof.Rows L2
open Evl (Ex)
abbrev LD := List (PyData × List PyData)
abbrev HQ := (Sg → LD → Prop) → Sg → LD → Prop
def putL : LD → PyData → PyData → LD
  | [], d, x => [(d, [x])]
  | kv :: L, d, x => if keyN kv.1 = keyN d then (kv.1, kv.2 ++ [x]) :: L else kv :: putL L d x
abbrev QE (K : PySem.W.Frag) (G B : Hp) (z : GEnt) (kv : PyData × List PyData) : Prop := z.1 = keyN kv.1 ∧ KeyOk kv.1 ∧ Dp K G z.2.1 kv.1 ∧ ∃ a vs, z.2.2 = V.ref a ∧ B a = some (.lst vs) ∧ DpAll K G vs kv.2
def NstD (K : PySem.W.Frag) (w : World) (G B : Hp) (p : Addr) (L : LD) : Prop := ∃ (o : Obj) (xs : List GEnt), B p = some (GDo w p (o, xs)) ∧ (V.ref p :: xs.map (·.2.2)).Nodup ∧ Paired (QE K G B) xs L
section
variable {K : PySem.W.Frag} {w : World} {f F : Fr} {O : Addr → Prop} {B G G' H H' : Hp} {s : Sg} {σ : L2.St} {a b c p : Addr} {o : Obj} {xs : List GEnt} {L : LD} {d x : PyData} {y v : V} {vs : List V}
theorem QE.ex {z : GEnt} {kv : PyData × List PyData} (h : QE K G B z kv) (e : Ex G G') : QE K G' B z kv := by
  obtain ⟨h1, h2, h3, a, vs, h4, h5, h6⟩ := h
  exact ⟨h1, h2, Dp.ex e _ h3, a, vs, h4, h5, Dp.exAll e _ h6⟩
theorem NstD.ex (h : NstD K w G B p L) (e : Ex G G') : NstD K w G' B p L := by
  obtain ⟨o, xs, h1, h2, h3⟩ := h
  exact ⟨o, xs, h1, h2, paired_mono h3 fun a b q => QE.ex q e⟩
theorem RelB.doneR (R : RelB K f F O B G s σ H) {op : HO} (hp : B p = some op) : ∃ G', Ex G G' ∧ (∀ a o, a ≠ p → B a = some o → G' a = some o) ∧ G' p = none ∧ Rel K (fo f F O) G' s σ H ∧ (∀ (i : Nat) (q : PV), s.sl[i]? = some (some q) → q.mut = true → σ[i]? ≠ some (some (V.ref p))) := by
  have hpn : B p ≠ none := by rw [hp]; intro z; cases z
  have gpn : G p = none := R.gn hp
  let G1 : Hp := fun a => if a = p then G a else (B a).or (G a)
  have e1 : Ex G G1 := fun a o h => by
    show (if a = p then G a else (B a).or (G a)) = some o
    by_cases q : a = p
    · rw [if_pos q]; exact h
    · rw [if_neg q]
      cases w : B a with
      | none => exact h
      | some u => rw [R.gn w] at h; cases h
  have g1 : ∀ a o, a ≠ p → B a = some o → G1 a = some o := fun a o ne h => by
    show (if a = p then G a else (B a).or (G a)) = some o
    rw [if_neg ne, h]; rfl
  have nB : ∀ {a : Addr}, B a = none → G1 a = G a := fun {a} h => by
    show (if a = p then G a else (B a).or (G a)) = G a
    rw [h]; split <;> rfl
  have gp : G1 p = none := by
    show (if p = p then G p else (B p).or (G p)) = none
    rw [if_pos rfl]; exact gpn
  have bO : ∀ {a : Addr}, ¬ (O a ∨ B a ≠ none) → B a = none := fun {a} h => by
    cases q : B a with
    | none => rfl
    | some u => exact absurd (Or.inr (by rw [q]; intro z; cases z)) h
  have R1 : Rel K (fo f F O) G1 s σ H := {
    gh := fun a o h => by
      have h : (if a = p then G a else (B a).or (G a)) = some o := h
      by_cases q : a = p
      · rw [if_pos q] at h; exact R.r.gh a o h
      · rw [if_neg q] at h
        cases w : B a with
        | none => rw [w] at h; exact R.r.gh a o h
        | some u => rw [w] at h; cases h; exact R.at w
    fh := fun a o m h => R.r.fh a o m (by
      show (B a).or (F.F a) = some o
      cases w : B a with
      | none => exact h
      | some u => have := (R.b a (by rw [w]; intro z; cases z)).2.2.1; rw [show F.F a = some o from h] at this; cases this)
    go := fun a h => by
      have : B a = none := by
        cases w : B a with
        | none => rfl
        | some u => exact absurd h (R.b a (by rw [w]; intro z; cases z)).2.1
      rw [nB this]; exact R.r.go a (Or.inl h)
    oh := fun a h => R.r.oh a (Or.inl h)
    mh := R.r.mh
    mo := fun h => by
      obtain ⟨x, y, z, d, e⟩ := R.r.mo h
      have c : ∀ {a : Addr}, (a = F.m ∨ a = F.l ∨ a = F.c) → (O a ∨ B a ≠ none) → O a := fun {a} w h2 => h2.elim id fun n => by
        obtain ⟨n1, n2, n3⟩ := (R.b a n).2.2.2 h
        rcases w with w | w | w
        · exact absurd w n1
        · exact absurd w n2
        · exact absurd w n3
      exact ⟨c (Or.inl rfl) x, c (Or.inr (Or.inl rfl)) y, c (Or.inr (Or.inr rfl)) z, d, e⟩
    tm := fun p hp => ⟨(R.r.tm p hp).1.elim id fun z => absurd (R.r.tm p hp).2 (R.b _ z).1, (R.r.tm p hp).2⟩
    tb := fun p hp => (R.r.tb p hp).keep (fun _ _ _ z => e1 _ _ z) rfl
    pk := fun en he => (R.pk en he).ex e1
    dr := R.r.dr
    ln := R.r.ln
    sl := fun i q hq => by
      obtain ⟨v, h1, h2⟩ := R.r.sl i q hq
      refine ⟨v, h1, ?_⟩
      have h3 : VR K (fo f (F.ups B) fun a => O a ∨ B a ≠ none) G1 H q v := by
        cases q with
        | dat d => exact Dp.ex e1 _ h2
        | drw => exact h2
        | val _ => exact h2
        | dgf _ => obtain ⟨p0, xs0, z1, z2, z3⟩ := h2; exact ⟨p0, xs0, z1, e1 _ _ z2, z3.ex e1⟩
        | abs _ => exact fun G9 e9 => h2 G9 (e1.trans e9)
        | own ds =>
          obtain ⟨b, vs, rfl, k1, k2, k3, k4, k5⟩ := h2
          exact ⟨b, vs, rfl, k1, by rw [nB (bO k3)]; exact k2, k3, k4, Dp.exAll e1 _ k5⟩
        | byr ds =>
          obtain ⟨b, vs, rfl, k1, k2, k3, k4, k5, k6⟩ := h2
          exact ⟨b, vs, rfl, k1, by rw [nB (bO k3)]; exact k2, k3, k4, Dp.exAll e1 _ k5, k6⟩
        | lat _ ds =>
          obtain ⟨b, vs, rfl, k1, k2, k3, k4, k5, k6⟩ := h2
          exact ⟨b, vs, rfl, k1, by rw [nB (bO k3)]; exact k2, k3, k4, Dp.exAll e1 _ k5, k6⟩
        | dct ds =>
          obtain ⟨b, vs, rfl, k1, k2, k3, k4, k5, k6⟩ := h2
          exact ⟨b, vs, rfl, k1, by rw [nB (bO k3)]; exact k2, k3, k4, k5, Dp.exAll e1 _ k6⟩
        | dcg ds =>
          obtain ⟨b, vs, rfl, k1, k2, k3, k4, k5⟩ := h2
          exact ⟨b, vs, rfl, k1, by rw [nB (bO k3)]; exact k2, k3, k4, k5.ex e1⟩
      refine h3.upB rfl rfl rfl rfl fun b u hb hn => ⟨hb, fun z => hn (Or.inl z), fun w => w.imp (fun y => ?_) id⟩
      have y : (B b).or (F.F b) = none := y
      rw [bO hn] at y; exact y
    ds := R.r.ds }
  refine ⟨G1, e1, g1, gp, R1, fun i q h1 h2 h3 => ?_⟩
  obtain ⟨v, h4, h5⟩ := R.r.sl i q h1
  rw [h3] at h4
  cases h4
  cases q with
  | dat d => cases h2
  | drw => cases h2
  | val _ => cases h2
  | dgf _ => cases h2
  | abs _ => cases h2
  | own ds => obtain ⟨p, _, e, _, _, h6, _⟩ := h5; cases e; exact h6 (Or.inr hpn)
  | byr ds => obtain ⟨p, _, e, _, _, h6, _⟩ := h5; cases e; exact h6 (Or.inr hpn)
  | lat _ ds => obtain ⟨p, _, e, _, _, h6, _⟩ := h5; cases e; exact h6 (Or.inr hpn)
  | dct ds => obtain ⟨p, _, e, _, _, h6, _⟩ := h5; cases e; exact h6 (Or.inr hpn)
  | dcg ds => obtain ⟨p, _, e, _, _, h6, _⟩ := h5; cases e; exact h6 (Or.inr hpn)
theorem NstD.done (R : RelB K f F O B G s σ H) (h : NstD K f.w G B p L) : ∃ G', Ex G G' ∧ Rel K (fo f F O) G' s σ H ∧ VRf K (fo f F O) G' H s σ (.dcg (L.map fun kv => (kv.1, PyData.list kv.2))) (.ref p) := by
  obtain ⟨ob, xs, hp, nd, hpr⟩ := h
  obtain ⟨G1, e1, g1, gp, R1, un⟩ := R.doneR hp
  obtain ⟨n1, n2, n3, n4⟩ := R.b p (by rw [hp]; intro z; cases z)
  have go : ∀ {us : List GEnt} {ws : LD}, V.ref p ∉ us.map (·.2.2) → Paired (QE K G B) us ws → Paired (GQ K G1) us (ws.map fun kv => (kv.1, PyData.list kv.2)) := fun {us ws} n t => by
    induction t with
    | nil => exact .nil
    | cons q _ ih =>
      rw [List.map_cons] at n
      obtain ⟨h1, h2, h3, a, vs, h4, h5, h6⟩ := q
      have ne : a ≠ p := fun e => n (by rw [h4, e]; exact List.mem_cons_self)
      refine .cons ⟨h1, h2, Dp.ex e1 _ h3, ?_⟩ (ih fun h => n (List.mem_cons_of_mem _ h))
      rw [h4]
      exact .lst (Or.inl (Or.inl (g1 _ _ ne h5))) (Dp.exAll e1 _ h6)
  exact ⟨G1, e1, R1, ⟨p, (ob, xs), rfl, R.at hp, gp, n2, Or.inl n3, GRel.of (go (List.nodup_cons.mp nd).1 hpr)⟩, fun _ i q h1 h2 h3 => un i q h1 h2 h3⟩
end
end Sk
set_option Elab.async false
set_option linter.all false
set_option maxRecDepth 100000
set_option maxHeartbeats 4000000
namespace Sk
open PySem PySem.Spec PyProof.Rows L2
open Evl (Ex)
@[simp] def qeach (g : HG) (t : HQ) (Q : Sg → LD → Prop) : List PyData → Sg → LD → Prop
  | [], s, L => Q s L
  | d :: ds, s, L => g d s fun s1 => t (qeach g t Q ds) s1 L
@[simp] def qFor (it : HI) (g : HG) (t : HQ) : HQ := fun Q s L => it s fun ds s1 => qeach g t Q ds s1 L
@[simp] def qIf (c : HT) (t : HQ) : HQ := fun Q s L => c s fun b s1 => if b = true then t Q s1 L else Q s1 L
@[simp] def qApp (tk tv : HE) : HQ := fun Q s L => tk s fun q s1 => ∃ d, q = .dat d ∧ KeyOk d ∧ L.length < 100000 ∧ (∀ kv ∈ L, kv.2.length < 100000) ∧ tv s1 fun p s2 => ∃ x, p.frz = some x ∧ Q s2 (putL L d x)
section
variable {X : Cx} {f : Fr} {e a b c : Expr} {es : List Expr} {st : Stmt} {sts rest : List Stmt} {tk tv : HE} {tt : HT} {tn : HQ} {g : HG} {ws : List Nat} {it : HI} {j : Nat} {pos : Pos}
end
end Sk
set_option Elab.async false
set_option linter.all false
set_option maxRecDepth 100000
set_option maxHeartbeats 2000000
namespace Sk
open PySem PySem.Spec PyProof.Rows L2
open Evl (Ex)
open PySem.W (Datum DatumOrd Tup T3 T4)
section
variable {X : Cx} {f : Fr} {pos : Pos}
@[simp] def hiGV (t : HE) : HI := fun s C => t s fun p s1 => ∃ kvs, p.dg = some kvs ∧ C (kvs.map (·.2)) s1
end
end Sk
set_option Elab.async false
set_option linter.all false
set_option maxRecDepth 100000
set_option maxHeartbeats 2000000
namespace Sk
open PySem PySem.Spec PyProof.Rows L2
open Evl (Ex)
open Sem (wp)
open AutoSeq1 (wpAny_loadPart')
section
variable {prog : Program} {w : World} {A : Around} {E : Value → Shared → Prop} {s : Shared}
end
section
variable {prog : Program} {w : World} {A : Around} {E : Value → Shared → Prop} {s : Shared}
end
section
variable {X : Cx} {f : Fr} {a : Expr} {t : HE} {pos : Pos}
@[simp] def hiEG (t : HE) : HI := fun s C => t s fun p s1 => ∃ kvs, p.dg = some kvs ∧ C (enumD 0 (kvs.map (·.1))) s1
end
end Sk
set_option Elab.async false
set_option linter.all false
set_option maxRecDepth 100000
set_option maxHeartbeats 4000000
namespace Sk
open PySem PySem.Spec PyProof.Rows L2
open Evl (Ex)
section
variable {X : Cx} {f : Fr}
@[simp] def hiGI (t : HE) : HI := fun s C => t s fun p s1 => ∃ kvs, p.dg = some kvs ∧ C (kvs.map fun kv => PyData.tuple [kv.1, kv.2]) s1
end
end Sk
namespace Sk
open PySem PySem.Spec PyProof.Rows L2
open Evl (Ex)
section
variable {prog : Program} {w : World} {A : Around} {E : Value → Shared → Prop} {s : Shared}
end
structure ZS (h : Heap) (z TI TO i1 i2 a b : Addr) (i : Nat) : Prop where
  zz : ∃ f0 f1, IsZipF h z TI TO f0 f1 ∧ F0 f0
  ti : IsPair h TI (.ref i1) (.ref i2)
  to : ∃ x y, IsPair h TO x y
  h1 : h.IsListIter i1 a i
  h2 : h.IsListIter i2 b i
theorem ZS.keep {h h' : Heap} {z TI TO i1 i2 a b : Addr} {i : Nat} (Z : ZS h z TI TO i1 i2 a b i) (k : ∀ c ∈ [z, TI, TO, i1, i2], ∀ o, h.get? c = some o → h'.get? c = some o) : ZS h' z TI TO i1 i2 a b i := by
  obtain ⟨⟨f0, f1, hz, hf⟩, hTI, ⟨x, y, hTO⟩, h1, h2⟩ := Z
  exact ⟨⟨f0, f1, k z (by simp) _ hz, hf⟩, k TI (by simp) _ hTI, ⟨x, y, k TO (by simp) _ hTO⟩, h1.at fun o q => k i1 (by simp) o q, h2.at fun o q => k i2 (by simp) o q⟩
section
variable {X : Cx} {pins : List (Addr × Obj)} {σ : L2.St}
variable {f : Fr}
end
end Sk
set_option Elab.async false
set_option linter.all false
set_option maxRecDepth 100000
set_option maxHeartbeats 4000000
namespace Sk
open PySem PySem.Spec PyProof.Rows L2
open PySem.W (Datum DatumOrd Tup T3 T4)
open Evl (Ex)
section
variable {X : Cx} {f : Fr} {e a : Expr} {t : HE}
@[simp] def hIdxD (j : Nat) (t : HE) : HE := fun s C => (∃ p ds, s.sl[j]? = some (some p) ∧ p.lst = some ds) ∧ t s fun q s1 => ∃ p ds, ∃ d z : PyData, ∃ n, s1.sl[j]? = some (some p) ∧ p.lst = some ds ∧ q = .dat d ∧ SeqAt.shaped (.list ds) = true ∧ SeqAt.shaped d = true ∧ ds[n]? = some z ∧ PyData.eqv z d = true ∧ (∀ (m : Nat) (z' : PyData), m < n → ds[m]? = some z' → PyData.eqv z' d = false) ∧ C (.dat (.int (n : Nat))) s1
end
end Sk
set_option Elab.async false
set_option linter.all false
set_option maxRecDepth 100000
set_option maxHeartbeats 4000000
namespace Sk
open PySem PySem.Calls
section
variable {prog : Program} {w : World} {A : Around} {s : Shared} {E : Value → Shared → Prop} {xs : List RE} {k : NestedKey} {key v : Value} {d : Addr}
end
end Sk
namespace Sk
open PySem PySem.Spec PyProof.Rows L2
open Evl (Ex)
section
variable {X : Cx} {pins : List (Addr × Obj)} {σ : L2.St} {H : Hp} {s : Shared} {E : Value → Shared → Prop} {a : Addr} {y : V} {u : Value}
variable {f : Fr} {e : Expr} {es : List Expr} {ta : HA}
@[simp] def hGet2 (j : Nat) (ta : HA) : HE := fun s C => (∃ p kvs, s.sl[j]? = some (some p) ∧ p.dg = some kvs) ∧ ta s fun ps s1 => ∃ d p kvs, ps = [.dat d] ∧ s1.sl[j]? = some (some p) ∧ p.dg = some kvs ∧ KeyOk d ∧ C (.dat ((getG kvs d).getD .none)) s1
end
end Sk
set_option Elab.async false
set_option linter.all false
set_option maxRecDepth 100000
set_option maxHeartbeats 4000000
namespace Sk
open PySem PySem.Spec PyProof.Rows L2
open Evl (Ex)
@[simp] def gQ (j0 j1 j2 j3 : Nat) : HG := fun d s C => match d with
  | .tuple [x0, x1, x2, x3] => C ((((s.put j0 (.dat x0)).put j1 (.dat x1)).put j2 (.dat x2)).put j3 (.dat x3))
  | _ => False
@[simp] def gF (j0 j1 j2 j3 j4 : Nat) : HG := fun d s C => match d with
  | .tuple [x0, x1, x2, x3, x4] => C (((((s.put j0 (.dat x0)).put j1 (.dat x1)).put j2 (.dat x2)).put j3 (.dat x3)).put j4 (.dat x4))
  | _ => False
@[simp] def hFzL (t : HE) : HE := fun s C => t s fun p s1 => ∃ d, p.frz = some d ∧ C (.dat d) s1
end Sk
set_option Elab.async false
set_option linter.all false
set_option maxRecDepth 100000
set_option maxHeartbeats 4000000
namespace Sk
open PySem PySem.Spec PyProof.Rows L2
open PySem.W (Datum DatumOrd Tup T3 T4)
open Evl (Ex)
section
variable {X : Cx} {f : Fr} {e a : Expr} {t : HE}
@[simp] def hExtF (j : Nat) (t : HE) : HE := fun s C => (∃ ds, s.sl[j]? = some (some (.own ds))) ∧ t s fun p s1 => ∃ ds es, p = .dat (.list es) ∧ s1.sl[j]? = some (some (.own ds)) ∧ ds.length + es.length ≤ 100000 ∧ C (.dat .none) (s1.put j (.own (ds ++ es)))
end
@[simp] def hKeep (j : Nat) (t : HE) : HE := fun s C => match s.sl[j]? with
  | some (some (.dat d)) => t s fun p s' => C p (s'.put j (.dat d))
  | _ => t s C
end Sk
set_option Elab.async false
set_option linter.all false
set_option maxRecDepth 100000
set_option maxHeartbeats 4000000
namespace Sk
open PySem PySem.Spec PyProof.Rows L2
open Evl (Ex)
section
variable {X : Cx} {f : Fr} {e : Expr} {es : List Expr} {t : HE} {ta : HA}
@[simp] def hGetE3 (t : HE) (ta : HA) : HE := fun s C => t s fun p s1 => ∃ kvs, p.dg = some kvs ∧ ta s1 fun ps s2 => ∃ d x, ps = [.dat d, .dat x] ∧ KeyOk d ∧ C (.dat ((getG kvs d).getD x)) s2
end
end Sk
set_option maxHeartbeats 2000000
namespace Sk
open PySem PySem.Spec PyProof.Rows L2
open PySem.W (Datum DatumOrd Tup T3 T4)
open Evl (Ex)
section
variable {X : Cx} {f : Fr} {e : Expr}
@[simp] def hEmp : HE := fun s C => C (.dat (.dict [])) s
end
end Sk
set_option Elab.async false
set_option linter.all false
set_option maxRecDepth 100000
set_option maxHeartbeats 4000000
namespace Sk
open PySem PySem.Spec PyProof.Rows L2
open PySem.W (Datum DatumOrd Tup T3 T4)
open Evl (Ex)
section
variable {X : Cx} {f : Fr} {e a : Expr} {t : HE}
@[simp] def hCount (j : Nat) (t : HE) : HE := fun s C => (∃ p ds, s.sl[j]? = some (some p) ∧ p.lst = some ds) ∧ t s fun q s1 => ∃ p ds, ∃ d : PyData, s1.sl[j]? = some (some p) ∧ p.lst = some ds ∧ q = .dat d ∧ SeqAt.shaped (.list ds) = true ∧ SeqAt.shaped d = true ∧ C (.dat (.int (ds.countP fun z => PyData.eqv z d : Nat))) s1
end
end Sk
set_option Elab.async false
set_option linter.all false
set_option maxRecDepth 100000
set_option maxHeartbeats 4000000
namespace Sk
open PySem PySem.Spec PyProof.Rows L2
open PySem.W (Datum DatumOrd Tup T3 T4 EachIs)
open SeqAt
section
variable {P : Program} {w : World}
def ClsAt (P : Program) (w : World) (n : Nat) (s : Shared) (v : Value) : Prop := ∀ (A : Around) (E : Value → Shared → Prop) (Q : Bool → Shared → Prop), Q false s → wpAny (model P w) A (ofAClassStatement n v) Q E s
theorem ClsAt.flat {n : Nat} {s : Shared} {v : Value} (h : ∀ a, v ≠ .ref a) : ClsAt P w n s v := fun A E Q q => by
  cases v with
  | ref a => exact absurd rfl (h a)
  | _ => cases n <;> exact wpAny_pure q
theorem ClsAt.tuple {n : Nat} {s : Shared} {a : Addr} {o : Obj} {vs : Array Value} {m : Nat} (ho : s.heap.get? a = some o) (hc : o.cls = .type "tuple") (hd : o.data = .seq vs m) (hq : ∀ v ∈ vs.toList, ClsAt P w n s v) : ClsAt P w (n + 1) s (.ref a) := fun A E Q h => by
  have hT : s.TypeIs (.ref a) "tuple" := ⟨o, ho, hc⟩
  unfold ofAClassStatement
  refine wpAny_bind (wpAny_typeOf hT ?_)
  dsimp only
  simp only [show (("tuple" : String) == "tuple") = true by decide, if_true, Bool.not_true, Bool.false_eq_true, if_false]
  try refine wpAny_bind (wpAny_pure ?_)
  try simp only [Bool.not_true, Bool.false_eq_true, if_false]
  show wpAny _ _ (seqItems? (.ref a) >>= _) _ _ s
  refine wpAny_bind (wpAny_seqItems ho hd ?_)
  dsimp only
  refine wpAny_bind ?_
  rw [← Array.forIn_toList]
  refine wpAny_forIn_list _ (fun left r z => r.1 = none ∧ z = s ∧ ∀ v ∈ left, ClsAt P w n s v) _ (fun v left r z hz => ?_) (fun r z hz => ?_) _ _ ⟨rfl, rfl, hq⟩
  · obtain ⟨h1, rfl, h3⟩ := hz
    refine wpAny_bind (h3 v List.mem_cons_self _ _ _ ?_)
    simp only [Bool.false_eq_true, if_false]
    exact wpAny_pure ⟨rfl, rfl, fun u hu => h3 u (List.mem_cons_of_mem _ hu)⟩
  · obtain ⟨h1, rfl, _⟩ := hz
    obtain ⟨r1, r2⟩ := r
    dsimp only at h1
    subst h1
    exact wpAny_pure h
def HvAt (P : Program) (w : World) (n : Nat) (s : Shared) (v : Value) : Prop := ∀ (A : Around) (E : Value → Shared → Prop) (Q : Bool → Shared → Prop), (∀ c, Q c s) → wpAny (model P w) A (hashByValue n v) Q E s
theorem HvAt.tuple {n : Nat} {s : Shared} {a : Addr} {o : Obj} {vs : Array Value} {m : Nat} (ho : s.heap.get? a = some o) (hc : o.cls = .type "tuple") (hd : o.data = .seq vs m) (hq : ∀ v ∈ vs.toList, HvAt P w n s v) : HvAt P w (n + 1) s (.ref a) := fun A E Q h => by
  have hT : s.TypeIs (.ref a) "tuple" := ⟨o, ho, hc⟩
  unfold hashByValue
  refine wpAny_bind (wpAny_specialOf hT F.slot_tuple_hash.lookup ?_)
  show wpAny _ _ (seqItems? (.ref a) >>= _) _ _ s
  refine wpAny_bind (wpAny_seqItems ho hd ?_)
  refine wpAny_bind ?_
  show wpAny _ _ (forIn vs _ _) _ _ s
  rw [← Array.forIn_toList]
  refine wpAny_forIn_list _ (fun left r z => z = s ∧ ∀ v ∈ left, HvAt P w n s v) _ (fun v left r z hz => ?_) (fun r z hz => ?_) _ _ ⟨rfl, hq⟩
  · obtain ⟨rfl, h3⟩ := hz
    refine wpAny_bind (h3 v List.mem_cons_self _ _ _ fun c => ?_)
    cases c with
    | true =>
      simp only [Bool.not_true, Bool.false_eq_true, if_false]
      exact wpAny_pure ⟨rfl, fun u hu => h3 u (List.mem_cons_of_mem _ hu)⟩
    | false =>
      simp only [Bool.not_false, if_true]
      exact wpAny_pure (wpAny_pure (h _))
  · obtain ⟨rfl, _⟩ := hz
    obtain ⟨r1, r2⟩ := r
    cases r1 with
    | none => exact wpAny_pure (h _)
    | some c => exact wpAny_pure (h _)
mutual
theorem cls_key : ∀ (k : NestedKey) (v : Value) (n : Nat) (s : Shared), NestedIs s.heap k v → k.depth ≤ n → ClsAt P w n s v
  | .none, _, n, s, x, _ => by cases x; exact .flat fun a e => by cases e
  | .num i, _, n, s, x, _ => by cases x <;> exact .flat fun a e => by cases e
  | .text y, _, n, s, x, _ => by cases x; exact .flat fun a e => by cases e
  | .tup ks, _, n, s, x, hn => by
    cases x with
    | tup hg hc hd hk =>
      simp only [NestedKey.depth] at hn
      cases n with
      | zero => omega
      | succ n => exact .tuple hg hc hd (cls_keys ks _ n s hk (by omega))
theorem cls_keys : ∀ (ks : List NestedKey) (vs : List Value) (n : Nat) (s : Shared), NestedAll s.heap ks vs → NestedKey.depthAll ks ≤ n → ∀ v ∈ vs, ClsAt P w n s v
  | [], _, n, s, x, _, v, hv => by cases x; cases hv
  | k :: ks, _, n, s, x, hn, v, hv => by
    cases x with
    | cons x1 x2 =>
      simp only [NestedKey.depthAll] at hn
      rcases List.mem_cons.mp hv with e | hv
      · rw [e]; exact cls_key k _ n s x1 (by omega)
      · exact cls_keys ks _ n s x2 (by omega) v hv
end
theorem hv_flat {n : Nat} {s : Shared} {v : Value} (h : v = .none ∨ (∃ b, v = .bool b) ∨ (∃ i t, v = .int i t) ∨ ∃ x t, v = .str x t) : HvAt P w n s v := fun A E Q q => by
  rcases h with rfl | ⟨b, rfl⟩ | ⟨i, t, rfl⟩ | ⟨x, t, rfl⟩ <;> cases n <;> exact wpAny_pure (q _)
mutual
theorem hv_key : ∀ (k : NestedKey) (v : Value) (n : Nat) (s : Shared), NestedIs s.heap k v → k.depth ≤ n → HvAt P w n s v
  | .none, _, n, s, x, _ => by cases x; exact hv_flat (.inl rfl)
  | .num i, _, n, s, x, _ => by
    cases x with
    | bool e => exact hv_flat (.inr (.inl ⟨_, rfl⟩))
    | int i t => exact hv_flat (.inr (.inr (.inl ⟨_, _, rfl⟩)))
  | .text y, _, n, s, x, _ => by cases x; exact hv_flat (.inr (.inr (.inr ⟨_, _, rfl⟩)))
  | .tup ks, _, n, s, x, hn => by
    cases x with
    | tup hg hc hd hk =>
      simp only [NestedKey.depth] at hn
      cases n with
      | zero => omega
      | succ n => exact .tuple hg hc hd (hv_keys ks _ n s hk (by omega))
theorem hv_keys : ∀ (ks : List NestedKey) (vs : List Value) (n : Nat) (s : Shared), NestedAll s.heap ks vs → NestedKey.depthAll ks ≤ n → ∀ v ∈ vs, HvAt P w n s v
  | [], _, n, s, x, _, v, hv => by cases x; cases hv
  | k :: ks, _, n, s, x, hn, v, hv => by
    cases x with
    | cons x1 x2 =>
      simp only [NestedKey.depthAll] at hn
      rcases List.mem_cons.mp hv with e | hv
      · rw [e]; exact hv_key k _ n s x1 (by omega)
      · exact hv_keys ks _ n s x2 (by omega) v hv
end
mutual
theorem nest_keep {h h' : Heap} (hk : KeepT h h') : ∀ (x : NestedKey) (v : Value), NestedIs h x v → NestedIs h' x v
  | .none, _, hx => by cases hx; exact .none
  | .num i, _, hx => by
    cases hx with
    | bool e => exact .bool e
    | int i t => exact .int _ _
  | .text x, _, hx => by cases hx; exact .text _ _
  | .tup ks, _, hx => by
    cases hx with
    | tup hg hc hd h => exact .tup (hk _ _ hg hc) hc hd (nest_keeps hk ks _ h)
theorem nest_keeps {h h' : Heap} (hk : KeepT h h') : ∀ (xs : List NestedKey) (vs : List Value), NestedAll h xs vs → NestedAll h' xs vs
  | [], _, hx => by cases hx; exact .nil
  | x :: xs, _, hx => by
    cases hx with
    | cons h1 h2 => exact .cons (nest_keep hk x _ h1) (nest_keeps hk xs _ h2)
end
end
end Sk
set_option Elab.async false
set_option linter.all false
set_option maxRecDepth 100000
set_option maxHeartbeats 4000000
namespace Sk
open PySem PySem.Spec PyProof.Rows L2
open PySem.W (Datum DatumOrd Tup T3 T4 EachIs)
open SeqAt
open Evl (Ex)
mutual
theorem readsN_imm {h : Heap} : ∀ (d : PyData) {v : Value} {as : List Addr}, imm d = true → Reads h v d as → as = []
  | .none, _, _, _, r => by cases r; rfl
  | .bool _, _, _, _, r => by cases r; rfl
  | .int _, _, _, _, r => by cases r; rfl
  | .str _, _, _, _, r => by cases r; rfl
  | .list _, _, _, i, _ => by simp [imm] at i
  | .dict _, _, _, i, _ => by simp [imm] at i
  | .tuple ds, _, _, i, r => by
    cases r with
    | tuple h1 h2 h3 h4 => exact readsN_imms ds (by simpa [imm] using i) h4
theorem readsN_imms {h : Heap} : ∀ (ds : List PyData) {vs : List Value} {as : List Addr}, immAll ds = true → ReadsAll h vs ds as → as = []
  | [], _, _, _, r => by cases r; rfl
  | d :: ds, _, _, i, r => by
    have i' : imm d = true ∧ immAll ds = true := by simpa [immAll] using i
    cases r with
    | cons h1 h2 => rw [readsN_imm d i'.1 h1, readsN_imms ds i'.2 h2]; rfl
end
section
variable {P : Program} {w : World} {A : Around} {E : Value → Shared → Prop} {s : Shared}
end
end Sk
set_option Elab.async false
set_option linter.all false
set_option maxRecDepth 100000
set_option maxHeartbeats 4000000
namespace Sk
open PySem PySem.Spec PyProof.Rows L2
open PySem.W (Datum DatumOrd Tup T3 T4 EachIs)
open SeqAt
open Evl (Ex)
class TD (α : Type) [DecidableEq α] [DatumOrd α] : Prop where
  tup : ∀ a : α, ∃ ds, Datum.toD a = PyData.tuple ds
instance {α β : Type} [DecidableEq α] [DatumOrd α] [DecidableEq β] [DatumOrd β] : TD (α × β) where
  tup := fun a => ⟨_, rfl⟩
section
variable {X : Cx} {f : Fr} {pins : List (Addr × Obj)} {σ : L2.St} {H : Hp} {s : Shared}
variable {α : Type} [DecidableEq α] [DatumOrd α] [Srt α] [KD α] [TD α]
variable {a : Expr} {ta : TE} {p p2 q pos : Pos}
end
end Sk
set_option Elab.async false
set_option linter.all false
set_option maxRecDepth 100000
set_option maxHeartbeats 4000000
namespace Sk
open PySem PySem.Spec PyProof.Rows L2
open Evl (Ex)
section
variable {X : Cx} {f : Fr} {a b c : Expr}
end
end Sk
namespace Sk
open PySem PySem.Spec PyProof.Rows L2
open Evl (Ex)
section
variable {X : Cx} {f : Fr} {e a : Expr} {te : TE} {p2 p3 p4 pos : Pos}
@[simp] def hRevS (j : Nat) : HE := fun s C => ∃ p ds, s.sl[j]? = some (some p) ∧ p.lst = some ds ∧ C (.own ds.reverse) s
end
end Sk
set_option Elab.async false
set_option linter.all false
set_option maxRecDepth 100000
set_option maxHeartbeats 2000000
namespace Sk
open PySem PySem.Spec PyProof.Rows L2
open Evl (Ex)
def EntK (w : World) (kv : Str × Int) (e : DictEntry) : Prop := (∃ t, e.key = .str kv.1 t) ∧ e.hash = (NestedKey.text kv.1).hash w ∧ ∃ t, e.val = .int kv.2 t
def DicK (w : World) (a : Addr) (o : Obj) (kvs : List (Str × Int)) : Prop := (a == sysModules) = false ∧ (kvs.map (·.1)).Nodup ∧ ∃ (es : Array DictEntry) (n : Nat), o = ⟨.type "dict", none, .dict es n, #[]⟩ ∧ Paired (EntK w) kvs es.toList
structure CstD (K : PySem.W.Frag) (w : World) (mg : Str → Option Value) (x : Str) (kvs : List (Str × Int)) : Prop where
  ex : ∃ (a : Addr) (o : Obj), mg x = some (.ref a) ∧ K.lookup a = some o ∧ DicK w a o kvs
theorem entsK {w : World} {h : Heap} : ∀ {kvs : List (Str × Int)} {es : List DictEntry}, Paired (EntK w) kvs es → ∃ xs : List RE, xs.map (·.1) = kvs.map (fun kv => NestedKey.text kv.1) ∧ es = xs.map (reE w) ∧ (∀ x ∈ xs, NestedIs h x.1 x.2.1 ∧ x.1.depth ≤ 8) ∧
    ∀ s : Str, (∀ i, kvs.lookup s = some i → ∃ t, gval xs (.text s) = some (.int i t)) ∧ (kvs.lookup s = none → gval xs (.text s) = none)
  | _, _, .nil => ⟨[], rfl, rfl, (fun _ q => nomatch q), fun s => ⟨fun i q => (by simp at q), fun _ => rfl⟩⟩
  | _, _, .cons (a := kv) (b := e) (l₁ := kvs) (l₂ := es) hd t => by
    obtain ⟨xs, e1, e2, e3, e4⟩ := entsK (h := h) t
    obtain ⟨⟨tk, hk⟩, hh, tv, hv⟩ := hd
    refine ⟨(.text kv.1, e.key, e.val) :: xs, by simp [e1], ?_, ?_, fun s => ?_⟩
    · rw [List.map_cons, ← e2]
      congr 1
      obtain ⟨eh, ek, ev⟩ := e
      show _ = (⟨_, _, _⟩ : DictEntry)
      simp only at hh hk hv ⊢
      rw [hh]
    · intro x hx
      rcases List.mem_cons.mp hx with rfl | hx
      · exact ⟨by rw [show ((NestedKey.text kv.1, e.key, e.val) : RE).2.1 = e.key from rfl, hk]; exact .text _ _, by simp [NestedKey.depth]⟩
      · exact e3 x hx
    · obtain ⟨f1, f2⟩ := e4 s
      by_cases q : s = kv.1
      · subst q
        refine ⟨fun i hi => ?_, fun hn => ?_⟩
        · rw [show ((kv :: kvs).lookup kv.1) = some kv.2 from by simp [List.lookup]] at hi
          cases hi
          exact ⟨tv, by unfold gval; simp [hv]⟩
        · simp [List.lookup] at hn
      · have q' : (s == kv.1) = false := by simpa using q
        have g : gval ((.text kv.1, e.key, e.val) :: xs) (.text s) = gval xs (.text s) := by
          unfold gval
          rw [List.find?_cons]
          have : decide ((NestedKey.text kv.1) = NestedKey.text s) = false := decide_eq_false fun z => q (NestedKey.text.inj z).symm
          simp only [this]
        have l : (kv :: kvs).lookup s = kvs.lookup s := by
          obtain ⟨a, b⟩ := kv
          simp only [List.lookup]
          rw [show (s == a) = false from q']
        rw [g, l]
        exact ⟨f1, f2⟩
theorem DicK.at {w : World} {K : PySem.W.Frag} {h : Heap} {a : Addr} {o : Obj} {kvs : List (Str × Int)} (X : K.In h) (l : K.lookup a = some o) (d : DicK w a o kvs) : ∃ xs : List RE, GAt w h a xs ∧ ∀ s : Str, (∀ i, kvs.lookup s = some i → ∃ t, gval xs (.text s) = some (.int i t)) ∧ (kvs.lookup s = none → gval xs (.text s) = none) := by
  obtain ⟨_, nd, es, n, rfl, p⟩ := d
  obtain ⟨xs, e1, e2, e3, e4⟩ := entsK (h := h) p
  refine ⟨xs, ⟨e3, ?_, _, es, n, X _ _ l, ⟨rfl, rfl, rfl⟩, rfl, e2⟩, e4⟩
  rw [e1]
  have : kvs.map (fun kv => NestedKey.text kv.1) = (kvs.map (·.1)).map NestedKey.text := by rw [List.map_map]; rfl
  rw [this]
  exact List.Pairwise.map _ (fun a b h z => h (NestedKey.text.inj z)) nd
def kgV (d : PyData) : Option Int → PyData
  | some i => .int i
  | none => d
def kgW (kvs : List (Str × Int)) : List PV → (PV → Prop) → Prop := fun ps C => match ps with
  | [.dat (.str k), .dat d] => C (.dat (kgV d (kvs.lookup k)))
  | _ => False
@[simp] theorem kgW_at {kvs : List (Str × Int)} {k : Str} {d : PyData} {C : PV → Prop} : kgW kvs [.dat (.str k), .dat d] C ↔ C (.dat (kgV d (kvs.lookup k))) := Iff.rfl
@[simp] theorem kgV_some {d : PyData} {i : Int} : kgV d (some i) = .int i := rfl
@[simp] theorem kgV_none {d : PyData} : kgV d none = d := rfl
@[simp] def hKGet (kvs : List (Str × Int)) (ta : HA) : HE := fun s C => ta s fun ps s1 => kgW kvs ps fun p => C p s1
end Sk
set_option Elab.async false
set_option linter.all false
set_option maxRecDepth 100000
set_option maxHeartbeats 2000000
namespace Sk
open PySem PySem.Spec PyProof.Rows L2
open Evl (Ex)
@[simp] def hRoom (j : Nat) : HE := fun s C => s.sl[j]? = some (some .drw) ∧ ∀ r : Int, C (.dat (.int r)) s
@[simp] def hPutRoom (j : Nat) (t : HE) : HS := fun D s => t s fun p s1 => s1.sl[j]? = some (some .drw) ∧ (∃ i : Int, p = .dat (.int i)) ∧ D.nx s1
section
variable {X : Cx} {f : Fr} {e v : Expr} {st : Stmt} {j : Nat} {t : HE}
end
end Sk
set_option Elab.async false
set_option linter.all false
set_option maxRecDepth 100000
set_option maxHeartbeats 2000000
namespace Sk
open PySem PySem.Spec PyProof.Rows L2
open Evl (Ex)
end Sk
namespace Sk
open PySem PySem.Spec PyProof.Rows L2
open PySem.W (Datum DatumOrd Tup T3 T4)
open Evl (Ex)
section
variable {X : Cx}
variable {f : Fr}
end
end Sk
set_option Elab.async false
set_option linter.all false
set_option maxRecDepth 100000
set_option maxHeartbeats 2000000
namespace Sk
open PySem PySem.Spec PyProof.Rows L2
open PySem.W (Datum DatumOrd Tup T3 T4)
open Evl (Ex)
section
variable {X : Cx}
variable {f : Fr}
end
end Sk
set_option Elab.async false
set_option linter.all false
set_option maxRecDepth 100000
set_option maxHeartbeats 2000000
namespace Sk
open PySem PySem.Spec PyProof.Rows L2
open PySem.W (Datum DatumOrd Tup T3 T4)
open Evl (Ex)
section
variable {X : Cx} {f : Fr}
def e0W (neg : Bool) : List PV → (PV → Prop) → Prop := fun ps C => match ps with
  | [.dat (.tuple ds), .dat (.tuple [])] => C (.dat (.bool (if neg then !ds.isEmpty else ds.isEmpty)))
  | [.dat (.list ds), .dat (.list [])] => C (.dat (.bool (if neg then !ds.isEmpty else ds.isEmpty)))
  | [.own ds, .dat (.list [])] => C (.dat (.bool (if neg then !ds.isEmpty else ds.isEmpty)))
  | _ => False
@[simp] def hPar3D (i j l : Nat) (ta : HA) : HS := fun D s => ta s fun ps s1 => ∃ p q r, ps = [p, q, r] ∧ p.mut = false ∧ q.mut = false ∧ r.mut = false ∧ D.nx (((s1.put i p).put j q).put l r)
theorem hs_par3D {i j l : Nat} {es : List Expr} {st : Stmt} {r : HA} (h : ∀ {ta : TA}, PA X es ta → PS X st (tPar3 i j l ta)) (ha : PA X es (lfA X.K f r)) : PS X st (lfS X.K f (hPar3D i j l r)) := (h ha).mono fun D σ H q => by
  obtain ⟨F, O, G, s, D', R, ht, k⟩ := q
  refine ⟨F, O, G, s, _, R, ht, fun ps s1 G1 H1 vs c1 e1 R1 V1 => ?_⟩
  obtain ⟨p, q, r, rfl, mp, mq, mr, c2⟩ := c1
  cases V1 with
  | cons v1 V1 =>
    cases V1 with
    | cons v2 V1 =>
      cases V1 with
      | cons v3 V1 =>
        cases V1
        exact ⟨_, _, _, rfl, k.nx _ _ _ _ e1 (((R1.put ⟨v1, fun z => by rw [mp] at z; cases z⟩).put ⟨v2, fun z => by rw [mq] at z; cases z⟩).put ⟨v3, fun z => by rw [mr] at z; cases z⟩) c2⟩
@[simp] theorem e0_tt {neg : Bool} {ds : List PyData} {C : PV → Prop} : e0W neg [.dat (.tuple ds), .dat (.tuple [])] C ↔ C (.dat (.bool (if neg then !ds.isEmpty else ds.isEmpty))) := Iff.rfl
@[simp] theorem e0_ll {neg : Bool} {ds : List PyData} {C : PV → Prop} : e0W neg [.dat (.list ds), .dat (.list [])] C ↔ C (.dat (.bool (if neg then !ds.isEmpty else ds.isEmpty))) := Iff.rfl
@[simp] theorem e0_ol {neg : Bool} {ds : List PyData} {C : PV → Prop} : e0W neg [.own ds, .dat (.list [])] C ↔ C (.dat (.bool (if neg then !ds.isEmpty else ds.isEmpty))) := Iff.rfl
end
end Sk
set_option Elab.async false
set_option linter.all false
set_option maxRecDepth 100000
set_option maxHeartbeats 2000000
namespace Sk
open PySem PySem.Spec PyProof.Rows L2
open NdefX (NF CellsAt NScope ncx envF startF Caps slotAt)
open Evl (Ex)
section
variable {X : Cx} {pins : List (Addr × Obj)} {σ : L2.St} {H G : Hp} {s : Shared}
end
section
variable {X : Cx} {T : Tbs} {eo : Option Ent} {W : WX} {Z : HX} {k kc n np : Nat} {x q : Str} {P : Addr} {spC : (PySem.W.Frag → Hp → V → Prop) → HSpX → HSpX} {N ps fr : List Str} {js : List Nat} {params : Arguments} {body : Expr} {scope : Scope} {hb : HX → HE}
end
section
variable {X : Cx} {T : Tbs} {eo : Option Ent} {W : WX} {Z : HX} {k kc n np m : Nat} {x q : Str} {P : Addr} {spC : (PySem.W.Frag → Hp → V → Prop) → HSpX → HSpX} {N ps fr : List Str} {js : List Nat} {params : Arguments} {body : Expr} {scope : Scope} {hb : HX → HE}
end
end Sk
set_option Elab.async false
set_option linter.all false
set_option maxRecDepth 100000
set_option maxHeartbeats 2000000
namespace Sk
open PySem PySem.Spec PyProof.Rows L2
open Evl (Ex)
theorem _root_.L2.Inv.ghost {X : Cx} {pins : List (Addr × Obj)} {σ σ' : L2.St} {H : Hp} {s : Shared} (I : Inv X pins σ H s) (hl : σ'.length = σ.length) (h : ∀ (i : Nat) (x : Str), X.N[i]? = some x → Vis X.env.scope x → σ'[i]? = σ[i]?) : Inv X pins σ' H s where
  ok := I.ok
  os := I.os
  bare := I.bare
  base := I.base
  loc := by
    obtain ⟨m, h1, h2⟩ := I.loc
    exact ⟨m, h1, fun i x v hx hv vis => h2 i x v hx (by rw [← h i x hx vis]; exact hv) vis⟩
  cell := I.cell
  free := I.free
  freeC := I.freeC
  pin := I.pin
  hok := I.hok
  len := hl.trans I.len
section
variable {P : Program} {w : World} {K : PySem.W.Frag} {mg : Str → Option Value} {base : Heap} {CX : CXT} {k : Nat} {f : Addr} {fd : FuncData} {ps : List Str} {sp : Sp}
end
section
variable {X : Cx} {CX : CXT} {k : Nat} {f C : Addr} {fd : FuncData} {ps : List Str} {sp : Sp} {E : XK} {x m : Str} {p pos apos : Pos} {e o : Expr} {es : List Expr} {t : TA} {ta : TE} {pl : Sem Bool}
end
end Sk
set_option Elab.async false
set_option linter.all false
set_option maxRecDepth 100000
set_option maxHeartbeats 2000000
namespace Sk
open PySem PySem.Spec PyProof.Rows L2
open Evl (Ex)
def ClsA (K : PySem.W.Frag) (nm : Str) (C : Addr) : Prop := PySem.W.nsIn K mainGlobals nm = some (some (.ref C))
theorem ClsA.eq {K : PySem.W.Frag} {nm : Str} {C C' : Addr} (h : ClsA K nm C) (h' : ClsA K nm C') : C = C' := by
  unfold ClsA at h h'
  rw [h] at h'
  cases h'
  rfl
structure ClsT (K : PySem.W.Frag) (mg : Str → Option Value) (nm : Str) (xs : List Str) : Prop where
  ex : ∃ C, ClsA K nm C ∧ mg nm = some (.ref C) ∧ Cls K C ∧ ∀ x ∈ xs, NoAttr K C x
abbrev Fld := Str × Option PyData
def FldV (K : PySem.W.Frag) (G : Hp) (r : Addr) (u : V) : Option PyData → Prop
  | some d => Dp K G u d
  | none => u = .ref r
def FldOk (K : PySem.W.Frag) (G : Hp) (r : Addr) (p : Str × V) (q : Fld) : Prop := p.1 = q.1 ∧ FldV K G r p.2 q.2
def ObR (nm : Str) (fl : List Fld) (r : Addr) : PySem.W.Frag → Hp → V → Prop := fun K G v => ∃ a C dx fs, v = .ref a ∧ ClsA K nm C ∧ G a = some (.ins C dx fs) ∧ Paired (FldOk K G r) fs fl
section
variable {K : PySem.W.Frag} {G G' H : Hp} {r : Addr} {nm x : Str} {f : Fr} {v : V}
theorem FldOk.ex {p : Str × V} {q : Fld} (h : FldOk K G r p q) (e : Ex G G') : FldOk K G' r p q := by
  obtain ⟨h1, h2⟩ := h
  refine ⟨h1, ?_⟩
  obtain ⟨y, d⟩ := q
  cases d with
  | none => exact h2
  | some d => exact Dp.ex e _ h2
theorem flds_ex (e : Ex G G') : ∀ {fs : List (Str × V)} {fl : List Fld}, Paired (FldOk K G r) fs fl → Paired (FldOk K G' r) fs fl
  | _, _, .nil => .nil
  | _, _, .cons h t => .cons (h.ex e) (flds_ex e t)
theorem ObR.ex {fl : List Fld} (h : ObR nm fl r K G v) (e : Ex G G') : ObR nm fl r K G' v := by
  obtain ⟨a, C, dx, fs, h1, h2, h3, h4⟩ := h
  exact ⟨a, C, dx, fs, h1, h2, e _ _ h3, flds_ex e h4⟩
theorem ObR.vr {fl : List Fld} (h : ObR nm fl r K G v) : VR K f G H (.abs (ObR nm fl r)) v := fun _ e => h.ex e
end
@[simp] def hFld (j : Nat) (nm x : Str) : HE := fun s C => ∃ fl r d, s.sl[j]? = some (some (.abs (ObR nm fl r))) ∧ fl.lookup x = some (some d) ∧ C (.dat d) s
@[simp] def hMeth (j : Nat) (nm m : Str) (sp : HSp) (k : Nat) (ta : HA) : HE := fun s C => (∃ fl r, s.sl[j]? = some (some (.abs (ObR nm fl r))) ∧ fl.lookup m = none) ∧ ta s fun ps s' => ∃ fl r, s'.sl[j]? = some (some (.abs (ObR nm fl r))) ∧ ps.length = k ∧ (∀ p ∈ ps, p.isD = false) ∧
  sp (.abs (ObR nm fl r) :: ps.map PV.arg) s'.n fun p n' => (ps.any PV.mut = true → p.imm = true) ∧ C p ⟨s'.sl, n'⟩
structure HasM (P : Program) (w : World) (T : Tbs) (K : PySem.W.Frag) (mg : Str → Option Value) (base : Heap) (k : Nat) (nm m : Str) (n : Nat) (sp : HSp) : Prop where
  ex : ∃ C fa fd ps, ClsA K nm C ∧ Cls K C ∧ Meth K C m fa ∧ ps.length = n + 1 ∧ GnOk P w K mg base CX0 k fa fd ps (SpH K w T (n + 1) sp) ∧ Binds K fd ps []
section
variable {X : Cx} {f : Fr} {T : Tbs} {en : Option Ent} {e o : Expr} {es : List Expr} {ta : HA} {sp : HSp} {nm m x : Str} {xs : List Str} {pos apos : Pos} {k n j : Nat}
end
end Sk
set_option Elab.async false
set_option linter.all false
set_option maxRecDepth 100000
set_option maxHeartbeats 2000000
namespace Sk
open PySem PySem.Spec PyProof.Rows L2
open Evl (Ex)
abbrev HSpL := List PV → Addr → List PyData → Nat → (PV → List PyData → Nat → Prop) → Prop
def SpHL (K : PySem.W.Frag) (w : World) (T : Tbs) (k : Nat) (sp : HSpL) : Sp := fun vs H Q _ => ∃ f G n ps r ds C, f.w = w ∧ f.T = T ∧ f.e = none ∧ f.F = H ∧ (∀ a, f.M a → ((f.on = true ∧ (a = f.m ∨ a = f.l)) ∨ f.tab a) ∨ a = r) ∧ Rel K f G ⟨(ps ++ [.lat r ds]).map some, n⟩ ((vs ++ [V.ref r]).map some) H ∧ (∀ p ∈ ps, p.mut = false) ∧ ps.length = k ∧ sp ps r ds n C ∧
  ∀ p es n' G' H' v, C p es n' → Ex G G' → Rel K f G' ⟨[some (.lat r es)], n'⟩ [some (.ref r)] H' → VRf K f G' H' ⟨[some (.lat r es)], n'⟩ [some (.ref r)] p v → Q v H'
end Sk
namespace Sk
open PySem PySem.Spec PyProof.Rows L2
open Evl (Ex)
@[simp] def hLs (j g : Nat) (nm x : Str) (t : HA) : HA := fun s C => (∃ fl r ds, s.sl[j]? = some (some (.abs (ObR nm fl r))) ∧ fl.lookup x = some none ∧ s.sl[g]? = some (some (.lat r ds))) ∧
  t s fun ps s2 => ∃ fl r ds, s2.sl[j]? = some (some (.abs (ObR nm fl r))) ∧ fl.lookup x = some none ∧ s2.sl[g]? = some (some (.lat r ds)) ∧ C (.own ds :: ps) s2
@[simp] def hAppS (j g : Nat) (nm x : Str) (t : HE) : HE := fun s C => (∃ fl r ds, s.sl[j]? = some (some (.abs (ObR nm fl r))) ∧ fl.lookup x = some none ∧ s.sl[g]? = some (some (.lat r ds))) ∧
  t s fun p s1 => ∃ y fl r ds, p.frz = some y ∧ s1.sl[j]? = some (some (.abs (ObR nm fl r))) ∧ fl.lookup x = some none ∧ s1.sl[g]? = some (some (.lat r ds)) ∧ ds.length < 100000 ∧ C (.dat .none) (s1.put g (.lat r (ds ++ [y])))
section
variable {X : Cx} {f : Fr} {e a o : Expr} {t : HE} {nm x : Str} {xs : List Str} {pos : Pos} {j g : Nat}
end
end Sk
set_option Elab.async false
set_option linter.all false
set_option maxRecDepth 100000
set_option maxHeartbeats 2000000
namespace Sk
open PySem PySem.Spec PyProof.Rows L2
open Evl (Ex)
section
variable {K : PySem.W.Frag} {w : World} {T : Tbs} {g : Fr} {G G' H : Hp} {s : Sg} {σ : L2.St} {a Cc dx : Addr}
end
abbrev HSpI := List PV → Nat → (List (Str × PyData) → List PyData → Nat → Prop) → Prop
abbrev flI (xl : Str) (fl : List (Str × PyData)) : List Fld := fl.map (fun p => (p.1, some p.2)) ++ [(xl, none)]
@[simp] def hIni (hl : HE) : List (Str × HE) → List (Str × PyData) → Sg → (List (Str × PyData) → List PyData → Nat → Prop) → Prop
  | [], acc, s, C => hl s fun p s1 => ∃ es, p = .own es ∧ C acc es s1.n
  | (x, h) :: r, acc, s, C => h s fun p s1 => ∃ d, p.frz = some d ∧ hIni hl r (acc ++ [(x, d)]) s1 C
def SpHI (K : PySem.W.Frag) (w : World) (T : Tbs) (nm : Str) (k : Nat) (xl : Str) (sp : HSpI) : Sp := fun vs H Q _ => ∃ (g : Fr) (G : Hp) (n : Nat) (ps : List PV) (a Cc dx : Addr) (args : List V) (Ci : List (Str × PyData) → List PyData → Nat → Prop),
  vs = .ref a :: args ∧ g.w = w ∧ g.T = T ∧ g.e = none ∧ ClsA K nm Cc ∧ g.O a ∧ ¬ g.M a ∧ g.F a = some (.ins Cc dx []) ∧ Rel K g G ⟨ps.map some, n⟩ (args.map some) H ∧ (∀ p ∈ ps, ∃ d, p = .dat d) ∧ ps.length = k ∧ sp ps n Ci ∧
  ∀ fl es n' G' H' fs r, Ci fl es n' → Ex G G' → Paired (FldOk K G' r) fs (flI xl fl) → Rel K (g.up a (.ins Cc dx fs)) G' ⟨[some (.own es)], n'⟩ [some (.ref r)] H' → Q .non H'
end Sk
set_option Elab.async false
set_option linter.all false
set_option maxRecDepth 100000
set_option maxHeartbeats 2000000
namespace Sk
open PySem PySem.Spec PyProof.Rows L2
open Evl (Ex)
end Sk
namespace Sk
open PySem PySem.Spec PyProof.Rows L2
open Evl (Ex)
section
variable {K : PySem.W.Frag} {f : Fr} {G H : Hp} {sl : List (Option PV)} {n : Nat} {σ : L2.St} {o : Option PV} {u : Option V} {p : PV} {v : V}
end
structure HasI (P : Program) (w : World) (T : Tbs) (K : PySem.W.Frag) (mg : Str → Option Value) (base : Heap) (k : Nat) (nm xl : Str) (n : Nat) (sp : HSpI) : Prop where
  ex : ∃ C fa fd ps, ClsA K nm C ∧ mg nm = some (.ref C) ∧ Mk K C fa ∧ GnOk P w K mg base CX0 k fa fd ps (SpHI K w T nm n xl sp) ∧ Binds K fd ps []
structure HasML (P : Program) (w : World) (T : Tbs) (K : PySem.W.Frag) (mg : Str → Option Value) (base : Heap) (k : Nat) (nm m : Str) (n : Nat) (sp : HSpL) : Prop where
  ex : ∃ C fa fd ps, ClsA K nm C ∧ Cls K C ∧ Meth K C m fa ∧ GnOk P w K mg base CX0 k fa fd ps (SpHL K w T n sp) ∧ Binds K fd ps []
section
variable {X : Cx} {T : Tbs} {en : Option Ent} {e o : Expr} {es : List Expr} {ta : HA} {spI : HSpI} {spL : HSpL} {nm xl m x : Str} {p pos pos2 apos : Pos} {k k2 n j gh : Nat}
end
end Sk
set_option Elab.async false
set_option linter.all false
set_option maxRecDepth 100000
set_option maxHeartbeats 2000000
namespace Sk
open PySem PySem.Spec PyProof.Rows L2
open Evl (Ex)
theorem paired_mem {α β : Type} {R : α → β → Prop} : ∀ {xs : List α} {ys : List β} {x : α}, Paired R xs ys → x ∈ xs → ∃ y, R x y
  | _, _, _, .cons r t, h => by
    cases h with
    | head => exact ⟨_, r⟩
    | tail _ h => exact paired_mem t h
theorem paired_snoc {α β : Type} {R : α → β → Prop} {x : α} {y : β} : ∀ {xs : List α} {ys : List β}, Paired R xs ys → R x y → Paired R (xs ++ [x]) (ys ++ [y])
  | _, _, .nil, r => .cons r .nil
  | _, _, .cons r0 t, r => .cons r0 (paired_snoc t r)
theorem paired_in {α β : Type} {R R' : α → β → Prop} : ∀ {xs : List α} {ys : List β}, Paired R xs ys → (∀ a ∈ xs, ∀ b, R a b → R' a b) → Paired R' xs ys
  | _, _, .nil, _ => .nil
  | _, _, .cons r t, m => .cons (m _ List.mem_cons_self _ r) (paired_in t fun a h => m a (List.mem_cons_of_mem _ h))
theorem NstOk.add {K : PySem.W.Frag} {G B : Hp} {p q : Addr} {L : List (List PyData)} {vs : List V} {l : List PyData} (h : NstOk K G B p L) (hq : B q = none) (hv : DpAll K G vs l) : ∃ ps : List Addr, B p = some (.lst (ps.map V.ref)) ∧ ps.length = L.length ∧ p ≠ q ∧ NstOk K G (upd (upd B q (.lst vs)) p (.lst (ps.map V.ref ++ [V.ref q]))) p (L ++ [l]) := by
  obtain ⟨ps, h1, h2, h3⟩ := h
  obtain ⟨n1, n2⟩ := List.nodup_cons.mp h2
  have ne : p ≠ q := fun z => by rw [z, hq] at h1; cases h1
  have np : q ∉ ps := fun z => by
    obtain ⟨y, vs', b, _⟩ := paired_mem h3 z
    rw [hq] at b; cases b
  refine ⟨ps, h1, Paired.length h3, ne, ps ++ [q], by rw [upd_same, List.map_append]; rfl, ?_, ?_⟩
  · refine List.nodup_cons.mpr ⟨fun h => ?_, ?_⟩
    · rcases List.mem_append.mp h with h | h
      · exact n1 h
      · exact ne (List.mem_singleton.mp h)
    · rw [List.nodup_append]
      exact ⟨n2, by simp, fun a ha b hb e => np (by rw [← List.mem_singleton.mp hb, ← e]; exact ha)⟩
  · refine paired_snoc (paired_in h3 fun a ha b ⟨ws, c1, c2⟩ => ⟨ws, ?_, c2⟩) ⟨vs, by rw [upd_ne ne.symm, upd_same], hv⟩
    rw [upd_ne fun z => n1 (by rw [← z]; exact ha), upd_ne fun z => np (by rw [← z]; exact ha)]
    exact c1
@[simp] def geach (vs : List Nat) (i : Nat) (ta : HA) (Q : Sg → List (List PyData) → Prop) : List PyData → Sg → List (List PyData) → Prop
  | [], s, L => Q s L
  | d :: ds, s, L => ta (s.put i (.dat d)) fun ps s2 => ∃ l, dats ps = some l ∧ l.length ≤ 100000 ∧ geach vs i ta Q ds (s2.wipe vs) (L ++ [l])
section
variable {X : Cx} {f : Fr} {st1 st2 : Stmt} {rest : List Stmt} {ta : HA} {tn : HN} {tu : HS} {it : HI} {vs : List Nat} {i j : Nat}
end
end Sk
set_option Elab.async false
set_option linter.all false
set_option maxRecDepth 100000
set_option maxHeartbeats 2000000
namespace Sk
open PySem PySem.Spec PyProof.Rows L2
open PySem.W (Datum DatumOrd Tup T3 T4)
open Evl (Ex)
structure Sh (β : Type) where
  t : Tup β
  le : t.items.length ≤ 100000
  deriving DecidableEq
instance {β : Type} [DecidableEq β] [Datum β] : Datum (Sh β) where
  toD a := Datum.toD a.t
  plain a := Datum.plain a.t
  eqv a b := by
    rw [Datum.eqv]
    exact decide_eq_decide.mpr ⟨fun e => by cases a; cases b; cases e; rfl, fun e => by rw [e]⟩
  depth := Datum.depth (Tup β)
  depth_le a := Datum.depth_le a.t
instance {β : Type} [DecidableEq β] [Datum β] [Im β] : Im (Sh β) := ⟨fun a => Im.im a.t⟩
end Sk
set_option Elab.async false
set_option linter.all false
set_option maxRecDepth 100000
set_option maxHeartbeats 4000000
namespace Sk
open PySem PySem.Spec PyProof.Rows L2
open Evl (Ex)
section
variable {prog : Program} {w : World} {A : Around} {E : Value → Shared → Prop} {s : Shared}
end
section
variable {X : Cx} {f : Fr} {e a : Expr} {te : TE} {p2 p3 p4 pos : Pos}
@[simp] def hRevU (j : Nat) : HE := fun s C => ∃ ds, s.sl[j]? = some (some (.dat (.tuple ds))) ∧ C (.dat (.tuple ds.reverse)) s
end
end Sk
set_option Elab.async false
set_option linter.all false
set_option maxRecDepth 100000
set_option maxHeartbeats 2000000
namespace Sk
open PySem PySem.Spec PyProof.Rows L2
open Evl (Ex)
abbrev HSpLX := List PV → Addr → List PyData → Nat → (PV → List PyData → Nat → Prop) → (Str → Nat → Prop) → Prop
def SpHLX (K : PySem.W.Frag) (w : World) (T : Tbs) (k : Nat) (sp : HSpLX) : Sp := fun vs H Q E => ∃ (f : Fr) (G : Hp) (n : Nat) (ps : List PV) (r : Addr) (ds : List PyData) (C : PV → List PyData → Nat → Prop) (Z : Str → Nat → Prop), f.w = w ∧ f.T = T ∧ f.e = none ∧ f.F = H ∧ (∀ a, f.M a → ((f.on = true ∧ (a = f.m ∨ a = f.l)) ∨ f.tab a) ∨ a = r) ∧ f.M r ∧ Rel K f G ⟨(ps ++ [PV.lat r ds]).map some, n⟩ ((vs ++ [V.ref r]).map some) H ∧ (∀ p ∈ ps, p.mut = false) ∧ ps.length = k ∧ sp ps r ds n C Z ∧
  (∀ p es n' G' H' v, C p es n' → Ex G G' → Rel K f G' ⟨[some (PV.lat r es)], n'⟩ [some (V.ref r)] H' → VRf K f G' H' ⟨[some (PV.lat r es)], n'⟩ [some (V.ref r)] p v → Q v H') ∧
  (∀ x a es n' G' H', Z x n' → ClsN K x a → Ex G G' → Rel K f G' ⟨[some (PV.lat r es)], n'⟩ [some (V.ref r)] H' → E (.ref a) none H')
section
variable {P : Program} {w : World} {K : PySem.W.Frag} {mg : Str → Option Value} {base : Heap} {CX : CXT} {k : Nat} {f : Addr} {fd : FuncData} {ps : List Str} {sp : Sp}
end
end Sk
set_option Elab.async false
set_option linter.all false
set_option maxRecDepth 100000
set_option maxHeartbeats 2000000
namespace Sk
open PySem PySem.Spec PyProof.Rows L2
open Evl (Ex)
section
variable {X : Cx} {CX : CXT} {k : Nat} {f C : Addr} {fd : FuncData} {ps : List Str} {sp : Sp} {E : L2.St → XK} {x m : Str} {p pos apos : Pos} {e o : Expr} {es : List Expr} {t : TA} {ta : TE} {pl : Sem Bool}
end
structure HasMLX (P : Program) (w : World) (T : Tbs) (K : PySem.W.Frag) (mg : Str → Option Value) (base : Heap) (k : Nat) (nm m : Str) (n : Nat) (sp : HSpLX) : Prop where
  ex : ∃ C fa fd ps, ClsA K nm C ∧ Cls K C ∧ Meth K C m fa ∧ GnOk P w K mg base (L2.CX P w) k fa fd ps (SpHLX K w T n sp) ∧ Binds K fd ps []
section
variable {X : Cx} {T : Tbs} {en : Ent} {W : WX} {Z : HX} {e o : Expr} {es : List Expr} {ta : HA} {spI : HSpI} {spL : HSpLX} {nm xl m x : Str} {p pos pos2 apos : Pos} {k k2 n j gh : Nat}
end
end Sk
set_option Elab.async false
set_option linter.all false
set_option maxRecDepth 100000
set_option maxHeartbeats 2000000
namespace Sk
open PySem PySem.Spec PyProof.Rows L2
open Evl (Ex)
def immP : PV → Bool
  | .dat d => imm d
  | .own ds => immAll ds
  | .byr ds => immAll ds
  | .lat _ ds => immAll ds
  | .dct kvs => immAll (kvs.map (·.2))
  | .drw => true
  | .val _ => true
  | _ => false
def immO : Option PV → Bool
  | none => true
  | some p => immP p
def PV.fzd : PV → Bool
  | .dat _ => true
  | .dgf _ => true
  | _ => false
def keepO (o o' : Option PV) : Prop := immO o' = true ∨ ∃ q : PV, q.fzd = true ∧ o = some q ∧ o' = some q
def immS : List (Option PV) → List (Option PV) → Prop
  | [], [] => True
  | o :: r, o' :: r' => keepO o o' ∧ immS r r'
  | _, _ => False
@[simp] theorem immS_nil : immS [] [] ↔ True := Iff.rfl
@[simp] theorem immS_cons {o o' : Option PV} {r r' : List (Option PV)} : immS (o :: r) (o' :: r') ↔ keepO o o' ∧ immS r r' := Iff.rfl
@[simp] theorem keepO_none {o : Option PV} : keepO o none := Or.inl rfl
@[simp] theorem keepO_drw {o : Option PV} : keepO o (some .drw) := Or.inl rfl
@[simp] theorem keepO_val {o : Option PV} {v : V} : keepO o (some (.val v)) := Or.inl rfl
@[simp] theorem keepO_same {d : PyData} : keepO (some (.dat d)) (some (.dat d)) := Or.inr ⟨_, rfl, rfl, rfl⟩
@[simp] theorem keepO_dgf {kvs : List (PyData × PyData)} : keepO (some (.dgf kvs)) (some (.dgf kvs)) := Or.inr ⟨_, rfl, rfl, rfl⟩
@[simp] theorem keepO_int {o : Option PV} {k : Int} : keepO o (some (.dat (.int k))) := Or.inl rfl
@[simp] theorem keepO_str {o : Option PV} {k : Str} : keepO o (some (.dat (.str k))) := Or.inl rfl
@[simp] theorem keepO_bool {o : Option PV} {k : Bool} : keepO o (some (.dat (.bool k))) := Or.inl rfl
@[simp] theorem keepO_non {o : Option PV} : keepO o (some (.dat .none)) := Or.inl rfl
@[simp] theorem immP_dat {d : PyData} : immP (.dat d) = imm d := rfl
@[simp] theorem immP_own {ds : List PyData} : immP (.own ds) = immAll ds := rfl
theorem immS_at : ∀ {l l' : List (Option PV)} {i : Nat} {p : PV}, immS l l' → l'[i]? = some (some p) → immP p = true ∨ (p.fzd = true ∧ l[i]? = some (some p))
  | [], [], _, _, _, h => by simp at h
  | [], _ :: _, _, _, h, _ => h.elim
  | _ :: _, [], _, _, h, _ => h.elim
  | o :: r, o' :: r', 0, p, h, e => by
    have e : o' = some p := by simpa using e
    subst e
    rcases h.1 with h | ⟨q, e0, e1, e2⟩
    · exact Or.inl h
    · cases e2
      exact Or.inr ⟨e0, by simpa using e1⟩
  | o :: r, o' :: r', i + 1, p, h, e => by
    rcases immS_at (l := r) (l' := r') (i := i) h.2 (by simpa using e) with z | ⟨z1, z2⟩
    · exact Or.inl z
    · exact Or.inr ⟨z1, by simpa using z2⟩
structure NstP (K : PySem.W.Frag) (G B : Hp) (p : Addr) (ps : List Addr) (L : List (List PyData)) : Prop where
  o : B p = some (.lst (ps.map V.ref))
  nd : (p :: ps).Nodup
  it : Paired (fun a ds => ∃ vs, B a = some (.lst vs) ∧ DpAll K G vs ds) ps L
structure NbOk (K : PySem.W.Frag) (f F : Fr) (O : Addr → Prop) (B : Hp) (p : Addr) (ps : List Addr) (j : Nat) (G : Hp) (s : Sg) (L : List (List PyData)) (σ : L2.St) (H : Hp) : Prop where
  R : RelB K f F O B G s σ H
  l : ∀ a o, B a = some o → ∃ vs, o = .lst vs
  j : σ[j]? = some (some (.ref p))
  N : NstP K G B p ps L
abbrev ldat (L : List (List PyData)) : PV := .dat (.list (L.map .list))
section
variable {K : PySem.W.Frag} {f F : Fr} {O : Addr → Prop} {B G G' G1 H H' : Hp} {s s' : Sg} {σ : L2.St} {a p : Addr} {ps : List Addr} {o o' : HO} {L : List (List PyData)} {j : Nat}
theorem NstP.ex (h : NstP K G B p ps L) (e : Ex G G') : NstP K G' B p ps L := ⟨h.o, h.nd, paired_mono h.it fun a ds ⟨vs, b1, b2⟩ => ⟨vs, b1, Dp.exAll e _ b2⟩⟩
theorem NstP.len (h : NstP K G B p ps L) : ps.length = L.length := Paired.length h.it
theorem NstP.at {n : Nat} {l : List PyData} (h : NstP K G B p ps L) (hl : L[n]? = some l) : ∃ (b : Addr) (vs : List V), ps[n]? = some b ∧ B b = some (.lst vs) ∧ DpAll K G vs l := by
  obtain ⟨b, hb, vs, b1, b2⟩ := paired_get h.it hl
  exact ⟨b, vs, hb, b1, b2⟩
theorem NstP.set {n : Nat} {b : Addr} {vs : List V} {l : List PyData} (h : NstP K G B p ps L) (hb : ps[n]? = some b) (d : DpAll K G vs l) : NstP K G (upd B b (.lst vs)) p ps (L.set n l) := by
  obtain ⟨n1, n2⟩ := List.nodup_cons.mp h.nd
  have bp : p ≠ b := fun e => n1 (by rw [e]; exact List.mem_of_getElem? hb)
  exact ⟨by rw [upd_ne bp]; exact h.o, h.nd, paired_set n2 h.it hb ⟨vs, upd_same, d⟩ fun a ds ne ⟨ws, c1, c2⟩ => ⟨ws, by rw [upd_ne ne]; exact c1, c2⟩⟩
theorem NstP.ok (h : NstP K G B p ps L) : NstOk K G B p L := ⟨ps, h.o, h.nd, h.it⟩
theorem NstP.dat (h : NstP K G B p ps L) (e : Ex G G1) (g : ∀ a o, B a = some o → G1 a = some o) : Dp K G1 (.ref p) (.list (L.map .list)) := by
  refine .lst (Or.inl (Or.inl (g _ _ h.o))) ?_
  have go : ∀ {us : List Addr} {ws : List (List PyData)}, Paired (fun a ds => ∃ vs, B a = some (.lst vs) ∧ DpAll K G vs ds) us ws → DpAll K G1 (us.map V.ref) (ws.map PyData.list) := fun {us ws} t => by
    induction t with
    | nil => exact .nil
    | cons r _ ih =>
      obtain ⟨vs, b1, b2⟩ := r
      exact .cons (.lst (Or.inl (Or.inl (g _ _ b1))) (Dp.exAll e _ b2)) ih
  exact go h.it
theorem NbOk.set {vs : List V} {n : Nat} {b : Addr} {ws : List V} {l : List PyData} (h : NbOk K f F O B p ps j G s L σ H) (hb : ps[n]? = some b) (hB : B b = some (.lst ws)) (d : DpAll K G vs l) : NbOk K f F O (upd B b (.lst vs)) p ps j G s (L.set n l) σ (upd H b (.lst vs)) :=
  ⟨h.R.set hB, fun a o ha => by
    by_cases q : a = b
    · rw [q, upd_same] at ha; exact ⟨vs, (Option.some.inj ha).symm⟩
    · rw [upd_ne q] at ha; exact h.l a o ha, h.j, h.N.set hb d⟩
theorem slot_same {v : V} (h : σ[j]? = some (some v)) : σ.set j (some v) = σ := by
  apply List.ext_getElem?
  intro a
  by_cases z : j = a
  · subst z
    rw [List.getElem?_set_self (by exact (List.getElem?_eq_some_iff.mp h).1), h]
  · rw [List.getElem?_set_ne z]
theorem NbOk.open (h : NbOk K f F O B p ps j G s L σ H) : Ex G (fun a => (B a).or (G a)) ∧ Rel K (fo f (F.ups B) O) (fun a => (B a).or (G a)) (s.put j (ldat L)) σ H := by
  obtain ⟨R, hl, hj, N⟩ := h
  let G1 : Hp := fun a => (B a).or (G a)
  have e1 : Ex G G1 := fun a o h => by
    show (B a).or (G a) = some o
    cases w : B a with
    | none => exact h
    | some u => rw [R.gn w] at h; cases h
  have g1 : ∀ a o, B a = some o → G1 a = some o := fun a o h => by
    show (B a).or (G a) = some o
    rw [h]; rfl
  have nB : ∀ {a : Addr}, B a = none → G1 a = G a := fun {a} h => by
    show (B a).or (G a) = G a
    rw [h]; rfl
  have bO : ∀ {a : Addr}, ¬ (O a ∨ B a ≠ none) → B a = none := fun {a} h => by
    cases q : B a with
    | none => rfl
    | some u => exact absurd (Or.inr (by rw [q]; intro z; cases z)) h
  have R1 : Rel K (fo f (F.ups B) O) G1 s σ H := {
    gh := fun a o h => by
      have h : (B a).or (G a) = some o := h
      cases w : B a with
      | none => rw [w] at h; exact R.r.gh a o h
      | some u => rw [w] at h; cases h; exact R.at w
    fh := R.r.fh
    go := fun a h => by
      have : B a = none := by
        cases w : B a with
        | none => rfl
        | some u => exact absurd h (R.b a (by rw [w]; intro z; cases z)).2.1
      rw [nB this]; exact R.r.go a (Or.inl h)
    oh := fun a h => R.r.oh a (Or.inl h)
    mh := R.r.mh
    mo := fun h => by
      obtain ⟨x, y, z, d, e⟩ := R.r.mo h
      have c : ∀ {a : Addr}, (a = F.m ∨ a = F.l ∨ a = F.c) → (O a ∨ B a ≠ none) → O a := fun {a} w h2 => h2.elim id fun n => by
        obtain ⟨n1, n2, n3⟩ := (R.b a n).2.2.2 h
        rcases w with w | w | w
        · exact absurd w n1
        · exact absurd w n2
        · exact absurd w n3
      exact ⟨c (Or.inl rfl) x, c (Or.inr (Or.inl rfl)) y, c (Or.inr (Or.inr rfl)) z, d, e⟩
    tm := fun p hp => ⟨(R.r.tm p hp).1.elim id fun z => absurd (R.r.tm p hp).2 (R.b _ z).1, (R.r.tm p hp).2⟩
    tb := fun p hp => (R.r.tb p hp).keep (fun _ _ _ z => e1 _ _ z) rfl
    pk := fun en he => by
      have z := (R.pk en he).ex e1
      exact { z with
        F := fun a u e => by
          have e2 : F.F a = some u := z.F a u e
          have e3 : B a = none := by
            cases q : B a with
            | none => rfl
            | some w => rw [(R.b a (by rw [q]; intro z; cases z)).2.2.1] at e2; cases e2
          show (B a).or (F.F a) = some u
          rw [e3, e2]; rfl }
    dr := R.r.dr
    ln := R.r.ln
    sl := fun i q hq => by
      obtain ⟨v, h1, h2⟩ := R.r.sl i q hq
      refine ⟨v, h1, ?_⟩
      have h3 : VR K (fo f (F.ups B) fun a => O a ∨ B a ≠ none) G1 H q v := by
        cases q with
        | dat d => exact Dp.ex e1 _ h2
        | drw => exact h2
        | val _ => exact h2
        | dgf _ => obtain ⟨p0, xs0, z1, z2, z3⟩ := h2; exact ⟨p0, xs0, z1, e1 _ _ z2, z3.ex e1⟩
        | abs _ => exact fun G9 e9 => h2 G9 (e1.trans e9)
        | own ds =>
          obtain ⟨b, vs, rfl, k1, k2, k3, k4, k5⟩ := h2
          exact ⟨b, vs, rfl, k1, by rw [nB (bO k3)]; exact k2, k3, k4, Dp.exAll e1 _ k5⟩
        | byr ds =>
          obtain ⟨b, vs, rfl, k1, k2, k3, k4, k5, k6⟩ := h2
          exact ⟨b, vs, rfl, k1, by rw [nB (bO k3)]; exact k2, k3, k4, Dp.exAll e1 _ k5, k6⟩
        | lat _ ds =>
          obtain ⟨b, vs, rfl, k1, k2, k3, k4, k5, k6⟩ := h2
          exact ⟨b, vs, rfl, k1, by rw [nB (bO k3)]; exact k2, k3, k4, Dp.exAll e1 _ k5, k6⟩
        | dct ds =>
          obtain ⟨b, vs, rfl, k1, k2, k3, k4, k5, k6⟩ := h2
          exact ⟨b, vs, rfl, k1, by rw [nB (bO k3)]; exact k2, k3, k4, k5, Dp.exAll e1 _ k6⟩
        | dcg ds =>
          obtain ⟨b, vs, rfl, k1, k2, k3, k4, k5⟩ := h2
          exact ⟨b, vs, rfl, k1, by rw [nB (bO k3)]; exact k2, k3, k4, k5.ex e1⟩
      exact h3.upB rfl rfl rfl rfl fun b u hb hn => ⟨hb, fun z => hn (Or.inl z), fun w => w⟩
    ds := R.r.ds }
  have := R1.put (i := j) (v := .ref p) (vrf_dat (d := .list (L.map .list)) (N.dat e1 g1))
  rw [slot_same hj] at this
  exact ⟨e1, this⟩
theorem NbOk.close (h : NbOk K f F O B p ps j G s L σ H) (e : Ex (fun a => (B a).or (G a)) G') (R' : Rel K (fo f (F.ups B) O) G' s' σ H') (im : immS s.sl (s'.off j).sl) : ∃ G2, Ex G G2 ∧ NbOk K f F O B p ps j G2 (s'.off j) L σ H' ∧
    ∀ q v, immP q = true → VRf K (fo f (F.ups B) O) G' H' s' σ q v → VRf K (fo f (F.ups B) fun a => O a ∨ B a ≠ none) G2 H' (s'.off j) σ q v := by
  obtain ⟨R, hl, hj, N⟩ := h
  let G2 : Hp := fun a => if B a = none then G' a else none
  have bG : ∀ {a : Addr} {o : HO}, B a = some o → G' a = some o := fun {a o} h => e _ _ (by
    show (B a).or (G a) = some o
    rw [h]; rfl)
  have g2n : ∀ {a : Addr}, B a = none → G2 a = G' a := fun h => if_pos h
  have g2s : ∀ {a : Addr}, B a ≠ none → G2 a = none := fun h => if_neg h
  have e2 : Ex G2 G' := fun a o h => by
    by_cases z : B a = none
    · rw [g2n z] at h; exact h
    · rw [g2s z] at h; cases h
  have eG : Ex G G2 := fun a o h => by
    have z : B a = none := by
      cases w : B a with
      | none => rfl
      | some u => rw [R.gn w] at h; cases h
    rw [g2n z]
    exact e _ _ (by
      show (B a).or (G a) = some o
      rw [z]; exact h)
  have gr : Gr G' G2 := fun a o nt h => by
    by_cases z : B a = none
    · rw [g2n z]; exact h
    · cases w : B a with
      | none => exact absurd w z
      | some u =>
        obtain ⟨vs, rfl⟩ := hl _ _ w
        rw [bG w] at h
        cases h
        exact absurd trivial nt
  have fh : ∀ {a : Addr} {o : HO}, B a = some o → H' a = some o := fun {a o} h => R'.gh _ _ (bG h)
  have vr : ∀ {q : PV} {v : V}, immP q = true → VR K (fo f (F.ups B) O) G' H' q v → VR K (fo f (F.ups B) fun a => O a ∨ B a ≠ none) G2 H' q v := fun {q v} im h => by
    have nB : ∀ {b : Addr}, G' b = none → B b = none := fun {b} h => by
      cases w : B b with
      | none => rfl
      | some u => rw [bG w] at h; cases h
    have nO : ∀ {b : Addr}, G' b = none → ¬ O b → ¬ (O b ∨ B b ≠ none) := fun {b} h n z => z.elim n fun w => w (nB h)
    cases q with
    | dat d => exact Dp.gr gr d im h
    | drw => exact h
    | val _ => exact h
    | dgf _ => cases im
    | abs _ => cases im
    | dcg _ => cases im
    | own ds =>
      obtain ⟨b, vs, rfl, k1, k2, k3, k4, k5⟩ := h
      exact ⟨b, vs, rfl, k1, by rw [g2n (nB k2)]; exact k2, nO k2 k3, k4, Dp.grAll gr ds im k5⟩
    | byr ds =>
      obtain ⟨b, vs, rfl, k1, k2, k3, k4, k5, k6⟩ := h
      exact ⟨b, vs, rfl, k1, by rw [g2n (nB k2)]; exact k2, nO k2 k3, k4, Dp.grAll gr ds im k5, k6⟩
    | lat _ ds =>
      obtain ⟨b, vs, rfl, k1, k2, k3, k4, k5, k6⟩ := h
      exact ⟨b, vs, rfl, k1, by rw [g2n (nB k2)]; exact k2, nO k2 k3, k4, Dp.grAll gr ds im k5, k6⟩
    | dct kvs =>
      obtain ⟨b, vs, rfl, k1, k2, k3, k4, k5, k6⟩ := h
      exact ⟨b, vs, rfl, k1, by rw [g2n (nB k2)]; exact k2, nO k2 k3, k4, k5, Dp.grAll gr _ im k6⟩
  have Ro : Rel K (fo f (F.ups B) O) G' (s'.off j) σ H' := R'.put_off
  have RR : Rel K (fo f (F.ups B) fun a => O a ∨ B a ≠ none) G2 (s'.off j) σ H' := {
    gh := e2.trans Ro.gh
    fh := Ro.fh
    go := fun a h => h.elim (fun z => by
      cases w : G2 a with
      | none => rfl
      | some u => have := e2 _ _ w; rw [Ro.go a z] at this; cases this) fun z => g2s z
    oh := fun a h => h.elim (fun z => Ro.oh a z) fun z => by
      cases w : B a with
      | none => exact absurd w z
      | some u => rw [fh w]; intro z; cases z
    mh := Ro.mh
    mo := fun h => by
      obtain ⟨x, y, z, d, e⟩ := Ro.mo h
      exact ⟨Or.inl x, Or.inl y, Or.inl z, d, e⟩
    tm := fun p hp => ⟨Or.inl (Ro.tm p hp).1, (Ro.tm p hp).2⟩
    tb := fun p hp => (Ro.tb p hp).keep (fun b o nl z => by
      by_cases w : B b = none
      · rw [g2n w]; exact z
      · cases w2 : B b with
        | none => exact absurd w2 w
        | some u =>
          obtain ⟨vs, rfl⟩ := hl _ _ w2
          rw [bG w2] at z
          exact absurd (Option.some.inj z).symm (nl vs)) rfl
    pk := fun en he => ((R.pk en he).ex eG).ups fun b hb => (R.b b hb).2.2.1
    dr := Ro.dr
    ln := Ro.ln
    sl := fun i q hq => by
      obtain ⟨v, h1, h2⟩ := Ro.sl i q hq
      refine ⟨v, h1, ?_⟩
      rcases immS_at im hq with z | ⟨z0, z⟩
      · exact vr z h2
      · obtain ⟨v', h3, h4⟩ := R.r.sl i _ z
        rw [h1] at h3
        cases h3
        cases q with
        | dat d => exact Dp.ex eG _ h4
        | dgf _ => obtain ⟨p0, xs0, z1, z2, z3⟩ := h4; exact ⟨p0, xs0, z1, eG _ _ z2, z3.ex eG⟩
        | own _ => cases z0
        | dct _ => cases z0
        | dcg _ => cases z0
        | abs _ => cases z0
        | drw => cases z0
        | val _ => cases z0
        | byr _ => cases z0
        | lat _ _ => cases z0
    ds := Ro.ds }
  refine ⟨G2, eG, ⟨⟨RR, R.b, fun en he => (R.pk en he).ex eG⟩, hl, hj, N.ex eG⟩, fun q v iq h => ⟨vr iq h.1, fun m i q2 h1 h2 => ?_⟩⟩
  rcases set_get h1 with ⟨_, e2, _⟩ | ⟨_, h3⟩
  · cases e2
  · exact h.2 m i q2 h3 h2
end
@[simp] def nEv (j : Nat) (t : HE) (L : List (List PyData)) : HE := fun s C => t (s.put j (ldat L)) fun q s1 => immP q = true ∧ immS s.sl (s1.off j).sl ∧ C q (s1.off j)
@[simp] def nEvT (j : Nat) (t : HT) (L : List (List PyData)) : HT := fun s C => t (s.put j (ldat L)) fun b s1 => immS s.sl (s1.off j).sl ∧ C b (s1.off j)
section
variable {K : PySem.W.Frag} {f F : Fr} {O : Addr → Prop} {B G G' G1 H H' : Hp} {s s' : Sg} {σ : L2.St} {a p : Addr} {ps : List Addr} {o o' : HO} {L : List (List PyData)} {j : Nat}
theorem NbOk.ev {t : HE} {C : PV → Sg → Prop} {Q : VK} (h : NbOk K f F O B p ps j G s L σ H) (ht : nEv j t L s C) (k : ∀ q s' G' H' v, C q s' → Ex G G' → NbOk K f F O B p ps j G' s' L σ H' → VRf K (fo f (F.ups B) fun a => O a ∨ B a ≠ none) G' H' s' σ q v → immP q = true → Q v H') : lf K f t σ H Q := by
  obtain ⟨e1, R1⟩ := h.open
  refine ⟨_, _, _, _, _, R1, ht, fun q s' G' H' v c e R' V => ?_⟩
  obtain ⟨i1, i2, c⟩ := c
  obtain ⟨G2, e2, N2, vr⟩ := h.close e R' i2
  exact k q _ G2 H' v c e2 N2 (vr q v i1 V) i1
end
@[simp] def mSkip : HN := fun Q s L => Q s L
@[simp] def mSeq (t u : HN) : HN := fun Q s L => t (fun s1 L1 => u Q s1 L1) s L
@[simp] def mAsg (j : Nat) (t : HE) (i : Nat) : HN := fun Q s L => nEv j t L s fun q s1 => Q (s1.put i q) L
@[simp] def mIf (j : Nat) (c : HT) (t u : HN) : HN := fun Q s L => nEvT j c L s fun b s1 => if b = true then t Q s1 L else u Q s1 L
@[simp] def mPop (j : Nat) (ti tk : HE) : HN := fun Q s L => nEv j ti L s fun q s1 => ∃ k n l, q = .dat (.int k) ∧ ixN L.length k = some n ∧ L[n]? = some l ∧ nEv j tk L s1 fun q2 s2 => ∃ i m d, q2 = .dat (.int i) ∧ ixN l.length i = some m ∧ i.natAbs ≤ 1000000 ∧ l[m]? = some d ∧ Q s2 (L.set n (l.eraseIdx m))
@[simp] def mSet (j : Nat) (t ti tk : HE) : HN := fun Q s L => nEv j t L s fun q0 s0 => ∃ x, q0 = .dat x ∧ nEv j ti L s0 fun q s1 => ∃ k n l, q = .dat (.int k) ∧ ixN L.length k = some n ∧ L[n]? = some l ∧ nEv j tk L s1 fun q2 s2 => ∃ i m, q2 = .dat (.int i) ∧ ixN l.length i = some m ∧ Q s2 (L.set n (l.set m x))
@[simp] def mApp (j : Nat) (ti tv : HE) : HN := fun Q s L => nEv j ti L s fun q s1 => ∃ k n l, q = .dat (.int k) ∧ ixN L.length k = some n ∧ L[n]? = some l ∧ l.length < 100000 ∧ nEv j tv L s1 fun p s2 => ∃ x, p = .dat x ∧ Q s2 (L.set n (l ++ [x]))
section
variable {X : Cx} {f : Fr} {e a b c : Expr} {es : List Expr} {st : Stmt} {sts rest : List Stmt} {t ti tk tv : HE} {tt : HT} {tn tm : HN} {i j : Nat} {pos : Pos}
theorem NbOk.put {K : PySem.W.Frag} {F : Fr} {O : Addr → Prop} {B G H : Hp} {s : Sg} {σ : L2.St} {p : Addr} {ps : List Addr} {L : List (List PyData)} {q : PV} {v : V} (h : NbOk K f F O B p ps j G s L σ H) (V : VRf K (fo f (F.ups B) fun a => O a ∨ B a ≠ none) G H s σ q v) (ne : i ≠ j) : NbOk K f F O B p ps j G (s.put i q) L (σ.set i (some v)) H :=
  ⟨⟨h.R.r.put V, h.R.b, h.R.pk⟩, h.l, by rw [List.getElem?_set_ne ne]; exact h.j, h.N⟩
end
abbrev HWB := HD → Sg → List (List PyData) → Prop
@[simp] def mbSeq (t : HN) (u : HWB) : HWB := fun D s L => t (fun s1 L1 => u D s1 L1) s L
@[simp] def mbEnd (j : Nat) (t : HS) : HWB := fun D s L => t D (s.put j (.own (L.map .list)))
@[simp] def geachL (vs : List Nat) (i : Nat) (Q : Sg → List (List PyData) → Prop) : List PyData → Sg → List (List PyData) → Prop
  | [], s, L => Q s L
  | d :: ds, s, L => ∃ l, (d = .tuple l ∨ d = .list l) ∧ geachL vs i Q ds ((s.put i (.dat d)).wipe vs) (L ++ [l])
section
variable {X : Cx} {f : Fr} {st1 st : Stmt} {rest : List Stmt} {tn : HN} {tm : HWB} {tu : HS} {it : HI} {vs : List Nat} {i j : Nat}
end
instance : Srt Bool where
  kind := Or.inr fun a => ⟨fun z => (by cases z), fun xs (z : PyData.bool a = _) => (by cases z)⟩
end Sk
set_option Elab.async false
set_option linter.all false
set_option maxRecDepth 100000
set_option maxHeartbeats 2000000
namespace Sk
open PySem PySem.Spec PyProof.Rows L2
open Evl (Ex)
@[simp] def gQL (i j k m : Nat) : HG := fun d s C => match d with
  | .list [a, b, c, e] => C ((((s.put i (.dat a)).put j (.dat b)).put k (.dat c)).put m (.dat e))
  | _ => False
section
variable {X : Cx} {f : Fr} {a : Expr} {i j l m : Nat}
end
end Sk
set_option Elab.async false
set_option linter.all false
set_option maxRecDepth 100000
set_option maxHeartbeats 4000000
namespace Sk
open PySem PySem.Spec PyProof.Rows L2
open PySem.W (Datum DatumOrd Tup T3 T4)
open Evl (Ex)
def repS (z : Str) (k : Nat) : Str := { cps := List.foldl (fun x1 x2 => x1 ++ x2) #[] (List.replicate k z.cps) }
section
variable {X : Cx} {f : Fr}
def mulStrW : List PV → (PV → Prop) → Prop := fun ps C => match ps with
  | [.dat (.str z), .dat (.int k)] => (2 ≤ k ∧ k ≤ 1000 ∧ 0 < z.length ∧ z.length ≤ 1000) ∧ C (.dat (.str (repS z k.toNat)))
  | _ => False
@[simp] theorem mulStrW_s {z : Str} {k : Int} {C : PV → Prop} : mulStrW [.dat (.str z), .dat (.int k)] C ↔ ((2 ≤ k ∧ k ≤ 1000 ∧ 0 < z.length ∧ z.length ≤ 1000) ∧ C (.dat (.str (repS z k.toNat)))) := Iff.rfl
end
end Sk
set_option Elab.async false
set_option linter.all false
set_option maxRecDepth 100000
set_option maxHeartbeats 2000000
namespace Sk
open PySem PySem.Spec PyProof.Rows L2
open PySem.W (Datum DatumOrd Tup T3 T4)
open Evl (Ex)
section
variable {X : Cx} {f : Fr}
end
end Sk
namespace Sk
open PySem PySem.Spec PyProof.Rows L2
open PySem.W (Datum DatumOrd Tup T3 T4)
open Evl (Ex)
def tfS (b : Bool) : Str := if b = true then "True" else "False"
section
variable {X : Cx} {f : Fr}
def strBW : List PV → (PV → Prop) → Prop := fun ps C => match ps with
  | [.dat (.bool b)] => C (.dat (.str (tfS b)))
  | _ => False
@[simp] theorem strBW_b {b : Bool} {C : PV → Prop} : strBW [.dat (.bool b)] C ↔ C (.dat (.str (tfS b))) := Iff.rfl
end
section
variable {X : Cx} {f : Fr} {e a : Expr} {te tk : TE} {p2 p3 p4 pos : Pos}
@[simp] def hStepL (j : Nat) (t : HE) : HE := fun s C => (∃ p, s.sl[j]? = some (some p)) ∧ t s fun y s1 => ∃ p ds k, s1.sl[j]? = some (some p) ∧ p.lst = some ds ∧ y = .dat (.int k) ∧ (k = 1 ∨ k = -1) ∧ C (.own (if k = 1 then ds else ds.reverse)) s1
end
end Sk
set_option Elab.async false
set_option linter.all false
set_option maxRecDepth 100000
set_option maxHeartbeats 2000000
namespace Sk
open PySem PySem.Spec PyProof.Rows L2
open NdefX (NF CellsAt NScope ncx envF startF Caps slotAt)
open Evl (Ex)
section
variable {X : Cx} {T : Tbs} {L : Lam} {N ps fr : List Str} {k : Nat} {hb : HX → HE}
end
section
variable {X : Cx} {T : Tbs} {eo : Option Ent} {W : WX} {Z : HX} {k kc n np : Nat} {x q : Str} {P : Addr} {spC : (PySem.W.Frag → Hp → V → Prop) → HSpX → HSpX} {N ps fr : List Str} {js : List Nat} {params : Arguments} {body : Expr} {scope : Scope} {hb : HX → HE}
end
section
variable {X : Cx} {T : Tbs} {eo : Option Ent} {W : WX} {Z : HX} {k kc n np m : Nat} {x q : Str} {P : Addr} {spC : (PySem.W.Frag → Hp → V → Prop) → HSpX → HSpX} {N ps fr : List Str} {js : List Nat} {params : Arguments} {body : Expr} {scope : Scope} {hb : HX → HE}
end
end Sk
set_option Elab.async false
set_option linter.all false
set_option maxRecDepth 100000
set_option maxHeartbeats 2000000
namespace Sk
open PySem PySem.Spec PyProof.Rows L2
open Evl (Ex)
section
variable {prog : Program} {w : World} {A : Around} {E : Value → Shared → Prop} {s : Shared}
end
def zip3D : List PyData → List PyData → List PyData → List PyData
  | d :: ds, e :: es, g :: gs => .tuple [d, e, g] :: zip3D ds es gs
  | _, _, _ => []
@[simp] def hiZ3 (ta : HA) : HI := fun s C => ta s fun ps s1 => match ps with
  | [.dat (.list ds), .dat (.list es), .dat (.list gs)] => ds.length ≤ es.length ∧ ds.length ≤ gs.length ∧ C (zip3D ds es gs) s1
  | _ => False
section
variable {X : Cx} {f : Fr} {a b c : Expr} {r : HA}
end
end Sk
set_option Elab.async false
set_option linter.all false
set_option maxRecDepth 100000
set_option maxHeartbeats 2000000
namespace Sk
open PySem PySem.Spec PyProof.Rows L2
open PySem.W (Datum DatumOrd Tup T3 T4)
open Evl (Ex)
section
variable {X : Cx} {f : Fr}
end
end Sk
namespace Sk
open PySem PySem.Spec PyProof.Rows L2
open Evl (Ex)
def onlyLs (B : Hp) : Prop := ∀ a o, B a = some o → ∃ vs, o = .lst vs
def SpHN (K : PySem.W.Frag) (w : World) (T : Tbs) (k : Nat) (sp : HSp) : Sp := fun vs H Q _ => ∃ f G n ps C, f.w = w ∧ f.T = T ∧ f.e = none ∧ f.F = H ∧ (∀ a, f.M a → (f.on = true ∧ (a = f.m ∨ a = f.l)) ∨ f.tab a) ∧ Rel K f G ⟨ps.map some, n⟩ (vs.map some) H ∧ (∀ p ∈ ps, p.mut = false) ∧ ps.length = k ∧ sp ps n C ∧
  ∀ L n' G' H' B p qs, C (.own (L.map .list)) n' → Ex G G' → RelB K (f1 f.w f.T none) f f.O B G' ⟨[], n'⟩ [] H' → onlyLs B → NstP K G' B p qs L → Q (.ref p) H'
def lfSN (K : PySem.W.Frag) (f : Fr) (t : HS) : TS := fun D σ H => ∃ F O G s D', Rel K (fo f F O) G s σ H ∧ t D' s ∧
  ∀ L B G' s' σ' H' p qs, Ex G G' → RelB K f F O B G' s' σ' H' → onlyLs B → NstP K G' B p qs L → D'.rt (.own (L.map .list)) s' → D.rt (.ref p) H'
section
variable {K : PySem.W.Frag} {f F : Fr} {O : Addr → Prop} {B G H : Hp} {s : Sg} {σ : L2.St}
theorem RelB.bare (R : RelB K f F O B G s σ H) : RelB K f F O B G ⟨[], s.n⟩ [] H := ⟨R.r.bare, R.b, R.pk⟩
end
section
variable {X : Cx} {f : Fr} {st st1 st2 st3 : Stmt} {rest : List Stmt} {ts tu : HS} {tn : HN} {it : HI} {vs : List Nat} {i j : Nat}
end
theorem gnHN {P : Program} {w : World} {T : Tbs} {K : PySem.W.Frag} {mg : Str → Option Value} {base : Heap} {k : Nat} {fa : Addr} {fd : FuncData} {x qual : Str} {st : Stmt} {N ps : List Str} {hs : HS} {sp : HSp} (Fn : Fun K x qual st fa fd) (S : FnScope N ps (defScope st))
    (body : ∀ (cdv : Value), fd.code = cdv → ∀ (A : Around) (outer : List Env) (s : Shared) (H : Hp) (E : XK), (A.deeper (envOfC qual (defScope st) s.heap.objs.size fa cdv)).guards = some [] → Room k (A.deeper (envOfC qual (defScope st) s.heap.objs.size fa cdv)) → PSs (cxOf CX0 P w K mg base N qual (defScope st) fa cdv A outer s H E).nox (defBody st) (lfSN K (f0 w T) hs))
    (rd : ∀ pvs n C, pvs.length = ps.length → sp pvs n C → hs ⟨fun s => C (.dat .none) s.n, fun p s => C p s.n, fun _ => False, fun _ => False⟩ ⟨pvs.map some ++ List.replicate (N.length - pvs.length) none, n⟩) :
    GnOk P w K mg base CX0 (k + 1) fa fd ps (SpHN K w T ps.length sp) := by
  refine gn_ok Fn S (fun vs H Q E h => by
    obtain ⟨f, G, n, ps, C, _, _, _, _, _, R, _, hk, _⟩ := h
    have := R.ln
    simp at this
    omega) fun cdv ecd A outer s H vs Q E hgd hr h => ?_
  obtain ⟨⟨on, m, l, c, fF, fO, fM, r, fw, fT, fe⟩, G, n, pvs, C, hw, hT, he, hF, hM, R, hm, hk, hsp, kk⟩ := h
  have hw : fw = w := hw
  have hT : fT = T := hT
  have he : fe = none := he
  subst hw hT he
  have lnv : vs.length = pvs.length := by
    have := R.ln
    simpa using this
  refine ⟨_, body cdv ecd A outer s H E hgd hr, ⟨on, m, l, c, fF, fO, fM, r, fw, fT, none⟩, fO, G, _, _, ?_, rd pvs n C hk hsp, fun L B G' s' σ' H' p qs e R' ol N c => kk L _ G' H' B p qs c e R'.bare ol N⟩
  have ap : ∀ {α : Type} (xs : List α) (m i : Nat) (y : α), (xs.map some ++ List.replicate m none)[i]? = some (some y) → (xs.map some)[i]? = some (some y) := fun xs m i y h => by
    by_cases hi : i < xs.length
    · rw [List.getElem?_append_left (by simpa using hi)] at h; exact h
    · rw [List.getElem?_append_right (by simpa using hi)] at h
      rw [List.getElem?_replicate] at h
      split at h <;> cases h
  have ap2 : ∀ {α : Type} (xs : List α) (m i : Nat) (y : α), (xs.map some)[i]? = some (some y) → (xs.map some ++ List.replicate m none)[i]? = some (some y) := fun xs m i y h => by
    have hi : i < (xs.map some).length := (List.getElem?_eq_some_iff.mp h).1
    rw [List.getElem?_append_left hi]; exact h
  show Rel K _ G ⟨_, n⟩ (L2.start N vs) H
  exact { R with
    ln := by simp [L2.start, lnv]
    sl := fun i p h => by
      obtain ⟨v, h1, h2⟩ := R.sl i p (ap _ _ _ _ h)
      exact ⟨v, ap2 _ _ _ _ h1, h2⟩
    ds := fun i j p q v ne hi _ mp => by
      have h1 := ap _ _ _ _ hi
      rw [List.getElem?_map] at h1
      obtain ⟨p0, h2, e⟩ := Option.map_eq_some_iff.mp h1
      cases e
      have := hm _ (List.mem_of_getElem? h2)
      rw [this] at mp
      cases mp }
structure HasN (P : Program) (w : World) (T : Tbs) (K : PySem.W.Frag) (mg : Str → Option Value) (base : Heap) (k : Nat) (x : Str) (n : Nat) (sp : HSp) : Prop where
  ex : ∃ fa fd ps, ps.length = n ∧ GnOk P w K mg base CX0 k fa fd ps (SpHN K w T n sp) ∧ mg x = some (.ref fa) ∧ PySem.W.keepIn K (.ref fa) = true ∧ Binds K fd ps []
theorem HasN.mk' {P : Program} {w : World} {T : Tbs} {K : PySem.W.Frag} {mg : Str → Option Value} {base : Heap} {k : Nat} {fa : Addr} {fd : FuncData} {x y : Str} {st : Stmt} {N ps : List Str} {hs : HS} {sp : HSp} (Fn : Fun K y y st fa fd) (hm : mg x = some (.ref fa)) (b : Binds K fd ps []) (S : FnScope N ps (defScope st))
    (body : ∀ (cdv : Value), fd.code = cdv → ∀ (A : Around) (outer : List Env) (s : Shared) (H : Hp) (E : XK), (A.deeper (envOfC y (defScope st) s.heap.objs.size fa cdv)).guards = some [] → Room k (A.deeper (envOfC y (defScope st) s.heap.objs.size fa cdv)) → PSs (cxOf CX0 P w K mg base N y (defScope st) fa cdv A outer s H E).nox (defBody st) (lfSN K (f0 w T) hs))
    (rd : ∀ pvs n C, pvs.length = ps.length → sp pvs n C → hs ⟨fun s => C (.dat .none) s.n, fun p s => C p s.n, fun _ => False, fun _ => False⟩ ⟨pvs.map some ++ List.replicate (N.length - pvs.length) none, n⟩) : HasN P w T K mg base (k + 1) x ps.length sp :=
  ⟨fa, fd, ps, rfl, gnHN Fn S body rd, hm, Fn.kp, b⟩
@[simp] def mbIfR (j : Nat) (c : HT) (t : HS) (u : HWB) : HWB := fun D s L => nEvT j c L s fun b s1 => if b = true then t D (s1.put j (.own (L.map .list))) else u D s1 L
section
variable {X : Cx} {f : Fr} {st1 st : Stmt} {rest sts : List Stmt} {c : Expr} {tt : HT} {tm : HWB} {tu : HS} {ta : HA} {sp : HSp} {k j : Nat} {pos : Pos}
end
end Sk
set_option Elab.async false
set_option linter.all false
set_option maxRecDepth 100000
set_option maxHeartbeats 2000000
namespace Sk
open PySem PySem.Spec PyProof.Rows L2
open Evl (Ex)
section
variable {X : Cx} {f : Fr} {a : Expr} {oa : HA → HA} {p q pos : Pos}
end
end Sk
namespace Sk
open PySem PySem.Spec PyProof.Rows L2
open PySem.W (KeepsBut KeyedOut AllAlike Sortable SortsAt EachIs)
open Evl (Ex)
section
variable {prog : Program} {w : World} {A : Around} {E : Value → Shared → Prop} {s : Shared} {P : PySem.Fin → Shared → Prop} {f : Value} {a kS : Addr} {e1 : Nat} {vs : List Value} {kz : List PyData} {b : Bool} {J : Nat → List Value → Shared → Prop}
end
section
variable {X : Cx} {pins : List (Addr × Obj)} {σ : L2.St} {H : Hp} {s : Shared}
end
end Sk
set_option Elab.async false
set_option linter.all false
set_option maxRecDepth 100000
set_option maxHeartbeats 2000000
namespace Sk
open PySem PySem.Spec PyProof.Rows L2
open PySem.W (AllAlike Sortable EachIs)
open Evl (Ex)
def sortedBy (ds ks : List PyData) : List PyData := ((ds.zip ks).mergeSort (PySem.W.dataLe false Prod.snd)).map (·.1)
@[simp] def hSortH (m : Nat) (hb : HX → HE) (ta : HE) : HE := fun s C => ta s fun p s' => ∃ ds ks : List PyData, p.lst = some ds ∧ AllAlike ks ∧ Sortable ks ∧ (∀ d ∈ ks, d.depth ≤ 50) ∧ ks.length = ds.length ∧
  (∀ (i : Nat) (d k : PyData), ds[i]? = some d → ks[i]? = some k → spLam m hb [] [PV.dat d] s'.n (fun p n' => p = .dat k ∧ n' = s'.n) (fun _ _ => False)) ∧ C (.own (sortedBy ds ks)) s'
section
variable {K : PySem.W.Frag} {H : Hp}
theorem DpAll.snoc : ∀ {ys : List V} {ds : List PyData} {v : V} {d : PyData}, DpAll K H ys ds → Dp K H v d → DpAll K H (ys ++ [v]) (ds ++ [d])
  | _, _, _, _, .nil, h2 => .cons h2 .nil
  | _, _, _, _, .cons a r, h2 => .cons a (DpAll.snoc r h2)
end
section
variable {X : Cx} {T : Tbs} {eo : Option Ent} {k kc : Nat} {q : Str} {P : Addr} {N ps : List Str} {params : Arguments} {body : Expr} {scope : Scope} {hb : HX → HE}
end
open PySem.W (Datum DatumOrd)
end Sk
set_option Elab.async false
set_option linter.all false
set_option maxRecDepth 100000
set_option maxHeartbeats 2000000
namespace Sk
open PySem PySem.Spec PyProof.Rows L2
open Evl (Ex)
@[simp] def hiRv (t : HE) : HI := fun s C => t s fun p s1 => match p.frz with
  | some (.list ds) => C ds.reverse s1
  | _ => False
section
variable {X : Cx} {f : Fr}
end
end Sk
set_option Elab.async false
set_option linter.all false
set_option maxRecDepth 100000
set_option maxHeartbeats 2000000
namespace Sk
open PySem PySem.Spec PyProof.Rows L2
open Evl (Ex)
@[simp] def hKIx (kvs : List (Str × Int)) (t : HE) : HE := fun s C => t s fun p s1 => ∃ k i, p = .dat (.str k) ∧ kvs.lookup k = some i ∧ C (.dat (.int i)) s1
end Sk
namespace Sk
open PySem PySem.Spec PyProof.Rows L2
open Evl (Ex)
def FV (K : PySem.W.Frag) (G : Hp) (u : V) : PV → Prop
  | .dat d => Dp K G u d
  | .abs R => ∀ G', Ex G G' → R K G' u
  | _ => False
def FO (K : PySem.W.Frag) (G : Hp) (p : Str × V) (q : Str × PV) : Prop := p.1 = q.1 ∧ FV K G p.2 q.2
def ObK (nm : Str) (fl : List (Str × PV)) : PySem.W.Frag → Hp → V → Prop := fun K G v => ∃ a C dx fs, v = .ref a ∧ ClsA K nm C ∧ G a = some (.ins C dx fs) ∧ Paired (FO K G) fs fl
section
variable {K : PySem.W.Frag} {f : Fr} {G G' H : Hp} {s : Sg} {σ : L2.St} {nm x : Str} {v u : V}
theorem FV.ex {p : PV} (e : Ex G G') (h : FV K G u p) : FV K G' u p := by
  cases p with
  | dat d => exact Dp.ex e _ h
  | abs R => exact fun G2 e2 => h G2 (e.trans e2)
  | _ => exact h.elim
theorem FV.vrf {p : PV} (h : FV K G u p) : VRf K f G H s σ p u := by
  cases p with
  | dat d => exact vrf_dat h
  | abs R => exact ⟨h, fun m => by cases m⟩
  | _ => exact h.elim
theorem fos_ex (e : Ex G G') : ∀ {fs : List (Str × V)} {fl : List (Str × PV)}, Paired (FO K G) fs fl → Paired (FO K G') fs fl
  | _, _, .nil => .nil
  | _, _, .cons h t => .cons ⟨h.1, h.2.ex e⟩ (fos_ex e t)
theorem ObK.ex {fl : List (Str × PV)} (h : ObK nm fl K G v) (e : Ex G G') : ObK nm fl K G' v := by
  obtain ⟨a, C, dx, fs, h1, h2, h3, h4⟩ := h
  exact ⟨a, C, dx, fs, h1, h2, e _ _ h3, fos_ex e h4⟩
theorem ObK.vr {fl : List (Str × PV)} (h : ObK nm fl K G v) : VR K f G H (.abs (ObK nm fl)) v := fun _ e => h.ex e
end
@[simp] def hFldK (j : Nat) (nm x : Str) : HE := fun s C => ∃ fl q, s.sl[j]? = some (some (.abs (ObK nm fl))) ∧ fl.lookup x = some q ∧ C q s
@[simp] def hMethK (j : Nat) (nm m : Str) (sp : HSp) (k : Nat) (ta : HA) : HE := fun s C => (∃ fl, s.sl[j]? = some (some (.abs (ObK nm fl))) ∧ fl.lookup m = none) ∧ ta s fun ps s' => ∃ fl, s'.sl[j]? = some (some (.abs (ObK nm fl))) ∧ ps.length = k ∧ (∀ p ∈ ps, p.isD = false) ∧
  sp (.abs (ObK nm fl) :: ps.map PV.arg) s'.n fun p n' => (ps.any PV.mut = true → p.imm = true) ∧ C p ⟨s'.sl, n'⟩
section
variable {X : Cx} {f : Fr} {T : Tbs} {en : Option Ent} {e o : Expr} {es : List Expr} {ta : HA} {sp : HSp} {nm m x : Str} {xs : List Str} {pos apos : Pos} {k n j : Nat}
end
def DkR (kvs : List (Key × PyData)) : PySem.W.Frag → Hp → V → Prop := fun K G v => ∃ p ws, v = .ref p ∧ G p = some (.dK ws) ∧ KVD K G ws kvs
theorem DkR.vr {K : PySem.W.Frag} {f : Fr} {G H : Hp} {v : V} {kvs : List (Key × PyData)} (h : DkR kvs K G v) : VR K f G H (.abs (DkR kvs)) v := fun G2 e => by
  obtain ⟨p, ws, h1, h2, h3, h4⟩ := h
  exact ⟨p, ws, h1, e _ _ h2, h3, Dp.exAll e _ h4⟩
section
variable {X : Cx} {f : Fr} {a o : Expr} {oa ob : HA → HA} {pos : Pos}
end
end Sk
set_option Elab.async false
set_option linter.all false
set_option maxRecDepth 100000
set_option maxHeartbeats 2000000
namespace Sk
open PySem PySem.Spec PyProof.Rows L2
open Evl (Ex)
section
variable {X : Cx} {f : Fr}
end
end Sk
namespace Sk
open PySem PySem.Spec PyProof.Rows L2
open Evl (Ex)
abbrev HSpK := List PV → Nat → (List (Str × PV) → Nat → Prop) → Prop
def SpHK (K : PySem.W.Frag) (w : World) (T : Tbs) (nm : Str) (k : Nat) (sp : HSpK) : Sp := fun vs H Q _ => ∃ (g : Fr) (G : Hp) (n : Nat) (ps : List PV) (a Cc dx : Addr) (args : List V) (Ci : List (Str × PV) → Nat → Prop),
  vs = .ref a :: args ∧ g.w = w ∧ g.T = T ∧ g.e = none ∧ ClsA K nm Cc ∧ g.O a ∧ ¬ g.M a ∧ g.F a = some (.ins Cc dx []) ∧ Rel K g G ⟨ps.map some, n⟩ (args.map some) H ∧ (∀ p ∈ ps, ∃ d, p = .dat d) ∧ ps.length = k ∧ sp ps n Ci ∧
  ∀ fl n' G' H' fs, Ci fl n' → Ex G G' → Paired (FO K G') fs fl → Rel K (g.up a (.ins Cc dx fs)) G' ⟨[], n'⟩ [] H' → Q .non H'
structure HasK (P : Program) (w : World) (T : Tbs) (K : PySem.W.Frag) (mg : Str → Option Value) (base : Heap) (k : Nat) (nm : Str) (n : Nat) (sp : HSpK) : Prop where
  ex : ∃ C fa fd ps, ClsA K nm C ∧ mg nm = some (.ref C) ∧ Mk K C fa ∧ GnOk P w K mg base CX0 k fa fd ps (SpHK K w T nm n sp) ∧ Binds K fd ps []
section
variable {X : Cx} {T : Tbs} {en : Option Ent} {e : Expr} {es : List Expr} {ta : HA} {sp : HSpK} {nm : Str} {p pos : Pos} {k n : Nat}
end
@[simp] def hEA (t : HE) (r : HA) : HA := fun s C => t s fun p s1 => ∃ R, p = .abs R ∧ r s1 fun ps s2 => C (.abs R :: ps) s2
theorem opd_a {X : Cx} {f : Fr} {e : Expr} {t : HE} (h : PE X e (lf X.K f t)) : Opd X f e (hEA t) := ⟨_, h, fun tr r m σ H Q q => by
  obtain ⟨F, O, G, s, C, R, ht, k⟩ := q
  refine ⟨F, O, G, s, _, R, ht, fun p s1 G1 H1 v c1 e1 R1 V1 => ?_⟩
  obtain ⟨Ra, rfl, c2⟩ := c1
  refine m _ _ _ ⟨F, O, G1, s1, _, R1, c2, fun ps s3 G3 H3 vs c3 e3 R3 V3 => ?_⟩
  exact k _ _ _ _ _ c3 (e1.trans e3) R3 (.cons (fun G9 e9 => V1.1 G9 (e3.trans e9)) V3)⟩
section
variable {X : Cx} {f : Fr} {a o : Expr} {oa ob : HA → HA} {pos : Pos}
end
section
variable {X : Cx} {T : Tbs} {eo : Option Ent} {k kc m : Nat} {q : Str} {P : Addr} {N ps : List Str} {params : Arguments} {body : Expr} {scope : Scope} {hb : HX → HE}
end
end Sk
set_option Elab.async false
set_option linter.all false
set_option maxRecDepth 100000
set_option maxHeartbeats 2000000
namespace Sk
open PySem PySem.Spec PyProof.Rows L2
open NdefX (NScope NF envF ncx startF CellsAt Caps)
open Evl (Ex)
def spLamP (m : Nat) (hb : HX → HE) (cps : List PV) : HSpX := fun ps n C Z => hb (fun x s => Z x s.n) ⟨(ps ++ cps).map some ++ List.replicate m none, n⟩ fun p s => C p s.n
@[simp] def capsP : List Nat → List (Option PV) → Option (List PV)
  | [], _ => some []
  | j :: js, sl => match sl[j]? with
    | some (some (.dat d)) => (capsP js sl).map (PV.dat d :: ·)
    | some (some (.abs R)) => (capsP js sl).map (PV.abs R :: ·)
    | _ => none
section
variable {X : Cx} {T : Tbs} {L : Lam} {N ps fr : List Str} {k : Nat} {hb : HX → HE} {cps : List PV}
end
@[simp] def hCallC0P (spC : (PySem.W.Frag → Hp → V → Prop) → HSpX → HSpX) (m : Nat) (js : List Nat) (hb : HX → HE) (Z : HX) : HE := fun s C => ∃ cps, capsP js s.sl = some cps ∧ ∀ R, spC R (spLamP m hb cps) [.abs R] s.n (fun p n' => C p ⟨s.sl, n'⟩) (fun x n' => Z x ⟨s.sl, n'⟩)
@[simp] def hCallC1P (spC : (PySem.W.Frag → Hp → V → Prop) → HSpX → HSpX) (m : Nat) (js : List Nat) (hb : HX → HE) (Z : HX) (te : HE) : HE := fun s C => te s fun p s1 => ∃ d, p.frz = some d ∧ ∃ cps, capsP js s1.sl = some cps ∧ ∀ R, spC R (spLamP m hb cps) [.dat d, .abs R] s1.n (fun p n' => C p ⟨s1.sl, n'⟩) (fun x n' => Z x ⟨s1.sl, n'⟩)
section
variable {X : Cx} {T : Tbs} {eo : Option Ent} {W : WX} {Z : HX} {k kc n np : Nat} {x q : Str} {P : Addr} {spC : (PySem.W.Frag → Hp → V → Prop) → HSpX → HSpX} {N ps fr : List Str} {js : List Nat} {params : Arguments} {body : Expr} {scope : Scope} {hb : HX → HE}
end
section
variable {X : Cx} {T : Tbs} {eo : Option Ent} {W : WX} {Z : HX} {k kc n np m : Nat} {x q : Str} {P : Addr} {spC : (PySem.W.Frag → Hp → V → Prop) → HSpX → HSpX} {N ps fr : List Str} {js : List Nat} {params : Arguments} {body : Expr} {scope : Scope} {hb : HX → HE}
end
end Sk
set_option Elab.async false
set_option linter.all false
set_option maxRecDepth 100000
set_option maxHeartbeats 2000000
namespace Sk
open PySem PySem.Spec PyProof.Rows L2
open PySem.W (Datum DatumOrd Tup T3 T4)
open Evl (Ex)
@[simp] def c_BARS : PyData := (.tuple [(.str "stop"), (.str "spin"), (.str "out"), (.str "own"), (.str "beside"), (.str "hide"), (.str "as")])
@[simp] def c_HIDDEN : PyData := (.str "")
@[simp] def c_LETTERS : PyData := (.str "abcdefghijklmnopqrstuvwxyz")
@[simp] def c_MOST_DEEDS : PyData := (.int 8)
@[simp] def c_MOST_LETTERS : PyData := (.int 6)
@[simp] def c_MOST_NODES : PyData := (.int 300)
def letters : Str := "abcdefghijklmnopqrstuvwxyz"
def bars : List Str := ["stop", "spin", "out", "own", "beside", "hide", "as"]
def isWordS (z : Str) : Bool := decide (1 ≤ z.length) && decide (z.length ≤ 6) && !decide (z ∈ bars) && z.cps.toList.all fun c => decide (c ∈ letters.cps)
end Sk
set_option Elab.async false
set_option linter.all false
set_option maxRecDepth 100000
set_option maxHeartbeats 2000000
namespace Sk
open PySem PySem.Spec PyProof.Rows L2
open PySem.W (Datum DatumOrd Tup T3 T4)
open Evl (Ex)
end Sk
namespace Sk
open PySem PySem.Spec PyProof.Rows L2
open PySem.W (Datum DatumOrd Tup T3 T4)
open Evl (Ex)
end Sk
set_option Elab.async false
set_option linter.all false
set_option maxRecDepth 100000
set_option maxHeartbeats 2000000
namespace Sk
open PySem PySem.Spec PyProof.Rows L2
open PySem.W (Datum DatumOrd Tup T3 T4)
open Evl (Ex)
abbrev Mch := Tup (Tup (Str × Int))
def Mch.rows (M : Mch) : List (List (Str × Int)) := M.items.map Tup.items
def rowDeeds (r : List (Str × Int)) : List Str := (r.filter fun p => decide (p.1 ≠ ("" : Str))).map (·.1)
def Mch.deeds (M : Mch) : List Str := (M.rows.map rowDeeds).flatten
def Mch.size (M : Mch) : Nat := (M.rows.map List.length).sum
end Sk
set_option Elab.async false
set_option linter.all false
set_option maxRecDepth 100000
set_option maxHeartbeats 2000000
namespace Sk
open PySem PySem.Spec PyProof.Rows L2
open PySem.W (Datum DatumOrd Tup T3 T4)
open Evl (Ex)
structure MOk (M : Mch) : Prop where
  lo : 1 ≤ M.items.length
  hi : M.items.length ≤ 300
  mv : ∀ r ∈ M.items, ∀ p ∈ r.items, 0 ≤ p.2 ∧ p.2 < M.items.length ∧ (isWordS p.1 = true ∨ p.1 = ("" : Str))
  up : ∀ r ∈ M.items, Rising r.items
  ds : (sortU M.deeds).length ≤ 8
  sz : M.size ≤ 40000
theorem MOk.row {M : Mch} (h : MOk M) : ∀ r ∈ M.rows, r.length ≤ 40000 := fun r hr => by
  have gen : ∀ (rs : List (List (Str × Int))), r ∈ rs → r.length ≤ (rs.map List.length).sum := fun rs => by
    induction rs with
    | nil => intro h; cases h
    | cons q rs ih =>
      intro h
      rw [List.map_cons, List.sum_cons]
      rcases List.mem_cons.mp h with rfl | h
      · omega
      · have := ih h; omega
  exact Nat.le_trans (gen _ hr) h.sz
inductive Reach (M : Mch) : Int → Prop
  | start : Reach M 0
  | step {x : Int} {r : List (Str × Int)} {p : Str × Int} : Reach M x → M.rows[x.toNat]? = some r → p ∈ r → Reach M p.2
end Sk
set_option Elab.async false
set_option linter.all false
set_option maxRecDepth 100000
set_option maxHeartbeats 2000000
namespace Sk
open PySem PySem.Spec PyProof.Rows L2
open PySem.W (Datum DatumOrd Tup T3 T4)
open Evl (Ex)
structure Going (M : Mch) (ex : Int → Prop) (ks ws : List Int) : Prop where
  nd : ks.Nodup
  rng : ∀ k ∈ ks, 0 ≤ k ∧ k < M.items.length
  rch : ∀ k ∈ ks, Reach M k
  sub : ∀ x ∈ ws, x ∈ ks
  zero : (0 : Int) ∈ ks
  cl : ∀ x ∈ ks, x ∉ ws → ¬ ex x → ∀ r, M.rows[x.toNat]? = some r → ∀ p ∈ r, p.2 ∈ ks
theorem Going.small {M : Mch} {ex : Int → Prop} {ks ws : List Int} (h : Going M ex ks ws) : ks.length ≤ M.items.length := by
  have := nodup_le ks ((List.range M.items.length).map fun i => ((i : Nat) : Int)) h.nd fun k hk => by
    obtain ⟨a, b⟩ := h.rng k hk
    exact List.mem_map.mpr ⟨k.toNat, List.mem_range.mpr (by omega), by omega⟩
  simpa using this
end Sk
set_option Elab.async false
set_option linter.all false
set_option maxRecDepth 100000
set_option maxHeartbeats 2000000
namespace Sk
open PySem PySem.Spec PyProof.Rows L2
open PySem.W (Datum DatumOrd Tup T3 T4)
open Evl (Ex)
theorem cmul {i j : Int} (h : i.natAbs < 2 ^ 100) (h2 : j.natAbs < 2 ^ 100) : CMulW i j := wide_mul h h2 (by decide) (by decide) (by decide)
abbrev sp__law_mixed_2d863d : HSp := spMixed
def h__law_mixed_2d863d : HS :=
    (hSeq (hAsg (hC addW (hE (hC addW (hE (hC modW (hE (hC mulW' (hE (hC mulW' (hL 0 (hE (hC addW (hE (hK (.int 1)) (hE (hC mulW' (hE (hK (.int 2)) (hL 1 hNil))) hNil))) hNil))) (hE (hK (.int 48271)) hNil))) (hE (hK (.int 2147483647)) hNil))) (hE (hC mulW' (hE (hC mulW' (hE (hK (.int 7919)) (hL 1 hNil))) (hL 1 hNil))) hNil))) (hE (hC mulW' (hE (hK (.int 104729)) (hL 1 hNil))) hNil))) 2)
    (hRet (hC fdivW (hE (hC modW (hE (hC mulW' (hL 2 (hE (hK (.int 69621)) hNil))) (hE (hK (.int 2147483629)) hNil))) (hE (hK (.int 7)) hNil)))))
theorem rd__law_mixed_2d863d : ∀ pvs n C, pvs.length = 2 → sp__law_mixed_2d863d pvs n C → h__law_mixed_2d863d ⟨fun s => C (.dat .none) s.n, fun p s => C p s.n, fun _ => False, fun _ => False⟩ ⟨pvs.map some ++ List.replicate (3 - pvs.length) none, n⟩ := by
  intro pvs n C _ h
  obtain ⟨c, k, rfl, c0, c1, k0, k1, q⟩ := h
  unfold h__law_mixed_2d863d
  have a1 : 0 ≤ c * (1 + 2 * k) := Int.mul_nonneg c0 (by omega)
  have a2 : c * (1 + 2 * k) ≤ 4294967296 * 1073741825 := Int.mul_le_mul (by omega) (by omega) (by omega) (by decide)
  have b0 : 0 ≤ 7919 * k * k := Int.mul_nonneg (by omega) k0
  have b1 : 7919 * k * k ≤ (7919 * 536870912) * 536870912 := Int.mul_le_mul (by omega) (by omega) (by omega) (by decide)
  have m0 : 0 ≤ c * (1 + 2 * k) * 48271 % 2147483647 := Int.emod_nonneg _ (by decide)
  have m1 : c * (1 + 2 * k) * 48271 % 2147483647 < 2147483647 := Int.emod_lt_of_pos _ (by decide)
  generalize hx : c * (1 + 2 * k) = x at *
  generalize hy : 7919 * k * k = y at *
  generalize hz : x * 48271 % 2147483647 = z at *
  simp [hx, hy, hz]
  have e2 : (2 : Nat) ^ 100 = 1267650600228229401496703205376 := by decide
  have n0 : 0 ≤ (z + y + 104729 * k) * 69621 % 2147483629 := Int.emod_nonneg _ (by decide)
  have n1 : (z + y + 104729 * k) * 69621 % 2147483629 < 2147483629 := Int.emod_lt_of_pos _ (by decide)
  refine ⟨cmul (by rw [e2]; omega) (by rw [e2]; omega), cmul (by rw [e2]; omega) (by rw [e2]; omega), cmul (by rw [e2]; omega) (by rw [e2]; omega), cmul (by rw [e2]; omega) (by rw [e2]; omega), cmul (by rw [e2]; omega) (by rw [e2]; omega), cmul (by rw [e2]; omega) (by rw [e2]; omega), cmul (by rw [e2]; omega) (by rw [e2]; omega), wide_div (b := 10) (by decide) (by decide) (by decide) (by decide), q _ ?_ ?_⟩
  · exact Int.ediv_nonneg n0 (by decide)
  · generalize (z + y + 104729 * k) * 69621 % 2147483629 = u at *
    omega
abbrev sp__law_folded_8cf898 : HSp := spFolded
theorem atI_int {cs : List Int} {i : Int} (h0 : 0 ≤ i) (h1 : i < cs.length) : ∃ x, atI (cs.map PyData.int) i = some (.int x) ∧ x ∈ cs ∧ ixN cs.length i = some i.toNat := by
  have hl : i.toNat < cs.length := by omega
  refine ⟨cs[i.toNat], ?_, List.getElem_mem hl, ?_⟩
  · unfold atI ixN
    rw [List.length_map, if_pos h0, if_pos (by omega)]
    show (cs.map PyData.int)[i.toNat]? = _
    rw [List.getElem?_map, List.getElem?_eq_getElem hl]; rfl
  · unfold ixN
    rw [if_pos h0, if_pos h1]
def Cells (cs : List Int) : Prop := cs.length = 64 ∧ ∀ x ∈ cs, 0 ≤ x ∧ x < 2147483647
theorem Cells.set {cs : List Int} (h : Cells cs) {j : Nat} {x : Int} (h0 : 0 ≤ x) (h1 : x < 2147483647) : Cells (cs.set j x) := ⟨by rw [List.length_set]; exact h.1, fun y hy => by
  rcases List.mem_or_eq_of_mem_set hy with hy | rfl
  · exact h.2 y hy
  · exact ⟨h0, h1⟩⟩
theorem fold1 {D : HD} {p0 : Option PV} {n : Nat} : ∀ (ns : List Int) (i : Nat) (cs : List Int) (o2 o3 : Option PV), Cells cs → i + ns.length ≤ 1000 → (∀ (cs' : List Int) (o2' o3' : Option PV), Cells cs' → D.nx ⟨[p0, some (.own (cs'.map .int)), o2', o3'], n⟩) →
    each (gP 2 3) (hSetL 1 (hC modW (hE (hC addW (hE (hC mulW' (hE (hC ixW (hL 1 (hE (hC modW (hL 2 (hE (hK (.int 64)) hNil))) hNil))) (hE (hK (.int 48271)) hNil))) (hL 3 hNil))) (hE (hK (.int 2147483647)) hNil))) (hC modW (hL 2 (hE (hK (.int 64)) hNil)))) D (enumD i (ns.map .int)) ⟨[p0, some (.own (cs.map .int)), o2, o3], n⟩ := by
  intro ns
  induction ns with
  | nil => intro i cs o2 o3 hc _ fin; exact fin cs o2 o3 hc
  | cons x ns ih =>
    intro i cs o2 o3 hc hi fin
    have m0 : 0 ≤ (i : Int) % 64 := Int.emod_nonneg _ (by decide)
    have m1 : (i : Int) % 64 < 64 := Int.emod_lt_of_pos _ (by decide)
    obtain ⟨y, h1, h2, h3⟩ := atI_int (cs := cs) m0 (by rw [hc.1]; exact m1)
    obtain ⟨y0, y1⟩ := hc.2 y h2
    have e2 : (2 : Nat) ^ 100 = 1267650600228229401496703205376 := by decide
    have r0 : 0 ≤ (y * 48271 + x) % 2147483647 := Int.emod_nonneg _ (by decide)
    have r1 : (y * 48271 + x) % 2147483647 < 2147483647 := Int.emod_lt_of_pos _ (by decide)
    simp [enumD, h1]
    refine ⟨cmul (by rw [e2]; omega) (by rw [e2]; omega), _, h3, ?_⟩
    have e : ((cs.map PyData.int).set ((i : Int) % 64).toNat (.int ((y * 48271 + x) % 2147483647))) = (cs.set ((i : Int) % 64).toNat ((y * 48271 + x) % 2147483647)).map .int := by rw [List.map_set]
    rw [e]
    have hi' : i + (ns.length + 1) ≤ 1000 := by simpa using hi
    exact ih (i + 1) _ _ _ (hc.set r0 r1) (by omega) fin
theorem fold2 {D : HD} {p0 : Option PV} {n : Nat} : ∀ (ks : List Nat) (cs : List Int) (o2 o3 : Option PV), Cells cs → (∀ k ∈ ks, k < 63) → (∀ (cs' : List Int) (o2' o3' : Option PV), Cells cs' → D.nx ⟨[p0, some (.own (cs'.map .int)), o2', o3'], n⟩) →
    each (gN 2) (hSetL 1 (hC modW (hE (hC addW (hE (hC ixW (hL 1 (hL 2 hNil))) (hE (hC mulW' (hE (hC ixW (hL 1 (hE (hC subW (hL 2 (hE (hK (.int 1)) hNil))) hNil))) (hE (hK (.int 16807)) hNil))) hNil))) (hE (hK (.int 2147483647)) hNil))) (hV 2)) D (ks.map fun i => .int (1 + (i : Nat))) ⟨[p0, some (.own (cs.map .int)), o2, o3], n⟩ := by
  intro ks
  induction ks with
  | nil => intro cs o2 o3 hc _ fin; exact fin cs o2 o3 hc
  | cons k ks ih =>
    intro cs o2 o3 hc hk fin
    have k1 := hk k List.mem_cons_self
    obtain ⟨y, h1, h2, h3⟩ := atI_int (cs := cs) (i := 1 + (k : Int)) (by omega) (by rw [hc.1]; omega)
    obtain ⟨x, g1, g2, g3⟩ := atI_int (cs := cs) (i := (k : Int)) (by omega) (by rw [hc.1]; omega)
    obtain ⟨y0, y1⟩ := hc.2 y h2
    obtain ⟨x0, x1⟩ := hc.2 x g2
    have e2 : (2 : Nat) ^ 100 = 1267650600228229401496703205376 := by decide
    have r0 : 0 ≤ (y + x * 16807) % 2147483647 := Int.emod_nonneg _ (by decide)
    have r1 : (y + x * 16807) % 2147483647 < 2147483647 := Int.emod_lt_of_pos _ (by decide)
    have ek : (1 : Int) + k - 1 = k := by omega
    simp [h1, ek, g1]
    refine ⟨cmul (by rw [e2]; omega) (by rw [e2]; omega), _, h3, ?_⟩
    have e : ((cs.map PyData.int).set (1 + (k : Int)).toNat (.int ((y + x * 16807) % 2147483647))) = (cs.set (1 + (k : Int)).toNat ((y + x * 16807) % 2147483647)).map .int := by rw [List.map_set]
    rw [e]
    exact ih _ _ _ (hc.set r0 r1) (fun q hq => hk q (List.mem_cons_of_mem _ hq)) fin
def h__law_folded_8cf898 : HS :=
    (hSeq (hAsg (hLc (hiR1 (hE (hK (.int 64)) hNil)) (gN 2) hYes (hC addW (hE (hK (.int 17)) (hL 2 hNil))) [2]) 1)
    (hSeq (hFor (hiE (hE (hV 0) hNil)) (gP 2 3) (hSetL 1 (hC modW (hE (hC addW (hE (hC mulW' (hE (hC ixW (hL 1 (hE (hC modW (hL 2 (hE (hK (.int 64)) hNil))) hNil))) (hE (hK (.int 48271)) hNil))) (hL 3 hNil))) (hE (hK (.int 2147483647)) hNil))) (hC modW (hL 2 (hE (hK (.int 64)) hNil)))))
    (hSeq (hFor (hiR2 (hE (hK (.int 1)) (hE (hK (.int 64)) hNil))) (gN 2) (hSetL 1 (hC modW (hE (hC addW (hE (hC ixW (hL 1 (hL 2 hNil))) (hE (hC mulW' (hE (hC ixW (hL 1 (hE (hC subW (hL 2 (hE (hK (.int 1)) hNil))) hNil))) (hE (hK (.int 16807)) hNil))) hNil))) (hE (hK (.int 2147483647)) hNil))) (hV 2)))
    (hRet (hM 1)))))
theorem rd__law_folded_8cf898 : ∀ pvs n C, pvs.length = 1 → sp__law_folded_8cf898 pvs n C → h__law_folded_8cf898 ⟨fun s => C (.dat .none) s.n, fun p s => C p s.n, fun _ => False, fun _ => False⟩ ⟨pvs.map some ++ List.replicate (4 - pvs.length) none, n⟩ := by
  intro pvs n C _ h
  obtain ⟨ns, rfl, hn, q⟩ := h
  unfold h__law_folded_8cf898
  simp [rngD]
  refine lcs_map (fun i : Nat => PyData.int (i : Nat)) (fun i => .int (17 + (i : Nat))) (fun a _ K hK => ?_) [] _ (by simp) ?_
  · simp
    refine hK _ ?_
    simp
  · simp only [List.nil_append]
    have e : (List.range 64).map (fun i : Nat => PyData.int (17 + (i : Nat))) = ((List.range 64).map fun i : Nat => (17 : Int) + (i : Nat)).map .int := by simp
    rw [e]
    refine fold1 ns 0 _ _ _ ⟨by simp, fun x hx => ?_⟩ (by omega) fun cs o2 o3 hc => ?_
    · obtain ⟨i, hi, rfl⟩ := List.mem_map.mp hx
      have := List.mem_range.mp hi
      omega
    · simp [rngD]
      refine fold2 (List.range 63) cs _ _ hc (fun k hk => List.mem_range.mp hk) fun cs' o2' o3' hc' => ?_
      simp
      exact q cs' hc'.1 hc'.2
end Sk
set_option Elab.async false
set_option linter.all false
set_option maxRecDepth 100000
set_option maxHeartbeats 4000000
namespace Sk
open PySem PySem.Spec PyProof.Rows L2
open PySem.W (Datum DatumOrd Tup T3 T4)
open Evl (Ex)
open TL (tl tl_append tl_join joinL)
abbrev sp__law_draw_a6e186 : HSp := spDraw
end Sk
namespace Sk
open PySem PySem.Spec PyProof.Rows L2
open PySem.W (Datum DatumOrd Tup T3 T4)
open Evl (Ex)
theorem drw' (k : Int) (n : Nat) (C : PV → Nat → Prop) : 0 < k → k ≤ 1000000 → n < 268435456 → (∀ i : Int, 0 ≤ i → i < k → C (.dat (.int i)) (n + 1)) → spDraw [.drw, .dat (.int k)] n C := fun a b c d => ⟨k, rfl, a, b, c, d⟩
theorem atI_str {ws : List Str} {i : Int} (h0 : 0 ≤ i) (h1 : i < ws.length) : ∃ x, atI (ws.map PyData.str) i = some (.str x) ∧ x ∈ ws := by
  have hl : i.toNat < ws.length := by omega
  refine ⟨ws[i.toNat], ?_, List.getElem_mem hl⟩
  unfold atI ixN
  rw [List.length_map, if_pos h0, if_pos (by omega)]
  show (ws.map PyData.str)[i.toNat]? = _
  rw [List.getElem?_map, List.getElem?_eq_getElem hl]; rfl
end Sk
set_option Elab.async false
set_option linter.all false
set_option maxRecDepth 100000
set_option maxHeartbeats 4000000
namespace Sk
open PySem PySem.Spec PyProof.Rows L2
open PySem.W (Datum DatumOrd Tup T3 T4)
open Evl (Ex)
end Sk
namespace Sk
open PySem PySem.Spec PyProof.Rows L2
open PySem.W (Datum DatumOrd Tup T3 T4)
open Evl (Ex)
@[simp] theorem add_ol {ds es : List PyData} {C : PV → Prop} : addW [.own ds, .dat (.list es)] C ↔ ds.length + es.length ≤ 100000 ∧ C (.own (ds ++ es)) := by simp [addW]
theorem rng_len {L : Nat} {ks : List Int} (nd : ks.Nodup) (h : ∀ k ∈ ks, 0 ≤ k ∧ k < L) : ks.length ≤ L := by
  have := nodup_le ks ((List.range L).map fun i => ((i : Nat) : Int)) nd fun k hk => by
    obtain ⟨a, b⟩ := h k hk
    exact List.mem_map.mpr ⟨k.toNat, List.mem_range.mpr (by omega), by omega⟩
  simpa using this
end Sk
set_option Elab.async false
set_option linter.all false
set_option maxRecDepth 100000
set_option maxHeartbeats 4000000
namespace Sk
open PySem PySem.Spec PyProof.Rows L2
open PySem.W (Datum DatumOrd Tup T3 T4)
open Evl (Ex)
structure ShowOk (d : PyData) : Prop where
  sh : d.showable = true
  hd : d.hasDict = false
  dp : d.depth ≤ 100
  lf : d.leavesShort 13 = true
  wt : d.weight ≤ 2 ^ 20
theorem repr_ok {d : PyData} {p : PV} {C : PV → Prop} (h : ShowOk d) (e : p.frz = some d) (c : C (.dat (.str d.shown))) : reprW [p] C := ⟨d, e, h.sh, Or.inl h.hd, h.dp, PyData.shown_fits (by decide) (by decide) h.lf h.wt, c⟩
structure ShowAll (ds : List PyData) (k w : Nat) : Prop where
  sh : PyData.showableAll ds = true
  hd : PyData.hasDictAll ds = false
  dp : PyData.depthAll ds ≤ k
  lf : PyData.leavesShortAll 13 ds = true
  wt : PyData.weightAll ds ≤ w
theorem ShowAll.nil {k w : Nat} : ShowAll [] k w := ⟨rfl, rfl, Nat.zero_le _, rfl, Nat.zero_le _⟩
theorem ShowAll.cons {d : PyData} {ds : List PyData} {k w v : Nat} (h1 : d.showable = true) (h2 : d.hasDict = false) (h3 : d.depth ≤ k) (h4 : d.leavesShort 13 = true) (h5 : d.weight ≤ v) (t : ShowAll ds k w) : ShowAll (d :: ds) k (v + 1 + w) where
  sh := by simp only [PyData.showableAll, h1, t.sh, Bool.and_self]
  hd := by simp only [PyData.hasDictAll, h2, t.hd, Bool.or_self]
  dp := by simp only [PyData.depthAll]; exact Nat.max_le.mpr ⟨h3, t.dp⟩
  lf := by simp only [PyData.leavesShortAll, h4, t.lf, Bool.and_self]
  wt := by
    have := t.wt
    simp only [PyData.weightAll]
    omega
theorem ShowAll.list {ds : List PyData} {k w : Nat} (h : ShowAll ds k w) (hk : k ≤ 99) (hw : w ≤ 2 ^ 20) : ShowOk (.list ds) where
  sh := by simp only [PyData.showable]; exact h.sh
  hd := by simp only [PyData.hasDict]; exact h.hd
  dp := by
    have := h.dp
    simp only [PyData.depth]
    omega
  lf := by simp only [PyData.leavesShort]; exact h.lf
  wt := by
    have := h.wt
    simp only [PyData.weight]
    omega
theorem ShowAll.tup {ds : List PyData} {k w : Nat} (h : ShowAll ds k w) (hk : k ≤ 99) (hw : w ≤ 2 ^ 20) : ShowOk (.tuple ds) where
  sh := by simp only [PyData.showable]; exact h.sh
  hd := by simp only [PyData.hasDict]; exact h.hd
  dp := by
    have := h.dp
    simp only [PyData.depth]
    omega
  lf := by simp only [PyData.leavesShort]; exact h.lf
  wt := by
    have := h.wt
    simp only [PyData.weight]
    omega
theorem int_show {i : Int} (h0 : 0 ≤ i) (h1 : i < 1000000) : PyData.showable (.int i) = true ∧ PyData.leavesShort 13 (.int i) = true ∧ PyData.weight (.int i) ≤ 20 := by
  have a : i.natAbs < 1000000 := by omega
  have l : i.natAbs.log2 < 20 := by
    by_cases z : i.natAbs = 0
    · rw [z]; decide
    · exact (Nat.log2_lt z).mpr (by have : (2 : Nat) ^ 20 = 1048576 := by decide
                                    omega)
  refine ⟨?_, ?_, ?_⟩
  · simp only [PyData.showable, decide_eq_true_eq]; omega
  · simp only [PyData.leavesShort, decide_eq_true_eq]
    exact PyData.shown_int_le (by have : (10 : Nat) ^ 12 = 1000000000000 := by decide
                                  omega)
  · simp only [PyData.weight]
    split
    · omega
    · omega
end Sk
set_option Elab.async false
set_option linter.all false
set_option maxRecDepth 100000
set_option maxHeartbeats 4000000
namespace Sk
open PySem PySem.Spec PyProof.Rows L2
open PySem.W (Datum DatumOrd Tup T3 T4)
open Evl (Ex)
end Sk
namespace Sk
open PySem PySem.Spec PyProof.Rows L2
open PySem.W (Datum DatumOrd Tup T3 T4)
open Evl (Ex)
end Sk
set_option Elab.async false
set_option linter.all false
set_option maxRecDepth 100000
set_option maxHeartbeats 4000000
namespace Sk
open PySem PySem.Spec PyProof.Rows L2
open PySem.W (Datum DatumOrd Tup T3 T4)
open Evl (Ex)
end Sk
namespace Sk
open PySem PySem.Spec PyProof.Rows L2
open PySem.W (Datum DatumOrd Tup T3 T4)
open Evl (Ex)
end Sk
set_option Elab.async false
set_option linter.all false
set_option maxRecDepth 100000
set_option maxHeartbeats 4000000
namespace Sk
open PySem PySem.Spec PyProof.Rows L2
open PySem.W (Datum DatumOrd Tup T3 T4)
open Evl (Ex)
end Sk
namespace Sk
open PySem PySem.Spec PyProof.Rows L2
open PySem.W (Datum DatumOrd Tup T3 T4)
open Evl (Ex)
end Sk
set_option Elab.async false
set_option linter.all false
set_option maxRecDepth 100000
set_option maxHeartbeats 2000000
namespace Sk
open PySem PySem.Spec PyProof.Rows L2
open PySem.W (Datum DatumOrd Tup T3 T4)
def rowAt (M : Mch) (x : Int) : List (Str × Int) := match M.items[x.toNat]? with
  | some r => r.items
  | none => []
structure OrdOk (n : Nat) (o : List Int) : Prop where
  len : o.length = n
  nd : o.Nodup
  rng : ∀ x ∈ o, 0 ≤ x ∧ x < n
  hd : o.head? = some 0
theorem nodup_all {n : Nat} {o : List Int} (len : o.length = n) (nd : o.Nodup) (rng : ∀ x ∈ o, 0 ≤ x ∧ x < n) {x : Int} (h0 : 0 ≤ x) (h1 : x < n) : x ∈ o := by
  apply Classical.byContradiction
  intro hx
  have := rng_len (L := n) (ks := x :: o) (List.nodup_cons.mpr ⟨hx, nd⟩) fun k hk => by
    rcases List.mem_cons.mp hk with rfl | hk
    · exact ⟨h0, h1⟩
    · exact rng k hk
  simp at this
  omega
section
variable {n : Nat} {o o2 : List Int} {M : Mch} {x y : Int}
theorem OrdOk.mem (h : OrdOk n o) (h0 : 0 ≤ x) (h1 : x < n) : x ∈ o := nodup_all h.len h.nd h.rng h0 h1
theorem rowAt_mem {p : Str × Int} (h : p ∈ rowAt M x) : ∃ r ∈ M.items, p ∈ r.items := by
  unfold rowAt at h
  split at h
  · rename_i r hr
    exact ⟨r, List.mem_of_getElem? hr, h⟩
  · cases h
theorem rowAt_mv (ok : MOk M) {p : Str × Int} (h : p ∈ rowAt M x) : 0 ≤ p.2 ∧ p.2 < M.items.length ∧ (isWordS p.1 = true ∨ p.1 = ("" : Str)) := by
  obtain ⟨r, hr, hp⟩ := rowAt_mem h
  exact ok.mv r hr p hp
def rngI (n : Nat) : List Int := (List.range n).map fun i => ((i : Nat) : Int)
theorem mem_rngI : x ∈ rngI n ↔ 0 ≤ x ∧ x < n := by
  unfold rngI
  rw [List.mem_map]
  constructor
  · rintro ⟨i, hi, rfl⟩
    have := List.mem_range.mp hi
    omega
  · rintro ⟨h0, h1⟩
    exact ⟨x.toNat, List.mem_range.mpr (by omega), by omega⟩
theorem rngI_rising : Rising (rngI n) := by
  unfold rngI Rising
  rw [List.pairwise_map]
  refine List.Pairwise.imp (fun {a b} h => ?_) List.pairwise_lt_range
  show decide ((a : Int) < b) = true
  exact decide_eq_true (by omega)
end
end Sk
set_option Elab.async false
set_option linter.all false
set_option maxRecDepth 100000
set_option maxHeartbeats 4000000
namespace Sk
open PySem PySem.Spec PyProof.Rows L2
open PySem.W (Datum DatumOrd Tup T3 T4)
open Evl (Ex)
theorem hLc_eq {it : HI} {g : HG} {tt : HT} {t : HE} {vs : List Nat} {s : Sg} {C : PV → Sg → Prop} : hLc it g tt t vs s C ↔ (it s fun ds s1 => lcs vs g tt t ds [] (s1.wipe vs) C) := Iff.rfl
end Sk
namespace Sk
open PySem PySem.Spec PyProof.Rows L2
open PySem.W (Datum DatumOrd Tup T3 T4)
open Evl (Ex)
def hid (M : Mch) (x : Int) : List Int := ((rowAt M x).filter fun p => decide (p.1 = ("" : Str))).map (·.2)
theorem mem_hid {M : Mch} {x g : Int} : g ∈ hid M x ↔ (("" : Str), g) ∈ rowAt M x := by
  unfold hid
  rw [List.mem_map]
  constructor
  · rintro ⟨p, hp, rfl⟩
    obtain ⟨h1, h2⟩ := List.mem_filter.mp hp
    have h2 : p.1 = ("" : Str) := of_decide_eq_true h2
    rw [← h2]; exact h1
  · intro h
    exact ⟨_, List.mem_filter.mpr ⟨h, by simp⟩, rfl⟩
theorem hid_rng {M : Mch} (ok : MOk M) {x g : Int} (h : g ∈ hid M x) : 0 ≤ g ∧ g < M.items.length := by
  obtain ⟨a, b, _⟩ := rowAt_mv ok (mem_hid.mp h)
  exact ⟨a, b⟩
def Post (M : Mch) (S : List Int) : Prop := ∀ y ∈ S, 0 ≤ y ∧ y < M.items.length ∧ ∃ g ∈ hid M y, g ∈ S
def Endl (M : Mch) (x : Int) : Prop := ∃ S, Post M S ∧ x ∈ S
def cnt (M : Mch) (P : List Int) (x : Int) : Nat := ((hid M x).filter fun g => decide (g ∉ P)).length
theorem cnt_zero {M : Mch} {P : List Int} {x : Int} : cnt M P x = 0 ↔ ∀ g ∈ hid M x, g ∈ P := by
  unfold cnt
  rw [List.length_eq_zero_iff, List.filter_eq_nil_iff]
  constructor
  · intro h g hg
    have := h g hg
    simpa using this
  · intro h g hg
    have := h g hg
    simpa using this
structure EInv (M : Mch) (lefts ended P : List Int) : Prop where
  len : lefts.length = M.items.length
  nd : (ended ++ P).Nodup
  rng : ∀ x ∈ ended ++ P, 0 ≤ x ∧ x < M.items.length
  cn : ∀ x : Int, 0 ≤ x → x < M.items.length → lefts[x.toNat]? = some ((cnt M P x : Nat) : Int)
  ze : ∀ x : Int, 0 ≤ x → x < M.items.length → (cnt M P x = 0 ↔ x ∈ ended ++ P)
  ds : ∀ S, Post M S → ∀ x ∈ ended ++ P, x ∉ S
structure FInv (M : Mch) (rest lefts ended P : List Int) : Prop where
  len : lefts.length = M.items.length
  nd : (ended ++ P).Nodup
  rng : ∀ x ∈ ended ++ P, 0 ≤ x ∧ x < M.items.length
  rs : rest.Nodup ∧ ∀ x ∈ rest, 0 ≤ x ∧ x < M.items.length
  cn : ∀ x : Int, 0 ≤ x → x < M.items.length → lefts[x.toNat]? = some ((cnt M P x + (if x ∈ rest then 1 else 0) : Nat) : Int)
  ze : ∀ x : Int, 0 ≤ x → x < M.items.length → (cnt M P x + (if x ∈ rest then 1 else 0) = 0 ↔ x ∈ ended ++ P)
  ds : ∀ S, Post M S → ∀ x ∈ ended ++ P, x ∉ S
theorem FInv.done {M : Mch} {lefts ended P : List Int} (h : FInv M [] lefts ended P) : EInv M lefts ended P where
  len := h.len
  nd := h.nd
  rng := h.rng
  cn := fun x h0 h1 => by have := h.cn x h0 h1; simpa using this
  ze := fun x h0 h1 => by have := h.ze x h0 h1; simpa using this
  ds := h.ds
theorem FInv.step {M : Mch} {rest lefts ended P : List Int} {x : Int} (h : FInv M (x :: rest) lefts ended P) : lefts[x.toNat]? = some ((cnt M P x + 1 : Nat) : Int) ∧ x.toNat < lefts.length ∧
    (if cnt M P x = 0 then FInv M rest (lefts.set x.toNat ((cnt M P x : Nat) : Int)) (ended ++ [x]) P else FInv M rest (lefts.set x.toNat ((cnt M P x : Nat) : Int)) ended P) := by
  obtain ⟨n1, n2⟩ := List.nodup_cons.mp h.rs.1
  have rx := h.rs.2 x List.mem_cons_self
  have lx : x.toNat < lefts.length := by rw [h.len]; omega
  have c0 := h.cn x rx.1 rx.2
  rw [if_pos List.mem_cons_self] at c0
  have z0 := h.ze x rx.1 rx.2
  rw [if_pos List.mem_cons_self] at z0
  have nx : x ∉ ended ++ P := fun z => by have := z0.mpr z; omega
  have ifx : ∀ y : Int, y ≠ x → (if y ∈ x :: rest then 1 else 0) = (if y ∈ rest then 1 else 0) := fun y hy => by
    have e3 : (y ∈ x :: rest) ↔ y ∈ rest := by
      rw [List.mem_cons]
      exact ⟨fun h => h.resolve_left hy, Or.inr⟩
    by_cases q : y ∈ rest
    · rw [if_pos q, if_pos (e3.mpr q)]
    · rw [if_neg q, if_neg fun z => q (e3.mp z)]
  have cn' : ∀ y : Int, 0 ≤ y → y < M.items.length → (lefts.set x.toNat ((cnt M P x : Nat) : Int))[y.toNat]? = some ((cnt M P y + (if y ∈ rest then 1 else 0) : Nat) : Int) := fun y h0 h1 => by
    by_cases e : y = x
    · subst e
      rw [List.getElem?_set_self lx, if_neg n1]; rfl
    · rw [List.getElem?_set_ne (by omega), ← ifx y e]
      exact h.cn y h0 h1
  refine ⟨c0, lx, ?_⟩
  by_cases hz : cnt M P x = 0
  · rw [if_pos hz]
    have mm : ∀ y, y ∈ ended ++ [x] ++ P ↔ y = x ∨ y ∈ ended ++ P := fun y => by
      simp only [List.mem_append, List.mem_singleton]
      constructor
      · rintro ((h | h) | h)
        · exact Or.inr (Or.inl h)
        · exact Or.inl h
        · exact Or.inr (Or.inr h)
      · rintro (h | h | h)
        · exact Or.inl (Or.inr h)
        · exact Or.inl (Or.inl h)
        · exact Or.inr h
    have pm : (ended ++ [x] ++ P).Perm (x :: (ended ++ P)) := by
      rw [List.append_assoc]
      exact List.perm_middle
    exact {
      len := by rw [List.length_set]; exact h.len
      nd := pm.nodup_iff.mpr (List.nodup_cons.mpr ⟨nx, h.nd⟩)
      rng := fun y hy => by
        rcases (mm y).mp hy with rfl | hy
        · exact rx
        · exact h.rng y hy
      rs := ⟨n2, fun y hy => h.rs.2 y (List.mem_cons_of_mem _ hy)⟩
      cn := cn'
      ze := fun y h0 h1 => by
        rw [mm y]
        by_cases e : y = x
        · subst e
          rw [if_neg n1, hz]
          exact ⟨fun _ => Or.inl rfl, fun _ => rfl⟩
        · rw [← ifx y e, h.ze y h0 h1]
          exact ⟨Or.inr, fun z => z.resolve_left e⟩
      ds := fun S hS y hy => by
        rcases (mm y).mp hy with rfl | hy
        · intro hs
          obtain ⟨_, _, g, hg, h2⟩ := hS y hs
          exact h.ds S hS g (List.mem_append.mpr (Or.inr (cnt_zero.mp hz g hg))) h2
        · exact h.ds S hS y hy }
  · rw [if_neg hz]
    exact {
      len := by rw [List.length_set]; exact h.len
      nd := h.nd
      rng := h.rng
      rs := ⟨n2, fun y hy => h.rs.2 y (List.mem_cons_of_mem _ hy)⟩
      cn := cn'
      ze := fun y h0 h1 => by
        by_cases e : y = x
        · subst e
          rw [if_neg n1]
          exact ⟨fun z => absurd (by omega) hz, fun z => absurd z nx⟩
        · rw [← ifx y e, h.ze y h0 h1]
      ds := h.ds }
theorem EInv.start {M : Mch} {lefts ended : List Int} (len : lefts.length = M.items.length) (cn : ∀ x : Int, 0 ≤ x → x < M.items.length → lefts[x.toNat]? = some ((hid M x).length : Int)) (he : ended = (rngI M.items.length).filter fun x => decide ((hid M x).length = 0)) : EInv M lefts ended [] := by
  have c0 : ∀ x, cnt M [] x = (hid M x).length := fun x => by
    unfold cnt
    congr 1
    exact List.filter_eq_self.mpr fun a _ => by simp
  have mem : ∀ x : Int, x ∈ ended ++ [] ↔ (0 ≤ x ∧ x < M.items.length) ∧ (hid M x).length = 0 := fun x => by
    rw [List.append_nil, he, List.mem_filter, mem_rngI, decide_eq_true_eq]
  exact {
    len := len
    nd := by rw [List.append_nil, he]; exact rngI_rising.nodup.filter _
    rng := fun x hx => ((mem x).mp hx).1
    cn := fun x h0 h1 => by rw [c0]; exact cn x h0 h1
    ze := fun x h0 h1 => by rw [c0, mem]; exact ⟨fun z => ⟨⟨h0, h1⟩, z⟩, fun z => z.2⟩
    ds := fun S hS x hx hs => by
      obtain ⟨_, _, g, hg, _⟩ := hS x hs
      have := ((mem x).mp hx).2
      rw [List.length_eq_zero_iff] at this
      rw [this] at hg; cases hg }
theorem EInv.end {M : Mch} (ok : MOk M) {lefts P : List Int} (h : EInv M lefts [] P) {x : Int} (h0 : 0 ≤ x) (h1 : x < M.items.length) : 0 < cnt M P x ↔ Endl M x := by
  constructor
  · intro hx
    refine ⟨(rngI M.items.length).filter fun y => decide (0 < cnt M P y), fun y hy => ?_, List.mem_filter.mpr ⟨mem_rngI.mpr ⟨h0, h1⟩, decide_eq_true hx⟩⟩
    obtain ⟨a, b⟩ := List.mem_filter.mp hy
    have b : 0 < cnt M P y := of_decide_eq_true b
    have ry := mem_rngI.mp a
    have : ∃ g ∈ hid M y, g ∉ P := by
      apply Classical.byContradiction
      intro z
      have : cnt M P y = 0 := cnt_zero.mpr fun g hg => by
        apply Classical.byContradiction
        intro q
        exact z ⟨g, hg, q⟩
      omega
    obtain ⟨g, hg, gp⟩ := this
    have rg := hid_rng ok hg
    refine ⟨ry.1, ry.2, g, hg, List.mem_filter.mpr ⟨mem_rngI.mpr rg, decide_eq_true ?_⟩⟩
    have := (h.ze g rg.1 rg.2)
    rcases Nat.eq_zero_or_pos (cnt M P g) with z | z
    · exact absurd (by simpa using this.mp z) gp
    · exact z
  · rintro ⟨S, hS, hx⟩
    rcases Nat.eq_zero_or_pos (cnt M P x) with z | z
    · exact absurd hx (h.ds S hS x ((h.ze x h0 h1).mp z))
    · exact z
end Sk
set_option Elab.async false
set_option linter.all false
set_option maxRecDepth 100000
set_option maxHeartbeats 4000000
namespace Sk
open PySem PySem.Spec PyProof.Rows L2
open PySem.W (Datum DatumOrd Tup T3 T4)
open Evl (Ex)
structure ShowK (d : PyData) (k w : Nat) : Prop where
  sh : d.showable = true
  hd : d.hasDict = false
  dp : d.depth ≤ k
  lf : d.leavesShort 13 = true
  wt : d.weight ≤ w
theorem ShowK.ok {d : PyData} {k w : Nat} (h : ShowK d k w) (hk : k ≤ 100) (hw : w ≤ 1048576) : ShowOk d := ⟨h.sh, h.hd, Nat.le_trans h.dp hk, h.lf, Nat.le_trans h.wt (Nat.le_trans hw (by decide))⟩
theorem ShowK.mono {d : PyData} {k w k' w' : Nat} (h : ShowK d k w) (hk : k ≤ k') (hw : w ≤ w') : ShowK d k' w' := ⟨h.sh, h.hd, Nat.le_trans h.dp hk, h.lf, Nat.le_trans h.wt hw⟩
end Sk
set_option Elab.async false
set_option linter.all false
set_option maxRecDepth 100000
set_option maxHeartbeats 4000000
namespace Sk
open PySem PySem.Spec PyProof.Rows L2
open PySem.W (Datum DatumOrd Tup T3 T4)
open Evl (Ex)
@[simp] def noneO : Option PV := none
end Sk
namespace Sk
open PySem PySem.Spec PyProof.Rows L2
open PySem.W (Datum DatumOrd Tup T3 T4)
open Evl (Ex)
inductive Clo (M : Mch) (P : Int → Prop) : Int → Prop where
  | base {x : Int} (h : P x) : Clo M P x
  | step {x g : Int} (h : Clo M P x) (hg : g ∈ hid M x) : Clo M P g
theorem Clo.rng {M : Mch} {P : Int → Prop} (ok : MOk M) (hP : ∀ x, P x → 0 ≤ x ∧ x < M.items.length) {x : Int} (h : Clo M P x) : 0 ≤ x ∧ x < M.items.length := by
  cases h with
  | base h => exact hP _ h
  | step _ hg => exact hid_rng ok hg
theorem Clo.congr {M : Mch} {P Q : Int → Prop} (h : ∀ x, P x ↔ Q x) (x : Int) : Clo M P x ↔ Clo M Q x := by
  have e : P = Q := funext fun x => propext (h x)
  rw [e]
structure CInv (M : Mch) (P : Int → Prop) (bs : List Bool) (wt : List Int) : Prop where
  len : bs.length = M.items.length
  wtr : ∀ x ∈ wt, 0 ≤ x ∧ x < M.items.length
  wtc : ∀ x ∈ wt, Clo M P x
  met : ∀ x : Int, 0 ≤ x → bs[x.toNat]? = some true → Clo M P x
  bas : ∀ x, P x → bs[x.toNat]? = some true ∨ x ∈ wt
  clo : ∀ x : Int, 0 ≤ x → bs[x.toNat]? = some true → ∀ g ∈ hid M x, bs[g.toNat]? = some true ∨ g ∈ wt
theorem CInv.end {M : Mch} {P : Int → Prop} {bs : List Bool} (ok : MOk M) (hP : ∀ x, P x → 0 ≤ x ∧ x < M.items.length) (h : CInv M P bs []) {x : Int} : (0 ≤ x ∧ bs[x.toNat]? = some true) ↔ Clo M P x := by
  constructor
  · exact fun ⟨h0, h1⟩ => h.met x h0 h1
  · intro c
    induction c with
    | base hx => exact ⟨(hP _ hx).1, (h.bas _ hx).resolve_right List.not_mem_nil⟩
    | step _ hg ih => exact ⟨(hid_rng ok hg).1, (h.clo _ ih.1 ih.2 _ hg).resolve_right List.not_mem_nil⟩
theorem CInv.go {M : Mch} {P : Int → Prop} {bs : List Bool} {wt : List Int} {e : Int} (ok : MOk M) (h : CInv M P bs (wt ++ [e])) : CInv M P (bs.set e.toNat true) (wt ++ hid M e) := by
  have re := h.wtr e (by simp)
  have ce := h.wtc e (by simp)
  have le : e.toNat < bs.length := by rw [h.len]; omega
  have mono : ∀ j : Nat, bs[j]? = some true → (bs.set e.toNat true)[j]? = some true := fun j hj => by
    rw [List.getElem?_set]
    split
    · first | rfl | rw [if_pos le]
    · exact hj
  have back : ∀ x : Int, 0 ≤ x → (bs.set e.toNat true)[x.toNat]? = some true → x = e ∨ bs[x.toNat]? = some true := fun x h0 hx => by
    rw [List.getElem?_set] at hx
    split at hx
    · exact Or.inl (by omega)
    · exact Or.inr hx
  have self : (bs.set e.toNat true)[e.toNat]? = some true := List.getElem?_set_self le
  have lift : ∀ x, (bs[x.toNat]? = some true ∨ x ∈ wt ++ [e]) → ((bs.set e.toNat true)[x.toNat]? = some true ∨ x ∈ wt ++ hid M e) := fun x q => by
    rcases q with q | q
    · exact Or.inl (mono _ q)
    · rcases List.mem_append.mp q with q | q
      · exact Or.inr (List.mem_append.mpr (Or.inl q))
      · rw [List.mem_singleton.mp q]; exact Or.inl self
  exact {
    len := by rw [List.length_set]; exact h.len
    wtr := fun x hx => by
      rcases List.mem_append.mp hx with hx | hx
      · exact h.wtr x (List.mem_append.mpr (Or.inl hx))
      · exact hid_rng ok hx
    wtc := fun x hx => by
      rcases List.mem_append.mp hx with hx | hx
      · exact h.wtc x (List.mem_append.mpr (Or.inl hx))
      · exact .step ce hx
    met := fun x h0 hx => by
      rcases back x h0 hx with rfl | q
      · exact ce
      · exact h.met x h0 q
    bas := fun x hx => lift x (h.bas x hx)
    clo := fun x h0 hx g hg => by
      rcases back x h0 hx with rfl | q
      · exact Or.inr (List.mem_append.mpr (Or.inr hg))
      · exact lift g (h.clo x h0 q g hg) }
theorem CInv.start {M : Mch} {S : List Int} (hS : ∀ x ∈ S, 0 ≤ x ∧ x < M.items.length) : CInv M (· ∈ S) (List.replicate M.items.length false) S where
  len := List.length_replicate
  wtr := hS
  wtc := fun x hx => .base hx
  met := fun x _ h => by rw [List.getElem?_replicate] at h; split at h <;> cases h
  bas := fun x hx => Or.inr hx
  clo := fun x _ h => by rw [List.getElem?_replicate] at h; split at h <;> cases h
end Sk
set_option Elab.async false
set_option linter.all false
set_option maxRecDepth 100000
set_option maxHeartbeats 4000000
namespace Sk
open PySem PySem.Spec PyProof.Rows L2
open PySem.W (Datum DatumOrd Tup T3 T4)
open Evl (Ex)
end Sk
set_option maxHeartbeats 2000000
namespace Sk
open PySem PySem.Spec PyProof.Rows L2
open Evl (Ex)
section
open PySem.W PySem.Calls
variable {prog : Program} {w : World} {A : Around} {E : Value → Shared → Prop} {s : Shared} {K : Frag} {x D : Addr} {ox : Obj} {od : Option Obj}
theorem fo_dataD {nm : Str} {a g : Value} (q1 : (clsIn K D).isSome = true) (q2 : findIn K (.ref D) nm = some (some a)) (q3 : specialIn K a "__get__" = some (some g)) (q4 : takesIn K a = some true) : findObj K D od nm = some (.bind g a) := by
  obtain ⟨cd, q1⟩ := Option.isSome_iff_exists.mp q1
  unfold findObj; rw [q1, Option.bind_some, q2, Option.bind_some]; simp [q3, q4]
theorem kin_clsD {Q : Option Value → Shared → Prop} (ec : L2.ExcC K D) (X : K.In s.heap) (J : InstAt s.heap x ox D od) (fin : Q (some (.ref D)) { s with toks := s.toks + 1 }) : wpAny (model prog w) A (getAttr? (.ref x) "__class__") Q E s := by
  have found : findObj K D od "__class__" = some (.bind (.builtin "getset_descriptor.__get__") (.builtin "object.__class__")) := fo_dataD (by obtain ⟨cd, hc, _⟩ := any_some ec.hd; rw [hc]; rfl) ec.ha ec.hn ec.ht
  obtain ⟨hp, g, d, t, os⟩ := s
  have Y0 := J.type (M := model prog w); have Y1 := looks_findIn (M := model prog w) X ec.hg; have Y2 := looks_findIn (M := model prog w) X ec.hk; have Y3 := looks_find (M := model prog w) X J found
  have isB : Looks (model prog w) hp (isInstance (.ref x) (.type "BaseException")) true := Y0.andThen (looks_subIn X ec.hs)
  have n2 : (Value.builtin "BaseException.__getattribute__" == Value.builtin "object.__getattribute__") = false := by decide +kernel
  have n1 : (onTheHeap (Value.ref D) && Value.builtin "BaseException.__getattribute__" == Value.builtin "object.__getattribute__") = false := by rw [n2] <;> rfl
  unfold getAttr? getAttrBy? getAttrBy; refine wpAny_bind (wpAny_mkText (wpAny_bind (wpAny_attempt (wpAny_holding (wpAny_bind (Y0.at (wpAny_bind (Y1.at ?_))))))))
  show wpAny _ _ (if (onTheHeap (Value.ref D) && Value.builtin "BaseException.__getattribute__" == Value.builtin "object.__getattribute__") = true then _ else _) _ _ _ ; rw [n1, if_neg Bool.false_ne_true]
  unfold getAttrByItsOwn hookBefore; refine wpAny_bind ?_ ; rw [if_pos (show onTheHeap (Value.ref D) = true from rfl)]; refine Y2.at ?_ ; refine wpAny_bind (wpAny_attempt (wpAny_holding ?_))
  unfold callGetattribute; rw [show (false && onTheHeap (Value.builtin "BaseException.__getattribute__")) = false from rfl, if_neg Bool.false_ne_true]
  unfold boundAndCalled; rw [PySem.F.excAttr_ValueError.ga.bind (.ref x)]; refine wpAny_bind (wpAny_pure ?_)
  show wpAny _ _ (call (.builtin "BaseException.__getattribute__") [.ref x, .str "__class__" t]) _ _ _ ; refine wpAny_call (codeAny_call_builtin PySem.F.excAttr_ValueError.ga.plain PySem.F.entry_bexc_ga ?_)
  refine @check_slot (model prog w) _ _ ⟨hp, g, d, t + 1, os⟩ "BaseException.__getattribute__" "BaseException" "__getattribute__" (.ref x) [.str "__class__" t] [] _ (by decide +kernel) (by decide +kernel) isB (PySem.F.args_bexc_ga (.ref x) (.str "__class__" t)) ?_
  unfold Builtin.«object.__getattribute__»; refine wpAny_bind (wpAny_of_eq (a := ((Value.ref x : Value), [Value.str "__class__" t])) (by first | rfl | (simp only [slotArgs]; rfl)) ?_)
  refine wpAny_bind (wpAny_pure (wpAny_bind (Y0.at (wpAny_bind (Y3.at ?_))))) ; show wpAny _ _ (holding [Value.builtin "object.__class__"] (call (.builtin "getset_descriptor.__get__") [.builtin "object.__class__", .ref x, .ref D]) >>= ret) _ _ _
  refine wpAny_bind (wpAny_holding (wpAny_call (class_get (s := ⟨hp, g, d, t + 1, os⟩) (ox := ox) (od := od) X J ec.hm ?_))) ; refine wpAny_pure ?_
  show wpAny _ _ (handedOut (.ref D)) _ _ _ ; rw [handedOut_of (v := .ref D) rfl]
  first | exact wpAny_pure (wpAny_pure fin) | exact wpAny_pure fin | exact wpAny_pure (wpAny_bind (wpAny_pure (wpAny_pure fin)))
theorem kitx_dct (ec : L2.ExcC K D) : KitX K (.ref x) (.ref D) (fun h => InstAt h x ox D od) where
  ty := fun _ _ _ J => J.type
  it := fun _ _ X _ => by
    obtain ⟨cdD, hcD, _⟩ := any_some ec.hd
    unfold clsIn at hcD
    split at hcD
    · rename_i ho
      intro A' Q' E' s' k q
      unfold isType loadHead; exact wpAny_bind (wpAny_loadPart (k _ _ (X _ _ ho)) (wpAny_pure q))
    · cases hcD
  ne := fun h tp dd its n sl X htp => by
    obtain ⟨cdD, hcD, _⟩ := any_some ec.hd
    refine Bool.eq_false_iff.mpr fun q => ?_
    have e : D = tp := Value.ref.inj (beq_iff_eq.mp q)
    subst e
    unfold clsIn at hcD
    split at hcD
    · rename_i ho
      cases (X _ _ ho).symm.trans htp
    · cases hcD
  ca := fun X J k => kin_clsD ec X J k
end
def TyB (K : PySem.W.Frag) (H : Hp) (x : V) (t : Value) : Prop := ∃ (a C d : Addr) (fs : List (Str × V)), x = .ref a ∧ H a = some (exo a C (some d)) ∧ H d = some (exd d fs) ∧ ExcC K C ∧ t = .ref C
def rIsB (K : PySem.W.Frag) : List V → Hp → VK → Prop := fun xs H Q => ∃ (x c : V) (t u : Value) (b : Bool), xs = [x, c] ∧ (TyE K H x t ∨ TyB K H x t) ∧ ClsV c u ∧ PySem.W.kitOne K t u = some b ∧ Q (.bl b) H
section
variable {X : Cx}
theorem inst_exo {σ : L2.St} {H : Hp} {pins : List (Addr × Obj)} {s : Shared} {a C d : Addr} {fs : List (Str × V)} (I : Inv X pins σ H s) (h1 : H a = some (exo a C (some d))) (h2 : H d = some (exd d fs)) :
    ∃ (ox od : Obj) (mA : Str → Option Value), PySem.W.InstAt s.heap a ox C (some od) ∧ (∀ f, PySem.W.lookIn f od = some (mA f)) ∧ ∀ f, RelO (fs.lookup f) (mA f) := by
  obtain ⟨t1, e1⟩ := exo_at I.hok h1
  obtain ⟨mA, hns, r⟩ := exd_at I.hok h2
  obtain ⟨od, ho, hl⟩ := lookIn_ns hns
  exact ⟨_, od, mA, ⟨e1, rfl, rfl, ho⟩, hl, r⟩
theorem kit_b {σ : L2.St} {H : Hp} {pins : List (Addr × Obj)} {s : Shared} {x : V} {t u : Value} (I : Inv X pins σ H s) (r : RelV x u) (h : TyE X.K H x t ∨ TyB X.K H x t) : ∃ P, PySem.W.KitX X.K u t P ∧ P s.heap ∧ u ≠ .builtin "__main__.__loader__#opaque" := by
  rcases h with h | ⟨a, C, d, fs, rfl, h1, h2, ec, rfl⟩
  · exact kit_x I r h
  · cases (show u = Value.ref a from r)
    obtain ⟨ox, od, mA, J, _⟩ := inst_exo I h1 h2
    exact ⟨_, kitx_dct ec, J, fun z => nomatch z⟩
theorem call_isB : CallR X (.builtin "isinstance") (rIsB X.K) := by
  intro pins s σ H xs us Q I r h
  obtain ⟨x, c, t, u, b, rfl, ht, k, e, q⟩ := h
  obtain ⟨u1, u2, rfl, r1, r2⟩ := vals2 r
  have := k.eq r2
  subst this
  obtain ⟨P, Z, p, hx⟩ := kit_b I r1 ht
  exact PySem.W.kia_one Z I.kIn p e hx fun tk => ⟨.bl b, H, I.tok tk, rfl, q⟩
end
def oexB (K : PySem.W.Frag) (C : Addr) : Bool := match K.lookup C with
  | some ⟨.type "type", _, .cls cd, sl⟩ => (match cd.mro, sl.toList with
    | .ref C1 :: bm, [_, _, _, _, some (.builtin n), _] => C1 == C && (n == "ValueError.__new__" && (!cd.hasDel && (cd.hasDict && PySem.HandSPX.refsVE bm)))
    | _, _ => false)
  | _ => false
theorem oexB_of {K : PySem.W.Frag} {C : Addr} (q : oexB K C = true) : ∃ nm q N bs bm sn sub ab col dd k0 k1 k2 k3 k5, K.lookup C = some (excClassObj nm q C N bs bm true sn sub ab col dd k0 k1 k2 k3 k5 "ValueError.__new__") ∧ PySem.HandSPX.refsVE bm = true := by
  unfold oexB at q
  split at q
  · rename_i dd cd sl ho
    split at q
    · rename_i C1 bm k0 k1 k2 k3 n k5 hm hs
      simp only [Bool.and_eq_true, beq_iff_eq, Bool.not_eq_true'] at q
      obtain ⟨rfl, rfl, hdel, hdc, hr⟩ := q
      obtain ⟨nm, bs, mro, ns, qn, hd, sn, sub, ab, col, del⟩ := cd
      dsimp only at hm hdel hdc
      subst hm hdel hdc
      have esl : sl = #[k0, k1, k2, k3, some (.builtin "ValueError.__new__"), k5] := by
        obtain ⟨l⟩ := sl
        simp only at hs
        rw [hs]
      subst esl
      exact ⟨nm, qn, ns, bs, bm, sn, sub, ab, col, dd, k0, k1, k2, k3, k5, ho, hr⟩
    · cases q
  · cases q
def btOne (K : PySem.W.Frag) (C : Addr) : Bool :=
  (PySem.W.findIn K (.ref C) "__getattribute__" == some (some (.builtin "BaseException.__getattribute__"))) && ((PySem.W.findIn K (.ref C) "__getattr__" == some none) && ((PySem.W.subIn K (.ref C) (.type "BaseException") == some true) && ((PySem.W.hasDictIn K C) &&
  ((PySem.W.findIn K (.ref C) "__class__" == some (some (.builtin "object.__class__"))) && ((PySem.W.specialIn K (.builtin "object.__class__") "__get__" == some (some (.builtin "getset_descriptor.__get__"))) && ((PySem.W.takesIn K (.builtin "object.__class__") == some true) && ((PySem.W.mroIn K C (.type "object") == some true) &&
  ((PySem.W.keepIn K (.ref C)) && ((PySem.W.typeIn K (.ref C) == some (.type "type")) && ((PySem.W.kitOne K (.ref C) (.type "ValueError") == some true) &&
  ((PySem.W.findIn K (.ref C) "__setattr__" == some (some (.builtin "object.__setattr__"))) && ((PySem.W.findIn K (.ref C) "line" == some none) && oexB K C))))))))))))
structure BtF (K : PySem.W.Frag) (C : Addr) : Prop where
  e : ExcC K C
  o : OexC K C
  f : XfC K C
  k : PySem.W.keepIn K (.ref C) = true
  v : PySem.W.kitOne K (.ref C) (.type "ValueError") = some true
  l : PySem.W.findIn K (.ref C) "line" = some none
def btOk (K : PySem.W.Frag) : Bool := match exAt K "BadText" with
  | none => true
  | some C => btOne K C && exAll.all (exPair K "BadText" C)
section
variable {K : PySem.W.Frag} {y : Str} {C D : Addr}
theorem btOne_of (h : btOne K C = true) : BtF K C := by
  unfold btOne at h
  simp only [Bool.and_eq_true, beq_iff_eq] at h
  obtain ⟨h1, h2, h3, h4, h5, h6, h7, h8, ha, hb, hc, hd, he, hf⟩ := h
  exact ⟨⟨h1, h2, h3, h4, h5, h6, h7, h8⟩, ⟨oexB_of hf, hd, h3, hb, ha⟩, ⟨h1, h2, h3, h4⟩, ha, hc, he⟩
theorem bt_one (T : btOk K = true) (h : ClsN K "BadText" C) : BtF K C := by
  unfold btOk at T
  rw [exAt_of h] at T
  simp only [Bool.and_eq_true] at T
  exact btOne_of T.1
theorem bt_two (T : btOk K = true) (hy : y ∈ exAll) (h : ClsN K "BadText" C) (g : ClsN K y D) : PySem.W.kitOne K (.ref C) (.ref D) = some (exSub "BadText" y) := by
  unfold btOk at T
  rw [exAt_of h] at T
  simp only [Bool.and_eq_true, List.all_eq_true] at T
  have := T.2 y hy
  unfold exPair at this
  rw [exAt_of g] at this
  simp only [Bool.and_eq_true, beq_iff_eq] at this
  exact this.1
end
def btR (i : Int) : PySem.W.Frag → Hp → V → Prop := fun K G v => ∃ a C d, v = .ref a ∧ ClsN K "BadText" C ∧ G a = some (exo a C (some d)) ∧ G d = some (exd d [("line", .int i)])
abbrev btPV (i : Int) : PV := .abs (btR i)
def isBW (y : Str) : List PV → (PV → Prop) → Prop := fun ps C => match ps with
  | [p] => (∃ x, x ∈ exNames ∧ p = excPV x ∧ C (.dat (.bool (exSub x y)))) ∨ ∃ i, p = btPV i ∧ C (.dat (.bool (exSub "BadText" y)))
  | _ => False
def isBV : List PV → (PV → Prop) → Prop := fun ps C => match ps with
  | [p] => ((∃ x, x ∈ exNames ∧ p = excPV x) ∨ ∃ i, p = btPV i) ∧ C (.dat (.bool true))
  | _ => False
section
variable {X : Cx} {f : Fr} {a : Expr} {oa : HA → HA} {p q pos : Pos} {e1 : Expr} {y1 : Str}
theorem hp_isB (T : ExT X.K) (B : btOk X.K = true) (hg : Gl X "isinstance") (hm : X.mg "isinstance" = none) (c1 : NmC X e1 y1) (A : Opd X f a oa)
    (hs : starEach [a, e1] X.env = (false, eval a X.env) :: starEach [e1] X.env := by rfl) (hs2 : starEach [e1] X.env = (false, eval e1 X.env) :: starEach [] X.env := by rfl)
    (hpl : (backTo pos (starEach [e1] X.env)).any (·.1) = false := by rfl) :
    PE X (.Call (.Name "isinstance" p) [a, e1] [] pos) (lf X.K f (hC (isBW y1) (oa hNil))) := by
  obtain ⟨ta, a1, a2⟩ := A.ex
  obtain ⟨D, hD, pD⟩ := c1.ex
  have al := c1.al
  refine (pe_callB (r := rIsB X.K) call_isB hg hm (by decide +kernel) (pa_cons a1 (pa_cons pD pa_nil hs2) hs) (by decide +kernel) (by decide +kernel) hs hpl).mono fun σ H Q w => ?_
  have op : Op X.K f (fun vs H Q => match vs with | [x] => rIsB X.K [x, .ref D] H Q | _ => False) (isBW y1) := fun F O G s σ H ps vs C Q R VV w k => by
    unfold isBW at w
    split at w
    · cases VV with
      | cons v1 VV =>
        cases VV
        rcases w with ⟨x, hx, e, c⟩ | ⟨i, e, c⟩
        · obtain ⟨t, h1, h2⟩ := (tyE_of T R.gh v1).1 x hx e
          exact ⟨_, _, t, _, exSub x y1, rfl, Or.inl h1, .own D, h2 _ _ al hD, k _ _ _ _ c (Ex.refl G) R (vrf_dat (.bl _))⟩
        · subst e
          obtain ⟨b, C1, d, rfl, hc, g1, g2⟩ := (show VR X.K (fo f F O) G H (btPV i) _ from v1) G (Ex.refl G)
          exact ⟨_, _, .ref C1, _, _, rfl, Or.inr ⟨b, C1, d, _, rfl, R.gh _ _ g1, R.gh _ _ g2, (bt_one B hc).e, rfl⟩, .own D, bt_two B al hc hD, k _ _ _ _ c (Ex.refl G) R (vrf_dat (.bl _))⟩
    · exact w.elim
  exact a2 tNil hNil (fun σ H Q q => by
    obtain ⟨F, O, G, s, C, R, ht, k⟩ := q
    exact k _ _ _ _ _ ht (Ex.refl G) R .nil) σ H _ (op.lift _ σ H Q w)
theorem hp_isBV (T : ExT X.K) (B : btOk X.K = true) (hg : Gl X "isinstance") (hm : X.mg "isinstance" = none) (c1 : PE X (.Name "ValueError" q) (tC (.ty "ValueError"))) (A : Opd X f a oa)
    (hs : starEach [a, .Name "ValueError" q] X.env = (false, eval a X.env) :: starEach [.Name "ValueError" q] X.env := by rfl)
    (hpl : (backTo pos (starEach [.Name "ValueError" q] X.env)).any (·.1) = false := by rfl) :
    PE X (.Call (.Name "isinstance" p) [a, .Name "ValueError" q] [] pos) (lf X.K f (hC isBV (oa hNil))) := by
  obtain ⟨ta, a1, a2⟩ := A.ex
  refine (pe_callB (r := rIsB X.K) call_isB hg hm (by decide +kernel) (pa_cons a1 (pa_cons c1 pa_nil rfl) hs) (by decide +kernel) (by decide +kernel) hs hpl).mono fun σ H Q w => ?_
  have op : Op X.K f (fun vs H Q => match vs with | [x] => rIsB X.K [x, .ty "ValueError"] H Q | _ => False) isBV := fun F O G s σ H ps vs C Q R VV w k => by
    unfold isBV at w
    split at w
    · cases VV with
      | cons v1 VV =>
        cases VV
        obtain ⟨w, c⟩ := w
        rcases w with ⟨x, hx, e⟩ | ⟨i, e⟩
        · subst e
          obtain ⟨b, C1, rfl, hc, hg1⟩ := excPV_at v1
          exact ⟨_, _, .ref C1, _, true, rfl, Or.inl (Or.inl ⟨b, C1, rfl, hg1.ex R.gh, (T.one hx hc).e, rfl⟩), .ty _, (T.one hx hc).v, k _ _ _ _ c (Ex.refl G) R (vrf_dat (.bl _))⟩
        · subst e
          obtain ⟨b, C1, d, rfl, hc, g1, g2⟩ := (show VR X.K (fo f F O) G H (btPV i) _ from v1) G (Ex.refl G)
          exact ⟨_, _, .ref C1, _, true, rfl, Or.inr ⟨b, C1, d, _, rfl, R.gh _ _ g1, R.gh _ _ g2, (bt_one B hc).e, rfl⟩, .ty _, (bt_one B hc).v, k _ _ _ _ c (Ex.refl G) R (vrf_dat (.bl _))⟩
    · exact w.elim
  exact a2 tNil hNil (fun σ H Q q => by
    obtain ⟨F, O, G, s, C, R, ht, k⟩ := q
    exact k _ _ _ _ _ ht (Ex.refl G) R .nil) σ H _ (op.lift _ σ H Q w)
end
def hLine (t : HE) : HE := fun s C => t s fun p s1 => ∃ i, p = btPV i ∧ C (.dat (.int i)) s1
section
variable {X : Cx} {f : Fr} {e : Expr} {t : HE} {te : TE} {pos : Pos} {n : Str}
theorem pe_xfB (hb : attributeBase e n X.env (eval e X.env) = eval e X.env) (he : PE X e te) :
    PE X (.Attribute e n pos) (fun σ H Q => te σ H fun x H1 => ∃ (a C d : Addr) (fs : List (Str × V)) (v : V), x = .ref a ∧ XfC X.K C ∧ PySem.W.findIn X.K (.ref C) n = some none ∧ H1 a = some (exo a C (some d)) ∧ H1 d = some (exd d fs) ∧ fs.lookup n = some v ∧ Q v H1) := by
  refine ⟨fun pins s σ H Q I h => attr_of hb (thn (he.run pins s σ H _ I h) fun u s1 hh => ?_)⟩
  obtain ⟨x, H1, I1, rx, a, C, d, fs, v, ex, T, hno, h1, h2, l, q⟩ := hh
  subst ex
  obtain rfl : u = Value.ref a := rx
  obtain ⟨ox, od, mA, J, hl, hr⟩ := inst_exo I1 h1 h2
  obtain ⟨u, hu, ru⟩ := RelO.some_of (v := v) (o := mA n) (by rw [← l]; exact hr n)
  exact HandSPX.exc_get I1.kIn J T.ga T.gg T.exC (PySem.W.findObj_own T.hdC hno rfl (by rw [hl, hu])) (handed_of ru) ⟨v, H1, I1.tok _, ru, q⟩
theorem hp_line (B : btOk X.K = true) (he : PE X e (lf X.K f t)) (hb : attributeBase e "line" X.env (eval e X.env) = eval e X.env := by rfl) : PE X (.Attribute e "line" pos) (lf X.K f (hLine t)) := (pe_xfB hb he).mono fun σ H Q q => by
  obtain ⟨F, O, G, s, C, R, ht, k⟩ := q
  refine ⟨F, O, G, s, _, R, ht, fun p s1 G1 H1 v c1 e1 R1 V1 => ?_⟩
  obtain ⟨i, rfl, c⟩ := c1
  obtain ⟨b, C1, d, rfl, hc, g1, g2⟩ := V1.1 G1 (Ex.refl G1)
  exact ⟨b, C1, d, _, .int i, rfl, (bt_one B hc).f, (bt_one B hc).l, R1.gh _ _ g1, R1.gh _ _ g2, rfl, k _ _ _ _ _ c e1 R1 (vrf_dat (.int _))⟩
end
theorem pe_heinit {X : Cx} {ta : TA} {HE : Addr} {y : Str} {e : Expr} {es : List Expr} {p1 p2 pos : Pos} {pl : Sem Bool} (c : ClX.CRead X.K HE (.type "type")) (vV : PySem.W.findCls X.K (.ref HE) (.type "type") "__init__" = some (.val (.builtin "ValueError.__init__")))
    (hn : PE X (.Name y p1) (tC (.ref HE))) (ha : PA X (e :: es) ta)
    (hc : eval (.Call (.Attribute (.Name y p1) "__init__" p2) (e :: es) [] pos) X.env = (do
      let ov ← eval (.Name y p1) X.env
      standAt p2.atName
      let (f, first) ← holding [ov] (getMethod ov "__init__" pl)
      callWith pos f first (backTo pos (starEach (e :: es) X.env)) (backToKw pos (keywordEach [] X.env))) := by rfl)
    (he : starEach (e :: es) X.env = (false, eval e X.env) :: starEach es X.env := by rfl) (hpl : (backTo pos (starEach es X.env)).any (·.1) = false := by rfl) :
    PE X (.Call (.Attribute (.Name y p1) "__init__" p2) (e :: es) [] pos) (tVeI X.K ta) := by
  refine ⟨fun pins s σ H Q I h => PySem.W.methodCall_KW (thn (hn.run pins s σ H (fun v H1 => v = .ref HE ∧ tVeI X.K ta σ H1 Q) I ⟨rfl, h⟩) fun u s1 hz => ?_) hc⟩
  obtain ⟨v, H1, I1, rx, rfl, q⟩ := hz
  obtain rfl : u = Value.ref HE := rx
  refine PySem.W.method_cls I1.kIn c.ga (PySem.W.cls_value I1.kIn c.rd vV (by decide +kernel) ?_)
  show wpAny _ _ (callWith pos (Value.builtin "ValueError.__init__") [] (backTo pos (starEach (e :: es) X.env)) []) _ _ _
  refine PyProof.Rows.callWith_method1 (thn (ha.run pos pins _ σ H1 _ (I1.tok _) q) fun us s2 hq => ?_) he hpl
  obtain ⟨vs, H2, I2, r1, a, C, ws, ev, hl, T, ea, q⟩ := hq
  subst ev
  cases r1 with
  | @cons _ u0 _ ur ra rw' =>
    obtain rfl : u0 = Value.ref a := ra
    have few : ur.length ≤ sizeLine := by
      rw [← Paired.length rw', sizeLine_eq]; omega
    exact oinit_ok T I2 ea few fun s' J => ⟨.non, H2, J, rfl, q⟩
def SpBt (K : PySem.W.Frag) : Sp := fun vs H Q _ => ∃ (a C : Addr) (i : Int), vs = [.ref a, .int i] ∧ OexC K C ∧ PySem.W.findIn K (.ref C) "line" = some none ∧ H a = some (exo a C none) ∧ ∀ dx, H dx = none → dx ≠ a → Q .non (upd (upd H dx (exd dx [("line", .int i)])) a (exo a C (some dx)))
structure HasBt (P : Program) (w : World) (K : PySem.W.Frag) (mg : Str → Option Value) (base : Heap) (k : Nat) : Prop where
  ex : ∃ (C fI : Addr) (fd : FuncData) (ps : List Str), ClsN K "BadText" C ∧ mg "BadText" = some (.ref C) ∧ PySem.W.findIn K (.ref C) "__init__" = some (some (.ref fI)) ∧ PySem.W.typeIn K (.ref fI) = some (.type "function") ∧ GnOk P w K mg base CX0 k fI fd ps (SpBt K) ∧ Binds K fd ps []
def hBt (t : HE) : HE := fun s C => t s fun p s1 => ∃ i, p = .dat (.int i) ∧ C (btPV i) s1
def hBad (x : Str) (t : HE) : HE := fun s C => t s fun _ s1 => C (excPV x) s1
section
variable {X : Cx} {f : Fr} {e : Expr} {t : HE} {p pos : Pos} {k : Nat} {x : Str}
theorem pe_oexV {C fI : Addr} {fd : FuncData} {ps : List Str} {sp : Sp} {te : TE} (T : OexC X.K C) (iC : PySem.W.findIn X.K (.ref C) "__init__" = some (some (.ref fI))) (tI : PySem.W.typeIn X.K (.ref fI) = some (.type "function"))
    (F1 : GnOk X.prog X.w X.K X.mg X.base CX0 k fI fd ps sp) (hgd : X.A.guards = some []) (hr : Room (k + 1) X.A) (hb : Binds X.K fd ps []) (hg : Gl X x) (hm : X.mg x = some (.ref C)) (he : PE X e te)
    (hdb : (x == ("__debug__" : Str)) = false := by decide) (hs : starEach [e] X.env = (false, eval e X.env) :: starEach [] X.env := by rfl) :
    PE X (.Call (.Name x p) [e] [] pos) (fun σ H Q => te σ H fun v H1 => ∀ a, H1 a = none → sp [.ref a, v] (upd H1 a (exo a C none)) (fun u H2 => u = .non ∧ Q (.ref a) H2) E0) := by
  refine ⟨fun pins s σ H Q I h => ?_⟩
  obtain ⟨nm, q, N, bs, bm, sn, sub, ab, col, dd, k0, k1, k2, k3, k5, hC, hbm⟩ := T.cls
  refine wpAny_Call_Name_kw (ld_glob I hg hm ?_ hdb)
  refine PySem.W.callWith_K (h₀ := X.base) I.ok.mod.kin T.kC ?_ hs (by rfl)
  rw [hs]
  show wpAny _ _ (spliced ((false, eval e X.env) :: backTo pos (starEach [] X.env))) _ _ s
  refine Calls.spliced_cons (thn (he.run pins s σ H _ I h) fun u s1 ⟨v, H1, I1, r1, q1⟩ => ?_)
  refine Calls.spliced_nil ⟨I1.kIn, ?_⟩
  show wpAny _ _ (call (.ref C) [u]) _ _ _
  obtain ⟨hp, g, dr, tk, os⟩ := s1
  have above : hp.objs.size ≤ hp.objs.size + 1 := Nat.le_succ _
  have hq := q1 (hp.objs.size + 1) (I1.hok.fresh above)
  have kept : ∀ b o, hp.get? b = some o → ((hp.push (PySem.W.kdv_tup [u])).push (PySem.HandSPX.excO C hp.objs.size)).get? b = some o := fun b o z => Heap.get?_push_of_some _ (Heap.get?_push_of_some _ z)
  have I2 : Inv X pins σ (upd H1 (hp.objs.size + 1) (exo (hp.objs.size + 1) C none)) ⟨(hp.push (PySem.W.kdv_tup [u])).push (PySem.HandSPX.excO C hp.objs.size), g, dr, tk, os⟩ :=
    I1.laid (t' := tk) (a := hp.objs.size + 1) (o := exo (hp.objs.size + 1) C none) (h' := (hp.push (PySem.W.kdv_tup [u])).push (PySem.HandSPX.excO C hp.objs.size)) kept above (exo_ok (by heap_get))
  have r2 : Vals [V.ref (hp.objs.size + 1), v] [Value.ref (hp.objs.size + 1), u] := .cons rfl (.cons r1 .nil)
  have hl : ([Value.ref (hp.objs.size + 1), u] ++ []).length = ps.length := by
    have z := F1.len _ _ _ _ hq
    simpa using z
  have bb := hb _ [Value.ref (hp.objs.size + 1), u] I2.kIn hl
  rw [List.append_nil] at bb
  refine wpAny_call (PySem.HandSPX.call_own F.excBase_ValueError (fun Y => PySem.HandSPX.refsVE_contains Y bm hbm) (I1.kIn _ _ hC) (PySem.W.looks_findIn I1.kIn iC) (fun self => PySem.W.bind_fn I1.kIn self tI) (by rw [sizeLine_eq]; show 1 ≤ _; decide)
    (codeAny_mono (F1.go (A := X.A.under (Code.builtin "type.__call__" ⟨Value.ref C :: [u], []⟩)) hgd (hr.make C [u] []) (I2.env0.make C [u] []) bb r2 hq) fun r s' hq' => ?_))
  match r, hq' with
  | .error e, hq' => exact pass0 pins σ _ _ e s' I2 hq'
  | .ok (.ret u2), hq' =>
    obtain ⟨v2, H', I3, rv, ev, q3⟩ := I2.after hq'
    subst ev
    exact ⟨rv, V.ref (hp.objs.size + 1), H', I3, rfl, q3⟩
theorem hp_bt (B : btOk X.K = true) (h : HasBt X.prog X.w X.K X.mg X.base k) (hgd : X.A.guards = some []) (hr : Room (k + 1) X.A) (hg : Gl X "BadText") (he : PE X e (lf X.K f t)) (hs : starEach [e] X.env = (false, eval e X.env) :: starEach [] X.env := by rfl) : PE X (.Call (.Name "BadText" p) [e] [] pos) (lf X.K f (hBt t)) := by
  obtain ⟨C, fI, fd, ps, hc, hm, iC, tI, F1, hb⟩ := h.ex
  refine (pe_oexV (bt_one B hc).o iC tI F1 hgd hr hb hg hm he (by decide) hs).mono fun σ H Q q => ?_
  obtain ⟨F, O, G, s, C0, R, ht, kk⟩ := q
  refine ⟨F, O, G, s, _, R, ht, fun p s1 G1 H1 v c1 e1 R1 V1 a ha => ?_⟩
  obtain ⟨i, rfl, c⟩ := c1
  cases vr_int V1.1
  refine ⟨a, C, i, rfl, (bt_one B hc).o, (bt_one B hc).l, upd_same, fun dx hdx ne => ⟨rfl, ?_⟩⟩
  have hdx : H1 dx = none := by rw [upd_ne ne] at hdx; exact hdx
  have eH : upd (upd (upd H1 a (exo a C none)) dx (exd dx [("line", V.int i)])) a (exo a C (some dx)) = upd (upd H1 dx (exd dx [("line", V.int i)])) a (exo a C (some dx)) := by
    funext b
    by_cases z : b = a
    · subst z; rw [upd_same, upd_same]
    · rw [upd_ne z, upd_ne z]
      by_cases y : b = dx
      · subst y; rw [upd_same, upd_same]
      · rw [upd_ne y, upd_ne y, upd_ne z]
  rw [eH]
  have ha2 : upd H1 dx (exd dx [("line", V.int i)]) a = none := by rw [upd_ne (fun z => ne z.symm)]; exact ha
  have R2 := R1.newG (o := exd dx [("line", V.int i)]) hdx
  have R3 := R2.newG (o := exo a C (some dx)) ha2
  have eG : Ex G1 (upd (upd G1 dx (exd dx [("line", V.int i)])) a (exo a C (some dx))) := (Evl.Ex.new (R1.gn hdx)).trans (Evl.Ex.new (R2.gn ha2))
  exact kk _ s1 _ _ _ c (e1.trans eG) R3 ⟨fun G9 e9 => ⟨a, C, dx, rfl, hc, e9 _ _ upd_same, e9 _ _ (by rw [upd_ne ne, upd_same])⟩, fun m => by cases m⟩
theorem hp_bad (T : ExT X.K) (e1 : EC X.K X.mg x) (hx : x ∈ exNames) (hg : Gl X x) (he : PE X e (lf X.K f t)) (hdb : (x == ("__debug__" : Str)) = false := by decide) (hs : starEach [e] X.env = (false, eval e X.env) :: starEach [] X.env := by rfl) : PE X (.Call (.Name x p) [e] [] pos) (lf X.K f (hBad x t)) := by
  obtain ⟨C, hc, hm⟩ := e1
  refine (pe_exc1 F.excBase_ValueError (T.one hx hc).x hm (T.one hx hc).k hg he hs hdb).mono fun σ H Q q => ?_
  obtain ⟨F, O, G, s, C0, R, ht, kk⟩ := q
  refine ⟨F, O, G, s, _, R, ht, fun p s1 G1 H1 v c1 e1 R1 V1 a ha => ?_⟩
  exact kk _ s1 _ _ _ c1 (e1.trans (Evl.Ex.new (R1.gn ha))) (R1.newG ha) ⟨vr_excO hc upd_same, fun m => by cases m⟩
end
theorem gn_bt {P : Program} {w : World} {K : PySem.W.Frag} {mg : Str → Option Value} {base : Heap} {k : Nat} {C fa : Addr} {fd : FuncData} {st : Stmt} (Fn : Fun K "__init__" "BadText.__init__" st fa fd) (S : FnScope ["self", "line"] ["self", "line"] (defScope st)) (hC : ClsN K "BadText" C) (hm : mg "BadText" = some (.ref C)) (iC : PySem.W.findIn K (.ref C) "__init__" = some (some (.ref fa))) (tI : PySem.W.typeIn K (.ref fa) = some (.type "function")) (hb : Binds K fd ["self", "line"] [])
    (body : ∀ (cdv : Value), fd.code = cdv → ∀ (A : Around) (outer : List Env) (s : Shared) (H : Hp) (E : XK), ∃ m, PSs (cxOf CX0 P w K mg base ["self", "line"] "BadText.__init__" (defScope st) fa cdv A outer s H E).nox (defBody st)
      (tSeq (tDrop (tVeI K (tCons (tVar 0) (tCons (tC (.str m)) tNil)))) (tOst K "line" (tVar 0) (tVar 1)))) :
    HasBt P w K mg base (k + 1) := by
  refine ⟨C, fa, fd, ["self", "line"], hC, hm, iC, tI, gn_ok Fn S (fun vs H Q E h => ?_) (fun cdv ecd A outer s H vs Q E hgd hr h => ?_), hb⟩
  · obtain ⟨a, C1, i, rfl, _⟩ := h
    rfl
  · obtain ⟨m, hbd⟩ := body cdv ecd A outer s H E
    refine ⟨_, hbd, ?_⟩
    obtain ⟨a, C1, i, rfl, o, l, hH, fin⟩ := h
    have s0 : L2.start ["self", "line"] [V.ref a, V.int i] = [some (.ref a), some (.int i)] := rfl
    rw [s0]
    exact ⟨.ref a, rfl, a, C1, [.str m], rfl, by simp, o, hH, .int i, rfl, .ref a, rfl, a, C1, rfl, o, l, Or.inl ⟨hH, fun dx n ne => fin dx n ne⟩⟩
end Sk
set_option Elab.async false
set_option linter.all false
set_option maxRecDepth 100000
set_option maxHeartbeats 2000000
namespace Sk
open PySem PySem.Spec PyProof.Rows L2
open Evl (Ex)
def LstE (ps : List PV) : PySem.W.Frag → Hp → V → Prop := fun K G v => ∃ p vs, v = .ref p ∧ G p = some (.lst vs) ∧ Paired (fun q u => FV K G u q) ps vs
section
variable {K : PySem.W.Frag} {f : Fr} {G G' H : Hp} {s : Sg} {σ : L2.St} {v : V}
theorem leV_ex (e : Ex G G') : ∀ {ps : List PV} {vs : List V}, Paired (fun q u => FV K G u q) ps vs → Paired (fun q u => FV K G' u q) ps vs
  | _, _, .nil => .nil
  | _, _, .cons h t => .cons (h.ex e) (leV_ex e t)
theorem leV_of (e : Ex G G') : ∀ {ps : List PV} {vs : List V}, (∀ p ∈ ps, ∃ R, p = .abs R) → VRs K f G H ps vs → Paired (fun q u => FV K G' u q) ps vs
  | _, _, _, .nil => .nil
  | _, _, a, .cons h t => .cons (by
      obtain ⟨R, rfl⟩ := a _ (List.mem_cons_self ..)
      exact fun G2 e2 => h G2 (e.trans e2)) (leV_of e (fun p hp => a p (List.mem_cons_of_mem _ hp)) t)
theorem leV_len : ∀ {ps : List PV} {vs : List V}, Paired (fun q u => FV K G u q) ps vs → vs.length = ps.length
  | _, _, .nil => rfl
  | _, _, .cons h t => by rw [List.length_cons, List.length_cons, leV_len t]
theorem leV_app {ps qs : List PV} {vs us : List V} (h : Paired (fun q u => FV K G u q) ps vs) (g : Paired (fun q u => FV K G u q) qs us) : Paired (fun q u => FV K G u q) (ps ++ qs) (vs ++ us) := by
  induction h with
  | nil => exact g
  | cons a _ ih => exact .cons a ih
theorem leV_at {ps : List PV} {vs : List V} (h : Paired (fun q u => FV K G u q) ps vs) : ∀ {j : Nat} {p : PV}, ps[j]? = some p → ∃ u, vs[j]? = some u ∧ FV K G u p := by
  induction h with
  | nil => intro j p e; simp at e
  | cons a _ ih =>
    intro j p e
    cases j with
    | zero =>
      cases Option.some.inj e
      exact ⟨_, rfl, a⟩
    | succ j => exact ih e
theorem lstE_new {p : Addr} {ps : List PV} {vs : List V} (e : Ex G G') (h : G' p = some (.lst vs)) (a : Paired (fun q u => FV K G' u q) ps vs) : VRf K f G' H s σ (.abs (LstE ps)) (.ref p) := ⟨fun G2 e2 => ⟨p, vs, rfl, e2 _ _ h, leV_ex e2 a⟩, fun m => by cases m⟩
end
def mkLE : List PV → (PV → Prop) → Prop := fun ps C => (∀ p ∈ ps, ∃ R, p = .abs R) ∧ ps.length ≤ 100000 ∧ C (.abs (LstE ps))
def addLE : List PV → (PV → Prop) → Prop := fun ps C => ∃ xs ys, ps = [.abs (LstE xs), .abs (LstE ys)] ∧ xs.length + ys.length ≤ 100000 ∧ C (.abs (LstE (xs ++ ys)))
def ixLE : List PV → (PV → Prop) → Prop := fun ps C => ∃ xs i p, ps = [.abs (LstE xs), .dat (.int i)] ∧ atI xs i = some p ∧ (∃ R, p = .abs R) ∧ C p
section
variable {X : Cx} {f : Fr} {e : Expr} {es : List Expr} {r : HA} {pos : Pos}
theorem op_mkLE : Op X.K f (fun vs H Q => vs.length ≤ sizeLine ∧ ∀ p, H p = none → Q (.ref p) (upd H p (.lst vs))) mkLE := fun F O G s σ H ps vs C Q R V w k => by
  obtain ⟨h1, h2, h3⟩ := w
  have ln : vs.length = ps.length := (Paired.length V).symm
  refine ⟨by rw [ln]; exact Evl.sz_of h2, fun p hp => ?_⟩
  have e : Ex G (upd G p (.lst vs)) := Evl.Ex.new (R.gn hp)
  exact k _ _ _ _ h3 e (R.newG hp) (lstE_new e upd_same (leV_of e h1 V))
theorem hp_lstE (h : PA X es (lfA X.K f r)) : PE X (.List es pos) (lf X.K f (hC mkLE r)) := (pe_lst h).mono fun σ H Q q => op_mkLE.lift _ _ _ _ q
theorem op_addLE : Op X.K f (op2 (rAddAll X.K)) addLE := fun F O G s σ H ps vs C Q R V w k => by
  obtain ⟨xs, ys, rfl, h1, h2⟩ := w
  cases V with
  | cons v1 V =>
    cases V with
    | cons v2 V =>
      cases V
      obtain ⟨a, us, rfl, g1, a1⟩ := v1 G (Ex.refl G)
      obtain ⟨b, ws, rfl, g2, a2⟩ := v2 G (Ex.refl G)
      refine Or.inr (Or.inr ⟨a, b, us, ws, rfl, rfl, Or.inl (Or.inl (R.gh _ _ g1)), Or.inl (Or.inl (R.gh _ _ g2)), by rw [leV_len a1, leV_len a2]; exact Evl.sz_of h1, fun p hp => ?_⟩)
      have e : Ex G (upd G p (.lst (us ++ ws))) := Evl.Ex.new (R.gn hp)
      exact k _ _ _ _ h2 e (R.newG hp) (lstE_new e upd_same (leV_ex e (leV_app a1 a2)))
theorem op_ixLE : Op X.K f (op2 (rIx X.K)) ixLE := fun F O G s σ H ps vs C Q R V w k => by
  obtain ⟨xs, i, p, rfl, h1, ⟨Rp, rfl⟩, h2⟩ := w
  cases V with
  | cons v1 V =>
    cases V with
    | cons v2 V =>
      cases V
      obtain ⟨a, us, rfl, g1, a1⟩ := v1 G (Ex.refl G)
      cases vr_int v2
      have hx : ∃ u, atI us i = some u ∧ FV X.K G u (.abs Rp) := by
        unfold atI at h1 ⊢
        rw [leV_len a1]
        cases q : ixN xs.length i with
        | none => rw [q] at h1; cases h1
        | some j =>
          rw [q] at h1
          exact leV_at a1 h1
      obtain ⟨u, hu, fu⟩ := hx
      exact Or.inl ⟨a, us, i, u, rfl, rfl, Or.inl (Or.inl (R.gh _ _ g1)), hu, k _ _ _ _ h2 (Ex.refl G) R fu.vrf⟩
end
end Sk
set_option Elab.async false
set_option linter.all false
set_option maxRecDepth 100000
set_option maxHeartbeats 4000000
namespace Sk
open PySem PySem.Spec PyProof.Rows L2
open PySem.W (Datum DatumOrd Tup T3 T4)
open Evl (Ex)
def nm93 : List Str := ["BadDeeds", "BadHand", "BadHouse", "BadMachine", "BadNode", "BadRow", "BadWay", "BadPaper", "NoName", "TooGreat", "BadText"]
def exL (l : Int) : List PV := [excPV "BadDeeds", excPV "BadHand", excPV "BadHouse", excPV "BadMachine", excPV "BadNode", excPV "BadRow", excPV "BadWay", excPV "BadPaper", excPV "NoName", excPV "TooGreat", btPV l]
theorem isB_at {l : Int} {k : Nat} {e : PV} {y x : Str} {C : PV → Prop} (h : (exL l)[k]? = some e) (hx : nm93[k]? = some x) (c : C (.dat (.bool (exSub x y)))) : isBW y [e] C := by
  match k, h, hx with
  | 0, h, hx | 1, h, hx | 2, h, hx | 3, h, hx | 4, h, hx | 5, h, hx | 6, h, hx | 7, h, hx | 8, h, hx | 9, h, hx =>
    cases Option.some.inj h
    cases Option.some.inj hx
    exact Or.inl ⟨_, by decide, rfl, c⟩
  | 10, h, hx =>
    cases Option.some.inj h
    cases Option.some.inj hx
    exact Or.inr ⟨l, rfl, c⟩
theorem isV_at {l : Int} {k : Nat} {e : PV} {C : PV → Prop} (h : (exL l)[k]? = some e) (c : C (.dat (.bool true))) : isBV [e] C := by
  match k, h with
  | 0, h | 1, h | 2, h | 3, h | 4, h | 5, h | 6, h | 7, h | 8, h | 9, h =>
    cases Option.some.inj h
    exact ⟨Or.inl ⟨_, by decide, rfl⟩, c⟩
  | 10, h =>
    cases Option.some.inj h
    exact ⟨Or.inr ⟨l, rfl⟩, c⟩
theorem exL_abs {l : Int} {k : Nat} {e : PV} (h : (exL l)[k]? = some e) : ∃ R, e = .abs R := by
  match k, h with
  | 0, h | 1, h | 2, h | 3, h | 4, h | 5, h | 6, h | 7, h | 8, h | 9, h | 10, h =>
    cases Option.some.inj h
    exact ⟨_, rfl⟩
def sp__law_said_0811d5 : HSp := fun ps n C => ps = [.drw] ∧ n < 90000000 ∧ ∀ (z : Str) (n' : Nat), n' ≤ n + 10 → C (.dat (.str z)) n'
def h__law_said_0811d5 : HS :=
    (hSeq (hAsg (hLst (hE (hK (.str "hand")) (hE (hK (.str "no house")) (hE (hK (.str "a")) (hE (hK (.str "")) (hE (hK (.str "row 3")) (hE (hK (.str "way:")) (hE (hK (.str "0")) (hE (hK (.str "stands?")) hNil))))))))) 1)
    (hRet (hC (joinW " ") (hE (hLc (hiR1 (hE (hCall sp__law_draw_a6e186 2 (hL 0 (hE (hK (.int 4)) hNil))) hNil)) (gN 2) hYes (hC ixW (hL 1 (hE (hCall sp__law_draw_a6e186 2 (hL 0 (hE (hK (.int 8)) hNil))) hNil))) [2]) hNil))))
theorem rd__law_said_0811d5 : ∀ pvs n C, pvs.length = 1 → sp__law_said_0811d5 pvs n C → h__law_said_0811d5 ⟨fun s => C (.dat .none) s.n, fun p s => C p s.n, fun _ => False, fun _ => False⟩ ⟨pvs.map some ++ List.replicate (3 - pvs.length) none, n⟩ := by
  intro pvs n C _ h
  obtain ⟨rfl, hn, q⟩ := h
  unfold h__law_said_0811d5
  simp [-hLc, dats]
  refine hLc_eq.mpr ?_
  simp [-hLc]
  refine drw' 4 _ _ (by decide) (by decide) (by omega) fun a a0 a1 => ?_
  refine ⟨_, rfl, ⟨by omega, by omega⟩, ?_⟩
  have er : rngD 0 a.toNat = (List.range a.toNat).map fun i => PyData.int ((i : Nat) : Int) := by simp [rngD]
  rw [er]
  refine lcs_n (P := fun x : Str => x.length ≤ 10) (toD := PyData.str) (c := 1) (N := 95000000) (fun i : Nat => PyData.int ((i : Nat) : Int)) (List.range a.toNat) [] _ _ (fun i _ n hN K hK => ?_) (by simp; omega) (by simp; omega) fun S n2 h1 h2 h3 => ?_
  · simp
    refine drw' 8 _ _ (by decide) (by decide) (by omega) fun b b0 b1 => ?_
    obtain ⟨w, hw, hm⟩ := atI_str (ws := ["hand", "no house", "a", "", "row 3", "way:", "0", "stands?"]) b0 b1
    refine ⟨_, rfl, ix_own.mpr ⟨_, hw, ?_⟩⟩
    refine hK w (n + 1) _ ?_ (by omega) (by simp)
    simp at hm
    rcases hm with rfl | rfl | rfl | rfl | rfl | rfl | rfl | rfl <;> decide
  have h3' : n2 ≤ n + 4 := by simp at h3; omega
  have hl : S.length ≤ 4 := by rw [h1, List.length_range]; omega
  simp
  refine ⟨S, rfl, ?_, q _ _ (by omega)⟩
  have : (S.map (·.length)).sum ≤ 10 * S.length := by
    clear h1 h3 hl
    induction S with
    | nil => simp
    | cons x S ih =>
      have := h2 x (by simp)
      have := ih fun y hy => h2 y (by simp [hy])
      simp
      omega
  have e1 : (" " : Str).length = 1 := by decide
  rw [e1]
  omega
def sp__law_line_508c0a : HSp := fun ps n C => ps = [.drw] ∧ n < 90000000 ∧ ∀ (i : Int) (n' : Nat), 0 ≤ i → i < 1000 → n' ≤ n + 5 → C (.dat (.int i)) n'
def h__law_line_508c0a : HS :=
    (hRet (hC ixW (hE (hLst (hE (hK (.int 0)) (hE (hK (.int 1)) (hE (hK (.int 2)) (hE (hK (.int 40)) (hE (hCall sp__law_draw_a6e186 2 (hL 0 (hE (hK (.int 1000)) hNil))) hNil)))))) (hE (hCall sp__law_draw_a6e186 2 (hL 0 (hE (hK (.int 5)) hNil))) hNil))))
theorem rd__law_line_508c0a : ∀ pvs n C, pvs.length = 1 → sp__law_line_508c0a pvs n C → h__law_line_508c0a ⟨fun s => C (.dat .none) s.n, fun p s => C p s.n, fun _ => False, fun _ => False⟩ ⟨pvs.map some ++ List.replicate (1 - pvs.length) none, n⟩ := by
  intro pvs n C _ h
  obtain ⟨rfl, hn, q⟩ := h
  unfold h__law_line_508c0a
  simp [dats]
  refine drw' 1000 _ _ (by decide) (by decide) (by omega) fun a a0 a1 => ?_
  refine ⟨_, rfl, ?_⟩
  refine drw' 5 _ _ (by decide) (by decide) (by omega) fun b b0 b1 => ?_
  obtain ⟨m, hm, hmm, _⟩ := atI_int (cs := [0, 1, 2, 40, a]) b0 b1
  refine ⟨_, rfl, ix_lst.mpr ⟨_, hm, q _ _ ?_ ?_ (by omega)⟩⟩ <;> (simp at hmm; omega)
theorem is93 {k : Nat} {x : Str} (hk : k < 11) (hx : nm93[k]? = some x) : [PyData.bool (exSub x "BadDeeds"), .bool (exSub x "BadHand"), .bool (exSub x "BadHouse"), .bool (exSub x "BadMachine"), .bool (exSub x "BadNode"), .bool (exSub x "BadRow"), .bool (exSub x "BadWay"), .bool (exSub x "BadPaper"), .bool (exSub x "NoName"), .bool (exSub x "TooGreat"), .bool (exSub x "BadText")] = (List.range 11).map fun j => PyData.bool (decide (k = j)) := by
  have key : ∀ k : Fin 11, ∀ x ∈ nm93[k.val]?, [exSub x "BadDeeds", exSub x "BadHand", exSub x "BadHouse", exSub x "BadMachine", exSub x "BadNode", exSub x "BadRow", exSub x "BadWay", exSub x "BadPaper", exSub x "NoName", exSub x "TooGreat", exSub x "BadText"] = (List.range 11).map fun j => decide (k.val = j) := by decide +kernel
  have := congrArg (List.map PyData.bool) (key ⟨k, hk⟩ x hx)
  rw [List.map_map] at this
  exact this
def sp__law_is_ab3f84 : HSp := fun ps n C => ∃ (l : Int) (k : Nat) (e : PV), ps = [e] ∧ k < 11 ∧ (exL l)[k]? = some e ∧ C (.own ((List.range 11).map fun j => PyData.bool (decide (k = j)))) n
def h__law_is_ab3f84 : HS :=
    (hSeq (hAsg (hLst (hE (hC (isBW "BadDeeds") (hL 0 hNil)) (hE (hC (isBW "BadHand") (hL 0 hNil)) (hE (hC (isBW "BadHouse") (hL 0 hNil)) (hE (hC (isBW "BadMachine") (hL 0 hNil)) hNil))))) 1)
    (hSeq (hAsg (hC addW (hL 1 (hE (hLst (hE (hC (isBW "BadNode") (hL 0 hNil)) (hE (hC (isBW "BadRow") (hL 0 hNil)) (hE (hC (isBW "BadWay") (hL 0 hNil)) (hE (hC (isBW "BadPaper") (hL 0 hNil)) hNil))))) hNil))) 1)
    (hRet (hC addW (hL 1 (hE (hLst (hE (hC (isBW "NoName") (hL 0 hNil)) (hE (hC (isBW "TooGreat") (hL 0 hNil)) (hE (hC (isBW "BadText") (hL 0 hNil)) hNil)))) hNil))))))
theorem rd__law_is_ab3f84 : ∀ pvs n C, pvs.length = 1 → sp__law_is_ab3f84 pvs n C → h__law_is_ab3f84 ⟨fun s => C (.dat .none) s.n, fun p s => C p s.n, fun _ => False, fun _ => False⟩ ⟨pvs.map some ++ List.replicate (2 - pvs.length) none, n⟩ := by
  intro pvs n C _ h
  obtain ⟨l, k, e, rfl, hk, he, q⟩ := h
  obtain ⟨x, hx⟩ : ∃ x, nm93[k]? = some x := ⟨_, List.getElem?_eq_getElem (by exact hk)⟩
  unfold h__law_is_ab3f84
  simp [dats]
  refine isB_at he hx ⟨_, rfl, isB_at he hx ⟨_, rfl, isB_at he hx ⟨_, rfl, isB_at he hx ⟨_, rfl, ?_⟩⟩⟩⟩
  refine isB_at he hx ⟨_, rfl, isB_at he hx ⟨_, rfl, isB_at he hx ⟨_, rfl, isB_at he hx ⟨_, rfl, ?_⟩⟩⟩⟩
  refine isB_at he hx ⟨_, rfl, isB_at he hx ⟨_, rfl, isB_at he hx ⟨_, rfl, ?_⟩⟩⟩
  rw [← is93 hk hx] at q
  exact q
def sp__law_all_39733f : HSp := fun ps n C => ∃ (a b : Str) (l : Int), ps = [.dat (.str a), .dat (.str b), .dat (.int l)] ∧ C (.abs (LstE (exL l))) n
def h__law_all_39733f : HS :=
    (hSeq (hAsg (hC mkLE (hEA (hBad "BadDeeds" (hV 0)) (hEA (hBad "BadHand" (hV 1)) (hEA (hBad "BadHouse" (hV 0)) (hEA (hBad "BadMachine" (hV 1)) (hEA (hBad "BadNode" (hV 0)) (hEA (hBad "BadRow" (hV 1)) (hEA (hBad "BadWay" (hV 0)) hNil)))))))) 3)
    (hRet (hC addLE (hL 3 (hEA (hC mkLE (hEA (hBad "BadPaper" (hV 1)) (hEA (hBad "NoName" (hV 0)) (hEA (hBad "TooGreat" (hV 1)) (hEA (hBt (hV 2)) hNil))))) hNil)))))
theorem rd__law_all_39733f : ∀ pvs n C, pvs.length = 3 → sp__law_all_39733f pvs n C → h__law_all_39733f ⟨fun s => C (.dat .none) s.n, fun p s => C p s.n, fun _ => False, fun _ => False⟩ ⟨pvs.map some ++ List.replicate (4 - pvs.length) none, n⟩ := by
  intro pvs n C _ h
  obtain ⟨a, b, l, rfl, q⟩ := h
  unfold h__law_all_39733f
  simp [hBad, hBt, mkLE, addLE]
  exact ⟨_, _, ⟨rfl, rfl⟩, by show 11 ≤ 100000; decide, q⟩
abbrev b93 : HS := (hSeq (hIfS (hB (hC (eqP true) (hE (hCall sp__law_is_ab3f84 1 (hEA (hC ixLE (hL 6 (hL 7 hNil))) hNil)) (hE (hLc (hiR1 (hE (hK (.int 11)) hNil)) (gN 8) hYes (hC (eqP false) (hL 7 (hL 8 hNil))) [8]) hNil)))) (hRet (hK (.bool false))) hNext)
    (hIfS (hOr (hNot (hB (hC (isBW "HandError") (hEA (hC ixLE (hL 6 (hL 7 hNil))) hNil)))) (hNot (hB (hC isBV (hEA (hC ixLE (hL 6 (hL 7 hNil))) hNil))))) (hRet (hK (.bool false))) hNext))
theorem in93 {D : HD} {o0 o1 o2 o3 o4 o5 : Option PV} {l : Int} {n : Nat} : ∀ (ks : List Nat) (o7 o8 : Option PV), (∀ k ∈ ks, k < 11) → (∀ o7' o8', D.nx ⟨[o0, o1, o2, o3, o4, o5, some (.abs (LstE (exL l))), o7', o8'], n⟩) → each (gN 7) b93 D (ks.map fun i => PyData.int ((i : Nat) : Int)) ⟨[o0, o1, o2, o3, o4, o5, some (.abs (LstE (exL l))), o7, o8], n⟩ := by
  intro ks
  induction ks with
  | nil => intro o7 o8 _ fin; exact fin o7 o8
  | cons k ks ih =>
    intro o7 o8 hk fin
    have k11 : k < 11 := hk k (by simp)
    obtain ⟨e, he⟩ : ∃ e, (exL l)[k]? = some e := ⟨_, List.getElem?_eq_getElem (by exact k11)⟩
    have ha : atI (exL l) (k : Int) = some e := by
      unfold atI ixN
      rw [if_pos (Int.natCast_nonneg k), if_pos (by show (k : Int) < ((11 : Nat) : Int); omega)]
      show (exL l)[((k : Int)).toNat]? = _
      rw [Int.toNat_natCast, he]
    obtain ⟨R, rfl⟩ := exL_abs he
    rw [List.map_cons, each]
    simp [-each, -hLc, ixLE]
    refine ⟨exL l, _, ⟨rfl, rfl⟩, _, ha, ⟨R, rfl⟩, R, rfl, rfl, l, k, _, rfl, k11, he, (fun m => by cases m), _, rfl, ?_⟩
    refine hLc_eq.mpr ?_
    simp [-each, -lcs]
    have er : rngD 0 11 = (List.range 11).map fun i => PyData.int ((i : Nat) : Int) := by simp [rngD]
    rw [er]
    refine lcs_map (xs := List.range 11) (fun i : Nat => PyData.int ((i : Nat) : Int)) (fun j => PyData.bool (decide (k = j))) (fun j hj K hK => ?_) [] _ (by simp) ?_
    · simp
      have e1 : decide ((k : Int) = (j : Int)) = decide (k = j) := by rw [decide_eq_decide]; omega
      rw [e1]
      exact hK ⟨[o0, o1, o2, o3, o4, o5, some (.abs (LstE (exL l))), some (.dat (.int (k : Nat))), some (.dat (.int (j : Nat)))], n⟩ (by simp)
    · obtain ⟨x, hx⟩ : ∃ x, nm93[k]? = some x := ⟨_, List.getElem?_eq_getElem (by exact k11)⟩
      simp [-each, -List.map_map]
      have eb : PyData.list ((List.range 11).map fun j => PyData.bool (decide (k = j))) = Datum.toD ((List.range 11).map fun j => decide (k = j)) := by
        show _ = PyData.list (((List.range 11).map fun j => decide (k = j)).map Datum.toD)
        rw [List.map_map]
        rfl
      rw [eb]
      refine eqP_D (α := List Bool) _ _ rfl rfl (by decide) (Or.inl ⟨by simp, exL l, _, ⟨rfl, rfl⟩, _, ha, ⟨R, rfl⟩, R, rfl, isB_at he hx (Or.inr ⟨by simp [exSub], exL l, _, ⟨rfl, rfl⟩, _, ha, ⟨R, rfl⟩, R, rfl, isV_at he (Or.inr ⟨rfl, ih _ _ (fun k hk' => hk k (by simp [hk'])) fin⟩)⟩)⟩)
abbrev b93o : HS := (hSeq (hPar3D 3 4 5 (hE (hCall sp__law_said_0811d5 1 (hL 1 hNil)) (hE (hCall sp__law_said_0811d5 1 (hL 1 hNil)) (hE (hCall sp__law_line_508c0a 1 (hL 1 hNil)) hNil))))
    (hSeq (hAsg (hCall sp__law_all_39733f 3 (hL 3 (hL 4 (hL 5 hNil)))) 6)
    (hSeq (hFor (hiR1 (hE (hK (.int 11)) hNil)) (gN 7) b93)
    (hIfS (hB (hC (eqP true) (hE (hC reprW (hE (hLine (hBt (hV 5))) hNil)) (hE (hC reprW (hL 5 hNil)) hNil)))) (hRet (hK (.bool false))) hNext))))
theorem out93 {D : HD} {o0 : Option PV} : ∀ (ks : List Nat) (o2 o3 o4 o5 o6 o7 o8 : Option PV) (n : Nat), n + 100 * ks.length ≤ 80000000 → (∀ o2' o3' o4' o5' o6' o7' o8' n', D.nx ⟨[o0, some .drw, o2', o3', o4', o5', o6', o7', o8'], n'⟩) → each (gN 2) b93o D (ks.map fun i => PyData.int ((i : Nat) : Int)) ⟨[o0, some .drw, o2, o3, o4, o5, o6, o7, o8], n⟩ := by
  intro ks
  induction ks with
  | nil => intro o2 o3 o4 o5 o6 o7 o8 n _ fin; exact fin _ _ _ _ _ _ _ _
  | cons k ks ih =>
    intro o2 o3 o4 o5 o6 o7 o8 n hn fin
    have hn' : n + 100 * (ks.length + 1) ≤ 80000000 := by simpa using hn
    rw [List.map_cons, each]
    simp [-each, -hFor]
    refine ⟨rfl, by omega, fun a n1 l1 => ⟨_, rfl, rfl, by omega, fun b n2 l2 => ⟨_, rfl, rfl, by omega, fun i n3 i0 i1 l3 => ⟨_, rfl, ?_⟩⟩⟩⟩
    refine ⟨_, _, _, ⟨rfl, rfl, rfl⟩, rfl, rfl, rfl, ?_⟩
    simp [-each, -hFor]
    refine ⟨a, b, i, rfl, ?_⟩
    simp only [hFor, hiR1]
    simp [-each, -hFor]
    have er : rngD 0 11 = (List.range 11).map fun i => PyData.int ((i : Nat) : Int) := by simp [rngD]
    rw [er]
    refine in93 (List.range 11) _ _ (fun k hk => by simpa using hk) fun o7' o8' => ?_
    simp [-each, hLine, hBt]
    have sh : ShowOk (.int i) := by
      obtain ⟨a, b, c⟩ := int_show i0 (by omega : i < 1000000)
      exact ⟨a, by simp only [PyData.hasDict], by simp only [PyData.depth]; omega, b, Nat.le_trans c (by decide)⟩
    refine ⟨i, rfl, repr_ok sh rfl ⟨_, rfl, repr_ok sh rfl ⟨_, rfl, eq_str.mpr (Or.inl ⟨by simp, ih _ _ _ _ _ _ _ _ (by omega) fin⟩)⟩⟩⟩
def h_law_9a118f : HS :=
    (hSeq (hFor (hiR1 (hE (hK (.int 3)) hNil)) (gN 2) (hSeq (hPar3D 3 4 5 (hE (hCall sp__law_said_0811d5 1 (hL 1 hNil)) (hE (hCall sp__law_said_0811d5 1 (hL 1 hNil)) (hE (hCall sp__law_line_508c0a 1 (hL 1 hNil)) hNil))))
    (hSeq (hAsg (hCall sp__law_all_39733f 3 (hL 3 (hL 4 (hL 5 hNil)))) 6)
    (hSeq (hFor (hiR1 (hE (hK (.int 11)) hNil)) (gN 7) (hSeq (hIfS (hB (hC (eqP true) (hE (hCall sp__law_is_ab3f84 1 (hEA (hC ixLE (hL 6 (hL 7 hNil))) hNil)) (hE (hLc (hiR1 (hE (hK (.int 11)) hNil)) (gN 8) hYes (hC (eqP false) (hL 7 (hL 8 hNil))) [8]) hNil)))) (hRet (hK (.bool false))) hNext)
    (hIfS (hOr (hNot (hB (hC (isBW "HandError") (hEA (hC ixLE (hL 6 (hL 7 hNil))) hNil)))) (hNot (hB (hC isBV (hEA (hC ixLE (hL 6 (hL 7 hNil))) hNil))))) (hRet (hK (.bool false))) hNext)))
    (hIfS (hB (hC (eqP true) (hE (hC reprW (hE (hLine (hBt (hV 5))) hNil)) (hE (hC reprW (hL 5 hNil)) hNil)))) (hRet (hK (.bool false))) hNext)))))
    (hRet (hC (eqP false) (hE (hLst (hE (hLine (hBt (hK (.int 0)))) (hE (hLine (hBt (hK (.int 7)))) (hE (hLine (hBt (hK (.int 41)))) hNil)))) (hE (hLst (hE (hK (.int 0)) (hE (hK (.int 7)) (hE (hK (.int 41)) hNil)))) hNil)))))
theorem rd_law_9a118f : ∀ ns : List Int, ns.length ≤ 63 → h_law_9a118f lawD ⟨some (.dat (.list (ns.map .int))) :: some .drw :: List.replicate 7 none, 0⟩ := by
  intro ns hns
  unfold h_law_9a118f
  simp [-hFor]
  simp only [hFor, hiR1]
  simp [-each]
  have er : rngD 0 3 = (List.range 3).map fun i => PyData.int ((i : Nat) : Int) := by simp [rngD]
  rw [er]
  refine out93 (List.range 3) _ _ _ _ _ _ _ _ (by decide) fun _ _ _ _ _ _ _ _ => ?_
  simp [hLine, hBt, dats]
  refine ⟨_, rfl, _, rfl, _, rfl, ?_⟩
  exact eqP_D (α := List Int) [0, 7, 41] [0, 7, 41] rfl rfl (by decide) (by simp)
end Sk
set_option Elab.async false
set_option linter.all false
set_option maxRecDepth 100000
set_option maxHeartbeats 4000000
namespace Sk
open PySem PySem.Spec PyProof.Rows L2
open PySem.W (Datum DatumOrd Tup T3 T4)
open Evl (Ex)
def clsS (s : Stmt) (i : Nat) : Stmt := match s with
  | .ClassDef _ _ _ b _ _ _ _ _ _ _ => b.getD i (.Pass ⟨0, 0, 0, 0⟩)
  | s => s
def topS (i : Nat) : Stmt := PySem.Challenge.pw_standhouse_k93_refusals_made.main.body.getD i (.Pass ⟨0, 0, 0, 0⟩)
structure Tops (K : PySem.W.Frag) (mg : Str → Option Value) : Prop where
  n_ValueError : mg "ValueError" = none
  n_enumerate : mg "enumerate" = none
  n_isinstance : mg "isinstance" = none
  n_len : mg "len" = none
  n_range : mg "range" = none
  n_repr : mg "repr" = none
  ex_BadDeeds : EC K mg "BadDeeds"
  ex_BadHand : EC K mg "BadHand"
  ex_BadHouse : EC K mg "BadHouse"
  ex_BadMachine : EC K mg "BadMachine"
  ex_BadNode : EC K mg "BadNode"
  ex_BadPaper : EC K mg "BadPaper"
  ex_BadRow : EC K mg "BadRow"
  ex_BadText : EC K mg "BadText"
  ex_BadWay : EC K mg "BadWay"
  ex_HandError : EC K mg "HandError"
  ex_NoName : EC K mg "NoName"
  ex_TooGreat : EC K mg "TooGreat"
  xt : ExT K
  bt : btOk K = true
section
variable {P : Program} {w : World} {TB : Tbs} {K : PySem.W.Frag} {mg : Str → Option Value} {base : Heap}
abbrev s_BadText___init__ : Stmt := clsS (topS 12) 0
theorem sc_BadText___init__ : FnScope ["self", "line"] ["self", "line"] (defScope s_BadText___init__) := ⟨rfl, rfl, rfl, by decide +kernel, rfl, by decide +kernel, by decide +kernel⟩
theorem hasT_BadText___init__ {C HE fa : Addr} {fd : FuncData} (Fn : Fun K "__init__" "BadText.__init__" s_BadText___init__ fa fd) (hC : ClsN K "BadText" C) (hm : mg "BadText" = some (.ref C)) (iC : PySem.W.findIn K (.ref C) "__init__" = some (some (.ref fa))) (tI : PySem.W.typeIn K (.ref fa) = some (.type "function")) (hE : mg "HandError" = some (.ref HE)) (cr : ClX.CRead K HE (.type "type")) (vV : PySem.W.findCls K (.ref HE) (.type "type") "__init__" = some (.val (.builtin "ValueError.__init__"))) : HasBt P w K mg base 1 :=
  gn_bt Fn sc_BadText___init__ hC hm iC tI (Fn.binds (ps := ["self", "line"]) fun _ _ _ _ _ _ us hl => match us, hl with | [_, _], _ => rfl) fun cdv ecd A outer s H E => ⟨_, pss_cons (ps_expr (pe_heinit cr vV (pe_glob (by rfl) hE (v := .ref _) rfl (by decide)) (pa_cons (pv 0) (pa_cons pe_str pa_nil rfl) rfl))) (pss_one (ps_ost (pv 0) (pv 1)))⟩
abbrev s__law_mixed : Stmt := topS 14
theorem sc__law_mixed : FnScope ["_law_cell", "_law_k", "_law_number"] ["_law_cell", "_law_k"] (defScope s__law_mixed) := ⟨rfl, rfl, rfl, by decide +kernel, rfl, by decide +kernel, by decide +kernel⟩
theorem d__law_mixed (T : Tops K mg)  {fa : Addr} {cdv : Value} {A : Around} {outer : List Env} {s : Shared} {H : Hp} {E : XK} (hgd : (A.deeper (envOfC "_law_mixed" (defScope s__law_mixed) s.heap.objs.size fa cdv)).guards = some []) (hr : Room 0 (A.deeper (envOfC "_law_mixed" (defScope s__law_mixed) s.heap.objs.size fa cdv))) :
    PSs (cxOf CX0 P w K mg base ["_law_cell", "_law_k", "_law_number"] "_law_mixed" (defScope s__law_mixed) fa cdv A outer s H E).nox (defBody s__law_mixed) (lfS K (f0 w TB) h__law_mixed_2d863d) := by
  have nd := sc__law_mixed.nd
  exact (hs_cons (hs_set (i := 2) nd rfl (.inl rfl) (hp_op op_addAll (opd_e (hp_op op_addAll (opd_e (hp_op op_mod (opd_e (hp_op op_mulAll (opd_e (hp_op op_mulAll (opd_v 0 (pv 0)) (opd_e (hp_op op_addAll (opd_e (hp_k pe_int fun _ => .int _)) (opd_e (hp_op op_mulAll (opd_e (hp_k pe_int fun _ => .int _)) (opd_v 1 (pv 1)) op_mulW')) op_addW)) op_mulW')) (opd_e (hp_k pe_int fun _ => .int _)) op_mulW')) (opd_e (hp_k pe_int fun _ => .int _)) op_modWW)) (opd_e (hp_op op_mulAll (opd_e (hp_op op_mulAll (opd_e (hp_k pe_int fun _ => .int _)) (opd_v 1 (pv 1)) op_mulW')) (opd_v 1 (pv 1)) op_mulW')) op_addW)) (opd_e (hp_op op_mulAll (opd_e (hp_k pe_int fun _ => .int _)) (opd_v 1 (pv 1)) op_mulW')) op_addW))
    (hs_one (hs_ret (hp_op op_fdivW (opd_e (hp_op op_mod (opd_e (hp_op op_mulAll (opd_v 2 (pv 2)) (opd_e (hp_k pe_int fun _ => .int _)) op_mulW')) (opd_e (hp_k pe_int fun _ => .int _)) op_modWW)) (opd_e (hp_k pe_int fun _ => .int _)) op_fdivWW))))
theorem has__law_mixed (T : Tops K mg)  {fa : Addr} {fd : FuncData} (Fn : Fun K "_law_mixed" "_law_mixed" s__law_mixed fa fd) (hm : mg "_law_mixed" = some (.ref fa)) : Has P w TB K mg base 1 "_law_mixed" 2 sp__law_mixed_2d863d :=
  Has.mk' (ps := ["_law_cell", "_law_k"]) Fn hm (Fn.binds fun _ _ _ _ _ _ us hl => match us, hl with | [_, _], _ => rfl) sc__law_mixed (fun _ ecd _ _ _ _ _ hgd hr => d__law_mixed T  hgd hr) rd__law_mixed_2d863d
abbrev s__law_folded : Stmt := topS 15
theorem sc__law_folded : FnScope ["_law_script", "_law_found", "_law_k", "_law_cell"] ["_law_script"] (defScope s__law_folded) := ⟨rfl, rfl, rfl, by decide +kernel, rfl, by decide +kernel, by decide +kernel⟩
theorem d__law_folded (T : Tops K mg)  {fa : Addr} {cdv : Value} {A : Around} {outer : List Env} {s : Shared} {H : Hp} {E : XK} (hgd : (A.deeper (envOfC "_law_folded" (defScope s__law_folded) s.heap.objs.size fa cdv)).guards = some []) (hr : Room 0 (A.deeper (envOfC "_law_folded" (defScope s__law_folded) s.heap.objs.size fa cdv))) :
    PSs (cxOf CX0 P w K mg base ["_law_script", "_law_found", "_law_k", "_law_cell"] "_law_folded" (defScope s__law_folded) fa cdv A outer s H E).nox (defBody s__law_folded) (lfS K (f0 w TB) h__law_folded_8cf898) := by
  have nd := sc__law_folded.nd
  exact (hs_cons (hs_setLc (ps_setLc (i := 1) (own := [("_law_k", 2)]) rfl nd rfl rfl (sw_true rfl rfl rfl (by decide +kernel)) (hi_rng1 (by rfl) T.n_range (hpa_cons (opd_e (hp_k pe_int fun _ => .int _)) hpa_nil)) (blkOk_by (own := [("_law_k", 2)]) (N := ["_law_script", "_law_found", "_law_k", "_law_cell"]) (sc := defScope s__law_folded) (by decide +kernel)) (fun _ _ _ _ _ => (hg_name (pg_name (i := 2) nd rfl (by first | exact .inl rfl | exact .inr rfl)))) (fun _ _ _ _ _ => pts_yes) (fun _ _ _ _ _ => (hp_op op_addAll (opd_e (hp_k pe_int fun _ => .int _)) (opd_v 2 (pv 2)) op_addW))) (by decide) gl_name)
    (hs_cons (hs_for PassesOwn.never rfl (hi_enum (by rfl) T.n_enumerate (hpa_cons (opd_e (hp_v 0 (pv 0))) hpa_nil)) (hg_pair (pg_tup rfl (pgs_cons (pg_name (i := 2) nd rfl (by first | exact .inl rfl | exact .inr rfl)) (pgs_cons (pg_name (i := 3) nd rfl (by first | exact .inl rfl | exact .inr rfl)) pgs_nil)))) (hs_one (hs_setL (ps_asg (hp_op op_mod (opd_e (hp_op op_addAll (opd_e (hp_op op_mulAll (opd_e (hp_ix ix_seq (opd_v 1 (pv 1)) (opd_e (hp_op op_mod (opd_v 2 (pv 2)) (opd_e (hp_k pe_int fun _ => .int _)) op_modWW)) op_ixW (fun _ _ => rfl))) (opd_e (hp_k pe_int fun _ => .int _)) op_mulW')) (opd_v 3 (pv 3)) op_addW)) (opd_e (hp_k pe_int fun _ => .int _)) op_modWW) (pg_sub (pv 1) (hp_op op_mod (opd_v 2 (pv 2)) (opd_e (hp_k pe_int fun _ => .int _)) op_modWW) set_list)))))
    (hs_cons (hs_for PassesOwn.never rfl (hi_rng2 (by rfl) T.n_range (hpa_cons (opd_e (hp_k pe_int fun _ => .int _)) (hpa_cons (opd_e (hp_k pe_int fun _ => .int _)) hpa_nil))) (hg_name (pg_name (i := 2) nd rfl (by first | exact .inl rfl | exact .inr rfl))) (hs_one (hs_setL (ps_asg (hp_op op_mod (opd_e (hp_op op_addAll (opd_e (hp_ix ix_seq (opd_v 1 (pv 1)) (opd_v 2 (pv 2)) op_ixW (fun _ _ => rfl))) (opd_e (hp_op op_mulAll (opd_e (hp_ix ix_seq (opd_v 1 (pv 1)) (opd_e (hp_op op_sub (opd_v 2 (pv 2)) (opd_e (hp_k pe_int fun _ => .int _)) op_subW)) op_ixW (fun _ _ => rfl))) (opd_e (hp_k pe_int fun _ => .int _)) op_mulW')) op_addW)) (opd_e (hp_k pe_int fun _ => .int _)) op_modWW) (pg_sub (pv 1) (hp_v 2 (pv 2)) set_list)))))
    (hs_one (hs_ret (hp_m 1 (pv 1)))))))
theorem has__law_folded (T : Tops K mg)  {fa : Addr} {fd : FuncData} (Fn : Fun K "_law_folded" "_law_folded" s__law_folded fa fd) (hm : mg "_law_folded" = some (.ref fa)) : Has P w TB K mg base 1 "_law_folded" 1 sp__law_folded_8cf898 :=
  Has.mk' (ps := ["_law_script"]) Fn hm (Fn.binds fun _ _ _ _ _ _ us hl => match us, hl with | [_], _ => rfl) sc__law_folded (fun _ ecd _ _ _ _ _ hgd hr => d__law_folded T  hgd hr) rd__law_folded_8cf898
abbrev s__law_said : Stmt := topS 18
theorem sc__law_said : FnScope ["_law_m", "_law_words", "_law_k"] ["_law_m"] (defScope s__law_said) := ⟨rfl, rfl, rfl, by decide +kernel, rfl, by decide +kernel, by decide +kernel⟩
theorem d__law_said (T : Tops K mg) (g__law_draw : Has P w TB K mg base 2 "_law_draw" 2 sp__law_draw_a6e186) {fa : Addr} {cdv : Value} {A : Around} {outer : List Env} {s : Shared} {H : Hp} {E : XK} (hgd : (A.deeper (envOfC "_law_said" (defScope s__law_said) s.heap.objs.size fa cdv)).guards = some []) (hr : Room 2 (A.deeper (envOfC "_law_said" (defScope s__law_said) s.heap.objs.size fa cdv))) :
    PSs (cxOf CX0 P w K mg base ["_law_m", "_law_words", "_law_k"] "_law_said" (defScope s__law_said) fa cdv A outer s H E).nox (defBody s__law_said) (lfS K (f0 w TB) h__law_said_0811d5) := by
  have nd := sc__law_said.nd
  exact (hs_cons (hs_set (i := 1) nd rfl (.inr rfl) (hp_lst (hpa_cons (opd_e (hp_k pe_str fun _ => .str _)) (hpa_cons (opd_e (hp_k pe_str fun _ => .str _)) (hpa_cons (opd_e (hp_k pe_str fun _ => .str _)) (hpa_cons (opd_e (hp_k pe_str fun _ => .str _)) (hpa_cons (opd_e (hp_k pe_str fun _ => .str _)) (hpa_cons (opd_e (hp_k pe_str fun _ => .str _)) (hpa_cons (opd_e (hp_k pe_str fun _ => .str _)) (hpa_cons (opd_e (hp_k pe_str fun _ => .str _)) hpa_nil))))))))))
    (hs_one (hs_ret (hp_join pe_str (opd_e (hp_lc (pe_lc (own := [("_law_k", 2)]) rfl nd (hi_rng1 (by rfl) T.n_range (hpa_cons (opd_e (hp_callH g__law_draw hgd (hr.mono (by decide)) (by rfl) (hpa_cons (opd_v 0 (pv 0)) (hpa_cons (opd_e (hp_k pe_int fun _ => .int _)) hpa_nil)))) hpa_nil)) (blkOk_by (own := [("_law_k", 2)]) (N := ["_law_m", "_law_words", "_law_k"]) (sc := defScope s__law_said) (by decide +kernel)) (fun _ _ _ _ _ => (hg_name (pg_name (i := 2) nd rfl (by first | exact .inl rfl | exact .inr rfl)))) (fun _ _ _ _ _ => pts_yes) (fun _ _ _ _ _ => (hp_ix ix_seq (opd_v 1 (pv 1)) (opd_e (hp_callH g__law_draw hgd (hr.mono (by decide)) (by rfl) (hpa_cons (opd_v 0 (pv 0)) (hpa_cons (opd_e (hp_k pe_int fun _ => .int _)) hpa_nil)))) op_ixW (fun _ _ => rfl)))) (by decide) gl_name))))))
theorem has__law_said (T : Tops K mg) (g__law_draw : Has P w TB K mg base 2 "_law_draw" 2 sp__law_draw_a6e186) {fa : Addr} {fd : FuncData} (Fn : Fun K "_law_said" "_law_said" s__law_said fa fd) (hm : mg "_law_said" = some (.ref fa)) : Has P w TB K mg base 3 "_law_said" 1 sp__law_said_0811d5 :=
  Has.mk' (ps := ["_law_m"]) Fn hm (Fn.binds fun _ _ _ _ _ _ us hl => match us, hl with | [_], _ => rfl) sc__law_said (fun _ ecd _ _ _ _ _ hgd hr => d__law_said T g__law_draw hgd hr) rd__law_said_0811d5
abbrev s__law_line : Stmt := topS 19
theorem sc__law_line : FnScope ["_law_m"] ["_law_m"] (defScope s__law_line) := ⟨rfl, rfl, rfl, by decide +kernel, rfl, by decide +kernel, by decide +kernel⟩
theorem d__law_line (T : Tops K mg) (g__law_draw : Has P w TB K mg base 2 "_law_draw" 2 sp__law_draw_a6e186) {fa : Addr} {cdv : Value} {A : Around} {outer : List Env} {s : Shared} {H : Hp} {E : XK} (hgd : (A.deeper (envOfC "_law_line" (defScope s__law_line) s.heap.objs.size fa cdv)).guards = some []) (hr : Room 2 (A.deeper (envOfC "_law_line" (defScope s__law_line) s.heap.objs.size fa cdv))) :
    PSs (cxOf CX0 P w K mg base ["_law_m"] "_law_line" (defScope s__law_line) fa cdv A outer s H E).nox (defBody s__law_line) (lfS K (f0 w TB) h__law_line_508c0a) := by
  have nd := sc__law_line.nd
  exact (hs_one (hs_ret (hp_ix ix_seq (opd_e (hp_lst (hpa_cons (opd_e (hp_k pe_int fun _ => .int _)) (hpa_cons (opd_e (hp_k pe_int fun _ => .int _)) (hpa_cons (opd_e (hp_k pe_int fun _ => .int _)) (hpa_cons (opd_e (hp_k pe_int fun _ => .int _)) (hpa_cons (opd_e (hp_callH g__law_draw hgd (hr.mono (by decide)) (by rfl) (hpa_cons (opd_v 0 (pv 0)) (hpa_cons (opd_e (hp_k pe_int fun _ => .int _)) hpa_nil)))) hpa_nil))))))) (opd_e (hp_callH g__law_draw hgd (hr.mono (by decide)) (by rfl) (hpa_cons (opd_v 0 (pv 0)) (hpa_cons (opd_e (hp_k pe_int fun _ => .int _)) hpa_nil)))) op_ixW (fun _ _ => rfl))))
theorem has__law_line (T : Tops K mg) (g__law_draw : Has P w TB K mg base 2 "_law_draw" 2 sp__law_draw_a6e186) {fa : Addr} {fd : FuncData} (Fn : Fun K "_law_line" "_law_line" s__law_line fa fd) (hm : mg "_law_line" = some (.ref fa)) : Has P w TB K mg base 3 "_law_line" 1 sp__law_line_508c0a :=
  Has.mk' (ps := ["_law_m"]) Fn hm (Fn.binds fun _ _ _ _ _ _ us hl => match us, hl with | [_], _ => rfl) sc__law_line (fun _ ecd _ _ _ _ _ hgd hr => d__law_line T g__law_draw hgd hr) rd__law_line_508c0a
abbrev s__law_is : Stmt := topS 20
theorem sc__law_is : FnScope ["_law_e", "_law_kinds"] ["_law_e"] (defScope s__law_is) := ⟨rfl, rfl, rfl, by decide +kernel, rfl, by decide +kernel, by decide +kernel⟩
theorem d__law_is (T : Tops K mg)  {fa : Addr} {cdv : Value} {A : Around} {outer : List Env} {s : Shared} {H : Hp} {E : XK} (hgd : (A.deeper (envOfC "_law_is" (defScope s__law_is) s.heap.objs.size fa cdv)).guards = some []) (hr : Room 0 (A.deeper (envOfC "_law_is" (defScope s__law_is) s.heap.objs.size fa cdv))) :
    PSs (cxOf CX0 P w K mg base ["_law_e", "_law_kinds"] "_law_is" (defScope s__law_is) fa cdv A outer s H E).nox (defBody s__law_is) (lfS K (f0 w TB) h__law_is_ab3f84) := by
  have nd := sc__law_is.nd
  exact (hs_cons (hs_set (i := 1) nd rfl (.inl rfl) (hp_lst (hpa_cons (opd_e (hp_isB T.xt T.bt (by rfl) T.n_isinstance (nmC T.ex_BadDeeds (by rfl)) (opd_v 0 (pv 0)))) (hpa_cons (opd_e (hp_isB T.xt T.bt (by rfl) T.n_isinstance (nmC T.ex_BadHand (by rfl)) (opd_v 0 (pv 0)))) (hpa_cons (opd_e (hp_isB T.xt T.bt (by rfl) T.n_isinstance (nmC T.ex_BadHouse (by rfl)) (opd_v 0 (pv 0)))) (hpa_cons (opd_e (hp_isB T.xt T.bt (by rfl) T.n_isinstance (nmC T.ex_BadMachine (by rfl)) (opd_v 0 (pv 0)))) hpa_nil))))))
    (hs_cons (hs_set (i := 1) nd rfl (.inl rfl) (hp_op op_addAll (opd_v 1 (pv 1)) (opd_e (hp_lst (hpa_cons (opd_e (hp_isB T.xt T.bt (by rfl) T.n_isinstance (nmC T.ex_BadNode (by rfl)) (opd_v 0 (pv 0)))) (hpa_cons (opd_e (hp_isB T.xt T.bt (by rfl) T.n_isinstance (nmC T.ex_BadRow (by rfl)) (opd_v 0 (pv 0)))) (hpa_cons (opd_e (hp_isB T.xt T.bt (by rfl) T.n_isinstance (nmC T.ex_BadWay (by rfl)) (opd_v 0 (pv 0)))) (hpa_cons (opd_e (hp_isB T.xt T.bt (by rfl) T.n_isinstance (nmC T.ex_BadPaper (by rfl)) (opd_v 0 (pv 0)))) hpa_nil)))))) op_addW))
    (hs_one (hs_ret (hp_op op_addAll (opd_v 1 (pv 1)) (opd_e (hp_lst (hpa_cons (opd_e (hp_isB T.xt T.bt (by rfl) T.n_isinstance (nmC T.ex_NoName (by rfl)) (opd_v 0 (pv 0)))) (hpa_cons (opd_e (hp_isB T.xt T.bt (by rfl) T.n_isinstance (nmC T.ex_TooGreat (by rfl)) (opd_v 0 (pv 0)))) (hpa_cons (opd_e (hp_isB T.xt T.bt (by rfl) T.n_isinstance (nmC T.ex_BadText (by rfl)) (opd_v 0 (pv 0)))) hpa_nil))))) op_addW)))))
theorem has__law_is (T : Tops K mg)  {fa : Addr} {fd : FuncData} (Fn : Fun K "_law_is" "_law_is" s__law_is fa fd) (hm : mg "_law_is" = some (.ref fa)) : Has P w TB K mg base 1 "_law_is" 1 sp__law_is_ab3f84 :=
  Has.mk' (ps := ["_law_e"]) Fn hm (Fn.binds fun _ _ _ _ _ _ us hl => match us, hl with | [_], _ => rfl) sc__law_is (fun _ ecd _ _ _ _ _ hgd hr => d__law_is T  hgd hr) rd__law_is_ab3f84
abbrev s__law_all : Stmt := topS 21
theorem sc__law_all : FnScope ["_law_one", "_law_two", "_law_line_here", "_law_found"] ["_law_one", "_law_two", "_law_line_here"] (defScope s__law_all) := ⟨rfl, rfl, rfl, by decide +kernel, rfl, by decide +kernel, by decide +kernel⟩
theorem d__law_all (T : Tops K mg)  (gT_BadText___init__ : HasBt P w K mg base 1) {fa : Addr} {cdv : Value} {A : Around} {outer : List Env} {s : Shared} {H : Hp} {E : XK} (hgd : (A.deeper (envOfC "_law_all" (defScope s__law_all) s.heap.objs.size fa cdv)).guards = some []) (hr : Room 2 (A.deeper (envOfC "_law_all" (defScope s__law_all) s.heap.objs.size fa cdv))) :
    PSs (cxOf CX0 P w K mg base ["_law_one", "_law_two", "_law_line_here", "_law_found"] "_law_all" (defScope s__law_all) fa cdv A outer s H E).nox (defBody s__law_all) (lfS K (f0 w TB) h__law_all_39733f) := by
  have nd := sc__law_all.nd
  exact (hs_cons (hs_set (i := 3) nd rfl (.inl rfl) (hp_lstE (hpa_cons (opd_a (hp_bad T.xt T.ex_BadDeeds (by decide) (by rfl) (hp_v 0 (pv 0)))) (hpa_cons (opd_a (hp_bad T.xt T.ex_BadHand (by decide) (by rfl) (hp_v 1 (pv 1)))) (hpa_cons (opd_a (hp_bad T.xt T.ex_BadHouse (by decide) (by rfl) (hp_v 0 (pv 0)))) (hpa_cons (opd_a (hp_bad T.xt T.ex_BadMachine (by decide) (by rfl) (hp_v 1 (pv 1)))) (hpa_cons (opd_a (hp_bad T.xt T.ex_BadNode (by decide) (by rfl) (hp_v 0 (pv 0)))) (hpa_cons (opd_a (hp_bad T.xt T.ex_BadRow (by decide) (by rfl) (hp_v 1 (pv 1)))) (hpa_cons (opd_a (hp_bad T.xt T.ex_BadWay (by decide) (by rfl) (hp_v 0 (pv 0)))) hpa_nil)))))))))
    (hs_one (hs_ret (hp_op op_addAll (opd_v 3 (pv 3)) (opd_a (hp_lstE (hpa_cons (opd_a (hp_bad T.xt T.ex_BadPaper (by decide) (by rfl) (hp_v 1 (pv 1)))) (hpa_cons (opd_a (hp_bad T.xt T.ex_NoName (by decide) (by rfl) (hp_v 0 (pv 0)))) (hpa_cons (opd_a (hp_bad T.xt T.ex_TooGreat (by decide) (by rfl) (hp_v 1 (pv 1)))) (hpa_cons (opd_a (hp_bt T.bt gT_BadText___init__ hgd (hr.mono (by decide)) (by rfl) (hp_v 2 (pv 2)))) hpa_nil)))))) op_addLE))))
theorem has__law_all (T : Tops K mg)  (gT_BadText___init__ : HasBt P w K mg base 1) {fa : Addr} {fd : FuncData} (Fn : Fun K "_law_all" "_law_all" s__law_all fa fd) (hm : mg "_law_all" = some (.ref fa)) : Has P w TB K mg base 3 "_law_all" 3 sp__law_all_39733f :=
  Has.mk' (ps := ["_law_one", "_law_two", "_law_line_here"]) Fn hm (Fn.binds fun _ _ _ _ _ _ us hl => match us, hl with | [_, _, _], _ => rfl) sc__law_all (fun _ ecd _ _ _ _ _ hgd hr => d__law_all T gT_BadText___init__ hgd hr) rd__law_all_39733f
abbrev s_law : Stmt := topS 22
theorem sc_law : FnScope ["_law_script", "_law_m", "_law_turn", "_law_one", "_law_two", "_law_line_here", "_law_some", "_law_k", "_law_spot"] ["_law_script"] (defScope s_law) := ⟨rfl, rfl, rfl, by decide +kernel, rfl, by decide +kernel, by decide +kernel⟩
theorem d_law (T : Tops K mg) {fb : Addr} {fdb : FuncData} (Gb : GnOk P w K mg base CX0 2 fb fdb ["_law_script"] (spBegun K)) (hb : mg "_law_begun" = some (.ref fb)) (kb : PySem.W.keepIn K (.ref fb) = true) (bb : Binds K fdb ["_law_script"] []) (g__law_is : Has P w TB K mg base 1 "_law_is" 1 sp__law_is_ab3f84) (g__law_all : Has P w TB K mg base 3 "_law_all" 3 sp__law_all_39733f) (g__law_line : Has P w TB K mg base 3 "_law_line" 1 sp__law_line_508c0a) (g__law_said : Has P w TB K mg base 3 "_law_said" 1 sp__law_said_0811d5) (gT_BadText___init__ : HasBt P w K mg base 1) {fa : Addr} {cdv : Value} {A : Around} {outer : List Env} {s : Shared} {H : Hp} {E : XK} (hgd : (A.deeper (envOfC "law" (defScope s_law) s.heap.objs.size fa cdv)).guards = some []) (hr : Room 3 (A.deeper (envOfC "law" (defScope s_law) s.heap.objs.size fa cdv))) :
    PSs (cxOf CX0 P w K mg base ["_law_script", "_law_m", "_law_turn", "_law_one", "_law_two", "_law_line_here", "_law_some", "_law_k", "_law_spot"] "law" (defScope s_law) fa cdv A outer s H E).nox (defBody s_law) (tSeq (tAsg (tCall (spBegun K) [] E0 (tCons (tVar 0) tNil)) (gName 1)) (lfS K (f0 w TB) h_law_9a118f)) := by
  have nd := sc_law.nd
  exact pss_cons (ps_set (i := 1) nd rfl (.inl rfl) (pe_callG Gb hgd (hr.mono (by decide)) (by rfl) hb kb bb pass0 (pa_cons (pv 0) pa_nil)))
    (hs_cons (hs_for PassesOwn.never rfl (hi_rng1 (by rfl) T.n_range (hpa_cons (opd_e (hp_k pe_int fun _ => .int _)) hpa_nil)) (hg_name (pg_name (i := 2) nd rfl (by first | exact .inl rfl | exact .inr rfl))) (hs_cons (hs_par3D (fun h => ps_par3 (i := 3) (j := 4) (l := 5) rfl nd rfl rfl rfl (by decide) (by decide) (by decide) rfl rfl rfl h (by rfl)) (hpa_cons (opd_e (hp_callH g__law_said hgd (hr.mono (by decide)) (by rfl) (hpa_cons (opd_v 1 (pv 1)) hpa_nil))) (hpa_cons (opd_e (hp_callH g__law_said hgd (hr.mono (by decide)) (by rfl) (hpa_cons (opd_v 1 (pv 1)) hpa_nil))) (hpa_cons (opd_e (hp_callH g__law_line hgd (hr.mono (by decide)) (by rfl) (hpa_cons (opd_v 1 (pv 1)) hpa_nil))) hpa_nil))))
    (hs_cons (hs_set (i := 6) nd rfl (.inl rfl) (hp_callH g__law_all hgd (hr.mono (by decide)) (by rfl) (hpa_cons (opd_v 3 (pv 3)) (hpa_cons (opd_v 4 (pv 4)) (hpa_cons (opd_v 5 (pv 5)) hpa_nil)))))
    (hs_cons (hs_for PassesOwn.never rfl (hi_rng1 (by rfl) T.n_range (hpa_cons (opd_e (hp_k pe_int fun _ => .int _)) hpa_nil)) (hg_name (pg_name (i := 7) nd rfl (by first | exact .inl rfl | exact .inr rfl))) (hs_cons (hs_if (ht_cmp (op_neP (u64 hr)) (opd_e (hp_callH g__law_is hgd (hr.mono (by decide)) (by rfl) (hpa_cons (opd_a (hp_ix ix_seq (opd_v 6 (pv 6)) (opd_v 7 (pv 7)) op_ixLE (fun _ _ => rfl))) hpa_nil))) (opd_e (hp_lc (pe_lc (own := [("_law_spot", 8)]) rfl nd (hi_rng1 (by rfl) T.n_range (hpa_cons (opd_e (hp_k pe_int fun _ => .int _)) hpa_nil)) (blkOk_by (own := [("_law_spot", 8)]) (N := ["_law_script", "_law_m", "_law_turn", "_law_one", "_law_two", "_law_line_here", "_law_some", "_law_k", "_law_spot"]) (sc := defScope s_law) (by decide +kernel)) (fun _ _ _ _ _ => (hg_name (pg_name (i := 8) nd rfl (by first | exact .inl rfl | exact .inr rfl)))) (fun _ _ _ _ _ => pts_yes) (fun _ _ _ _ _ => (hp_cmp (op_eqP (u64 hr)) (opd_v 7 (pv 7)) (opd_v 8 (pv 8)) op_eqPW (nomark _)))) (by decide) gl_name)) op_eqPW (nomark _)) (hs_one (hs_ret (hp_k pe_bl fun _ => .bl _))) hs_nil)
    (hs_one (hs_if (PW.pt (ht_or (ht_not (hp_test (hp_isB T.xt T.bt (by rfl) T.n_isinstance (nmC T.ex_HandError (by rfl)) (opd_a (hp_ix ix_seq (opd_v 6 (pv 6)) (opd_v 7 (pv 7)) op_ixLE (fun _ _ => rfl)))))) (ht_or1 (ht_not (hp_test (hp_isBV T.xt T.bt (by rfl) T.n_isinstance (pe_bltn (v := .ty "ValueError") (u := .type "ValueError") (by rfl) T.n_ValueError (by decide +kernel) rfl) (opd_a (hp_ix ix_seq (opd_v 6 (pv 6)) (opd_v 7 (pv 7)) op_ixLE (fun _ _ => rfl))))))))) (hs_one (hs_ret (hp_k pe_bl fun _ => .bl _))) hs_nil))))
    (hs_one (hs_if (ht_cmp (op_neP (u64 hr)) (opd_e (hp_callB (call_repr hgd (u150 hr)) op_reprW (by rfl) T.n_repr (by decide +kernel) (hpa_cons (opd_e (hp_line T.bt (hp_bt T.bt gT_BadText___init__ hgd (hr.mono (by decide)) (by rfl) (hp_v 5 (pv 5))))) hpa_nil))) (opd_e (hp_callB (call_repr hgd (u150 hr)) op_reprW (by rfl) T.n_repr (by decide +kernel) (hpa_cons (opd_v 5 (pv 5)) hpa_nil))) op_eqPW (nomark _)) (hs_one (hs_ret (hp_k pe_bl fun _ => .bl _))) hs_nil))))))
    (hs_one (hs_ret (hp_cmp (op_eqP (u64 hr)) (opd_e (hp_lst (hpa_cons (opd_e (hp_line T.bt (hp_bt T.bt gT_BadText___init__ hgd (hr.mono (by decide)) (by rfl) (hp_k pe_int fun _ => .int _)))) (hpa_cons (opd_e (hp_line T.bt (hp_bt T.bt gT_BadText___init__ hgd (hr.mono (by decide)) (by rfl) (hp_k pe_int fun _ => .int _)))) (hpa_cons (opd_e (hp_line T.bt (hp_bt T.bt gT_BadText___init__ hgd (hr.mono (by decide)) (by rfl) (hp_k pe_int fun _ => .int _)))) hpa_nil))))) (opd_e (hp_lst (hpa_cons (opd_e (hp_k pe_int fun _ => .int _)) (hpa_cons (opd_e (hp_k pe_int fun _ => .int _)) (hpa_cons (opd_e (hp_k pe_int fun _ => .int _)) hpa_nil))))) op_eqPW (nomark _)))))
end
section
variable {P : Program} {w : World} {TB : Tbs} {K : PySem.W.Frag} {mg : Str → Option Value} {base : Heap}
abbrev s__law_draw : Stmt := topS 16
theorem sc__law_draw : FnScope ["_law_m", "_law_many", "_law_k", "_law_at", "_law_cell"] ["_law_m", "_law_many"] (defScope s__law_draw) := ⟨rfl, rfl, rfl, by decide +kernel, rfl, by decide +kernel, by decide +kernel⟩
theorem d__law_draw {P : Program} {w : World} {T : Tbs} {K : PySem.W.Frag} {mg : Str → Option Value} {base : Heap} (zl : mg "len" = none) (g__law_mixed : Has P w T K mg base 1 "_law_mixed" 2 spMixed) {fa : Addr} {cdv : Value} {A : Around} {outer : List Env} {s : Shared} {H : Hp} {E : XK} (hgd : (A.deeper (envOfC "_law_draw" (defScope s__law_draw) s.heap.objs.size fa cdv)).guards = some []) (hr : Room 1 (A.deeper (envOfC "_law_draw" (defScope s__law_draw) s.heap.objs.size fa cdv))) :
    PSs (cxOf CX0 P w K mg base ["_law_m", "_law_many", "_law_k", "_law_at", "_law_cell"] "_law_draw" (defScope s__law_draw) fa cdv A outer s H E).nox (defBody s__law_draw) (t_draw K w T) := by
  have nd := sc__law_draw.nd
  obtain ⟨fm, fd, ps, _, G, hm, kp, b⟩ := g__law_mixed.ex
  exact pss_cons (ps_set (i := 2) nd rfl (.inl rfl) (pe_dget (u1 hr) (pv 0) pe_str (fun _ _ => rfl)))
    (pss_cons (ps_dput (u1 hr) (pv 0) pe_str (pe_op op_add (pv 2) pe_int) rfl)
    (pss_cons (ps_if (pt_cmpR (op_neP (u64 hr)) (pe_dget (u1 hr) (pv 0) pe_str (fun _ _ => rfl)) (pe_lst pa_nil) (nomark _))
        (pss_cons (ps_set (i := 3) nd rfl (.inl rfl) (pe_op op_mod (pv 2) (pe_callB call_len_seq (by rfl) zl PySem.boot_len (pa_cons (pe_dget (u1 hr) (pv 0) pe_str (fun _ _ => rfl)) pa_nil))))
        (pss_cons (ps_set (i := 4) nd rfl (.inl rfl) (pe_ix ix_list (pe_dget (u1 hr) (pv 0) pe_str (fun _ _ => rfl)) (pv 3) (fun _ _ => rfl)))
        (pss_one (ps_if (pt_cmpR op_gt (pv 4) pe_int (nomark _))
          (pss_cons (ps_asg (pe_op op_fdivW (pv 4) (pv 1)) (pg_sub (pe_dget (u1 hr) (pv 0) pe_str (fun _ _ => rfl)) (pv 3) set_list))
          (pss_one (ps_ret (pe_op op_mod (pv 4) (pv 1))))) pss_nil)))) pss_nil)
    (pss_one (ps_ret (pe_op op_mod (pe_callG G hgd (hr.mono (by decide)) (by rfl) hm kp b pass0 (pa_cons (pe_callG G hgd (hr.mono (by decide)) (by rfl) hm kp b pass0 (pa_cons (pe_op op_add (pe_ix ix_list (pe_dget (u1 hr) (pv 0) pe_str (fun _ _ => rfl)) (pe_op op_mod (pv 2) pe_int) (fun _ _ => rfl)) (pe_op op_mulW pe_int (pe_op op_fdivW (pv 2) pe_int))) (pa_cons (pv 2) pa_nil))) (pa_cons (pe_op op_add (pv 2) pe_int) pa_nil))) (pv 1))))))

abbrev s__law_begun : Stmt := topS 17
theorem sc__law_begun : FnScope ["_law_script", "_law_m", "_law_cell"] ["_law_script"] (defScope s__law_begun) := ⟨rfl, rfl, rfl, by decide +kernel, rfl, by decide +kernel, by decide +kernel⟩
theorem d__law_begun {P : Program} {w : World} {K : PySem.W.Frag} {mg : Str → Option Value} {base : Heap} (g__law_folded : Has P w [] K mg base 1 "_law_folded" 1 spFolded) {fa : Addr} {cdv : Value} {A : Around} {outer : List Env} {s : Shared} {H : Hp} {E : XK} (hgd : (A.deeper (envOfC "_law_begun" (defScope s__law_begun) s.heap.objs.size fa cdv)).guards = some []) (hr : Room 1 (A.deeper (envOfC "_law_begun" (defScope s__law_begun) s.heap.objs.size fa cdv))) :
    PSs (cxOf CX0 P w K mg base ["_law_script", "_law_m", "_law_cell"] "_law_begun" (defScope s__law_begun) fa cdv A outer s H E).nox (defBody s__law_begun) (t_begun K w []) := by
  have nd := sc__law_begun.nd
  obtain ⟨fm, fd, ps, _, G, hm, kp, b⟩ := g__law_folded.ex
  exact pss_cons (ps_set (i := 1) nd rfl (.inl rfl) (pe_disp (pps_cons pe_str (pe_callG G hgd (hr.mono (by decide)) (by rfl) hm kp b pass0 (pa_cons (pv 0) pa_nil)) (pps_cons pe_str (pe_lst pa_nil) (pps_cons pe_str pe_int pps_nil))) (by rfl) (by rfl) (fun z => by cases z) (by decide)))
    (pss_cons (ps_dput (u1 hr) (pv 1) pe_str (hp_lc (pe_lc (own := [("_law_cell", 2)]) rfl nd (hi_list (hp_v 0 (pv 0))) (blkOk_by (own := [("_law_cell", 2)]) (N := ["_law_script", "_law_m", "_law_cell"]) (sc := defScope s__law_begun) (by decide +kernel)) (fun _ _ _ _ _ => (hg_name (pg_name (i := 2) nd rfl (.inl rfl)))) (fun _ _ _ _ _ => pts_yes)
      (fun _ _ _ _ _ => (hp_if (ht_cmp op_ge (opd_v 2 (pv 2)) (opd_e (hp_op op_pow (opd_e (hp_k pe_int fun _ => .int _)) (opd_e (hp_k pe_int fun _ => .int _)) op_powW)) op_geW (nomark _)) (hp_v 2 (pv 2)) (hp_k pe_int fun _ => .int _)))) (by decide) gl_name) rfl)
    (pss_one (ps_ret (pv 1))))

theorem all_mk {w : World} {K : PySem.W.Frag} {h : Heap} {mg : Str → Option Value} {fa : Addr} (X : K.In h) (G : h.Ns mainGlobals mg) (hfa : mg "law" = some (.ref fa))
    (xo_bt : btOk K = true)
    {f1 : Addr} {od1 an1 : Option Addr} {sl1 : Array (Option Value)} {oc1 kV1 dc1 pm1 cd1 ct1 : Value} (a1 : PySem.W.nsIn K mainGlobals "_law_mixed" = some (some (.ref f1))) (l1 : K.lookup f1 = some ⟨oc1, od1, .func (PySem.W.fnOf "_law_mixed" "_law_mixed" (defArgs s__law_mixed) (defBody s__law_mixed) (defScope s__law_mixed) .none kV1 dc1 pm1 an1 cd1 ct1), sl1⟩) (c1 : PySem.W.codeIn K cd1 "_law_mixed" = true) (k1 : PySem.W.keepIn K (.ref f1) = true)
    {f2 : Addr} {od2 an2 : Option Addr} {sl2 : Array (Option Value)} {oc2 kV2 dc2 pm2 cd2 ct2 : Value} (a2 : PySem.W.nsIn K mainGlobals "_law_folded" = some (some (.ref f2))) (l2 : K.lookup f2 = some ⟨oc2, od2, .func (PySem.W.fnOf "_law_folded" "_law_folded" (defArgs s__law_folded) (defBody s__law_folded) (defScope s__law_folded) .none kV2 dc2 pm2 an2 cd2 ct2), sl2⟩) (c2 : PySem.W.codeIn K cd2 "_law_folded" = true) (k2 : PySem.W.keepIn K (.ref f2) = true)
    {f3 : Addr} {od3 an3 : Option Addr} {sl3 : Array (Option Value)} {oc3 kV3 dc3 pm3 cd3 ct3 : Value} (a3 : PySem.W.nsIn K mainGlobals "_law_draw" = some (some (.ref f3))) (l3 : K.lookup f3 = some ⟨oc3, od3, .func (PySem.W.fnOf "_law_draw" "_law_draw" (defArgs s__law_draw) (defBody s__law_draw) (defScope s__law_draw) .none kV3 dc3 pm3 an3 cd3 ct3), sl3⟩) (c3 : PySem.W.codeIn K cd3 "_law_draw" = true) (k3 : PySem.W.keepIn K (.ref f3) = true)
    {f4 : Addr} {od4 an4 : Option Addr} {sl4 : Array (Option Value)} {oc4 kV4 dc4 pm4 cd4 ct4 : Value} (a4 : PySem.W.nsIn K mainGlobals "_law_begun" = some (some (.ref f4))) (l4 : K.lookup f4 = some ⟨oc4, od4, .func (PySem.W.fnOf "_law_begun" "_law_begun" (defArgs s__law_begun) (defBody s__law_begun) (defScope s__law_begun) .none kV4 dc4 pm4 an4 cd4 ct4), sl4⟩) (c4 : PySem.W.codeIn K cd4 "_law_begun" = true) (k4 : PySem.W.keepIn K (.ref f4) = true)
    {f5 : Addr} {od5 an5 : Option Addr} {sl5 : Array (Option Value)} {oc5 kV5 dc5 pm5 cd5 ct5 : Value} (a5 : PySem.W.nsIn K mainGlobals "_law_said" = some (some (.ref f5))) (l5 : K.lookup f5 = some ⟨oc5, od5, .func (PySem.W.fnOf "_law_said" "_law_said" (defArgs s__law_said) (defBody s__law_said) (defScope s__law_said) .none kV5 dc5 pm5 an5 cd5 ct5), sl5⟩) (c5 : PySem.W.codeIn K cd5 "_law_said" = true) (k5 : PySem.W.keepIn K (.ref f5) = true)
    {f6 : Addr} {od6 an6 : Option Addr} {sl6 : Array (Option Value)} {oc6 kV6 dc6 pm6 cd6 ct6 : Value} (a6 : PySem.W.nsIn K mainGlobals "_law_line" = some (some (.ref f6))) (l6 : K.lookup f6 = some ⟨oc6, od6, .func (PySem.W.fnOf "_law_line" "_law_line" (defArgs s__law_line) (defBody s__law_line) (defScope s__law_line) .none kV6 dc6 pm6 an6 cd6 ct6), sl6⟩) (c6 : PySem.W.codeIn K cd6 "_law_line" = true) (k6 : PySem.W.keepIn K (.ref f6) = true)
    {f7 : Addr} {od7 an7 : Option Addr} {sl7 : Array (Option Value)} {oc7 kV7 dc7 pm7 cd7 ct7 : Value} (a7 : PySem.W.nsIn K mainGlobals "_law_is" = some (some (.ref f7))) (l7 : K.lookup f7 = some ⟨oc7, od7, .func (PySem.W.fnOf "_law_is" "_law_is" (defArgs s__law_is) (defBody s__law_is) (defScope s__law_is) .none kV7 dc7 pm7 an7 cd7 ct7), sl7⟩) (c7 : PySem.W.codeIn K cd7 "_law_is" = true) (k7 : PySem.W.keepIn K (.ref f7) = true)
    {f8 : Addr} {od8 an8 : Option Addr} {sl8 : Array (Option Value)} {oc8 kV8 dc8 pm8 cd8 ct8 : Value} (a8 : PySem.W.nsIn K mainGlobals "_law_all" = some (some (.ref f8))) (l8 : K.lookup f8 = some ⟨oc8, od8, .func (PySem.W.fnOf "_law_all" "_law_all" (defArgs s__law_all) (defBody s__law_all) (defScope s__law_all) .none kV8 dc8 pm8 an8 cd8 ct8), sl8⟩) (c8 : PySem.W.codeIn K cd8 "_law_all" = true) (k8 : PySem.W.keepIn K (.ref f8) = true)
    {f9 : Addr} {od9 an9 : Option Addr} {sl9 : Array (Option Value)} {oc9 kV9 dc9 pm9 cd9 ct9 : Value} (a9 : PySem.W.nsIn K mainGlobals "law" = some (some (.ref f9))) (l9 : K.lookup f9 = some ⟨oc9, od9, .func (PySem.W.fnOf "law" "law" (defArgs s_law) (defBody s_law) (defScope s_law) .none kV9 dc9 pm9 an9 cd9 ct9), sl9⟩) (c9 : PySem.W.codeIn K cd9 "law" = true) (k9 : PySem.W.keepIn K (.ref f9) = true)
    (z0 : PySem.W.nsIn K mainGlobals "ValueError" = some none)
    (z1 : PySem.W.nsIn K mainGlobals "enumerate" = some none)
    (z2 : PySem.W.nsIn K mainGlobals "isinstance" = some none)
    (z3 : PySem.W.nsIn K mainGlobals "len" = some none)
    (z4 : PySem.W.nsIn K mainGlobals "range" = some none)
    (z5 : PySem.W.nsIn K mainGlobals "repr" = some none)
    {C_BadDeeds : Addr} (xc_BadDeeds : PySem.W.nsIn K mainGlobals "BadDeeds" = some (some (.ref C_BadDeeds)))
    {C_BadHand : Addr} (xc_BadHand : PySem.W.nsIn K mainGlobals "BadHand" = some (some (.ref C_BadHand)))
    {C_BadHouse : Addr} (xc_BadHouse : PySem.W.nsIn K mainGlobals "BadHouse" = some (some (.ref C_BadHouse)))
    {C_BadMachine : Addr} (xc_BadMachine : PySem.W.nsIn K mainGlobals "BadMachine" = some (some (.ref C_BadMachine)))
    {C_BadNode : Addr} (xc_BadNode : PySem.W.nsIn K mainGlobals "BadNode" = some (some (.ref C_BadNode)))
    {C_BadPaper : Addr} (xc_BadPaper : PySem.W.nsIn K mainGlobals "BadPaper" = some (some (.ref C_BadPaper)))
    {C_BadRow : Addr} (xc_BadRow : PySem.W.nsIn K mainGlobals "BadRow" = some (some (.ref C_BadRow)))
    {C_BadText : Addr} (xc_BadText : PySem.W.nsIn K mainGlobals "BadText" = some (some (.ref C_BadText)))
    {C_BadWay : Addr} (xc_BadWay : PySem.W.nsIn K mainGlobals "BadWay" = some (some (.ref C_BadWay)))
    {C_HandError : Addr} (xc_HandError : PySem.W.nsIn K mainGlobals "HandError" = some (some (.ref C_HandError)))
    {C_NoName : Addr} (xc_NoName : PySem.W.nsIn K mainGlobals "NoName" = some (some (.ref C_NoName)))
    {C_TooGreat : Addr} (xc_TooGreat : PySem.W.nsIn K mainGlobals "TooGreat" = some (some (.ref C_TooGreat)))
    {f0 : Addr} {od0 an0 : Option Addr} {sl0 : Array (Option Value)} {oc0 kV0 dc0 pm0 cd0 ct0 : Value} (a0 : PySem.W.findIn K (.ref C_BadText) "__init__" = some (some (.ref f0))) (l0 : K.lookup f0 = some ⟨oc0, od0, .func (PySem.W.fnOf "__init__" "BadText.__init__" (defArgs s_BadText___init__) (defBody s_BadText___init__) (defScope s_BadText___init__) .none kV0 dc0 pm0 an0 cd0 ct0), sl0⟩) (c0 : PySem.W.codeIn K cd0 "BadText.__init__" = true) (k0 : PySem.W.keepIn K (.ref f0) = true) (ty0 : PySem.W.typeIn K (.ref f0) = some (.type "function"))
    (xh_rd : PySem.W.readsIn K C_HandError (.type "type") = true) (xh_ga : PySem.W.specialIn K (.ref C_HandError) "__getattribute__" = some (some (.builtin "type.__getattribute__"))) (xh_v : PySem.W.findCls K (.ref C_HandError) (.type "type") "__init__" = some (.val (.builtin "ValueError.__init__")))
    (xo_BadDeeds : exOk K "BadDeeds" = true)
    (xo_BadHand : exOk K "BadHand" = true)
    (xo_BadHouse : exOk K "BadHouse" = true)
    (xo_BadMachine : exOk K "BadMachine" = true)
    (xo_BadNode : exOk K "BadNode" = true)
    (xo_BadRow : exOk K "BadRow" = true)
    (xo_BadWay : exOk K "BadWay" = true)
    (xo_BadPaper : exOk K "BadPaper" = true)
    (xo_NoName : exOk K "NoName" = true)
    (xo_TooGreat : exOk K "TooGreat" = true)
    (xo_non : exNon K = true)
    : ∃ fd : FuncData, (∀ (s : Shared) (v : Value), BindsTo s fd ⟨[v], []⟩ [("_law_script", v)]) ∧ ∀ base : Heap, K.In base → base.Ns mainGlobals mg → GnOk P w K mg base CX0 4 fa fd ["_law_script"] (spLaw K []) := by
  have e := hfa.symm.trans (PySem.W.mg_of X G a9)
  cases e
  have T : Tops K mg := { n_ValueError := PySem.W.mg_none_of X G z0, n_enumerate := PySem.W.mg_none_of X G z1, n_isinstance := PySem.W.mg_none_of X G z2, n_len := PySem.W.mg_none_of X G z3, n_range := PySem.W.mg_none_of X G z4, n_repr := PySem.W.mg_none_of X G z5, ex_BadDeeds := ⟨_, xc_BadDeeds, PySem.W.mg_of X G xc_BadDeeds⟩, ex_BadHand := ⟨_, xc_BadHand, PySem.W.mg_of X G xc_BadHand⟩, ex_BadHouse := ⟨_, xc_BadHouse, PySem.W.mg_of X G xc_BadHouse⟩, ex_BadMachine := ⟨_, xc_BadMachine, PySem.W.mg_of X G xc_BadMachine⟩, ex_BadNode := ⟨_, xc_BadNode, PySem.W.mg_of X G xc_BadNode⟩, ex_BadPaper := ⟨_, xc_BadPaper, PySem.W.mg_of X G xc_BadPaper⟩, ex_BadRow := ⟨_, xc_BadRow, PySem.W.mg_of X G xc_BadRow⟩, ex_BadText := ⟨_, xc_BadText, PySem.W.mg_of X G xc_BadText⟩, ex_BadWay := ⟨_, xc_BadWay, PySem.W.mg_of X G xc_BadWay⟩, ex_HandError := ⟨_, xc_HandError, PySem.W.mg_of X G xc_HandError⟩, ex_NoName := ⟨_, xc_NoName, PySem.W.mg_of X G xc_NoName⟩, ex_TooGreat := ⟨_, xc_TooGreat, PySem.W.mg_of X G xc_TooGreat⟩, bt := xo_bt, xt := ⟨fun x hx => by (simp only [exNames, List.mem_cons, List.not_mem_nil, or_false] at hx; rcases hx with rfl | rfl | rfl | rfl | rfl | rfl | rfl | rfl | rfl | rfl <;> assumption), xo_non⟩ }
  have F0 := fun_mk (st := s_BadText___init__) l0 c0 k0
  have F1 := fun_mk (st := s__law_mixed) l1 c1 k1
  have F2 := fun_mk (st := s__law_folded) l2 c2 k2
  have F3 := fun_mk (st := s__law_draw) l3 c3 k3
  have F4 := fun_mk (st := s__law_begun) l4 c4 k4
  have F5 := fun_mk (st := s__law_said) l5 c5 k5
  have F6 := fun_mk (st := s__law_line) l6 c6 k6
  have F7 := fun_mk (st := s__law_is) l7 c7 k7
  have F8 := fun_mk (st := s__law_all) l8 c8 k8
  have F9 := fun_mk (st := s_law) l9 c9 k9
  refine ⟨PySem.W.fnOf "law" "law" (defArgs s_law) (defBody s_law) (defScope s_law) .none kV9 dc9 pm9 an9 cd9 ct9, fun s v => .of_eq rfl, fun base _ _ => ?_⟩
  have gT_BadText___init__ := hasT_BadText___init__ (P := P) (w := w) (base := base) F0 xc_BadText (PySem.W.mg_of X G xc_BadText) a0 ty0 (PySem.W.mg_of X G xc_HandError) ⟨xh_rd, xh_ga⟩ xh_v
  have g__law_mixed := has__law_mixed (P := P) (w := w) (TB := []) (base := base) T  F1 (PySem.W.mg_of X G a1)
  have g__law_folded := has__law_folded (P := P) (w := w) (TB := []) (base := base) T  F2 (PySem.W.mg_of X G a2)
  have g__law_is := has__law_is (P := P) (w := w) (TB := []) (base := base) T  F7 (PySem.W.mg_of X G a7)
  have g__law_draw : Has P w [] K mg base 2 "_law_draw" 2 spDraw := has_draw (k := 1) (by decide) F3 (PySem.W.mg_of X G a3) rfl (F3.binds fun _ _ _ _ _ _ us hl => match us, hl with | [_, _], _ => rfl) sc__law_draw (fun _ _ _ _ _ _ _ hgd hr => d__law_draw T.n_len g__law_mixed hgd hr) fun _ _ _ _ h => rd_draw h
  have g__law_said := has__law_said (P := P) (w := w) (TB := []) (base := base) T g__law_draw F5 (PySem.W.mg_of X G a5)
  have g__law_line := has__law_line (P := P) (w := w) (TB := []) (base := base) T g__law_draw F6 (PySem.W.mg_of X G a6)
  have g__law_all := has__law_all (P := P) (w := w) (TB := []) (base := base) T gT_BadText___init__ F8 (PySem.W.mg_of X G a8)
  have Gb : GnOk P w K mg base CX0 2 f4 _ ["_law_script"] (spBegun K) := begun_ok F4 sc__law_begun (fun _ _ _ _ _ _ _ hgd hr => d__law_begun g__law_folded hgd hr) fun _ _ _ _ h => rd_begun (kv := []) ⟨0, rfl⟩ (fun _ _ => rfl) h
  exact ok_law (T := []) (n := 7) F9 sc_law rfl (fun _ ecd _ _ _ _ _ hgd hr => d_law T Gb (PySem.W.mg_of X G a4) F4.kp (F4.binds fun _ _ _ _ _ _ us hl => match us, hl with | [_], _ => rfl) g__law_is g__law_all g__law_line g__law_said gT_BadText___init__ hgd hr) rd_law_9a118f
end
end Sk
open PySem PySem.W PyProof.Rows
set_option maxHeartbeats 0 in
theorem PySem.Challenge.cw_standhouse_k93_refusals_made_holds : PySem.Challenge.rw_standhouse_k93_refusals_made.Holds := by
  w_on; o_law; k_head; (case hw => w_witness2)
  k_fill
  refine Sk.walk_ofG (l := PySem.Challenge.rw_standhouse_k93_refusals_made) (n := 63) (k := 4) (x := "_law_script") (spw := fun w => Sk.spLaw _ []) rfl (by decide) rfl ⟨rfl, by decide, by decide⟩ (fun w h Y => PySem.W.kIn_of Y) ?F (fun w H a ns hl hO hS => ⟨(fun _ h => by cases h), a, ns, rfl, hS, hl, fun _ => rfl⟩)
  case F =>
    intro w mg fa h KX G hmg
    refine' Sk.all_mk KX G hmg ?xo_bt ?a1 ?l1 ?c1 ?k1 ?a2 ?l2 ?c2 ?k2 ?a3 ?l3 ?c3 ?k3 ?a4 ?l4 ?c4 ?k4 ?a5 ?l5 ?c5 ?k5 ?a6 ?l6 ?c6 ?k6 ?a7 ?l7 ?c7 ?k7 ?a8 ?l8 ?c8 ?k8 ?a9 ?l9 ?c9 ?k9 ?z0 ?z1 ?z2 ?z3 ?z4 ?z5 ?xc_BadDeeds ?xc_BadHand ?xc_BadHouse ?xc_BadMachine ?xc_BadNode ?xc_BadPaper ?xc_BadRow ?xc_BadText ?xc_BadWay ?xc_HandError ?xc_NoName ?xc_TooGreat ?a0 ?l0 ?c0 ?k0 ?ty0 ?xh_rd ?xh_ga ?xh_v ?xo_BadDeeds ?xo_BadHand ?xo_BadHouse ?xo_BadMachine ?xo_BadNode ?xo_BadRow ?xo_BadWay ?xo_BadPaper ?xo_NoName ?xo_TooGreat ?xo_non
    (case xo_bt => first | kernel_rfl | exact rfl)
    (case a1 => k_is)
    (case l1 => k_is)
    (case c1 => k_is)
    (case k1 => k_is)
    (case a2 => k_is)
    (case l2 => k_is)
    (case c2 => k_is)
    (case k2 => k_is)
    (case a3 => k_is)
    (case l3 => k_is)
    (case c3 => k_is)
    (case k3 => k_is)
    (case a4 => k_is)
    (case l4 => k_is)
    (case c4 => k_is)
    (case k4 => k_is)
    (case a5 => k_is)
    (case l5 => k_is)
    (case c5 => k_is)
    (case k5 => k_is)
    (case a6 => k_is)
    (case l6 => k_is)
    (case c6 => k_is)
    (case k6 => k_is)
    (case a7 => k_is)
    (case l7 => k_is)
    (case c7 => k_is)
    (case k7 => k_is)
    (case a8 => k_is)
    (case l8 => k_is)
    (case c8 => k_is)
    (case k8 => k_is)
    (case a9 => k_is)
    (case l9 => k_is)
    (case c9 => k_is)
    (case k9 => k_is)
    (case z0 => k_is)
    (case z1 => k_is)
    (case z2 => k_is)
    (case z3 => k_is)
    (case z4 => k_is)
    (case z5 => k_is)
    (case xc_BadDeeds => k_is)
    (case xc_BadHand => k_is)
    (case xc_BadHouse => k_is)
    (case xc_BadMachine => k_is)
    (case xc_BadNode => k_is)
    (case xc_BadPaper => k_is)
    (case xc_BadRow => k_is)
    (case xc_BadText => k_is)
    (case xc_BadWay => k_is)
    (case xc_HandError => k_is)
    (case xc_NoName => k_is)
    (case xc_TooGreat => k_is)
    (case a0 => first | k_is | kernel_rfl | exact rfl)
    (case l0 => k_is)
    (case c0 => k_is)
    (case k0 => k_is)
    (case ty0 => first | k_is | kernel_rfl | exact rfl)
    (case xh_rd => first | k_is | kernel_rfl | exact rfl)
    (case xh_ga => first | k_is | kernel_rfl | exact rfl)
    (case xh_v => first | k_is | kernel_rfl | exact rfl)
    (case xo_BadDeeds => first | kernel_rfl | exact rfl)
    (case xo_BadHand => first | kernel_rfl | exact rfl)
    (case xo_BadHouse => first | kernel_rfl | exact rfl)
    (case xo_BadMachine => first | kernel_rfl | exact rfl)
    (case xo_BadNode => first | kernel_rfl | exact rfl)
    (case xo_BadRow => first | kernel_rfl | exact rfl)
    (case xo_BadWay => first | kernel_rfl | exact rfl)
    (case xo_BadPaper => first | kernel_rfl | exact rfl)
    (case xo_NoName => first | kernel_rfl | exact rfl)
    (case xo_TooGreat => first | kernel_rfl | exact rfl)
    (case xo_non => first | kernel_rfl | exact rfl)
