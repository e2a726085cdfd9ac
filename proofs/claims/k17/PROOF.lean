import PyProof.Rows.All
import Wide.All
import OpenK.AllK
import Wide.FinOn
import HandS.ForMost
import HandS.ForExc
import PyProof.ReprRoads
import PyProof.CallFns
import HandS.TupSets
import HandS.Sort
import KE.KSortTupG
import HandS.SetFor
import HandS.IsInst
import HandS.Evl
import HandS.Zip
import HandS.TupAny
import HandS.Conv
import HandS.Flow
import KE.DatumMoreOrd
import KE.DatumIndex
import KE.SortData
import KE.KDictKeyed
import KE.KeyNested
import HandS.Lambda
import HandS.Comp
import HandS.Iter
import HandS.Wide
import HandS.Deep
import HandS.Text
import HandS.Dict
import HandS.WordsDict
import PyProof.Rows.ListMulArg
import HandS.More
import HandS.SortInts
import KE.DataEq
import HandS.SortKw
import KE.SortKeyHeap
import HandS.ExcIs
import KE.KDictPairs
import KE.KDictWalk
import HandS.Nested
import HandS.NoneIn
import KE.KItemsList
import HandS.TupMul
import PyProof.TupleOfSeq
import KE.GoesMore
import PyProof.EnumMake
import KE.KDictCopyH
import KE.DataMinMax
import PyProof.DictTable
import HandS.Style
import PySem.Challenge.RW_standhouse_k17_put_beside
set_option Elab.async false
set_option linter.all false
set_option maxRecDepth 100000
set_option maxHeartbeats 2000000
namespace Sk
open PySem PySem.Spec PyProof.Rows L2
structure GnOk (P : Program) (w : World) (K : PySem.W.Frag) (mg : Str → Option Value) (base : Heap) (CX : CXT) (k : Nat) (f : Addr) (fd : FuncData) (ps : List Str) (sp : Sp) : Prop where
  len : ∀ vs H Q E, sp vs H Q E → vs.length = ps.length
  go : ∀ {A : Around} {outer : List Env} {s : Shared} {H : Hp} {args : Args} {us : List Value} {vs : List V} {Q : VK} {E : XK},
    A.guards = some [] → Room k A → Env0 P w K mg base A outer s H → BindsTo s fd args (ps.zip us) → Vals vs us → sp vs H Q E →
      codeAny (model P w) A (.call (.ref f) args) (CR CX outer P w H s Q E) s
section
variable {P : Program} {w : World} {K : PySem.W.Frag} {mg : Str → Option Value} {base : Heap} {CX : CXT} {k : Nat} {f : Addr} {fd : FuncData} {ps : List Str} {sp : Sp}
theorem GnOk.of (F : FnOk P w K mg base CX k f fd ps sp) : GnOk P w K mg base CX k f fd ps sp :=
  ⟨F.len, fun _ hr e0 hb r h => F.run _ _ _ _ _ _ _ _ _ hr e0 hb r h⟩
theorem guards_deeper (A : Around) (env : Env) (h : A.guards = some []) : (A.deeper env).guards = some [] := by
  first | exact h | (simpa [Around.deeper] using h)
theorem gn_ok {x qual : Str} {st : Stmt} {N : List Str} (F : Fun K x qual st f fd) (S : FnScope N ps (defScope st)) (len : ∀ vs H Q E, sp vs H Q E → vs.length = ps.length)
    (body : ∀ (cdv : Value), fd.code = cdv → ∀ (A : Around) (outer : List Env) (s : Shared) (H : Hp) (vs : List V) (Q : VK) (E : XK),
      (A.deeper (envOfC qual (defScope st) s.heap.objs.size f cdv)).guards = some [] → Room k (A.deeper (envOfC qual (defScope st) s.heap.objs.size f cdv)) → sp vs H Q E →
      ∃ t, PSs (cxOf CX P w K mg base N qual (defScope st) f cdv A outer s H E).nox (defBody st) t ∧ t { nx := fun _ H' => Q .non H', rt := Q } (start N vs) H) :
    GnOk P w K mg base CX (k + 1) f fd ps sp := by
  obtain ⟨oc, od, kV, doc, pm, an, cdv, ct, osl, efd, lk, hcd⟩ := F.ex
  subst efd
  refine ⟨len, fun {A outer s H args us vs Q E} hgd hr e0 hb r hsp => ?_⟩
  have hl := len _ _ _ _ hsp
  have hin : K.In s.heap := e0.mod.kin.keeps fun b o e => (e0.bs b o e).1
  have hlim : s.heap.NoLimit := e0.mod.nolimit.keeps fun b o e => (e0.bs b o e).1
  refine codeAny_call_function hr.depth (hin _ _ lk) rfl S.co S.gen rfl (PySem.W.codeRec_of hin hcd) (hb _ _ _ _ ?_)
  refine wpAny_newFunctionEnv_cells S.kind (fun y hy => ?_) fun env he s1 hx => ?_
  · rcases S.par y.1 (List.of_mem_zip (show (y.1, y.2) ∈ ps.zip us from hy)).1 with q | q
    · exact Or.inl q
    · exact Or.inr ⟨q, PySem.W.cellsFrom_some _ _ _ (Or.inl q)⟩
  subst he
  refine ⟨hlim.keeps hx.toInCall.keep, codeAny_func ?_⟩
  obtain ⟨t, ht, hq⟩ := body cdv rfl A outer s H vs Q E (guards_deeper A _ hgd) (hr.deeper _) hsp
  have I := inv_start (CX := CX) (E := E) (qual := qual) (f := f) (cd := cdv) S hr.hd e0 hl r hx
  have ret : ∀ {σ' : L2.St} {H' : Hp} {v : V} {u : Value} {s' : Shared}, Inv (cxOf CX P w K mg base N qual (defScope st) f cdv A outer s H E) [] σ' H' s' → RelV v u → Q v H' → CE outer P w H s Q u s' :=
    fun J rv q => ⟨_, _, J.os, J.bare, J.base, J.hok, rv, q⟩
  refine wpAny_mono (ht.nox.run [] s1 (start N vs) H _ I hq) (fun fl s' hs => ?_) fun e s' hs => hs
  cases fl with
  | ret u => obtain ⟨v, σ', H', J, rv, q⟩ := hs; exact ret J rv q
  | next => obtain ⟨σ', H', J, q⟩ := hs; exact ret (v := V.non) (u := Value.none) J rfl q
  | brk => obtain ⟨_, _, _, q⟩ := hs; exact q.elim
  | cont => obtain ⟨_, _, _, q⟩ := hs; exact q.elim
end
section
variable {X : Cx} {CX : CXT} {k : Nat} {f : Addr} {fd : FuncData} {ps : List Str} {sp : Sp} {E : XK} {x : Str} {p pos : Pos} {e : Expr} {es : List Expr} {t : TA}
theorem run_gn {pins : List (Addr × Obj)} {σ : L2.St} {H : Hp} {s : Shared} {Q : VK} {us : List Value} {vs : List V} (F : GnOk X.prog X.w X.K X.mg X.base CX k f fd ps sp) (hgd : X.A.guards = some []) (hr : Room k X.A) (hb : Binds X.K fd ps [])
    (hx : Passes CX X E) (I : Inv X pins σ H s) (r : Vals vs us) (h : sp vs H Q E) : wpAny (model X.prog X.w) X.A (call (.ref f) us) (EP X pins σ Q) X.xe s := by
  have hlu : (us ++ []).length = ps.length := by
    rw [List.append_nil, ← r.length]
    exact F.len _ _ _ _ h
  have bb := hb s us I.kIn hlu
  rw [List.append_nil] at bb
  refine wpAny_call (codeAny_mono (F.go hgd hr I.env0 bb r h) fun res s' hq => ?_)
  match res, hq with
  | .error e, hq => exact hx pins σ H s e s' I hq
  | .ok (.ret u), hq => exact I.after hq
theorem pe_callG (F : GnOk X.prog X.w X.K X.mg X.base CX k f fd ps sp) (hgd : X.A.guards = some []) (hr : Room k X.A) (hg : Gl X x) (hm : X.mg x = some (.ref f)) (hk : PySem.W.keepIn X.K (.ref f) = true) (hb : Binds X.K fd ps []) (hx : Passes CX X E)
    (ha : PA X (e :: es) t) (hdb : (x == ("__debug__" : Str)) = false := by decide) (he : starEach (e :: es) X.env = (false, eval e X.env) :: starEach es X.env := by rfl) (hpl : (backTo pos (starEach es X.env)).any (·.1) = false := by rfl) :
    PE X (.Call (.Name x p) (e :: es) [] pos) (tCall sp [] E t) := ⟨fun pins s σ H Q I h =>
  wpAny_Call_Name_kw (ld_glob I hg hm (PySem.W.callWith_K (h₀ := X.base) I.ok.mod.kin hk (thn (ha.run pos pins s σ H _ I h) fun us s1 hz => by
    obtain ⟨vs, H1, I1, r, q⟩ := hz
    rw [List.append_nil] at q
    exact ⟨I1.kIn, run_gn F hgd hr hb hx I1 r q⟩) he hpl) hdb)⟩
theorem pe_callG0 (F : GnOk X.prog X.w X.K X.mg X.base CX k f fd ps sp) (hgd : X.A.guards = some []) (hr : Room k X.A) (hg : Gl X x) (hm : X.mg x = some (.ref f)) (hk : PySem.W.keepIn X.K (.ref f) = true) (hb : Binds X.K fd ps []) (hx : Passes CX X E)
    (hdb : (x == ("__debug__" : Str)) = false := by decide) : PE X (.Call (.Name x p) [] [] pos) (tCall sp [] E tNil) := ⟨fun pins s σ H Q I h =>
  wpAny_Call_Name_kw (ld_glob I hg hm (PySem.W.callWith_K0 I.kIn hk (run_gn (us := []) F hgd hr hb hx I .nil (by have h2 : sp ([] ++ []) H Q E := h; exact h2))) hdb)⟩
end
section
variable {P : Program} {w : World} {K : PySem.W.Frag} {mg mb : Str → Option Value} {CX : CXT} {k : Nat} {fa a : Addr} {fd : FuncData} {x : Str} {sp : Sp} {s1 : Shared} {vs : List Value} {ns : List Int}
def hpScript (K : PySem.W.Frag) (a : Addr) (vs : List Value) (ns : List Int) : Hp := fun b =>
  if b = a ∧ (K.lookup a).isNone = true then some (.frz { cls := .type "list", data := .seq vs.toArray } (.lst (ns.map V.int))) else none
theorem hpScript_at {b : Addr} {o : HO} (h : hpScript K a vs ns b = some o) : b = a ∧ K.lookup a = none ∧ o = .frz { cls := .type "list", data := .seq vs.toArray } (.lst (ns.map V.int)) := by
  unfold hpScript at h
  split at h
  · rename_i hc
    exact ⟨hc.1, Option.isNone_iff_eq_none.mp hc.2, (Option.some.inj h).symm⟩
  · cases h
end
def rRepr (K : PySem.W.Frag) : List V → Hp → VK → Prop := fun xs H Q => ∃ (x : V) (d : PyData), xs = [x] ∧ Dp K H x d ∧ d.showable = true ∧ d.hasDict = false ∧ d.depth ≤ 100 ∧ d.shown.length ≤ sizeLine ∧ Q (.str d.shown) H
theorem call_repr {X : Cx} (hgd : X.A.guards = some []) (hu : X.A.units + 150 < cLine) : CallR X (.builtin "repr") (rRepr X.K) := by
  intro pins s σ H xs us Q I r h
  obtain ⟨x, d, rfl, hd, hsh, hnd, hdp, hlen, q⟩ := h
  cases r with
  | cons rx rt =>
    cases rt
    cases hd with
    | non =>
      cases rx
      refine P.repr_of_none ?_
      exact ⟨.str _, _, I.tok _, ⟨_, rfl⟩, q⟩
    | bl b =>
      cases rx
      refine P.repr_of_bool ?_
      exact ⟨.str _, _, I.tok _, ⟨_, rfl⟩, q⟩
    | int i =>
      obtain ⟨t, rfl⟩ := rx
      refine P.repr_of_int (by simpa [PyData.showable] using hsh) ?_
      exact ⟨.str _, _, I.tok _, ⟨_, rfl⟩, q⟩
    | str z =>
      obtain ⟨t, rfl⟩ := rx
      refine P.repr_of_str ?_ hlen
      exact ⟨.str _, _, I.tok _, ⟨_, rfl⟩, q⟩
    | lst hs ha =>
      obtain ⟨as, hr⟩ := Dp.reads I _ _ _ (Dp.lst hs ha) rx
      cases rx
      refine repr_of_reads' hr hsh (PyData.noDict_hsm hnd) hgd (by omega) (fun b o e => e) (fun h' u tk hk => ?_) hlen
      exact ⟨.str _, _, I.kept hk, ⟨_, rfl⟩, q⟩
    | tup hs ha =>
      obtain ⟨as, hr⟩ := Dp.reads I _ _ _ (Dp.tup hs ha) rx
      cases rx
      refine repr_of_reads' hr hsh (PyData.noDict_hsm hnd) hgd (by omega) (fun b o e => e) (fun h' u tk hk => ?_) hlen
      exact ⟨.str _, _, I.kept hk, ⟨_, rfl⟩, q⟩
end Sk
set_option Elab.async false
set_option linter.all false
set_option maxRecDepth 100000
set_option maxHeartbeats 2000000
namespace Sk
open PySem PySem.Spec PyProof.Rows L2
def KeepT (h h' : Heap) : Prop := ∀ b o, h.get? b = some o → o.cls = .type "tuple" → h'.get? b = some o
theorem KeepT.all {h h' : Heap} (k : ∀ b o, h.get? b = some o → h'.get? b = some o) : KeepT h h' := fun b o e _ => k b o e
theorem KeepT.trans {h h1 h2 : Heap} (a : KeepT h h1) (b : KeepT h1 h2) : KeepT h h2 := fun c o e t => b c o (a c o e t) t
structure TKind (P : Program) (w : World) (α : Type) [DecidableEq α] where
  is : Heap → α → Addr → Prop
  hash : α → Int
  tup : ∀ {h : Heap} {k : α} {a : Addr}, is h k a → ∃ o xs n, h.get? a = some o ∧ o.cls = .type "tuple" ∧ o.data = .seq xs n
  stay : ∀ {h h' : Heap} {k : α} {a : Addr}, is h k a → KeepT h h' → is h' k a
  inj : ∀ {h : Heap} {x y : α} {a : Addr}, is h x a → is h y a → x = y
  hashes : ∀ {A : Around} {E : Value → Shared → Prop} {s : Shared} {k : α} {a : Addr} {Q : Int → Shared → Prop}, A.units < cLine → is s.heap k a → (∀ tk, s.toks ≤ tk → Q (hash k) { s with toks := tk }) → wpAny (model P w) A (pyHash (.ref a)) Q E s
  same : ∀ {A : Around} {E : Value → Shared → Prop} {s : Shared} {x y : α} {a b : Addr} {Q : Bool → Shared → Prop}, A.units < cLine → is s.heap x a → is s.heap y b → Q (decide (x = y)) s → wpAny (model P w) A (eqBool (.ref a) (.ref b)) Q E s
  quiet : ∀ {A : Around} {E : Value → Shared → Prop} {s : Shared} {k : α} {a : Addr} {Q : Bool → Shared → Prop}, is s.heap k a → Q true s → wpAny (model P w) A (eqIsQuiet 8 (.ref a)) Q E s
  ofNone : ∀ {A : Around} {E : Value → Shared → Prop} {s : Shared} {k : α} {a : Addr} {Q : Bool → Shared → Prop}, is s.heap k a → Q false s → wpAny (model P w) A (ofAClassStatement 8 (.ref a)) Q E s
  byVal : ∀ {A : Around} {E : Value → Shared → Prop} {s : Shared} {k : α} {a : Addr} {Q : Bool → Shared → Prop}, is s.heap k a → (∀ b, Q b s) → wpAny (model P w) A (hashByValue 8 (.ref a)) Q E s
theorem flat_items {P : Program} {w : World} {k : List Key} {vs : List Value} (h : ItemsAre (mixKind P w) k vs) : ∀ v ∈ vs, (∃ i t, v = Value.int i t) ∨ ∃ x t, v = Value.str x t := by
  induction h with
  | nil => intro v hv; cases hv
  | cons h1 _ ih =>
    intro v hv
    rcases List.mem_cons.mp hv with rfl | hv
    · rcases keyIs_shape h1 with ⟨i, t, _, e⟩ | ⟨x, t, _, e⟩
      · exact Or.inl ⟨i, t, e⟩
      · exact Or.inr ⟨x, t, e⟩
    · exact ih v hv
theorem class_flat (n : Nat) {v : Value} (h : (∃ i t, v = Value.int i t) ∨ ∃ x t, v = Value.str x t) : ofAClassStatement n v = pure false := by
  rcases h with ⟨i, t, rfl⟩ | ⟨x, t, rfl⟩ <;> (cases n <;> rfl)
theorem hashv_flat (n : Nat) {v : Value} (h : (∃ i t, v = Value.int i t) ∨ ∃ x t, v = Value.str x t) : ∃ b, hashByValue n v = pure b := by
  rcases h with ⟨i, t, rfl⟩ | ⟨x, t, rfl⟩
  · exact ⟨true, by cases n <;> rfl⟩
  · exact ⟨false, by cases n <;> rfl⟩
section
variable {P : Program} {w : World} {A : Around} {E : Value → Shared → Prop} {s : Shared}
theorem ofNone_flat {k : List Key} {b : Addr} {Q : Bool → Shared → Prop} (hk : IsTupleKey (mixKind P w) s.heap k b) (h : Q false s) : wpAny (model P w) A (ofAClassStatement 8 (.ref b)) Q E s := by
  have hT := hk.typeIs
  obtain ⟨o, items, n, ho, _, hd, hi⟩ := hk
  unfold ofAClassStatement
  refine wpAny_bind (wpAny_typeOf hT ?_)
  dsimp only
  simp only [show (("tuple" : String) == "tuple") = true by decide, if_true, Bool.not_true, Bool.false_eq_true, if_false]
  try refine wpAny_bind (wpAny_pure ?_)
  try simp only [Bool.not_true, Bool.false_eq_true, if_false]
  show wpAny _ _ (seqItems? (.ref b) >>= _) _ _ s
  refine wpAny_bind (wpAny_seqItems ho hd ?_)
  dsimp only
  refine wpAny_bind ?_
  rw [← Array.forIn_toList]
  refine wpAny_forIn_list _ (fun left r z => r.1 = none ∧ z = s ∧ ∀ v ∈ left, (∃ i t, v = Value.int i t) ∨ ∃ x t, v = Value.str x t) _ (fun v left r z hz => ?_) (fun r z hz => ?_) _ _ ⟨rfl, rfl, flat_items hi⟩
  · obtain ⟨h1, rfl, h3⟩ := hz
    rw [class_flat _ (h3 v List.mem_cons_self)]
    refine wpAny_bind (wpAny_pure ?_)
    simp only [Bool.false_eq_true, if_false]
    exact wpAny_pure ⟨rfl, rfl, fun u hu => h3 u (List.mem_cons_of_mem _ hu)⟩
  · obtain ⟨h1, rfl, _⟩ := hz
    obtain ⟨r1, r2⟩ := r
    dsimp only at h1
    subst h1
    exact wpAny_pure h
theorem byVal_flat {k : List Key} {b : Addr} {Q : Bool → Shared → Prop} (hk : IsTupleKey (mixKind P w) s.heap k b) (h : ∀ c, Q c s) : wpAny (model P w) A (hashByValue 8 (.ref b)) Q E s := by
  have hT := hk.typeIs
  obtain ⟨o, items, n, ho, _, hd, hi⟩ := hk
  unfold hashByValue
  refine wpAny_bind (wpAny_specialOf hT F.slot_tuple_hash.lookup ?_)
  show wpAny _ _ (seqItems? (.ref b) >>= _) _ _ s
  refine wpAny_bind (wpAny_seqItems ho hd ?_)
  refine wpAny_bind ?_
  show wpAny _ _ (forIn items _ _) _ _ s
  rw [← Array.forIn_toList]
  refine wpAny_forIn_list _ (fun left r z => z = s ∧ ∀ v ∈ left, (∃ i t, v = Value.int i t) ∨ ∃ x t, v = Value.str x t) _ (fun v left r z hz => ?_) (fun r z hz => ?_) _ _ ⟨rfl, flat_items hi⟩
  · obtain ⟨rfl, h3⟩ := hz
    obtain ⟨c, hc⟩ := hashv_flat 7 (h3 v List.mem_cons_self)
    rw [hc]
    refine wpAny_bind (wpAny_pure ?_)
    cases c with
    | true =>
      simp only [Bool.not_true, Bool.false_eq_true, if_false]
      exact wpAny_pure ⟨rfl, fun u hu => h3 u (List.mem_cons_of_mem _ hu)⟩
    | false =>
      simp only [Bool.not_false, if_true]
      exact wpAny_pure (wpAny_pure (h _))
  · obtain ⟨rfl, _⟩ := hz
    obtain ⟨r1, r2⟩ := r
    cases r1 with
    | none => exact wpAny_pure (h _)
    | some c => exact wpAny_pure (h _)
end
def mixT (P : Program) (w : World) : TKind P w (List Key) where
  is := IsTupleKey (mixKind P w)
  hash := tupleKeyHash (mixKind P w)
  tup := fun x => by obtain ⟨o, xs, n, ho, hc, hd, _⟩ := x; exact ⟨o, xs, n, ho, hc, hd⟩
  stay := fun x k => by obtain ⟨o, xs, n, ho, hc, r⟩ := x; exact ⟨o, xs, n, k _ _ ho hc, hc, r⟩
  inj := fun x y => x.inj y
  hashes := fun hu x h => wpAny_pyHash_tuple hu x (h _ (Nat.le_add_right _ _))
  same := fun hu x y h => wpAny_eqBool_tuple hu x y h
  quiet := fun x h => wpAny_eqIsQuiet_tuple x h
  ofNone := fun x h => ofNone_flat x h
  byVal := fun x h => byVal_flat x h
end Sk
set_option Elab.async false
set_option linter.all false
set_option maxRecDepth 100000
set_option maxHeartbeats 2000000
namespace Sk
open PySem PySem.Spec PyProof.Rows L2
section
variable {P : Program} {w : World} {α : Type} [DecidableEq α] (κ : TKind P w α)
def rowsT (L : List (Addr × α)) : List (Int × Value) := L.map fun p => (κ.hash p.2, Value.ref p.1)
abbrev stp (m : Nat) (h : Int) (c : Nat) : SetTable.Probe := nth m (runAt m (SetTable.bits h % (m + 1)) (SetTable.bits h)) c
theorem stp_more (m : Nat) (h : Int) (c q : Nat) : nth m (stp m h c) q = stp m h (c + q) := (nth_add m c _ q).symm
theorem nth_clean (m : Nat) : ∀ (n : Nat) (p : SetTable.Probe), p.dummy = none → (nth m p n).dummy = none
  | 0, _, h => h
  | n + 1, p, h => nth_clean m n (adv m p) (by unfold adv; split <;> exact h)
structure TSet (h : Heap) (a : Addr) (L : List (Addr × α)) (es : Array (Int × Value)) (ep : Nat) (t : SetTable) : Prop where
  ob : ∃ o, h.get? a = some o ∧ o.ExactSet ∧ o.data = .set es ep t
  rows : es.toList = rowsT κ L
  tab : TabOk t (L.map fun p => κ.hash p.2)
  nd : (L.map (·.2)).Nodup
  led : w.params.followText "set-order" = true ∨ t.led = true
  room : L.length * 5 < t.mask * 3
  few : L.length < 64
variable {κ} {A : Around} {E : Value → Shared → Prop} {s : Shared} {a : Addr} {L : List (Addr × α)} {es : Array (Int × Value)} {ep : Nat} {t : SetTable}
theorem rowsT_len (hr : es.toList = rowsT κ L) : es.size = L.length := by
  have h := congrArg List.length hr
  rwa [Array.length_toList, rowsT, List.length_map] at h
theorem rowsT_at (hr : es.toList = rowsT κ L) {i : Nat} {p : Addr × α} (h : L[i]? = some p) : es[i]? = some (κ.hash p.2, Value.ref p.1) := by
  rw [← Array.getElem?_toList, hr, rowsT, List.getElem?_map, h]
  rfl
theorem fits_of (sz : t.place.size = L.length) (dm : t.dummies = #[]) (hr : es.toList = rowsT κ L) (hm : L.length ≤ t.mask) : t.fits es.size = true := by
  have h := rowsT_len hr
  unfold SetTable.fits SetTable.fill
  rw [dm, Bool.and_eq_true, beq_iff_eq, decide_eq_true_eq]
  exact ⟨by omega, by show t.place.size + 0 ≤ t.mask; omega⟩
theorem TSet.sz {h : Heap} (R : TSet κ h a L es ep t) : t.place.size = L.length := by
  have h := R.tab.sz
  rwa [List.length_map] at h
theorem TSet.fits {h : Heap} (R : TSet κ h a L es ep t) : t.fits es.size = true := fits_of R.sz R.tab.dm R.rows (by have := R.room; omega)
theorem seek (R : TSet κ s.heap a L es ep t) (hL : ∀ p ∈ L, κ.is s.heap p.2 p.1) {x : Addr} {k : α} (hx : κ.is s.heap k x) (hu : A.units < cLine) {N : Nat} (hN : N < 10 * SetTable.turns t.mask)
    (free : way t.mask (κ.hash k) N ∉ t.place.toList) (full : ∀ c, c < N → way t.mask (κ.hash k) c ∈ t.place.toList) {Q : SetFound → Shared → Prop}
    (yes : k ∈ L.map (·.2) → Q (.there none) s) (no : k ∉ L.map (·.2) → Q (.free (way t.mask (κ.hash k) N) false) s) (fuel : Nat) :
    ∀ (c : Nat) (stand : Option SetTable.Probe), stand.getD (t.probeStart (κ.hash k)) = stp t.mask (κ.hash k) c → c ≤ N → N - c < fuel →
      (∀ (i : Nat) (p : Addr × α), L[i]? = some p → p.2 = k → ∃ d, c ≤ d ∧ d < N ∧ t.place.toList[i]? = some (way t.mask (κ.hash k) d)) →
      wpAny (model P w) A (setSearchFrom a (.ref x) (κ.hash k) true fuel stand) Q E s := by
  induction fuel with
  | zero => intro c _ _ _ hf; exact absurd hf (Nat.not_lt_zero _)
  | succ fuel ih =>
    intro c stand hst hc hf left
    obtain ⟨o, ho, hex, hd⟩ := R.ob
    have odd := mask_odd R.tab.mok
    have wj : ∀ q, (nth t.mask (stp t.mask (κ.hash k) c) q).j = way t.mask (κ.hash k) (c + q) := fun q => congrArg SetTable.Probe.j (stp_more _ _ c q)
    have hash_at : ∀ (i : Nat) (p : Addr × α), L[i]? = some p → (es[i]?.map (·.1)).getD 0 = κ.hash p.2 := fun i p hp => by rw [rowsT_at R.rows hp]; rfl
    rw [setSearchFrom_succ]
    refine wpAny_bind (wpAny_setState_of ho hd R.fits ?_)
    dsimp only
    refine wp_if_neg (by unfold SetTable.gaveWay; rw [odd]; decide) ?_
    try refine wpAny_bind (wpAny_pure ?_)
    rcases go_spec t R.tab.ris R.tab.dm (fun i => (es[i]?.map (·.1)).getD 0) (κ.hash k) (10 * SetTable.turns t.mask) (N - c) (stp t.mask (κ.hash k) c) (nth_clean _ c _ rfl) (by omega)
      (fun q hq => by rw [wj]; exact full _ (by omega)) (by rw [wj, show c + (N - c) = N by omega]; exact free) with ⟨q, i, hq, hi, _, skip, found⟩ | ⟨skip, found⟩
    · -- an entry of this hash
      rw [wj] at hi
      have pr : t.probe (fun i => (es[i]?.map (·.1)).getD 0) (κ.hash k) (stand.getD (t.probeStart (κ.hash k))) = some (.candidate (way t.mask (κ.hash k) (c + q)) i (stp t.mask (κ.hash k) (c + (q + 1)))) := by
        rw [hst, ← wj, ← stp_more]
        exact found
      rw [pr]
      dsimp only
      have il : i < L.length := by
        have h1 := (List.getElem?_eq_some_iff.mp hi).1
        rw [Array.length_toList, R.sz] at h1
        exact h1
      obtain ⟨p, hp⟩ : ∃ p, L[i]? = some p := ⟨_, List.getElem?_eq_getElem il⟩
      have pm : p ∈ L := List.mem_of_getElem? hp
      have onward : wpAny (model P w) A (searchRest a (.ref x) (κ.hash k) true fuel es t (way t.mask (κ.hash k) (c + q)) i (stp t.mask (κ.hash k) (c + (q + 1)))) Q E s := by
        unfold searchRest
        rw [rowsT_at R.rows hp]
        dsimp only
        refine wpAny_bind (wpAny_holding (κ.same hu (hL p pm) hx ?_))
        refine wpAny_bind (wpAny_setState_of ho hd R.fits ?_)
        dsimp only
        by_cases e : p.2 = k
        · refine wp_if_pos (by simp [e]) (wpAny_pure (yes ?_))
          exact List.mem_map.mpr ⟨p, pm, e⟩
        · refine wp_if_neg (by simp [e]) ?_
          try refine wpAny_bind (wpAny_pure ?_)
          rw [sameMem]
          dsimp only
          have live := slot_live R.tab.ris hi
          simp only [if_true, live, rowsT_at R.rows hp]
          refine wpAny_bind (wpAny_isSame_ref_self (wpAny_bind (wpAny_pure ?_)))
          simp only [if_true]
          refine wp_if_neg (by simp [e]) ?_
          refine ih (c + (q + 1)) _ rfl (by omega) (by omega) fun i0 p0 h0 e0 => ?_
          obtain ⟨d, d1, d2, d3⟩ := left i0 p0 h0 e0
          refine ⟨d, ?_, d2, d3⟩
          have n1 : ¬ d < c + q := fun z => skip (d - c) i0 (by omega) (by rw [wj, show c + (d - c) = d by omega]; exact d3) ((hash_at i0 p0 h0).trans (congrArg κ.hash e0))
          have n2 : d ≠ c + q := fun z => by
            rw [z] at d3
            have e1 := (slot_live R.tab.ris d3).symm.trans live
            injection e1 with e1
            rw [e1, hp] at h0
            cases h0
            exact e e0
          omega
      by_cases hl : t.led = true
      · refine wp_if_neg (by simp [hl]) ?_
        try refine wpAny_bind (wpAny_pure ?_)
        exact onward
      · refine wp_if_pos (by simp [hl]) ?_
        refine wpAny_bind ?_
        unfold searchCouldBeSeen
        refine wpAny_bind (wpAny_forIn_list _ (fun some r z => r.1 = none ∧ z = s ∧ ∀ y ∈ some, ∃ k' b, y = Value.ref b ∧ κ.is s.heap k' b) _ (fun v some r z hz => ?_) (fun r z hz => ?_) _ _ ⟨rfl, rfl, fun y hy => ?_⟩)
        · obtain ⟨h1, rfl, h3⟩ := hz
          obtain ⟨k', b, rfl, hb⟩ := h3 v List.mem_cons_self
          have h4 : ∀ y ∈ some, ∃ k' b, y = Value.ref b ∧ κ.is z.heap k' b := fun y hy => h3 y (List.mem_cons_of_mem _ hy)
          dsimp only
          by_cases hv : (x == b || (carriedByValue (.ref x) && carriedByValue (.ref b))) = true
          · exact wp_if_pos hv (wpAny_pure ⟨rfl, rfl, h4⟩)
          · refine wp_if_neg hv ?_
            refine wpAny_bind (κ.quiet hx ?_)
            simp only [Bool.not_true, Bool.false_eq_true, if_false]
            refine wpAny_bind (κ.quiet hb ?_)
            simp only [Bool.not_true, Bool.false_eq_true, if_false]
            refine wpAny_bind (κ.ofNone hx ?_)
            simp only [Bool.false_eq_true, if_false]
            refine wpAny_bind (κ.ofNone hb ?_)
            simp only [Bool.false_eq_true, if_false]
            exact wpAny_pure ⟨rfl, rfl, h4⟩
        · obtain ⟨h1, rfl, _⟩ := hz
          obtain ⟨r1, r2⟩ := r
          dsimp only at h1
          subst h1
          refine wpAny_pure ?_
          refine wp_if_neg (by decide) ?_
          try refine wpAny_bind (wpAny_pure ?_)
          exact onward
        · obtain ⟨e, he, rfl⟩ := List.mem_map.mp hy
          have he2 : e ∈ es.toList := by
            have : e ∈ es ∧ e.1 = κ.hash k := by simpa using he
            simpa using this.1
          rw [R.rows] at he2
          obtain ⟨p2, hp2, rfl⟩ := List.mem_map.mp he2
          exact ⟨p2.2, p2.1, rfl, hL p2 hp2⟩
    · -- an empty slot
      have pr : t.probe (fun i => (es[i]?.map (·.1)).getD 0) (κ.hash k) (stand.getD (t.probeStart (κ.hash k))) = some (.empty (way t.mask (κ.hash k) N) none) := by
        rw [hst]
        have e := wj (N - c)
        rw [show c + (N - c) = N by omega] at e
        rw [← e]
        exact found
      rw [pr]
      dsimp only
      refine wpAny_pure (no fun hm => ?_)
      obtain ⟨p0, m0, e0⟩ := List.mem_map.mp hm
      obtain ⟨i0, hi0⟩ := List.getElem?_of_mem m0
      obtain ⟨d, d1, d2, d3⟩ := left i0 p0 hi0 e0
      exact skip (d - c) i0 (by omega) (by rw [wj, show c + (d - c) = d by omega]; exact d3) ((hash_at i0 p0 hi0).trans (congrArg κ.hash e0))
theorem seek_all (R : TSet κ s.heap a L es ep t) (hL : ∀ p ∈ L, κ.is s.heap p.2 p.1) {x : Addr} {k : α} (hx : κ.is s.heap k x) (hu : A.units < cLine) {Q : SetFound → Shared → Prop} (yes : k ∈ L.map (·.2) → Q (.there none) s)
    (no : ∀ N, k ∉ L.map (·.2) → way t.mask (κ.hash k) N ∉ t.place.toList → (∀ c, c < N → way t.mask (κ.hash k) c ∈ t.place.toList) → Q (.free (way t.mask (κ.hash k) N) false) s) :
    wpAny (model P w) A (setSearch a (.ref x) (κ.hash k) true) Q E s := by
  have hroom := R.room
  obtain ⟨N, hN, free, full⟩ := R.tab.first (by rw [List.length_map]; omega) (κ.hash k)
  have small : 10 * SetTable.turns t.mask ≤ 1420 := by
    unfold SetTable.turns
    rcases R.tab.mok with e | e | e <;> omega
  refine seek R hL hx hu hN free full yes (fun hn => no N hn free full) 100000 0 none rfl (Nat.zero_le _) (by omega) fun i p hp hk => ?_
  have h1 : (L.map fun p => κ.hash p.2)[i]? = some (κ.hash k) := by rw [List.getElem?_map, hp, ← hk]; rfl
  have h2 : i < t.place.toList.length := by
    rw [Array.length_toList, R.sz]
    exact (List.getElem?_eq_some_iff.mp hp).1
  obtain ⟨c, hc, e⟩ := R.tab.before free h1 (List.getElem?_eq_getElem h2)
  exact ⟨c, Nat.zero_le _, hc, by rw [e]; exact List.getElem?_eq_getElem h2⟩
end
end Sk
set_option Elab.async false
set_option linter.all false
set_option maxRecDepth 100000
set_option maxHeartbeats 2000000
namespace Sk
open PySem PySem.Spec PyProof.Rows L2
section
variable {P : Program} {w : World} {α : Type} [DecidableEq α] {κ : TKind P w α} {A : Around} {E : Value → Shared → Prop} {s : Shared} {a : Addr} {L : List (Addr × α)} {es : Array (Int × Value)} {ep : Nat} {t : SetTable}
theorem rows_order (L : List (Addr × α)) (es : Array (Int × Value)) (order : Array Nat) (hr : es.toList = rowsT κ L) (hp : order.toList.Perm (List.range L.length)) :
    ∃ L2, (order.filterMap (es[·]?)).toList = rowsT κ L2 ∧ L2.Perm L ∧ (L2.map fun p => κ.hash p.2) = order.toList.map fun i => (es.map (·.1)).getD i 0 := by
  have esz := rowsT_len hr
  have walk : ∀ l : List Nat, (∀ i ∈ l, i < L.length) → l.filterMap (fun i => es[i]?) = rowsT κ (l.filterMap fun i => L[i]?) ∧ ((l.filterMap fun i => L[i]?).map fun p => κ.hash p.2) = l.map fun i => (es.map (·.1)).getD i 0 := by
    intro l
    induction l with
    | nil => intro _; exact ⟨rfl, rfl⟩
    | cons i l ih =>
      intro hl
      have hi := hl i List.mem_cons_self
      have e0 := rowsT_at hr (List.getElem?_eq_getElem hi)
      obtain ⟨e1, e2⟩ := ih fun j hj => hl j (List.mem_cons_of_mem _ hj)
      rw [List.filterMap_cons_some e0, List.filterMap_cons_some (List.getElem?_eq_getElem hi), e1, List.map_cons, List.map_cons, e2]
      refine ⟨rfl, congrArg (· :: _) ?_⟩
      have e5 : (es.map (·.1))[i]? = some (κ.hash (L[i]).2) := by rw [Array.getElem?_map, e0]; rfl
      simp [Array.getD_eq_getD_getElem?, e5]
  have all : ∀ n, n ≤ L.length → (List.range n).filterMap (fun i => L[i]?) = L.take n := by
    intro n
    induction n with
    | zero => intro _; rfl
    | succ n ih =>
      intro hn
      rw [List.range_succ, List.filterMap_append, ih (Nat.le_of_succ_le hn), List.take_succ, List.getElem?_eq_getElem (show n < L.length from hn), List.filterMap_cons_some (List.getElem?_eq_getElem (show n < L.length from hn))]
      rfl
  obtain ⟨e1, e2⟩ := walk order.toList fun i hi => List.mem_range.mp (hp.mem_iff.mp hi)
  refine ⟨_, by simpa using e1, ?_, e2⟩
  have pm : (order.toList.filterMap fun i => L[i]?).Perm ((List.range L.length).filterMap fun i => L[i]?) := hp.filterMap _
  rwa [all L.length (Nat.le_refl _), List.take_length] at pm
theorem relay_t {o : Obj} (ho : s.heap.get? a = some o) (hex : o.ExactSet) (hd : o.data = .set es ep t) (hrows : es.toList = rowsT κ L) (hsz : t.place.size = L.length) (hdm : t.dummies = #[]) (hfl : L.length ≤ t.mask)
    (nd : (L.map (·.2)).Nodup) (ld : w.params.followText "set-order" = true ∨ t.led = true) (few : L.length < 64) {wanted M : Nat}
    (hw : SetTable.sizeAbove wanted - 1 = M) (hM : MaskOk M) (hw2 : SetTable.sizeAbove wanted ≤ 128) (hn : L.length * 5 < M * 3) {Q : Unit → Shared → Prop}
    (hQ : ∀ h' L' es' ep' t', Heap.SameBut a s.heap h' → TSet κ h' a L' es' ep' t' → L'.Perm L → Q () { s with heap := h' }) : wpAny (model P w) A (setRelay a wanted) Q E s := by
  have esz := rowsT_len hrows
  obtain ⟨t', order, e, hp, T, em, el, epl, ed⟩ := relaid_ok t (hs := es.map (·.1)) (wanted := wanted) hw hM (by rw [Array.size_map, esz]; omega)
  rw [Array.size_map, esz] at hp
  obtain ⟨L2, r1, r2, r3⟩ := rows_order L es order hrows hp
  rw [← r3] at T
  have s2 : (order.filterMap (es[·]?)).size = L.length := (rowsT_len r1).trans r2.length_eq
  rw [setRelay_eq]
  refine wpAny_bind (wpAny_setState_of ho hd (fits_of hsz hdm hrows hfl) ?_)
  dsimp only
  refine wp_if_neg (by rw [sizeLine_eq]; omega) ?_
  try refine wpAny_bind (wpAny_pure ?_)
  rw [e]
  dsimp only
  refine wpAny_bind ?_
  refine wp_if_neg (by rw [s2, esz]; simp) ?_
  try refine wpAny_bind (wpAny_pure ?_)
  refine wpAny_pure ?_
  dsimp only
  refine wpAny_storeSet_of ho hd ?_ (by rw [s2, sizeLine_eq]; omega)
  refine hQ _ L2 _ (ep + 1) t' (Heap.SameBut.update ..) ⟨⟨_, store_at ho hd, ⟨hex.1, hex.2.1, hex.2.2⟩, rfl⟩, r1, T, (r2.map (·.2)).nodup_iff.mpr nd, by rw [el]; exact ld, ?_, by rw [r2.length_eq]; exact few⟩ r2
  rw [r2.length_eq, em]
  exact hn
theorem add_t (R : TSet κ s.heap a L es ep t) (hL : ∀ p ∈ L, κ.is s.heap p.2 p.1) {x : Addr} {k : α} (hx : κ.is s.heap k x) (hu : A.units < cLine) (hfew : L.length + 1 < 64) {Q : Bool → Shared → Prop}
    (hQ : ∀ b h' L' es' ep' t', Heap.SameBut a s.heap h' → TSet κ h' a L' es' ep' t' → (k ∈ L.map (·.2) → L' = L) → (k ∉ L.map (·.2) → L'.Perm ((x, k) :: L)) → Q b { s with heap := h' }) :
    wpAny (model P w) A (setAddHashed a (.ref x) (κ.hash k)) Q E s := by
  obtain ⟨o, ho, hex, hd⟩ := R.ob
  have esz := rowsT_len R.rows
  have hroom := R.room
  unfold setAddHashed
  refine wpAny_holding ?_
  rw [show (100000 : Nat) = 99999 + 1 from rfl, setAddHashedIn_succ]
  refine wpAny_bind (wpAny_setState_of ho hd R.fits ?_)
  dsimp only
  refine wp_if_neg (by simp [byScan, Value.scannable]) ?_
  try refine wpAny_bind (wpAny_pure ?_)
  refine wpAny_bind (seek_all R hL hx hu (fun hm => ?_) fun N hm free full => ?_)
  · dsimp only
    exact wpAny_pure (hQ false s.heap L es ep t (Heap.SameBut.refl a s.heap) R (fun _ => rfl) fun z => absurd hm z)
  · dsimp only
    refine wpAny_bind (wpAny_setState_of ho hd R.fits ?_)
    dsimp only
    obtain ⟨q1, q2, q3, q4, q5, q6, q7, q8, q9⟩ := R.tab.put free full
    generalize hpt : t.put (way t.mask (κ.hash k) N) = pt at q1 q3 q4 q5 q6 q7 q8 q9 ⊢
    obtain ⟨t1, p⟩ := pt
    dsimp only at q1 q3 q4 q5 q6 q7 q8 q9 ⊢
    subst q1
    have hin : (SetTable.insertAt es (SetTable.below t.place (way t.mask (κ.hash k) N)) (κ.hash k, Value.ref x)).toList = rowsT κ (L.take (SetTable.below t.place (way t.mask (κ.hash k) N)) ++ (x, k) :: L.drop (SetTable.below t.place (way t.mask (κ.hash k) N))) := by
      rw [SetTable.toList_insertAt, R.rows]
      unfold rowsT
      rw [List.map_append, List.map_cons, List.map_take, List.map_drop]
    generalize SetTable.below t.place (way t.mask (κ.hash k) N) = p at q2 q3 hin ⊢
    have pm : (L.take p ++ (x, k) :: L.drop p).Perm ((x, k) :: L) := by
      have h : (L.take p ++ (x, k) :: L.drop p).Perm ((x, k) :: (L.take p ++ L.drop p)) := List.perm_middle
      rwa [List.take_append_drop] at h
    have hhs : (L.take p ++ (x, k) :: L.drop p).map (fun p => κ.hash p.2) = (L.map fun p => κ.hash p.2).take p ++ κ.hash k :: (L.map fun p => κ.hash p.2).drop p := by
      rw [List.map_append, List.map_cons, List.map_take, List.map_drop]
    rw [← hhs] at q3
    generalize L.take p ++ (x, k) :: L.drop p = L1 at pm q3 hin
    have hlen : L1.length = L.length + 1 := pm.length_eq
    have nd1 : (L1.map (·.2)).Nodup := (pm.map (·.2)).nodup_iff.mpr (List.nodup_cons.mpr ⟨hm, R.nd⟩)
    have es1z := rowsT_len hin
    generalize SetTable.insertAt es p (κ.hash k, Value.ref x) = es1 at hin es1z ⊢
    have ld1 : w.params.followText "set-order" = true ∨ t1.led = true := by rw [q5]; exact R.led
    have sz1 : t1.place.size = L1.length := by
      have h := q3.sz
      rwa [List.length_map] at h
    have full1 : t1.tooFull = true ↔ (L.length + 1) * 5 ≥ t.mask * 3 := by
      unfold SetTable.tooFull
      rw [decide_eq_true_eq, q9, List.length_map, q4]
    -- behind the element's own look, whether it hashes by value
    have rest : ∀ (b : Bool) (t2 : SetTable), t2 = (if b = true then t1 else { t1 with plain := false }) → wpAny (model P w) A (do
        storeSet a es1 t2
        if (!false && t2.tooFull) = true then setRelay a (SetTable.grown (es.size + 1))
        return true) Q E s := by
      intro b t2 e2
      have f1 : t2.place = t1.place := by rw [e2]; split <;> rfl
      have f2 : t2.dummies = t1.dummies := by rw [e2]; split <;> rfl
      have f3 : t2.mask = t1.mask := by rw [e2]; split <;> rfl
      have f4 : t2.led = t1.led := by rw [e2]; split <;> rfl
      have f5 : t2.tooFull = t1.tooFull := by rw [e2]; split <;> rfl
      have T2 : TabOk t2 (L1.map fun p => κ.hash p.2) := ⟨by rw [f1]; exact q3.ris, by rw [f2]; exact q3.dm, by rw [f1]; exact q3.sz, by rw [f3]; exact q3.mok, by rw [f1, f3]; exact q3.bd, by rw [f1, f3]; exact q3.reach⟩
      refine wpAny_bind (wpAny_storeSet_of ho hd ?_ (by rw [es1z, hlen, sizeLine_eq]; omega))
      have sb : Heap.SameBut a s.heap (s.heap.update a (Obj.putSet es1 t2)) := Heap.SameBut.update ..
      have ho1 := store_at (es' := es1) (t' := t2) ho hd
      generalize s.heap.update a (Obj.putSet es1 t2) = h1 at sb ho1 ⊢
      by_cases hf : t2.tooFull = true
      · have hfull := full1.mp (f5.symm.trans hf)
        have two : (t.mask = 7 ∧ L.length = 4) ∨ (t.mask = 31 ∧ L.length = 18) := by
          rcases R.tab.mok with e | e | e <;> rw [e] at hfull hroom
          · exact Or.inl ⟨e, by omega⟩
          · exact Or.inr ⟨e, by omega⟩
          · omega
        rw [esz]
        have anew : ∀ M, SetTable.sizeAbove (SetTable.grown (L.length + 1)) - 1 = M → MaskOk M → SetTable.sizeAbove (SetTable.grown (L.length + 1)) ≤ 128 → (L.length + 1) * 5 < M * 3 →
            wpAny (model P w) A (setRelay a (SetTable.grown (L.length + 1))) (fun _ s' => wpAny (model P w) A (pure true) Q E s') E { s with heap := h1 } := fun M m1 m2 m3 m4 => by
          refine relay_t (s := { s with heap := h1 }) ho1 ⟨hex.1, hex.2.1, hex.2.2⟩ rfl hin (by rw [f1]; exact sz1) T2.dm (by rw [hlen, f3, q4]; rcases two with ⟨_, _⟩ | ⟨_, _⟩ <;> omega) nd1 (by rw [f4]; exact ld1) (by rw [hlen]; exact hfew) m1 m2 m3 (by rw [hlen]; exact m4) ?_
          intro h2 L2 es2 ep2 t3 sb2 R2 pm2
          exact wpAny_pure (hQ true h2 L2 es2 ep2 t3 (sb.trans sb2) R2 (fun z => absurd z hm) fun _ => pm2.trans pm)
        first
          | (refine wpAny_bind ?_; refine wp_if_pos (by simp [hf]) ?_)
          | (refine wp_if_pos (by simp [hf]) ?_; refine wpAny_bind ?_)
        rcases two with ⟨_, e2⟩ | ⟨_, e2⟩
        · exact anew 31 (by rw [e2, size_20]) (.inr (.inl rfl)) (by rw [e2, size_20]; decide) (by omega)
        · exact anew 127 (by rw [e2, size_76]) (.inr (.inr rfl)) (by rw [e2, size_76]; decide) (by omega)
      · first
          | refine wp_if_neg (by simp [hf]) ?_
          | (refine wpAny_bind ?_; refine wp_if_neg (by simp [hf]) ?_; refine wpAny_pure ?_)
        refine wpAny_pure (hQ true h1 L1 es1 (ep + 1) t2 sb ⟨⟨_, ho1, ⟨hex.1, hex.2.1, hex.2.2⟩, rfl⟩, hin, T2, nd1, by rw [f4]; exact ld1, ?_, by rw [hlen]; exact hfew⟩ (fun z => absurd z hm) fun _ => pm)
        have nf : ¬ (L.length + 1) * 5 ≥ t.mask * 3 := fun z => hf (f5.trans (full1.mpr z))
        rw [hlen, f3, q4]
        omega
    by_cases hpl : t1.plain = true
    · first
        | (refine wpAny_bind ?_; refine wp_if_pos hpl ?_; refine κ.byVal hx fun b => ?_)
        | refine wp_if_pos hpl (wpAny_bind (κ.byVal hx fun b => ?_))
      cases b with
      | true => exact rest true _ rfl
      | false => exact rest false _ rfl
    · first
        | (refine wpAny_bind ?_; refine wp_if_neg hpl ?_; refine wpAny_pure ?_)
        | refine wp_if_neg hpl (wpAny_bind (wpAny_pure ?_))
      exact rest true _ rfl
end
end Sk
set_option Elab.async false
set_option linter.all false
set_option maxRecDepth 100000
set_option maxHeartbeats 2000000
namespace Sk
open PySem PySem.Spec PyProof.Rows L2
abbrev noneIn (w : World) : Obj := { cls := .type "set", dict := none, data := .set #[] 0 (.fresh 0 0 (!w.params.followText "set-order")) }
structure Adder (P : Program) (w : World) (h0 : Heap) (a : Addr) (vs : List Value) where
  St : Nat → Heap → Prop
  at' : ∀ {i : Nat} {h h' : Heap}, St i h → (∀ o, h.get? a = some o → h'.get? a = some o) → St i h'
  start : ∀ {h : Heap}, h.get? a = some (noneIn w) → St 0 h
  add : ∀ {A : Around} {E : Value → Shared → Prop} {s : Shared} {i : Nat} {v : Value} {Q : Bool → Shared → Prop}, A.units < cLine → vs[i]? = some v → (∀ b o, h0.get? b = some o → s.heap.get? b = some o) → St i s.heap →
    (∀ b h' tk, s.toks ≤ tk → Heap.SameBut a s.heap h' → St (i + 1) h' → Q b { s with heap := h', toks := tk }) → wpAny (model P w) A (setAdd a v) Q E s
section
variable {P : Program} {w : World} {A : Around} {E : Value → Shared → Prop} {s : Shared}
theorem fill {I S : Addr} {fp wr : List Addr} {G : Array GenState → Array GenState → Prop} {n : Nat} {Pv : Nat → Value → Prop} {Si : Nat → Shared → Prop} {R : Result → Shared → Prop} {h0 : Heap} {vs : List Value}
    (W : WalksS P w A.in1 I fp wr G n Pv Si) (hSf : S ∉ fp) (D : Adder P w h0 S vs) (hn : n = vs.length) (hval : ∀ i v, Pv i v → vs[i]? = some v) (hS0 : h0.get? S = none) (hw0 : ∀ b ∈ wr, h0.get? b = none) (hu : A.in1.units < cLine) (m : Nat) :
    ∀ (i : Nat) (s : Shared), n - i = m → i ≤ n → Si i s → (∀ b o, h0.get? b = some o → s.heap.get? b = some o) → D.St i s.heap →
      (∀ s', Moved (S :: wr) G s s' → D.St n s'.heap → (∀ b o, h0.get? b = some o → s'.heap.get? b = some o) → R (.ok (.ret .none)) s') →
      codeAny (model P w) A (.builtin "set.update.loop" ⟨[.ref S, .ref I], []⟩) R s := by
  have sub : ∀ b ∈ wr, b ∈ S :: wr := fun b hb => List.mem_cons_of_mem _ hb
  have nS : S ∉ wr := fun h => hSf (W.sub _ h)
  have old : ∀ {s s' : Shared}, Moved wr G s s' → (∀ b o, h0.get? b = some o → s.heap.get? b = some o) → ∀ b o, h0.get? b = some o → s'.heap.get? b = some o := fun hm k b o e =>
    hm.heap b o (fun hb => by rw [hw0 b hb] at e; cases e) (k b o e)
  induction m with
  | zero =>
    intro i s hm hi hst k0 d hR
    obtain rfl : i = n := by omega
    refine codeAny_builtin F.entry_set_update_loop ?_
    rw [Around.under_plainId F.plain_set_update_loop _]
    refine wpAny_bind (W.done s _ _ hst fun s' mv => ?_)
    exact wpAny_pure (hR s' (mv.mono sub) (D.at' d fun o e => mv.heap S o nS e) (old mv k0))
  | succ m ih =>
    intro i s hm hi hst k0 d hR
    have lt : i < n := by omega
    refine codeAny_builtin F.entry_set_update_loop ?_
    rw [Around.under_plainId F.plain_set_update_loop _]
    refine wpAny_bind (W.item i s _ _ lt hst fun v s' hP hst' mv => ?_)
    have k1 := old mv k0
    show wpAny _ A.in1 (holding [v] (setAdd S v) >>= _) _ _ s'
    refine wpAny_bind (wpAny_holding (D.add hu (hval i v hP) k1 (D.at' d fun o e => mv.heap S o nS e) fun b h' tk htk sb d' => ?_))
    have k2 : ∀ b o, h0.get? b = some o → h'.get? b = some o := fun b o e => (sb.2 b (fun z => by rw [z, hS0] at e; cases e)).trans (k1 b o e)
    refine wpAny_pure ⟨plainId_quiet F.plain_set_update_loop _, ih (i + 1) _ (by omega) lt (W.frame _ s' _ _ hst' htk fun b hb o e => ?_) k2 d' fun s'' mv2 d2 k3 => ?_⟩
    · exact (sb.2 b fun z => hSf (z ▸ hb)).trans e
    · refine hR s'' (Moved.trans W.gtrans ((mv.mono sub).then_heap htk fun b o hb e => ?_) mv2) d2 k3
      exact (sb.2 b fun z => hb (z ▸ List.mem_cons_self)).trans e
set_option maxHeartbeats 3200000 in
/-- set(xs), xs a list -/
theorem set_of_list {l : Addr} {items : Array Value} {vs : List Value} {Q : Value → Shared → Prop} (hv : items.toList = vs) (D : Adder P w s.heap s.heap.objs.size vs) (hh : A.handled = none) (hl : s.heap.IsList l items) (hu : A.units + 3 < cLine)
    (h : ∀ (h' : Heap) (tk : Nat), D.St vs.length h' → (∀ b o, s.heap.get? b = some o → h'.get? b = some o) → Q (.ref s.heap.objs.size) { s with heap := h', toks := tk }) :
    wpAny (model P w) A (call (.type "set") [.ref l]) Q E s := by
  have vz : items.size = vs.length := by rw [← hv, Array.length_toList]
  obtain ⟨c, tl, hmro⟩ := F.called_set.mro
  have hmade := F.called_set.made
  have hsub := F.called_set.sub
  refine wpAny_call (codeAny_of_tree ?_)
  show wpAny _ _ (callAny (.type "set") _) _ _ _
  refine wpAny_pure ⟨Code.quiet_builtin _ (by decide +kernel), codeAny_builtin F.entry_type_call ?_⟩
  rw [Around.under_plain (weight_type_call_type "set" [.ref l] []) rfl]
  have h1 := F.called_set.notType
  have h2 := F.called_set.canCreate
  have hct := F.typeCall_set_1 (.ref l)
  repeat (any_goals (first | assumption | wp_step))
  refine codeAny_mono (code_set_led1 (.ref l) (E := E) (Q₁ := fun ob z => ob = .ref s.heap.objs.size ∧ z = { s with heap := s.heap.push (noneIn w) }) ⟨rfl, rfl⟩) fun r z hr => ?_
  match r, hr with
  | .error e, hr => exact hr
  | .ok (.ret ob), hr =>
    obtain ⟨rfl, rfl⟩ := hr
    have hS : (s.heap.push (noneIn w)).get? s.heap.objs.size = some (noneIn w) := Heap.get?_push_size _ rfl
    have hT : Shared.TypeIs { s with heap := s.heap.push (noneIn w) } (.ref s.heap.objs.size) "set" := ⟨_, hS, rfl⟩
    have hli := F.called_set.init.lookup
    have hbi := F.called_set.init.bind (.ref s.heap.objs.size)
    repeat (any_goals (first | assumption | wp_step))
    refine codeAny_mono (codeAny_call_builtin (R := wants (fun r z => r = .none ∧ ∃ h' tk, z = { s with heap := h', toks := tk } ∧ D.St vs.length h' ∧ ∀ b o, s.heap.get? b = some o → h'.get? b = some o) E)
      F.called_set.init.plain F.entry_set_init (check_set_init_1 hT ?_)) fun r z hr => ?_
    · obtain ⟨ol, hol, hcl, nl, hdl⟩ := hl
      obtain ⟨ocls, odict, odata, oslots⟩ := ol
      simp only at hcl hdl
      subst hcl hdl
      have hl1 : (s.heap.push (noneIn w)).IsList l items := ⟨_, Heap.get?_push_of_some _ hol, rfl, nl, rfl⟩
      have hol' := Heap.get?_push_of_some (noneIn w) hol
      have hsls := F.sub_list_set
      have hslf := F.sub_list_frozenset
      have hne : (Value.type "list" == Value.type "dict") = false := by decide
      unfold Builtin.«set.__init__» noKeywords Builtin.Frozenset.updateFrom
      generalize hPI : pyIter = PI
      wp_walk
      subst hPI
      refine wpAny_pyIter_list hl1 ?_
      refine wpAny_bind (wpAny_runValue ?_)
      have lS : l < s.heap.objs.size := Heap.lt_size hol
      have psz : (s.heap.push (noneIn w)).objs.size = s.heap.objs.size + 1 := Heap.size_push ..
      have gone : ∀ b, s.heap.objs.size ≤ b → s.heap.get? b = none := fun b hb => by
        cases q : s.heap.get? b with
        | none => rfl
        | some o => exact absurd (Nat.lt_of_lt_of_le (Heap.lt_size q) hb) (Nat.lt_irrefl _)
      refine fill ((Walks.list (show A.in1.in1.in1.handled = none by simp [hh]) _ l (by rw [psz]; exact Nat.ne_of_lt (Nat.lt_succ_of_lt lS)) items).toS) (by
          rw [psz]
          simp only [List.mem_cons, List.mem_singleton, List.not_mem_nil, or_false, not_or]
          exact ⟨Nat.ne_of_lt (Nat.lt_succ_self _), Nat.ne_of_gt lS⟩) D vz (fun i v hi => by rw [← hv, Array.getElem?_toList]; exact hi) (gone _ (Nat.le_refl _))
        (fun b hb => gone b (by rw [List.mem_singleton.mp hb, psz]; exact Nat.le_succ _)) (by show A.units + 1 + 1 + 1 < cLine; omega) items.size 0 _ (by omega) (Nat.zero_le _) ⟨⟨_, Heap.get?_push_size _ rfl, rfl, rfl⟩, hl1.push _⟩
        (fun b o e => Heap.get?_push_of_some _ (Heap.get?_push_of_some _ e)) (D.start (Heap.get?_push_of_some _ hS)) fun z' mv d k => ?_
      obtain ⟨h', g2, d2, tk, os2⟩ := z'
      have eg : g2 = s.gens := mv.gens
      have ed : d2 = s.drawn := mv.drawn
      have eo : os2 = s.os := mv.os
      subst eg ed eo
      rw [vz] at d
      refine wpAny_pure ?_
      exact wpAny_pure ⟨rfl, h', tk, rfl, d, k⟩
    · match r, hr with
      | .error e, hr => exact hr
      | .ok (.ret r), hr =>
        obtain ⟨rfl, h', tk, rfl, d, k⟩ := hr
        repeat (any_goals (first | assumption | wp_step))
        exact h _ _ d k
set_option maxHeartbeats 3200000 in
/-- set(xs), xs a tuple -/
theorem set_of_tuple {l : Addr} {items : Array Value} {vs : List Value} {Q : Value → Shared → Prop} (hv : items.toList = vs) (D : Adder P w s.heap s.heap.objs.size vs) (hh : A.handled = none) (hl : s.heap.IsTuple l items) (hu : A.units + 3 < cLine)
    (h : ∀ (h' : Heap) (tk : Nat), D.St vs.length h' → (∀ b o, s.heap.get? b = some o → h'.get? b = some o) → Q (.ref s.heap.objs.size) { s with heap := h', toks := tk }) :
    wpAny (model P w) A (call (.type "set") [.ref l]) Q E s := by
  have vz : items.size = vs.length := by rw [← hv, Array.length_toList]
  obtain ⟨c, tl, hmro⟩ := F.called_set.mro
  have hmade := F.called_set.made
  have hsub := F.called_set.sub
  refine wpAny_call (codeAny_of_tree ?_)
  show wpAny _ _ (callAny (.type "set") _) _ _ _
  refine wpAny_pure ⟨Code.quiet_builtin _ (by decide +kernel), codeAny_builtin F.entry_type_call ?_⟩
  rw [Around.under_plain (weight_type_call_type "set" [.ref l] []) rfl]
  have h1 := F.called_set.notType
  have h2 := F.called_set.canCreate
  have hct := F.typeCall_set_1 (.ref l)
  repeat (any_goals (first | assumption | wp_step))
  refine codeAny_mono (code_set_led1 (.ref l) (E := E) (Q₁ := fun ob z => ob = .ref s.heap.objs.size ∧ z = { s with heap := s.heap.push (noneIn w) }) ⟨rfl, rfl⟩) fun r z hr => ?_
  match r, hr with
  | .error e, hr => exact hr
  | .ok (.ret ob), hr =>
    obtain ⟨rfl, rfl⟩ := hr
    have hS : (s.heap.push (noneIn w)).get? s.heap.objs.size = some (noneIn w) := Heap.get?_push_size _ rfl
    have hT : Shared.TypeIs { s with heap := s.heap.push (noneIn w) } (.ref s.heap.objs.size) "set" := ⟨_, hS, rfl⟩
    have hli := F.called_set.init.lookup
    have hbi := F.called_set.init.bind (.ref s.heap.objs.size)
    repeat (any_goals (first | assumption | wp_step))
    refine codeAny_mono (codeAny_call_builtin (R := wants (fun r z => r = .none ∧ ∃ h' tk, z = { s with heap := h', toks := tk } ∧ D.St vs.length h' ∧ ∀ b o, s.heap.get? b = some o → h'.get? b = some o) E)
      F.called_set.init.plain F.entry_set_init (check_set_init_1 hT ?_)) fun r z hr => ?_
    · obtain ⟨ol, hol, hcl, nl, hdl⟩ := hl
      obtain ⟨ocls, odict, odata, oslots⟩ := ol
      simp only at hcl hdl
      subst hcl hdl
      have hl1 : (s.heap.push (noneIn w)).IsTuple l items := ⟨_, Heap.get?_push_of_some _ hol, rfl, nl, rfl⟩
      have hol' := Heap.get?_push_of_some (noneIn w) hol
      have hsls := F.sub_tuple_set
      have hslf := F.sub_tuple_frozenset
      have hne : (Value.type "tuple" == Value.type "dict") = false := by decide
      unfold Builtin.«set.__init__» noKeywords Builtin.Frozenset.updateFrom
      generalize hPI : pyIter = PI
      wp_walk
      subst hPI
      refine wpAny_pyIter_tuple hl1 ?_
      refine wpAny_bind (wpAny_runValue ?_)
      have lS : l < s.heap.objs.size := Heap.lt_size hol
      have psz : (s.heap.push (noneIn w)).objs.size = s.heap.objs.size + 1 := Heap.size_push ..
      have gone : ∀ b, s.heap.objs.size ≤ b → s.heap.get? b = none := fun b hb => by
        cases q : s.heap.get? b with
        | none => rfl
        | some o => exact absurd (Nat.lt_of_lt_of_le (Heap.lt_size q) hb) (Nat.lt_irrefl _)
      refine fill ((Walks.tuple (show A.in1.in1.in1.handled = none by simp [hh]) _ l (by rw [psz]; exact Nat.ne_of_lt (Nat.lt_succ_of_lt lS)) items).toS) (by
          rw [psz]
          simp only [List.mem_cons, List.mem_singleton, List.not_mem_nil, or_false, not_or]
          exact ⟨Nat.ne_of_lt (Nat.lt_succ_self _), Nat.ne_of_gt lS⟩) D vz (fun i v hi => by rw [← hv, Array.getElem?_toList]; exact hi) (gone _ (Nat.le_refl _))
        (fun b hb => gone b (by rw [List.mem_singleton.mp hb, psz]; exact Nat.le_succ _)) (by show A.units + 1 + 1 + 1 < cLine; omega) items.size 0 _ (by omega) (Nat.zero_le _) ⟨⟨_, Heap.get?_push_size _ rfl, rfl, rfl⟩, hl1.push _⟩
        (fun b o e => Heap.get?_push_of_some _ (Heap.get?_push_of_some _ e)) (D.start (Heap.get?_push_of_some _ hS)) fun z' mv d k => ?_
      obtain ⟨h', g2, d2, tk, os2⟩ := z'
      have eg : g2 = s.gens := mv.gens
      have ed : d2 = s.drawn := mv.drawn
      have eo : os2 = s.os := mv.os
      subst eg ed eo
      rw [vz] at d
      refine wpAny_pure ?_
      exact wpAny_pure ⟨rfl, h', tk, rfl, d, k⟩
    · match r, hr with
      | .error e, hr => exact hr
      | .ok (.ret r), hr =>
        obtain ⟨rfl, h', tk, rfl, d, k⟩ := hr
        repeat (any_goals (first | assumption | wp_step))
        exact h _ _ d k
end
end Sk
set_option Elab.async false
set_option linter.all false
set_option maxRecDepth 100000
set_option maxHeartbeats 2000000
namespace Sk
open PySem PySem.Spec PyProof.Rows L2
theorem paired_perm {α β : Type} {R : α → β → Prop} {bs bs' : List β} (p : bs'.Perm bs) : ∀ {as : List α}, Paired R as bs → ∃ as', as'.Perm as ∧ Paired R as' bs' := by
  induction p with
  | nil => intro as h; exact ⟨as, List.Perm.refl _, h⟩
  | cons x _ ih =>
    intro as h
    cases h with
    | cons r t =>
      obtain ⟨as', p', h'⟩ := ih t
      exact ⟨_ :: as', p'.cons _, .cons r h'⟩
  | swap x y l =>
    intro as h
    cases h with
    | cons r t =>
      cases t with
      | cons r2 t2 => exact ⟨_ :: _ :: _, List.Perm.swap _ _ _, .cons r2 (.cons r t2)⟩
  | trans _ _ ih1 ih2 =>
    intro as h
    obtain ⟨a1, p1, h1⟩ := ih2 h
    obtain ⟨a2, p2, h2⟩ := ih1 h1
    exact ⟨a2, p2.trans p1, h2⟩
theorem paired_at {α β : Type} {R : α → β → Prop} : ∀ {as : List α} {bs : List β} {i : Nat} {b : β}, Paired R as bs → bs[i]? = some b → ∃ a, as[i]? = some a ∧ R a b
  | _, _, _, _, .nil, e => by simp at e
  | _, _, 0, _, .cons r _, e => by simp at e; subst e; exact ⟨_, rfl, r⟩
  | _, _, i + 1, b, .cons _ t, e => by
    obtain ⟨a, h1, h2⟩ := paired_at (i := i) (b := b) t (by simpa using e)
    exact ⟨a, by simpa using h1, h2⟩
theorem paired_len {α β : Type} {R : α → β → Prop} : ∀ {as : List α} {bs : List β}, Paired R as bs → as.length = bs.length
  | _, _, .nil => rfl
  | _, _, .cons _ t => congrArg (· + 1) (paired_len t)
theorem take_next' {α : Type} {l : List α} {i : Nat} {x : α} (h : l[i]? = some x) : l.take (i + 1) = l.take i ++ [x] := by
  rw [List.take_succ, h]
  rfl
def GotK {α : Type} (ks : List α) (i : Nat) (L : List α) : Prop := L.Nodup ∧ L.length ≤ i ∧ ∀ k, k ∈ L ↔ k ∈ ks.take i
theorem GotK.next {α : Type} {ks L L' : List α} {i : Nat} {k : α} (g : GotK ks i L) (h : ks[i]? = some k) (hin : k ∈ L → L'.Perm L) (hout : k ∉ L → L'.Perm (k :: L)) : GotK ks (i + 1) L' := by
  obtain ⟨g1, g2, g3⟩ := g
  have tk := take_next' h
  by_cases c : k ∈ L
  · have p := hin c
    refine ⟨p.nodup_iff.mpr g1, by rw [p.length_eq]; omega, fun j => ?_⟩
    rw [p.mem_iff, g3, tk, List.mem_append, List.mem_singleton]
    exact ⟨Or.inl, fun z => z.elim id fun e => by rw [e]; exact (g3 k).mp c⟩
  · have p := hout c
    refine ⟨p.nodup_iff.mpr (List.nodup_cons.mpr ⟨c, g1⟩), by rw [p.length_eq, List.length_cons]; omega, fun j => ?_⟩
    rw [p.mem_iff, List.mem_cons, g3, tk, List.mem_append, List.mem_singleton]
    exact Or.comm
structure Walkable (w : World) (h : Heap) (a : Addr) (es : Array (Int × Value)) : Prop where
  ex : ∃ ep t, SetAt h a es ep t ∧ t.fits es.size = true ∧ Ris t.place.toList ∧ (w.params.followText "set-order" = true ∨ t.led = true)
  few : es.size < scanBound
section
variable {P : Program} {w : World} {A : Around} {E : Value → Shared → Prop} {s : Shared}
theorem keyIs_inj {x y : Key} {v : Value} (h : keyIs x v = true) (h' : keyIs y v = true) : x = y := by
  rcases keyIs_shape h with ⟨i, t, rfl, rfl⟩ | ⟨z, t, rfl, rfl⟩
  · rcases keyIs_shape h' with ⟨j, u, rfl, e⟩ | ⟨z, u, _, e⟩
    · injection e with e1 _
      rw [e1]
    · cases e
  · rcases keyIs_shape h' with ⟨j, u, _, e⟩ | ⟨y, u, rfl, e⟩
    · cases e
    · injection e with e1 _
      rw [e1]
def FElem (e : Int × Value) (k : Key) : Prop := keyIs k e.2 = true ∧ e.1 = keyH w k ∧ e.2.scannable = true
structure SetF (w : World) (h : Heap) (a : Addr) (L : List Key) : Prop where
  ex : ∃ o es ep t, h.get? a = some o ∧ o.ExactSet ∧ o.data = .set es ep t ∧ Paired (fun k e => FElem (w := w) e k) L es.toList ∧ es.size < scanBound ∧ t.fits es.size = true ∧ Ris t.place.toList ∧ (w.params.followText "set-order" = true ∨ t.led = true)
theorem felems : ∀ {L : List Key} {l : List (Int × Value)}, Paired (fun k e => FElem (w := w) e k) L l → ElemsOf (mixKind P w) l
  | _, _, .nil => fun e he => absurd he List.not_mem_nil
  | _, _, .cons r t => fun e he => by
    rcases List.mem_cons.mp he with rfl | he
    · exact ⟨⟨_, r.1, r.2.1⟩, r.2.2⟩
    · exact felems t e he
theorem felem_key {e : Int × Value} {k j : Key} (h : FElem (w := w) e k) : keyIs j e.2 = true ↔ j = k := ⟨fun z => keyIs_inj z h.1, fun z => by rw [z]; exact h.1⟩
theorem findIdx_key {k : Key} : ∀ {L : List Key} {l : List (Int × Value)}, Paired (fun k e => FElem (w := w) e k) L l → (l.findIdx? fun e => keyIs k e.2) = L.findIdx? fun j => decide (j = k)
  | _, _, .nil => rfl
  | _, _, .cons (a := j) (b := e) r t => by
    rw [List.findIdx?_cons, List.findIdx?_cons, findIdx_key t]
    have q : keyIs k e.2 = decide (j = k) := by
      by_cases c : j = k
      · rw [decide_eq_true c]
        exact (felem_key r).mpr c.symm
      · rw [decide_eq_false c]
        cases z : keyIs k e.2 with
        | false => rfl
        | true => exact absurd ((felem_key r).mp z).symm c
    rw [q]
theorem stored {h : Heap} {a : Addr} {o : Obj} {es es' : Array (Int × Value)} {ep : Nat} {t t' : SetTable} {L' : List Key} (ho : h.get? a = some o) (hex : o.ExactSet) (hd : o.data = .set es ep t)
    (hp : Paired (fun k e => FElem (w := w) e k) L' es'.toList) (hb : es'.size < scanBound) (hf : t'.fits es'.size = true) (hr : Ris t'.place.toList) (hl : w.params.followText "set-order" = true ∨ t'.led = true) :
    SetF w (h.update a (Obj.putSet es' t')) a L' := ⟨_, es', ep + 1, t', store_at ho hd, ⟨hex.1, hex.2.1, hex.2.2⟩, rfl, hp, hb, hf, hr, hl⟩
theorem add_f {a : Addr} {L : List Key} (R : SetF w s.heap a L) {v : Value} {k : Key} (hk : keyIs k v = true) (hfew : L.length + 1 < scanBound) {Q : Bool → Shared → Prop}
    (hQ : ∀ b h' L', Heap.SameBut a s.heap h' → SetF w h' a L' → (k ∈ L → L'.Perm L) → (k ∉ L → L'.Perm (k :: L)) → Q b { s with heap := h' }) :
    wpAny (model P w) A (setAddHashed a v (keyH w k)) Q E s := by
  obtain ⟨o, es, ep, t, ho, hex, hd, hp, hb, hf, hr, hl⟩ := R.ex
  have hsc : v.scannable = true := by
    rcases keyIs_shape hk with ⟨i, u, _, rfl⟩ | ⟨z, u, _, rfl⟩ <;> rfl
  have hel : ElemsOf (mixKind P w) es.toList := felems hp
  have esz : es.size = L.length := by rw [← Array.length_toList, paired_len hp]
  show wpAny (model P w) A (setAddHashed a v ((mixKind P w).hash k)) Q E s
  unfold setAddHashed setAddHashedIn
  refine wpAny_holding (wpAny_bind (wpAny_setState_of ho hd hf ?_))
  dsimp only
  rw [byScan_of hsc hb hel]
  simp only [↓reduceIte]
  unfold setAddByScan
  refine wpAny_bind (wpAny_bind (wpAny_rule (wpAny_bind (wpAny_setScan_of (knd := mixKind P w) hk ho hd hf hel ?_))))
  have ix := findIdx_key (k := k) hp
  rw [show (fun e : Int × Value => (mixKind P w).is k e.2) = fun e => keyIs k e.2 from rfl, ix]
  cases hi : L.findIdx? fun j => decide (j = k) with
  | some j =>
    dsimp only
    obtain ⟨hj, pj, _⟩ := List.findIdx?_eq_some_iff_getElem.mp hi
    have km : k ∈ L := by
      rw [← of_decide_eq_true pj]
      exact List.getElem_mem hj
    exact wpAny_pure (wpAny_pure (hQ false s.heap L (Heap.SameBut.refl a s.heap) R (fun _ => List.Perm.refl _) fun z => absurd km z))
  | none =>
    dsimp only
    have kn : k ∉ L := fun z => by
      have c := List.findIdx?_eq_none_iff.mp hi k z
      rw [decide_eq_true rfl] at c
      cases c
    have gw : ∀ (b : Bool) {z : Shared} {Q' : Unit → Shared → Prop}, Q' () z → wpAny (model P w) A (match b with | true => rule "set.scan.the-table-gave-way" | false => pure ()) Q' E z :=
      fun b z Q' q => by cases b <;> first | exact wpAny_pure q | exact wpAny_rule q
    have pm := layNew_perm t es ((mixKind P w).hash k) v
    have f1 := layNew_fits t es ((mixKind P w).hash k) v
    have r1 := layNew_ris t es ((mixKind P w).hash k) v hr
    have l1 := layNew_led t es ((mixKind P w).hash k) v
    generalize layNew t es ((mixKind P w).hash k) v = Z at pm f1 r1 l1 ⊢
    obtain ⟨es1, t1, wasDummy, gave⟩ := Z
    dsimp only at pm f1 r1 l1 ⊢
    rw [Array.toList_push] at pm
    have snoc : Paired (fun k e => FElem (w := w) e k) (L ++ [k]) (es.toList ++ [((mixKind P w).hash k, v)]) := hp.snoc ⟨hk, rfl, hsc⟩
    obtain ⟨L1, p1, h1⟩ := paired_perm pm snoc
    have pL : L1.Perm (k :: L) := p1.trans (List.perm_append_singleton _ _)
    have es1z : es1.size = L.length + 1 := by rw [← Array.length_toList, ← paired_len h1, pL.length_eq, List.length_cons]
    have ld1 : w.params.followText "set-order" = true ∨ t1.led = true := hl.imp id fun z => by rw [l1]; exact z
    have rest : ∀ (b : Bool) (t2 : SetTable), t2 = (if b = true then t1 else { t1 with plain := false }) → wpAny (model P w) A (do
        storeSet a es1 t2
        if (!wasDummy && t2.tooFull) = true then do
            (match (relayAll t2 es1 (SetTable.grown es1.size)).2.2 with | true => rule "set.scan.the-table-gave-way" | false => pure ())
            storeSet a (relayAll t2 es1 (SetTable.grown es1.size)).1 (relayAll t2 es1 (SetTable.grown es1.size)).2.1
            pure (some true)
          else pure (some true)) (fun r z => wpAny (model P w) A (match r with | some added => pure added | none => setAddHashedIn a v ((mixKind P w).hash k) 99999) Q E z) E s := by
      intro b t2 e2
      have c1 : t2.place = t1.place := by rw [e2]; split <;> rfl
      have c2 : t2.led = t1.led := by rw [e2]; split <;> rfl
      have c3 : t2.fits es1.size = true := by rw [e2]; split <;> first | exact f1 | exact SetTable.fits_plain_off f1
      have sb : Heap.SameBut a s.heap (s.heap.update a (Obj.putSet es1 t2)) := Heap.SameBut.update ..
      have hb1 : es1.size < scanBound := by rw [es1z]; exact hfew
      refine wpAny_bind (wpAny_storeSet_of ho hd ?_ (fits_of_scanBound hb1))
      have ho1 := store_at (es' := es1) (t' := t2) ho hd
      have fin1 : SetF w (s.heap.update a (Obj.putSet es1 t2)) a L1 := stored ho hex hd h1 hb1 c3 (by rw [c1]; exact r1) (by rw [c2]; exact ld1)
      by_cases hfull : (!wasDummy && t2.tooFull) = true
      · refine wp_if_pos hfull ?_
        have q1 := relayAll_perm t2 es1 (SetTable.grown es1.size)
        have q2 := relayAll_fits t2 es1 (SetTable.grown es1.size)
        have q3 := relayAll_ris t2 es1 (SetTable.grown es1.size)
        have q4 := relayAll_led t2 es1 (SetTable.grown es1.size)
        generalize relayAll t2 es1 (SetTable.grown es1.size) = Z at q1 q2 q3 q4 ⊢
        obtain ⟨es2, t3, gave3⟩ := Z
        dsimp only at q1 q2 q3 q4 ⊢
        obtain ⟨L2, p2, h2⟩ := paired_perm q1 h1
        have es2z : es2.size = es1.size := by rw [← Array.length_toList, q1.length_eq, Array.length_toList]
        have hb2 : es2.size < scanBound := by rw [es2z]; exact hb1
        refine wpAny_bind (gw _ ?_)
        refine wpAny_bind (wpAny_storeSet_of ho1 rfl ?_ (fits_of_scanBound hb2))
        refine wpAny_pure (wpAny_pure (hQ true _ L2 (sb.trans (Heap.SameBut.update _ a _)) (stored ho1 ⟨hex.1, hex.2.1, hex.2.2⟩ rfl h2 hb2 q2 q3 (by rw [q4, c2]; exact ld1)) (fun z => absurd z kn) fun _ => p2.trans pL))
      · refine wp_if_neg hfull ?_
        exact wpAny_pure (wpAny_pure (hQ true _ L1 sb fin1 (fun z => absurd z kn) fun _ => pL))
    refine wpAny_bind (gw _ ?_)
    by_cases hpl : t1.plain = true
    · first
        | (refine wpAny_bind ?_; refine wp_if_pos hpl ?_; rw [hashByValue_scannable 8 hsc]; refine wpAny_pure ?_)
        | (refine wp_if_pos hpl ?_; refine wpAny_bind ?_; rw [hashByValue_scannable 8 hsc]; refine wpAny_pure ?_)
      exact rest (plainKind v) _ rfl
    · first
        | (refine wpAny_bind ?_; refine wp_if_neg hpl ?_; refine wpAny_pure ?_)
        | refine wp_if_neg hpl (wpAny_bind (wpAny_pure ?_))
      exact rest true _ rfl
end
end Sk
set_option Elab.async false
set_option linter.all false
set_option maxRecDepth 100000
set_option maxHeartbeats 2000000
namespace Sk
open PySem PySem.Spec PyProof.Rows L2
structure SrtK (P : Program) (w : World) (h : Heap) (good : Value → Prop) where
  κ : PyProof.Rows.KeyKind
  kd : SortKind
  keys : ∀ v, good v → ∃ a, κ.keyOf v = some a
  lt : ∀ s2 : Shared, KeepT h s2.heap → PyProof.Rows.G.LtAt P w s2 κ kd
  kk : ∀ vs : List Value, (∀ v ∈ vs, good v) → 2 ≤ vs.length → ∀ (A : Around) (E : Value → Shared → Prop) (s2 : Shared) {Q : SortKind → Shared → Prop}, KeepT h s2.heap → Q kd s2 → wpAny (model P w) A (keyKind' vs.toArray) Q E s2
def SrtK.keep {P : Program} {w : World} {h h' : Heap} {good : Value → Prop} (S : SrtK P w h good) (k : KeepT h h') : SrtK P w h' good where
  κ := S.κ
  kd := S.kd
  keys := S.keys
  lt := fun s2 k2 => S.lt s2 (k.trans k2)
  kk := fun vs hv h2 A E s2 Q k2 hq => S.kk vs hv h2 A E s2 (k.trans k2) hq
def Upto (κ : PyProof.Rows.KeyKind) (u v : Value) : Prop := ∀ a b, κ.keyOf u = some a → κ.keyOf v = some b → κ.kle a b
theorem pairs_eq {vs : List Value} {p : Keyed} (h : p ∈ vs.zip vs) : p.1 = p.2 ∧ p.2 ∈ vs := by
  induction vs with
  | nil => cases h
  | cons v r ih =>
    rw [List.zip_cons_cons] at h
    rcases List.mem_cons.mp h with rfl | h
    · exact ⟨rfl, List.mem_cons_self⟩
    · exact ⟨(ih h).1, List.mem_cons_of_mem _ (ih h).2⟩
theorem out_of {κ : PyProof.Rows.KeyKind} {arr : Array Keyed} {vs : List Value} (hp : arr.Perm (pairsOf vs)) (hs : SortedToK κ arr (pairsOf vs).size) : (arr.map (·.2)).toList.Perm vs ∧ (arr.map (·.2)).toList.Pairwise (Upto κ) := by
  have hl : arr.toList.Perm (vs.zip vs) := by
    have := hp.toList
    rwa [pairsOf_toList] at this
  have heq : ∀ p ∈ arr.toList, p.1 = p.2 := fun p hp => (pairs_eq (hl.mem_iff.mp hp)).1
  have hsz : (pairsOf vs).size = arr.size := hp.size_eq.symm
  refine ⟨?_, ?_⟩
  · rw [Array.toList_map]
    have z := hl.map Prod.snd
    rwa [List.map_snd_zip (Nat.le_refl _)] at z
  · rw [Array.toList_map, List.pairwise_map, List.pairwise_iff_getElem]
    intro i j hi hj hij a b ha hb
    rw [Array.length_toList] at hi hj
    have q := hs i j (Nat.le_of_lt hij) (by rw [hsz]; exact hj)
    have ei : arr.toList[i] = arr[i] := Array.getElem_toList _
    have ej : arr.toList[j] = arr[j] := Array.getElem_toList _
    rw [ei] at ha
    rw [ej] at hb
    have e1 : KK κ arr i = a := by
      unfold KK
      rw [Array.getElem?_eq_getElem hi]
      dsimp only
      rw [heq arr[i] (by rw [← ei]; exact List.getElem_mem _), ha]
      rfl
    have e2 : KK κ arr j = b := by
      unfold KK
      rw [Array.getElem?_eq_getElem hj]
      dsimp only
      rw [heq arr[j] (by rw [← ej]; exact List.getElem_mem _), hb]
      rfl
    rwa [e1, e2] at q
section
variable {P : Program} {w : World} {A : Around} {E : Value → Shared → Prop} {s : Shared}
theorem sorted_by {x : Value} {Q : Value → Shared → Prop}
    (hc : ∀ {R : List Value → Shared → Prop}, (∀ (s1 : Shared) (vs : List Value) (good : Value → Prop) (S : SrtK P w s1.heap good), (∀ v ∈ vs, good v) → vs.length ≤ sizeLine →
      (∀ (out : Array Value) (c : Nat) (h' : Heap), (∀ b o, s1.heap.get? b = some o → h'.get? b = some o) → h'.get? s1.heap.objs.size = some (seqObj "list" out c) → out.toList.Perm vs → out.toList.Pairwise (Upto S.κ) → Q (.ref s1.heap.objs.size) { s1 with heap := h' }) → R vs s1) →
      wpAny (model P w) A.in1 (collect x) R E s) :
    wpAny (model P w) A (call (.builtin "sorted") [x]) Q E s := by
  refine Calls.call_function_entry kind_sorted plain_sorted entry_sorted (args_sorted1 _) ?_
  unfold Builtin.«sorted»
  refine wpAny_bind (m := checkCount "sorted" 1 1 _) (wpAny_pure ?_)
  refine wpAny_bind (hc fun s1 vs good S hg hz h => ?_)
  refine wpAny_bind (wpAny_newList ?_ hz)
  have ho : (s1.heap.push (seqObj "list" vs.toArray 0)).get? s1.heap.objs.size = some (seqObj "list" vs.toArray 0) := Heap.get?_push_size _ rfl
  have k0 : KeepT s1.heap (s1.heap.push (seqObj "list" vs.toArray 0)) := KeepT.all fun b o e => Heap.get?_push_of_some _ e
  have k6 : KeepT s1.heap (PyProof.Rows.G.sortHeap6 (s1.heap.push (seqObj "list" vs.toArray 0)) s1.heap.objs.size vs) := k0.trans (PyProof.Rows.G.keeps_sort6 (vs := vs) ho)
  refine wpAny_bind (wpAny_holding (wpAny_call_entry slot_list_sort ⟨_, ho, rfl⟩ entry_list_sort (PyProof.Rows.G.list_sort_treeG (s := { s1 with heap := s1.heap.push (seqObj "list" vs.toArray 0) }) (κ := S.κ) (kd := S.kd) ho (fun p hp => ?_) (S.lt _ k6) (fun h2 Q' hq => S.kk vs hg h2 _ _ _ k6 hq) hz fun st a1 a2 a3 => ⟨_, rfl, ?_⟩) (args_list_sort _)))
  · rw [pairsOf_toList] at hp
    obtain ⟨e1, e2⟩ := pairs_eq hp
    rw [e1]
    exact S.keys _ (hg _ e2)
  · obtain ⟨q1, q2⟩ := out_of a1 a2
    obtain ⟨c, hc⟩ := sortedHeap_at (vs := vs) (out := (arrOf st).map (·.2)) ho
    refine wpAny_pure ⟨_, rfl, h _ c _ (fun b o e => ?_) hc q1 q2⟩
    have lt := Heap.lt_size e
    rw [sortedHeap_old (Nat.ne_of_lt lt) (by rw [size_push']; exact Nat.lt_succ_of_lt lt)]
    exact Heap.get?_push_of_some _ e
def srtI (P : Program) (w : World) (h : Heap) : SrtK P w h (fun v => ∃ i t, v = Value.int i t) where
  κ := PyProof.Rows.intKind
  kd := oneType'
  keys := fun v hv => by obtain ⟨i, t, rfl⟩ := hv; exact ⟨i, rfl⟩
  lt := fun s2 _ A E x y a b Q ha hb hq => intKind_oneLt P w A E s2 x y a b ha hb hq
  kk := fun vs hv h2 A E s2 Q _ hq => by
    have all : ∀ vs : List Value, (∀ v ∈ vs, ∃ i t, v = Value.int i t) → ∃ ns, IntsAre vs ns := by
      intro vs
      induction vs with
      | nil => intro _; exact ⟨[], .nil⟩
      | cons v r ih =>
        intro hv
        obtain ⟨i, t, rfl⟩ := hv v List.mem_cons_self
        obtain ⟨ns, hn⟩ := ih fun u hu => hv u (List.mem_cons_of_mem _ hu)
        exact ⟨_, .cons i t hn⟩
    obtain ⟨ns, hn⟩ := all vs hv
    match vs, h2, hn with
    | v1 :: v2 :: r, _, hn =>
      rw [keyKind_ints hn]
      exact wpAny_pure hq
def srtS (P : Program) (w : World) (h : Heap) : SrtK P w h (fun v => ∃ x t, v = Value.str x t) where
  κ := PyProof.Rows.strKind
  kd := oneType'
  keys := fun v hv => by obtain ⟨x, t, rfl⟩ := hv; exact ⟨_, rfl⟩
  lt := fun s2 _ A E x y a b Q ha hb hq => strKind_oneLt P w A E s2 x y a b ha hb hq
  kk := fun vs hv h2 A E s2 Q _ hq => by
    have all : ∀ vs : List Value, (∀ v ∈ vs, ∃ x t, v = Value.str x t) → ∃ ss, StrsAre vs ss := by
      intro vs
      induction vs with
      | nil => intro _; exact ⟨[], .nil⟩
      | cons v r ih =>
        intro hv
        obtain ⟨x, t, rfl⟩ := hv v List.mem_cons_self
        obtain ⟨ss, hs⟩ := ih fun u hu => hv u (List.mem_cons_of_mem _ hu)
        exact ⟨_, .cons x t hs⟩
    obtain ⟨ss, hs⟩ := all vs hv
    match vs, h2, hs with
    | v1 :: v2 :: r, _, hs =>
      rw [keyKind_strs hs]
      exact wpAny_pure hq
def kc : Key → Int ⊕ List Nat
  | .inl i => .inl i
  | .inr x => .inr x.cps.toList
def Shape (sh : Nat → Bool) (k : List Key) : Prop := ∀ i x, k[i]? = some x → sh i = x.isRight
theorem tupItems_of {P : Program} {w : World} {sh : Nat → Bool} : ∀ {k : List Key} {vs : List Value} {n : Nat}, ItemsAre (mixKind P w) k vs → (∀ i x, k[i]? = some x → sh (n + i) = x.isRight) → PyProof.Rows.tupItems sh n vs = some (k.map kc)
  | _, _, _, .nil, _ => rfl
  | x :: k, _, n, .cons h t, hs => by
    have ih := tupItems_of (n := n + 1) t fun i y e => by
      have := hs (i + 1) y (by simpa using e)
      rwa [show n + 1 + i = n + (i + 1) by omega]
    have h0 := hs 0 x rfl
    rw [Nat.add_zero] at h0
    rcases keyIs_shape h with ⟨i, u, rfl, rfl⟩ | ⟨y, u, rfl, rfl⟩
    · unfold tupItems
      rw [if_neg (by rw [h0]; simp), ih]
      rfl
    · unfold tupItems
      rw [if_pos (by rw [h0]; rfl), ih]
      rfl
def goodT (P : Program) (w : World) (h : Heap) (sh : Nat → Bool) (v : Value) : Prop := ∃ a k, v = Value.ref a ∧ IsTupleKey (mixKind P w) h k a ∧ Shape sh k ∧ k ≠ []
theorem tupKey_of {h : Heap} {sh : Nat → Bool} {a : Addr} {k : List Key} (ht : IsTupleKey (mixKind P w) h k a) (hs : Shape sh k) : PyProof.Rows.G.tupKeyC h sh (.ref a) = some (k.map kc) := by
  obtain ⟨o, xs, n, ho, hc, hd, hi⟩ := ht
  unfold PyProof.Rows.G.tupKeyC
  have e1 : PyProof.Rows.G.isTupObj h (.ref a) = true := by
    unfold PyProof.Rows.G.isTupObj
    simp [ho, hc]
  rw [if_pos e1]
  unfold PyProof.Rows.tupKey
  simp only [ho, hd]
  exact tupItems_of hi fun i x e => by rw [Nat.zero_add]; exact hs i x e
theorem tups_of {h : Heap} {sh : Nat → Bool} : ∀ {vs : List Value}, (∀ v ∈ vs, goodT P w h sh v) → ∃ fs, PyProof.Rows.TupsOf h sh vs fs
  | [], _ => ⟨[], .nil⟩
  | v :: r, hv => by
    obtain ⟨fs, hf⟩ := tups_of fun u hu => hv u (List.mem_cons_of_mem _ hu)
    obtain ⟨a, k, rfl, ⟨o, xs, n, ho, hc, hd, hi⟩, hs, hne⟩ := hv v List.mem_cons_self
    match k, xs, hi, hne with
    | x :: k, ⟨f :: ys⟩, .cons h1 t, _ =>
      refine ⟨f :: fs, .cons ⟨a, o, _, n, rfl, ho, hc, hd, by simp, fun z => ?_, fun z => ?_⟩ hf⟩
      · have h0 := hs 0 x rfl
        rw [z] at h0
        rcases keyIs_shape h1 with ⟨i, u, rfl, rfl⟩ | ⟨y, u, rfl, rfl⟩
        · exact ⟨i, u, rfl⟩
        · cases h0
      · have h0 := hs 0 x rfl
        rw [z] at h0
        rcases keyIs_shape h1 with ⟨i, u, rfl, rfl⟩ | ⟨y, u, rfl, rfl⟩
        · cases h0
        · exact ⟨y, u, rfl⟩
def srtT (P : Program) (w : World) (h : Heap) (sh : Nat → Bool) : SrtK P w h (goodT P w h sh) where
  κ := PyProof.Rows.G.tupKindC h sh
  kd := tuples' true
  keys := fun v hv => by obtain ⟨a, k, rfl, ht, hs, _⟩ := hv; exact ⟨_, tupKey_of ht hs⟩
  lt := fun s2 k => PyProof.Rows.G.tupC_ltAt (s := s2) true k
  kk := fun vs hv h2 A E s2 Q k hq => by
    obtain ⟨fs, hf⟩ := tups_of hv
    exact PyProof.Rows.tup_kind (s := s2) (by rw [PyProof.Rows.G.TupsOf.length hf]; omega) (PyProof.Rows.G.TupsOf.keep k hf) hq
end
end Sk
set_option Elab.async false
set_option linter.all false
set_option maxRecDepth 100000
set_option maxHeartbeats 2000000
namespace Sk
open PySem PySem.Spec PyProof.Rows L2
section
variable {P : Program} {w : World}
def adderF {h0 : Heap} {a : Addr} {vs : List Value} (ks : List Key) (hk : Paired (fun k v => keyIs k v = true) ks vs) (hn : ks.length + 1 < scanBound) : Adder P w h0 a vs where
  St := fun i h => ∃ L, SetF w h a L ∧ GotK ks i L
  at' := fun x k => by
    obtain ⟨L, ⟨o, es, ep, t, ho, r⟩, g⟩ := x
    exact ⟨L, ⟨o, es, ep, t, k o ho, r⟩, g⟩
  start := fun ho => ⟨[], ⟨_, #[], 0, _, ho, ⟨rfl, rfl, rfl⟩, rfl, .nil, by decide, rfl, List.Pairwise.nil, by
    show _ ∨ (!w.params.followText "set-order") = true
    cases w.params.followText "set-order"
    · exact .inr rfl
    · exact .inl rfl⟩, List.nodup_nil, Nat.le_refl _, fun k => by simp⟩
  add := fun {A E s i v Q} hu hv hk0 x q => by
    obtain ⟨L, R, g⟩ := x
    obtain ⟨k, hki, hkv⟩ := paired_at hk hv
    have il : i < ks.length := (List.getElem?_eq_some_iff.mp hki).1
    unfold setAdd
    refine wpAny_holding (wpAny_bind ((mixKind P w).pyHash hkv ?_))
    refine add_f (by exact R) hkv (by have := g.2.1; omega) fun b h' L' sb R' c1 c2 => ?_
    refine q b h' _ ?_ sb ⟨L', R', g.next hki c1 c2⟩
    first | exact Nat.le_succ _ | exact Nat.le_refl _ | exact Nat.le_add_right _ _
def adderT {α : Type} [DecidableEq α] (κ : TKind P w α) {h0 : Heap} {a : Addr} (ks : List (Addr × α)) (hk : ∀ p ∈ ks, κ.is h0 p.2 p.1) (hn : ks.length < 64) : Adder P w h0 a (ks.map fun p => Value.ref p.1) where
  St := fun i h => ∃ L es ep t, TSet κ h a L es ep t ∧ (∀ p ∈ L, p ∈ ks) ∧ GotK (ks.map (·.2)) i (L.map (·.2))
  at' := fun x k => by
    obtain ⟨L, es, ep, t, R, g⟩ := x
    obtain ⟨o, ho, r⟩ := R.ob
    exact ⟨L, es, ep, t, ⟨⟨o, k o ho, r⟩, R.rows, R.tab, R.nd, R.led, R.room, R.few⟩, g⟩
  start := fun ho => ⟨[], #[], 0, _, ⟨⟨_, ho, ⟨rfl, rfl, rfl⟩, rfl⟩, rfl, ⟨List.Pairwise.nil, rfl, rfl, .inl rfl, fun x hx => absurd hx List.not_mem_nil, fun i h j hi => by simp at hi⟩, List.nodup_nil, by
    show _ ∨ (!w.params.followText "set-order") = true
    cases w.params.followText "set-order"
    · exact .inr rfl
    · exact .inl rfl, by show 0 * 5 < 7 * 3; decide, by show 0 < 64; decide⟩, fun p hp => absurd hp List.not_mem_nil, List.nodup_nil, Nat.le_refl _, fun k => by simp⟩
  add := fun {A E s i v Q} hu hv hk0 x q => by
    obtain ⟨L, es, ep, t, R, sub, g⟩ := x
    rw [List.getElem?_map] at hv
    cases hp : ks[i]? with
    | none => rw [hp] at hv; cases hv
    | some p =>
      rw [hp] at hv
      obtain rfl := Option.some.inj hv
      have il : i < ks.length := (List.getElem?_eq_some_iff.mp hp).1
      have isH : ∀ p ∈ ks, κ.is s.heap p.2 p.1 := fun p hp => κ.stay (hk p hp) (KeepT.all hk0)
      have hpm := List.mem_of_getElem? hp
      have hki : (ks.map (·.2))[i]? = some p.2 := by rw [List.getElem?_map, hp]; rfl
      have gl := g.2.1
      rw [List.length_map] at gl
      unfold setAdd
      refine wpAny_holding (wpAny_bind (κ.hashes hu (isH p hpm) fun tk htk => ?_))
      refine add_t (s := { s with toks := tk }) R (fun q hq => isH q (sub q hq)) (isH p hpm) hu (by omega) fun b h' L' es' ep' t' sb R' c1 c2 => ?_
      refine q b h' _ htk sb ⟨L', es', ep', t', R', fun q hq => ?_, g.next hki (fun c => by rw [c1 c]) fun c => (c2 c).map (·.2)⟩
      by_cases c : p.2 ∈ L.map (·.2)
      · rw [c1 c] at hq
        exact sub q hq
      · rcases List.mem_cons.mp ((c2 c).mem_iff.mp hq) with rfl | z
        · exact hpm
        · exact sub q z
structure Elems (w : World) (h : Heap) (a : Addr) {α : Type} (R : α → Value → Prop) (ks L : List α) : Prop where
  ex : ∃ o es ep t, h.get? a = some o ∧ o.ExactSet ∧ o.data = .set es ep t ∧ t.fits es.size = true ∧ es.size < scanBound ∧ Ris t.place.toList ∧ (w.params.followText "set-order" = true ∨ t.led = true) ∧ Paired R L (es.toList.map (·.2))
  nd : L.Nodup
  mem : ∀ k, k ∈ L ↔ k ∈ ks
theorem elemsF {h0 h : Heap} {a : Addr} {vs : List Value} {ks : List Key} {hk : Paired (fun k v => keyIs k v = true) ks vs} {hn : ks.length + 1 < scanBound} (x : (adderF (P := P) (w := w) (h0 := h0) (a := a) ks hk hn).St vs.length h) :
    ∃ L, Elems w h a (fun k v => keyIs k v = true) ks L := by
  obtain ⟨L, ⟨o, es, ep, t, ho, hex, hd, hp, hb, hf, hr, hl⟩, g1, g2, g3⟩ := x
  have val : ∀ {L : List Key} {l : List (Int × Value)}, Paired (fun k e => FElem (w := w) e k) L l → Paired (fun k v => keyIs k v = true) L (l.map (·.2)) := by
    intro L l h
    induction h with
    | nil => exact .nil
    | cons r _ ih => exact .cons r.1 ih
  refine ⟨L, ⟨o, es, ep, t, ho, hex, hd, hf, hb, hr, hl, val hp⟩, g1, fun k => ?_⟩
  rw [g3, ← paired_len hk, List.take_length]
theorem elemsT {α : Type} [DecidableEq α] {κ : TKind P w α} {h0 h : Heap} {a : Addr} {ks : List (Addr × α)} {hk : ∀ p ∈ ks, κ.is h0 p.2 p.1} {hn : ks.length < 64} (x : (adderT κ (h0 := h0) (a := a) ks hk hn).St ks.length h) :
    ∃ L, Elems w h a (fun k v => ∃ b, v = Value.ref b ∧ (b, k) ∈ ks) (ks.map (·.2)) L := by
  obtain ⟨L, es, ep, t, R, sub, g1, g2, g3⟩ := x
  obtain ⟨o, ho, hex, hd⟩ := R.ob
  have val : ∀ L : List (Addr × α), (∀ p ∈ L, p ∈ ks) → Paired (fun k v => ∃ b, v = Value.ref b ∧ (b, k) ∈ ks) (L.map (·.2)) (L.map fun p => Value.ref p.1) := by
    intro L
    induction L with
    | nil => intro _; exact .nil
    | cons p r ih => intro hs; exact .cons ⟨p.1, rfl, hs p List.mem_cons_self⟩ (ih fun q hq => hs q (List.mem_cons_of_mem _ hq))
  have ev : es.toList.map (·.2) = L.map fun p => Value.ref p.1 := by
    rw [R.rows, rowsT, List.map_map]
    rfl
  refine ⟨L.map (·.2), ⟨o, es, ep, t, ho, hex, hd, R.fits, by rw [rowsT_len R.rows]; have := R.few; unfold scanBound; omega, R.tab.ris, R.led, by rw [ev]; exact val L sub⟩, g1, fun k => ?_⟩
  rw [g3, show List.take ks.length (ks.map (·.2)) = ks.map (·.2) from List.take_of_length_le (by rw [List.length_map]; exact Nat.le_refl _)]
theorem sorted_elems {A : Around} {E : Value → Shared → Prop} {s : Shared} {a : Addr} {α : Type} {R : α → Value → Prop} {ks L : List α} {Q : Value → Shared → Prop} (hh : A.handled = none) (x : Elems w s.heap a R ks L)
    (good : Value → Prop) (S : SrtK P w s.heap good) (hgood : ∀ k v, k ∈ L → R k v → good v)
    (h : ∀ (p : Addr) (out : Array Value) (c : Nat) (s' : Shared) (L' : List α), (∀ b o, s.heap.get? b = some o → s'.heap.get? b = some o) → s'.gens = s.gens → s'.os = s.os → s.heap.objs.size ≤ p → s'.heap.get? p = some (seqObj "list" out c) →
      L'.Perm L → Paired R L' out.toList → out.toList.Pairwise (Upto S.κ) → Q (.ref p) s') : wpAny (model P w) A (call (.builtin "sorted") [.ref a]) Q E s := by
  obtain ⟨o, es, ep, t, ho, hex, hd, hf, hb, hr, hl, hp⟩ := x.ex
  refine sorted_by fun {R'} hR => ?_
  refine collect_set (A := A.in1) hh ⟨o, ho, hex.1, hd⟩ hf hb hr hl fun s1 vs k1 z1 g1 o1 pm => ?_
  obtain ⟨L1, p1, h1⟩ := paired_perm pm hp
  have kt1 : KeepT s.heap s1.heap := KeepT.all k1
  refine hR s1 vs good (S.keep kt1) (fun v hv => ?_) ?_ fun out c h' k2 hget pm2 pw => ?_
  · obtain ⟨i, hi⟩ := List.getElem?_of_mem hv
    obtain ⟨k, hkm, hk⟩ := paired_at h1 hi
    exact hgood k v (p1.mem_iff.mp (List.mem_of_getElem? hkm)) hk
  · rw [pm.length_eq, List.length_map, Array.length_toList]
    exact Nat.le_of_lt (Nat.lt_of_lt_of_le hb (by rw [sizeLine_eq]; unfold scanBound; omega))
  · obtain ⟨L2, p2, h2⟩ := paired_perm pm2 h1
    exact h s1.heap.objs.size out c { s1 with heap := h' } L2 (fun b o e => k2 b o (k1 b o e)) g1 o1 z1 hget (p2.trans p1) h2 pw
end
end Sk
set_option Elab.async false
set_option linter.all false
set_option maxRecDepth 100000
set_option maxHeartbeats 2000000
namespace Sk
open PySem PySem.Spec PyProof.Rows L2
theorem nodup_le {α : Type} [DecidableEq α] : ∀ (l D : List α), l.Nodup → (∀ x ∈ l, x ∈ D) → l.length ≤ D.length
  | [], _, _, _ => Nat.zero_le _
  | x :: l, D, h, hs => by
    rw [List.nodup_cons] at h
    have hx := hs x List.mem_cons_self
    have e := nodup_le l (D.erase x) h.2 fun y hy => (List.mem_erase_of_ne (fun z => h.1 (by rw [← z]; exact hy))).mpr (hs y (List.mem_cons_of_mem _ hy))
    rw [List.length_erase_of_mem hx] at e
    have := List.length_pos_of_mem hx
    rw [List.length_cons]
    omega
def TupV (K : PySem.W.Frag) (H : Hp) (k : List Key) (x : V) : Prop := ∃ t, x = .ref t ∧ SqT K H t (k.map kV)
def Sq (K : PySem.W.Frag) (H : Hp) (a : Addr) (xs : List V) : Prop := SqL K H a xs ∨ SqT K H a xs
def slt (x y : Str) : Prop := x.cps.toList < y.cps.toList
def tle (a b : List Key) : Prop := PyProof.Rows.lexLt itemOrd (b.map kc) (a.map kc) = false
theorem keys_of_vals : ∀ {ks : List Key} {us : List Value}, Vals (ks.map kV) us → Paired (fun k v => keyIs k v = true) ks us
  | [], _, .nil => .nil
  | .inl i :: ks, _, .cons r t => by
    obtain ⟨u, rfl⟩ := r
    exact .cons (keyIs_int i u) (keys_of_vals t)
  | .inr x :: ks, _, .cons r t => by
    obtain ⟨u, rfl⟩ := r
    exact .cons (keyIs_str x u) (keys_of_vals t)
theorem vals_of_keys : ∀ {ks : List Key} {us : List Value}, Paired (fun k v => keyIs k v = true) ks us → Vals (ks.map kV) us
  | _, _, .nil => .nil
  | k :: ks, _, .cons h t => by
    refine .cons ?_ (vals_of_keys t)
    rcases keyIs_shape h with ⟨i, u, rfl, rfl⟩ | ⟨x, u, rfl, rfl⟩
    · exact ⟨u, rfl⟩
    · exact ⟨u, rfl⟩
theorem items_of_keys {P : Program} {w : World} : ∀ {ks : List Key} {us : List Value}, Paired (fun k v => keyIs k v = true) ks us → ItemsAre (mixKind P w) ks us
  | _, _, .nil => .nil
  | _, _, .cons h t => .cons h (items_of_keys t)
section
variable {X : Cx} {pins : List (Addr × Obj)} {σ : L2.St} {H : Hp} {s : Shared}
theorem Inv.tupKey (I : Inv X pins σ H s) {t : Addr} {k : List Key} (h : SqT X.K H t (k.map kV)) : IsTupleKey (mixKind X.prog X.w) s.heap k t := by
  obtain ⟨its, r, ⟨o, ho, hc, n, hd⟩, _⟩ := I.tuple h
  exact ⟨o, its.toArray, n, ho, hc, hd, by simpa using items_of_keys (keys_of_vals r)⟩
theorem run_setF {a : Addr} {ks : List Key} {Q : Value → Shared → Prop} (hc : X.calm = true) (hu : X.A.units + 64 < cLine) (I : Inv X pins σ H s) (hs : Sq X.K H a (ks.map kV)) (hn : ks.length + 1 < scanBound)
    (h : ∀ (p : Addr) (s' : Shared) (L : List Key), Inv X pins σ H s' → Elems X.w s'.heap p (fun k v => keyIs k v = true) ks L → Q (.ref p) s') : wpAny (model X.prog X.w) X.A (call (.type "set") [.ref a]) Q X.xe s := by
  rcases hs with hs | hs
  · obtain ⟨its, rv, pl, _⟩ := I.list hs
    refine set_of_list (vs := its) rfl (adderF ks (keys_of_vals rv) hn) (I.ok.hd hc) pl.isList (by omega) fun h' tk d k => ?_
    obtain ⟨L, e⟩ := elemsF d
    exact h _ _ L (I.kept k) e
  · obtain ⟨its, rv, pl, _⟩ := I.tuple hs
    refine set_of_tuple (vs := its) rfl (adderF ks (keys_of_vals rv) hn) (I.ok.hd hc) ?_ (by omega) fun h' tk d k => ?_
    · obtain ⟨o, ho, hcl, n, hd⟩ := pl
      exact ⟨o, ho, hcl, n, hd⟩
    obtain ⟨L, e⟩ := elemsF d
    exact h _ _ L (I.kept k) e
theorem refs_of {K : PySem.W.Frag} {T : List Key → V → Prop} (hT : ∀ k y, T k y → TupV K H k y) : ∀ {ks : List (List Key)} {xs : List V} {us : List Value}, Paired T ks xs → Vals xs us → ∃ ps : List (Addr × List Key), us = ps.map (fun p => Value.ref p.1) ∧ xs = ps.map (fun p => V.ref p.1) ∧ ks = ps.map (·.2) ∧ ∀ p ∈ ps, SqT K H p.1 (p.2.map kV) ∧ T p.2 (.ref p.1)
  | _, _, _, .nil, .nil => ⟨[], rfl, rfl, rfl, fun p hp => absurd hp List.not_mem_nil⟩
  | k :: _, _, _, .cons h t, .cons r v => by
    obtain ⟨ps, e1, e2, e3, e4⟩ := refs_of hT t v
    have h0 := h
    obtain ⟨a, rfl, ha⟩ := hT _ _ h
    obtain rfl : _ = Value.ref a := r
    refine ⟨(a, k) :: ps, by rw [e1]; rfl, by rw [e2]; rfl, by rw [e3]; rfl, fun p hp => ?_⟩
    rcases List.mem_cons.mp hp with rfl | hp
    · exact ⟨ha, h0⟩
    · exact e4 p hp
theorem run_setT {T : List Key → V → Prop} {a : Addr} {ks : List (List Key)} {xs : List V} {Q : Value → Shared → Prop} (hc : X.calm = true) (hu : X.A.units + 64 < cLine) (I : Inv X pins σ H s) (hs : Sq X.K H a xs) (hT : ∀ k y, T k y → TupV X.K H k y) (hk : Paired T ks xs) (hn : ks.length < 64)
    (h : ∀ (p : Addr) (s' : Shared) (L : List (List Key)) (ps : List (Addr × List Key)), ks = ps.map (·.2) → Inv X pins σ H s' → (∀ q ∈ ps, T q.2 (.ref q.1) ∧ SqT X.K H q.1 (q.2.map kV)) → Elems X.w s'.heap p (fun k v => ∃ b, v = Value.ref b ∧ (b, k) ∈ ps) ks L → Q (.ref p) s') : wpAny (model X.prog X.w) X.A (call (.type "set") [.ref a]) Q X.xe s := by
  have main : ∀ its : List Value, Vals xs its → ∃ ps : List (Addr × List Key), its = ps.map (fun p => Value.ref p.1) ∧ ks = ps.map (·.2) ∧ (∀ q ∈ ps, T q.2 (.ref q.1) ∧ SqT X.K H q.1 (q.2.map kV)) ∧ ∀ p ∈ ps, (mixT X.prog X.w).is s.heap p.2 p.1 := fun its rv => by
    obtain ⟨ps, e1, e2, e3, e4⟩ := refs_of hT hk rv
    exact ⟨ps, e1, e3, fun q hq => ⟨(e4 q hq).2, (e4 q hq).1⟩, fun p hp => Inv.tupKey I (e4 p hp).1⟩
  rcases hs with hs | hs
  · obtain ⟨its, rv, pl, _⟩ := I.list hs
    obtain ⟨ps, rfl, rfl, e4, e5⟩ := main its rv
    rw [List.length_map] at hn
    refine set_of_list rfl (adderT (mixT X.prog X.w) ps e5 hn) (I.ok.hd hc) pl.isList (by omega) fun h' tk d k => ?_
    rw [List.length_map] at d
    obtain ⟨L, e⟩ := elemsT d
    exact h _ _ L ps rfl (I.kept k) e4 e
  · obtain ⟨its, rv, pl, _⟩ := I.tuple hs
    obtain ⟨ps, rfl, rfl, e4, e5⟩ := main its rv
    rw [List.length_map] at hn
    refine set_of_tuple rfl (adderT (mixT X.prog X.w) ps e5 hn) (I.ok.hd hc) ?_ (by omega) fun h' tk d k => ?_
    · obtain ⟨o, ho, hcl, n, hd⟩ := pl
      exact ⟨o, ho, hcl, n, hd⟩
    rw [List.length_map] at d
    obtain ⟨L, e⟩ := elemsT d
    exact h _ _ L ps rfl (I.kept k) e4 e
theorem sorted_back {Q : VK} {p : Addr} {out : Array Value} {c : Nat} {s' : Shared} {ys : List V} (I : Inv X pins σ H s) (k : ∀ b o, s.heap.get? b = some o → s'.heap.get? b = some o) (g : s'.gens = s.gens) (o : s'.os = s.os) (hp : s.heap.objs.size ≤ p)
    (hg : s'.heap.get? p = some (seqObj "list" out c)) (hv : Vals ys out.toList) (hz : ys.length ≤ sizeLine) (q : H p = none → Q (.ref p) (upd H p (.lst ys))) : EP X pins σ Q (.ref p) s' := by
  have hn : H p = none := I.hok.fresh hp
  have J : Inv X pins σ (upd H p (.lst ys)) { s with heap := s'.heap, gens := s'.gens, drawn := s'.drawn, toks := s'.toks } :=
    I.call (ch := []) (Un.laid k hp hn) (I.hok.laid k hp ⟨hz, out.toList, c, hv, hg⟩) (by rw [g]; exact I.bare) (fun _ z => absurd z List.not_mem_nil)
  have e : s' = { s with heap := s'.heap, gens := s'.gens, drawn := s'.drawn, toks := s'.toks } := by
    cases s'
    cases s
    cases o
    rfl
  rw [e]
  exact ⟨.ref p, _, J, rfl, q hn⟩
end
def tSortSetS (K : PySem.W.Frag) (te : TE) : TE := fun σ H Q => te σ H fun x H1 => ∃ (a : Addr) (ns : List Str), x = .ref a ∧ Sq K H1 a (ns.map V.str) ∧ ns.length < 4000 ∧
  ∀ (ms : List Str) (p : Addr), ms.Pairwise slt → (∀ k, k ∈ ms ↔ k ∈ ns) → H1 p = none → Q (.ref p) (upd H1 p (.lst (ms.map V.str)))
def tSortSetT (K : PySem.W.Frag) (te : TE) : TE := fun σ H Q => te σ H fun x H1 => ∃ (T : List Key → V → Prop) (a : Addr) (xs : List V) (ks : List (List Key)) (sh : Nat → Bool), (∀ k y, T k y → TupV K H1 k y) ∧ x = .ref a ∧ Sq K H1 a xs ∧ Paired T ks xs ∧ ks.length < 64 ∧ (∀ k ∈ ks, Shape sh k ∧ k ≠ []) ∧
  ∀ (ls : List (List Key)) (ys : List V) (p : Addr), ls.Nodup → ls.Pairwise tle → (∀ k, k ∈ ls ↔ k ∈ ks) → Paired T ls ys → H1 p = none → Q (.ref p) (upd H1 p (.lst ys))
section
variable {X : Cx} {a : Expr} {ta : TE} {p p2 q pos : Pos}
theorem lt_of_upto {ms : List Int} {us : List Value} (h : Paired (fun k v => keyIs k v = true) (ms.map Sum.inl) us) (hp : us.Pairwise (Upto PyProof.Rows.intKind)) (nd : (ms.map (Sum.inl : Int → Key)).Nodup) : ms.Pairwise (· < ·) := by
  induction us generalizing ms with
  | nil =>
    match ms, h with
    | [], _ => exact .nil
  | cons u us ih =>
    match ms, h with
    | m :: ms, .cons h1 t =>
      rw [List.map_cons, List.nodup_cons] at nd
      rw [List.pairwise_cons] at hp
      refine .cons (fun m' hm => ?_) (ih t hp.2 nd.2)
      obtain ⟨i, hi⟩ := List.getElem?_of_mem hm
      have hne : m ≠ m' := fun e => nd.1 (by rw [e]; exact List.mem_map.mpr ⟨m', hm, rfl⟩)
      have hi2 : (ms.map (Sum.inl : Int → Key))[i]? = some (Sum.inl m') := by rw [List.getElem?_map, hi] <;> rfl
      have il : i < us.length := by rw [← paired_len t, List.length_map]; exact (List.getElem?_eq_some_iff.mp hi).1
      obtain ⟨k2, hk2, r2⟩ := paired_at t (List.getElem?_eq_getElem il)
      rw [hi2] at hk2
      obtain rfl := Option.some.inj hk2
      have z := hp.1 us[i] (List.getElem_mem il)
      rcases keyIs_shape h1 with ⟨j, u1, e1, rfl⟩ | ⟨x, u1, e1, _⟩
      · rcases keyIs_shape r2 with ⟨j2, u2, e2, e3⟩ | ⟨x, u2, e2, _⟩
        · injection e1 with e1
          injection e2 with e2
          subst e1 e2
          have y := z m m' rfl (by rw [e3] <;> rfl)
          have y2 : decide (m' < m) = false := y
          have := of_decide_eq_false y2
          omega
        · cases e2
      · cases e1
theorem slt_of_upto {ms : List Str} {us : List Value} (h : Paired (fun k v => keyIs k v = true) (ms.map Sum.inr) us) (hp : us.Pairwise (Upto PyProof.Rows.strKind)) (nd : (ms.map (Sum.inr : Str → Key)).Nodup) : ms.Pairwise slt := by
  induction us generalizing ms with
  | nil =>
    match ms, h with
    | [], _ => exact .nil
  | cons u us ih =>
    match ms, h with
    | m :: ms, .cons h1 t =>
      rw [List.map_cons, List.nodup_cons] at nd
      rw [List.pairwise_cons] at hp
      refine .cons (fun m' hm => ?_) (ih t hp.2 nd.2)
      obtain ⟨i, hi⟩ := List.getElem?_of_mem hm
      have hne : m ≠ m' := fun e => nd.1 (by rw [e]; exact List.mem_map.mpr ⟨m', hm, rfl⟩)
      have hi2 : (ms.map (Sum.inr : Str → Key))[i]? = some (Sum.inr m') := by rw [List.getElem?_map, hi] <;> rfl
      have il : i < us.length := by rw [← paired_len t, List.length_map]; exact (List.getElem?_eq_some_iff.mp hi).1
      obtain ⟨k2, hk2, r2⟩ := paired_at t (List.getElem?_eq_getElem il)
      rw [hi2] at hk2
      obtain rfl := Option.some.inj hk2
      have z := hp.1 us[i] (List.getElem_mem il)
      rcases keyIs_shape h1 with ⟨j, u1, e1, _⟩ | ⟨x, u1, e1, rfl⟩
      · cases e1
      · rcases keyIs_shape r2 with ⟨j2, u2, e2, _⟩ | ⟨x2, u2, e2, e3⟩
        · cases e2
        · injection e1 with e1
          injection e2 with e2
          subst e1 e2
          have y := z m.cps.toList m'.cps.toList rfl (by rw [e3] <;> rfl)
          have y2 : decide (m'.cps.toList < m.cps.toList) = false := y
          have y3 := of_decide_eq_false y2
          rcases List.le_iff_lt_or_eq.mp (List.not_lt.mp y3) with c | c
          · exact c
          · refine absurd ?_ hne
            cases m
            cases m'
            congr 1
            exact Array.toList_inj.mp c
theorem upto_tle {h : Heap} {sh : Nat → Bool} {P : Program} {w : World} {ps : List (Addr × List Key)} (hps : ∀ q ∈ ps, IsTupleKey (mixKind P w) h q.2 q.1 ∧ Shape sh q.2) : ∀ {ls : List (List Key)} {us : List Value}, Paired (fun k v => ∃ b, v = Value.ref b ∧ (b, k) ∈ ps) ls us →
    us.Pairwise (Upto (PyProof.Rows.G.tupKindC h sh)) → ls.Pairwise tle
  | _, _, .nil, _ => .nil
  | k :: ls, _, .cons (l₂ := us) h1 t, hp => by
    rw [List.pairwise_cons] at hp
    refine .cons (fun k' hk' => ?_) (upto_tle hps t hp.2)
    obtain ⟨i, hi⟩ := List.getElem?_of_mem hk'
    have il : i < us.length := by rw [← paired_len t]; exact (List.getElem?_eq_some_iff.mp hi).1
    obtain ⟨k2, hk2, b2, e2, m2⟩ := paired_at t (List.getElem?_eq_getElem il)
    rw [hi] at hk2
    obtain rfl := Option.some.inj hk2
    obtain ⟨b, rfl, m1⟩ := h1
    have z := hp.1 _ (List.getElem_mem il)
    rw [e2] at z
    exact z _ _ (tupKey_of (hps _ m1).1 (hps _ m1).2) (tupKey_of (hps _ m2).1 (hps _ m2).2)
theorem pe_sortSetS (hc : X.calm = true) (hu : X.A.units + 64 < cLine) (hg : Gl X "sorted") (hm : X.mg "sorted" = none) (hg2 : Gl X "set") (hm2 : X.mg "set" = none) (ha : PE X a ta)
    (na : starEach [a] X.env = (false, eval a X.env) :: starEach [] X.env := by rfl) : PE X (.Call (.Name "sorted" p) [.Call (.Name "set" p2) [a] [] q] [] pos) (tSortSetS X.K ta) := by
  refine ⟨fun pins s σ H Q I h => ?_⟩
  refine Call_ (ld_blt I hg hm (by decide +kernel : bootBuiltins "sorted" = some (.builtin "sorted")) ?_)
  refine PyProof.Rows.callWith_builtin1 (PyProof.Rows.args_cons ?_ rfl) rfl rfl
  refine Call_ (ld_blt I hg2 hm2 PyProof.Rows.boot_set ?_)
  refine PyProof.Rows.callWith_type1 (PyProof.Rows.args_cons (thn (ha.run pins s σ H _ I h) fun v s1 z => PyProof.Rows.args_nil ?_) na) na rfl
  obtain ⟨x, H1, I1, r1, l, ns, rfl, hs, hn, k⟩ := z
  cases r1
  refine run_setF (ks := ns.map Sum.inr) hc hu I1 (by rw [List.map_map]; exact hs) (by rw [List.length_map]; unfold scanBound; omega) fun S s2 L I2 el => PyProof.Rows.args_nil ?_
  have hin : ∀ k, k ∈ L → ∃ m ∈ ns, k = Sum.inr m := fun k hk => by
    obtain ⟨m, h1, h2⟩ := List.mem_map.mp ((el.mem k).mp hk)
    exact ⟨m, h1, h2.symm⟩
  refine sorted_elems (I2.ok.hd hc) el (fun v => ∃ i t, v = Value.str i t) (srtS X.prog X.w s2.heap) (fun k v hk hv => ?_) fun p out c s' L' k1 g1 o1 hp hget pm hpair hpw => ?_
  · obtain ⟨m, _, rfl⟩ := hin k hk
    rcases keyIs_shape hv with ⟨i, u, e, rfl⟩ | ⟨i, u, e, rfl⟩ <;> first | exact ⟨i, u, rfl⟩ | cases e
  · have form : ∀ L' : List Key, (∀ k ∈ L', ∃ m ∈ ns, k = Sum.inr m) → ∃ ms : List Str, L' = ms.map Sum.inr := by
      intro L'
      induction L' with
      | nil => intro _; exact ⟨[], rfl⟩
      | cons k r ih =>
        intro hk
        obtain ⟨m, _, rfl⟩ := hk k List.mem_cons_self
        obtain ⟨ms, rfl⟩ := ih fun j hj => hk j (List.mem_cons_of_mem _ hj)
        exact ⟨m :: ms, rfl⟩
    obtain ⟨ms, rfl⟩ := form L' fun k hk => hin k (pm.mem_iff.mp hk)
    have nd := pm.nodup_iff.mpr el.nd
    have vv : Vals (ms.map V.str) out.toList := by
      have z := vals_of_keys hpair
      rwa [List.map_map] at z
    have mem : ∀ m, m ∈ ms ↔ m ∈ ns := fun m => by
      have z := (pm.mem_iff (a := Sum.inr m)).trans (el.mem (Sum.inr m))
      simpa using z
    have small : ms.length ≤ ns.length := by
      have nd2 : ms.Nodup := List.Pairwise.imp (fun h e => h (congrArg _ e)) (List.pairwise_map.mp nd)
      exact nodup_le ms ns nd2 fun m hm => (mem m).mp hm
    refine sorted_back I2 k1 g1 o1 hp hget vv (by rw [List.length_map, sizeLine_eq]; omega) fun hn2 => k ms p (slt_of_upto hpair hpw nd) mem hn2
theorem pe_sortSetT (hc : X.calm = true) (hu : X.A.units + 64 < cLine) (hg : Gl X "sorted") (hm : X.mg "sorted" = none) (hg2 : Gl X "set") (hm2 : X.mg "set" = none) (ha : PE X a ta)
    (na : starEach [a] X.env = (false, eval a X.env) :: starEach [] X.env := by rfl) : PE X (.Call (.Name "sorted" p) [.Call (.Name "set" p2) [a] [] q] [] pos) (tSortSetT X.K ta) := by
  refine ⟨fun pins s σ H Q I h => ?_⟩
  refine Call_ (ld_blt I hg hm (by decide +kernel : bootBuiltins "sorted" = some (.builtin "sorted")) ?_)
  refine PyProof.Rows.callWith_builtin1 (PyProof.Rows.args_cons ?_ rfl) rfl rfl
  refine Call_ (ld_blt I hg2 hm2 PyProof.Rows.boot_set ?_)
  refine PyProof.Rows.callWith_type1 (PyProof.Rows.args_cons (thn (ha.run pins s σ H _ I h) fun v s1 z => PyProof.Rows.args_nil ?_) na) na rfl
  obtain ⟨x, H1, I1, r1, T, l, xs, ks, sh, hT, rfl, hs, hk, hn, hsh, k⟩ := z
  cases r1
  refine run_setT hc hu I1 hs hT hk hn fun S s2 L ps eks I2 hps el => PyProof.Rows.args_nil ?_
  have isK : ∀ q ∈ ps, IsTupleKey (mixKind X.prog X.w) s2.heap q.2 q.1 := fun q hq => Inv.tupKey I2 (hps q hq).2
  have inK : ∀ q ∈ ps, q.2 ∈ ks := fun q hq => by rw [eks]; exact List.mem_map.mpr ⟨q, hq, rfl⟩
  refine sorted_elems (I2.ok.hd hc) el (goodT X.prog X.w s2.heap sh) (srtT X.prog X.w s2.heap sh) (fun k v hk hv => ?_) fun p out c s' L' k1 g1 o1 hp hget pm hpair hpw => ?_
  · obtain ⟨b, rfl, hb⟩ := hv
    obtain ⟨h1, h2⟩ := hsh k (inK _ hb)
    exact ⟨b, k, rfl, isK _ hb, h1, h2⟩
  · have pr : ∀ {ls : List (List Key)} {us : List Value}, Paired (fun k v => ∃ b, v = Value.ref b ∧ (b, k) ∈ ps) ls us → ∃ ys, Vals ys us ∧ Paired T ls ys := by
      intro ls us h
      induction h with
      | nil => exact ⟨[], .nil, .nil⟩
      | cons r _ ih =>
        obtain ⟨ys, v1, v2⟩ := ih
        obtain ⟨b, rfl, hb⟩ := r
        exact ⟨V.ref b :: ys, .cons rfl v1, .cons (hps _ hb).1 v2⟩
    obtain ⟨ys, vv, vt⟩ := pr hpair
    have nd := pm.nodup_iff.mpr el.nd
    have mem : ∀ k, k ∈ L' ↔ k ∈ ks := fun k => pm.mem_iff.trans (el.mem k)
    have small : L'.length ≤ ks.length := nodup_le L' ks nd fun m hm => (mem m).mp hm
    have zy : ys.length = L'.length := (paired_len vt).symm
    refine sorted_back I2 k1 g1 o1 hp hget vv (by rw [zy, sizeLine_eq]; omega) fun hn2 => k L' ys p nd (upto_tle (fun q hq => ⟨isK q hq, (hsh _ (inK q hq)).1⟩) hpair hpw) mem vt hn2
end
end Sk
set_option Elab.async false
set_option linter.all false
set_option maxRecDepth 100000
set_option maxHeartbeats 2000000
namespace Sk
open PySem PySem.Spec PyProof.Rows L2
open PySem.W (Datum DatumOrd Tup T3 T4)
open Evl (Ex)
def Gr (H H' : Hp) : Prop := ∀ a xs, Rd H a (.tup xs) → Rd H' a (.tup xs)
theorem Gr.refl (H : Hp) : Gr H H := fun _ _ h => h
theorem Gr.trans {H H1 H2 : Hp} (a : Gr H H1) (b : Gr H1 H2) : Gr H H2 := fun c xs h => b c xs (a c xs h)
theorem Gr.ex {H H' : Hp} (e : Ex H H') : Gr H H' := fun a xs h => Evl.ex_rd e h
def ExB (p : Addr) (H H' : Hp) : Prop := ∀ a o, a ≠ p → H a = some o → H' a = some o
theorem ExB.ex {p : Addr} {H H' : Hp} (e : Ex H H') : ExB p H H' := fun a o _ h => e a o h
theorem ExB.trans {p : Addr} {H H1 H2 : Hp} (a : ExB p H H1) (b : ExB p H1 H2) : ExB p H H2 := fun c o n h => b c o n (a c o n h)
theorem ExB.upd {p : Addr} {H : Hp} {o : HO} : ExB p H (upd H p o) := fun a u n h => by rw [upd_ne n]; exact h
def NoTup (o : HO) : Prop := match o with
  | .tup _ => False
  | .frz _ _ => False
  | _ => True
theorem ExB.gr {p : Addr} {H H' : Hp} {o : HO} (e : ExB p H H') (h : H p = some o) (n : NoTup o) : Gr H H' := fun a xs r => by
  have hne : a ≠ p := fun z => by
    subst z
    rcases r with r | ⟨ob, r⟩ <;> (rw [h] at r; cases r; exact n)
  rcases r with r | ⟨ob, r⟩
  · exact Or.inl (e a _ hne r)
  · exact Or.inr ⟨ob, e a _ hne r⟩
theorem Ex.fresh {H H' : Hp} {p : Addr} (e : Ex H H') (h : H' p = none) : H p = none := Evl.fresh_back e h
mutual
def imm : PyData → Bool
  | .none | .bool _ | .int _ | .str _ => true
  | .tuple xs => immAll xs
  | .list _ | .dict _ => false
def immAll : List PyData → Bool
  | [] => true
  | x :: xs => imm x && immAll xs
end
section
variable {K : PySem.W.Frag} {H H' : Hp}
theorem _root_.L2.SqT.gr {a : Addr} {xs : List V} (g : Gr H H') (h : SqT K H a xs) : SqT K H' a xs := h.elim (fun h => Or.inl (g a xs h)) Or.inr
mutual
theorem Dp.gr (g : Gr H H') : ∀ (d : PyData) {v : V}, imm d = true → Dp K H v d → Dp K H' v d
  | .none, _, _, h => by cases h; exact .non
  | .bool b, _, _, h => by cases h; exact .bl b
  | .int i, _, _, h => by cases h; exact .int i
  | .str x, _, _, h => by cases h; exact .str x
  | .list _, _, i, _ => by simp [imm] at i
  | .dict _, _, i, _ => by simp [imm] at i
  | .tuple ds, _, i, h => by
    cases h with
    | tup hs ha => exact .tup (SqT.gr g hs) (Dp.grAll g ds (by simpa [imm] using i) ha)
theorem Dp.grAll (g : Gr H H') : ∀ (ds : List PyData) {vs : List V}, immAll ds = true → DpAll K H vs ds → DpAll K H' vs ds
  | [], _, _, h => by cases h; exact .nil
  | d :: ds, _, i, h => by
    cases h with
    | cons h1 h2 =>
      have i' : imm d = true ∧ immAll ds = true := by simpa [immAll] using i
      exact .cons (Dp.gr g d i'.1 h1) (Dp.grAll g ds i'.2 h2)
end
mutual
theorem Dp.ex (e : Ex H H') : ∀ (d : PyData) {v : V}, Dp K H v d → Dp K H' v d
  | .none, _, h => by cases h; exact .non
  | .bool b, _, h => by cases h; exact .bl b
  | .int i, _, h => by cases h; exact .int i
  | .str x, _, h => by cases h; exact .str x
  | .list ds, _, h => by
    cases h with
    | lst hs ha => exact .lst (Evl.ex_l e hs) (Dp.exAll e ds ha)
  | .tuple ds, _, h => by
    cases h with
    | tup hs ha => exact .tup (Evl.ex_t e hs) (Dp.exAll e ds ha)
  | .dict _, _, h => by cases h
theorem Dp.exAll (e : Ex H H') : ∀ (ds : List PyData) {vs : List V}, DpAll K H vs ds → DpAll K H' vs ds
  | [], _, h => by cases h; exact .nil
  | d :: ds, _, h => by
    cases h with
    | cons h1 h2 => exact .cons (Dp.ex e d h1) (Dp.exAll e ds h2)
end
theorem _root_.L2.DpAll.append {vs ws : List V} {ds es : List PyData} (a : DpAll K H vs ds) (b : DpAll K H ws es) : DpAll K H (vs ++ ws) (ds ++ es) := by
  induction ds generalizing vs with
  | nil => cases a; exact b
  | cons d ds ih =>
    cases a with
    | cons h1 h2 => exact .cons h1 (ih h2)
theorem _root_.L2.DpAll.at {vs : List V} {ds : List PyData} {i : Nat} {d : PyData} (a : DpAll K H vs ds) (h : ds[i]? = some d) : ∃ v, vs[i]? = some v ∧ Dp K H v d := by
  induction ds generalizing vs i with
  | nil => simp at h
  | cons e ds ih =>
    cases a with
    | cons h1 h2 =>
      cases i with
      | zero => simp at h; subst h; exact ⟨_, rfl, h1⟩
      | succ i =>
        obtain ⟨v, e1, e2⟩ := ih h2 (by simpa using h)
        exact ⟨v, by simpa using e1, e2⟩
theorem _root_.L2.DpAll.at' {vs : List V} {ds : List PyData} {i : Nat} {v : V} (a : DpAll K H vs ds) (h : vs[i]? = some v) : ∃ d, ds[i]? = some d ∧ Dp K H v d := by
  induction ds generalizing vs i with
  | nil => cases a; simp at h
  | cons e ds ih =>
    cases a with
    | cons h1 h2 =>
      cases i with
      | zero => simp at h; subst h; exact ⟨_, rfl, h1⟩
      | succ i =>
        obtain ⟨v, e1, e2⟩ := ih h2 (by simpa using h)
        exact ⟨v, by simpa using e1, e2⟩
theorem _root_.L2.DpAll.len {vs : List V} {ds : List PyData} (a : DpAll K H vs ds) : vs.length = ds.length := by
  induction ds generalizing vs with
  | nil => cases a; rfl
  | cons e ds ih =>
    cases a with
    | cons h1 h2 => rw [List.length_cons, List.length_cons, ih h2]
theorem _root_.L2.DpAll.set {vs : List V} {ds : List PyData} {i : Nat} {v : V} {d : PyData} (a : DpAll K H vs ds) (h : Dp K H v d) : DpAll K H (vs.set i v) (ds.set i d) := by
  induction ds generalizing vs i with
  | nil => cases a; exact .nil
  | cons e ds ih =>
    cases a with
    | cons h1 h2 =>
      cases i with
      | zero => exact .cons h h2
      | succ i => exact .cons h1 (ih h2)
theorem _root_.L2.DpAll.take {vs : List V} {ds : List PyData} (a : DpAll K H vs ds) (n : Nat) : DpAll K H (vs.take n) (ds.take n) := by
  induction ds generalizing vs n with
  | nil => cases a; simp; exact .nil
  | cons e ds ih =>
    cases a with
    | cons h1 h2 =>
      cases n with
      | zero => exact .nil
      | succ n => exact .cons h1 (ih h2 n)
theorem _root_.L2.DpAll.drop {vs : List V} {ds : List PyData} (a : DpAll K H vs ds) (n : Nat) : DpAll K H (vs.drop n) (ds.drop n) := by
  induction ds generalizing vs n with
  | nil => cases a; simp; exact .nil
  | cons e ds ih =>
    cases a with
    | cons h1 h2 =>
      cases n with
      | zero => exact .cons h1 h2
      | succ n => exact ih h2 n
theorem dpAll_ints : ∀ ns : List Int, DpAll K H (ns.map V.int) (ns.map PyData.int)
  | [] => .nil
  | n :: ns => .cons (.int n) (dpAll_ints ns)
theorem dpAll_strs : ∀ ns : List Str, DpAll K H (ns.map V.str) (ns.map PyData.str)
  | [] => .nil
  | n :: ns => .cons (.str n) (dpAll_strs ns)
theorem ints_dpAll : ∀ {ns : List Int} {vs : List V}, DpAll K H vs (ns.map PyData.int) → vs = ns.map V.int
  | [], _, h => by cases h; rfl
  | n :: ns, _, h => by
    cases h with
    | cons h1 h2 =>
      cases h1
      rw [ints_dpAll h2]
      rfl
theorem strs_dpAll : ∀ {ns : List Str} {vs : List V}, DpAll K H vs (ns.map PyData.str) → vs = ns.map V.str
  | [], _, h => by cases h; rfl
  | n :: ns, _, h => by
    cases h with
    | cons h1 h2 =>
      cases h1
      rw [strs_dpAll h2]
      rfl
end
class Im (α : Type) [DecidableEq α] [Datum α] : Prop where
  im : ∀ a : α, imm (Datum.toD a) = true
theorem immAll_map {α : Type} [DecidableEq α] [Datum α] [Im α] : ∀ xs : List α, immAll (xs.map Datum.toD) = true
  | [] => rfl
  | x :: xs => by rw [List.map_cons, immAll, Im.im x, immAll_map xs]; rfl
instance : Im Int := ⟨fun _ => rfl⟩
instance : Im Bool := ⟨fun _ => rfl⟩
instance : Im Str := ⟨fun _ => rfl⟩
instance : Im Unit := ⟨fun _ => rfl⟩
section
variable {α β γ δ : Type} [DecidableEq α] [Datum α] [Im α] [DecidableEq β] [Datum β] [Im β] [DecidableEq γ] [Datum γ] [Im γ] [DecidableEq δ] [Datum δ] [Im δ]
instance : Im (α × β) := ⟨fun p => by show imm (.tuple [_, _]) = true; simp only [imm, immAll, Im.im]; rfl⟩
instance : Im (Tup α) := ⟨fun t => by show imm (.tuple _) = true; simp only [imm]; exact immAll_map t.items⟩
instance : Im (T3 α β γ) := ⟨fun p => by show imm (.tuple [_, _, _]) = true; simp only [imm, immAll, Im.im]; rfl⟩
instance : Im (T4 α β γ δ) := ⟨fun p => by show imm (.tuple [_, _, _, _]) = true; simp only [imm, immAll, Im.im]; rfl⟩
end
instance {α : Type} [DecidableEq α] [Datum α] [PySem.W.SomeDatum α] [Im α] : Im (Option α) := ⟨fun o => by cases o with
  | none => rfl
  | some a => exact Im.im a⟩
def IsD {α : Type} [DecidableEq α] [Datum α] (K : PySem.W.Frag) (H : Hp) (v : V) (a : α) : Prop := Dp K H v (Datum.toD a)
def LsD {α : Type} [DecidableEq α] [Datum α] (K : PySem.W.Frag) (H : Hp) (p : Addr) (xs : List α) : Prop := ∃ vs, H p = some (.lst vs) ∧ DpAll K H vs (xs.map Datum.toD)
section
variable {α β : Type} [DecidableEq α] [Datum α] [DecidableEq β] [Datum β] {K : PySem.W.Frag} {H H' : Hp} {v : V} {p : Addr} {xs : List α}
theorem IsD.gr [Im α] {a : α} (g : Gr H H') (h : IsD K H v a) : IsD K H' v a := Dp.gr g _ (Im.im a) h
theorem IsD.ex {a : α} (e : Ex H H') (h : IsD K H v a) : IsD K H' v a := Dp.ex e _ h
theorem LsD.ex (e : Ex H H') (h : LsD K H p xs) : LsD K H' p xs := by
  obtain ⟨vs, h1, h2⟩ := h
  exact ⟨vs, e _ _ h1, Dp.exAll e _ h2⟩
theorem LsD.isD (h : LsD K H p xs) : IsD K H (.ref p) xs := by
  obtain ⟨vs, h1, h2⟩ := h
  exact .lst (Or.inl (Or.inl h1)) h2
theorem IsD.intV {i : Int} (h : IsD K H v i) : v = .int i := by cases h; rfl
theorem IsD.strV {x : Str} (h : IsD K H v x) : v = .str x := by cases h; rfl
theorem IsD.blV {b : Bool} (h : IsD K H v b) : v = .bl b := by cases h; rfl
theorem isD_int (i : Int) : IsD K H (.int i) i := .int i
theorem isD_str (x : Str) : IsD K H (.str x) x := .str x
theorem isD_bl (b : Bool) : IsD K H (.bl b) b := .bl b
theorem isD_non : IsD K H .non () := .non
theorem IsD.tup {t : Tup α} (h : IsD K H v t) : ∃ a vs, v = .ref a ∧ SqT K H a vs ∧ DpAll K H vs (t.items.map Datum.toD) := by
  cases h with
  | tup hs ha => exact ⟨_, _, rfl, hs, ha⟩
theorem IsD.pair {t : α × β} (h : IsD K H v t) : ∃ a x y, v = .ref a ∧ SqT K H a [x, y] ∧ IsD K H x t.1 ∧ IsD K H y t.2 := by
  cases h with
  | tup hs ha =>
    cases ha with
    | cons h1 h2 =>
      cases h2 with
      | cons h3 h4 =>
        cases h4
        exact ⟨_, _, _, rfl, hs, h1, h3⟩
theorem IsD.lst (h : IsD K H v xs) : ∃ a vs, v = .ref a ∧ SqL K H a vs ∧ DpAll K H vs (xs.map Datum.toD) := by
  cases h with
  | lst hs ha => exact ⟨_, _, rfl, hs, ha⟩
end
section
variable {α : Type} [DecidableEq α] [Datum α] {X : Cx}
def rLtA (α : Type) [DecidableEq α] [DatumOrd α] (K : PySem.W.Frag) : R2 := fun x y H Q => ∃ a b : α, IsD K H x a ∧ IsD K H y b ∧ Q (.bl (DatumOrd.lt a b)) H
theorem op_ltA {α : Type} [DecidableEq α] [DatumOrd α] (hu : X.A.units + Datum.depth α < cLine) : OpR X (compareOp .Lt) (rLtA α X.K) := by
  intro pins s σ H x y v u Q I rx ry h
  obtain ⟨a, b, ha, hb, q⟩ := h
  exact PySem.W.lt_datum (x := a) (y := b) (Dp.reads I _ _ _ ha rx) (Dp.reads I _ _ _ hb ry) hu ⟨.bl _, H, I, rfl, q⟩
end
end Sk
set_option Elab.async false
set_option linter.all false
set_option maxRecDepth 100000
set_option maxHeartbeats 2000000
namespace Sk
open PySem PySem.Spec PyProof.Rows L2
open PySem.W (Datum DatumOrd Tup T3 T4)
class OrdL (α : Type) [DecidableEq α] [DatumOrd α] : Prop where
  tri : ∀ a b : α, DatumOrd.lt a b = false → DatumOrd.lt b a = false → a = b
section
variable {α β γ : Type} [DecidableEq α] [DatumOrd α] [DecidableEq β] [DatumOrd β] [DecidableEq γ] [DatumOrd γ]
theorem lt_irr (a : α) : DatumOrd.lt a a = false := by rw [← DatumOrd.lt_eq]; exact PySem.W.dataLt_self _
theorem lt_trans' {a b c : α} (h : DatumOrd.lt a b = true) (h' : DatumOrd.lt b c = true) : DatumOrd.lt a c = true := by
  rw [← DatumOrd.lt_eq] at h h' ⊢
  exact lex_trans _ _ _ h h'
theorem lt_neg {a b c : α} (h : DatumOrd.lt a c = true) : DatumOrd.lt a b = true ∨ DatumOrd.lt b c = true := by
  rw [← DatumOrd.lt_eq] at h
  rw [← DatumOrd.lt_eq, ← DatumOrd.lt_eq]
  exact lex_negTrans _ _ _ h
theorem lt_asymm' {a b : α} (h : DatumOrd.lt a b = true) : DatumOrd.lt b a = false := by
  cases e : DatumOrd.lt b a with
  | false => rfl
  | true => exact absurd (lt_trans' h e) (by rw [lt_irr]; decide)
instance : OrdL Int := ⟨fun a b h h' => by
  have h1 := of_decide_eq_false (show decide (a < b) = false from h)
  have h2 := of_decide_eq_false (show decide (b < a) = false from h')
  omega⟩
instance : OrdL Str := ⟨fun a b h h' => by
  have h1 := of_decide_eq_false (show decide (a.cps.toList < b.cps.toList) = false from h)
  have h2 := of_decide_eq_false (show decide (b.cps.toList < a.cps.toList) = false from h')
  exact PySem.W.str_of_cps (List.le_antisymm (List.not_lt.mp h2) (List.not_lt.mp h1))⟩
instance : OrdL Bool := ⟨fun a b h h' => by
  have h1 : (!a && b) = false := h
  have h2 : (!b && a) = false := h'
  cases a <;> cases b <;> first | rfl | simp at h1 h2⟩
instance [OrdL α] [OrdL β] : OrdL (α × β) := ⟨fun p q h h' => by
  have h1 : (if p.1 = q.1 then DatumOrd.lt p.2 q.2 else DatumOrd.lt p.1 q.1) = false := h
  have h2 : (if q.1 = p.1 then DatumOrd.lt q.2 p.2 else DatumOrd.lt q.1 p.1) = false := h'
  by_cases e : p.1 = q.1
  · rw [if_pos e] at h1
    rw [if_pos e.symm] at h2
    exact Prod.ext e (OrdL.tri _ _ h1 h2)
  · rw [if_neg e] at h1
    rw [if_neg (fun z => e z.symm)] at h2
    exact absurd (OrdL.tri _ _ h1 h2) e⟩
theorem listLt_tri [OrdL α] : ∀ xs ys : List α, PySem.W.listLt xs ys = false → PySem.W.listLt ys xs = false → xs = ys
  | [], [], _, _ => rfl
  | [], _ :: _, h, _ => by simp [PySem.W.listLt] at h
  | _ :: _, [], _, h => by simp [PySem.W.listLt] at h
  | x :: xs, y :: ys, h, h' => by
    rw [PySem.W.listLt] at h h'
    by_cases e : x = y
    · rw [if_pos e] at h
      rw [if_pos e.symm] at h'
      rw [e, listLt_tri xs ys h h']
    · rw [if_neg e] at h
      rw [if_neg (fun z => e z.symm)] at h'
      exact absurd (OrdL.tri _ _ h h') e
instance [OrdL α] : OrdL (Tup α) := ⟨fun p q h h' => by
  have e := listLt_tri p.items q.items h h'
  cases p
  cases q
  exact congrArg Tup.mk e⟩
instance [OrdL α] : OrdL (List α) := ⟨fun p q h h' => listLt_tri p q h h'⟩
instance [OrdL α] [OrdL β] [OrdL γ] : OrdL (T3 α β γ) := ⟨fun p q h h' => by
  have h1 : (if p.a = q.a then (if p.b = q.b then (DatumOrd.lt p.c q.c) else DatumOrd.lt p.b q.b) else DatumOrd.lt p.a q.a) = false := h
  have h2 : (if q.a = p.a then (if q.b = p.b then (DatumOrd.lt q.c p.c) else DatumOrd.lt q.b p.b) else DatumOrd.lt q.a p.a) = false := h'
  by_cases e : p.a = q.a
  · rw [if_pos e] at h1
    rw [if_pos e.symm] at h2
    by_cases e2 : p.b = q.b
    · rw [if_pos e2] at h1
      rw [if_pos e2.symm] at h2
      exact T3.same e e2 (OrdL.tri _ _ h1 h2)
    · rw [if_neg e2] at h1
      rw [if_neg (fun z => e2 z.symm)] at h2
      exact absurd (OrdL.tri _ _ h1 h2) e2
  · rw [if_neg e] at h1
    rw [if_neg (fun z => e z.symm)] at h2
    exact absurd (OrdL.tri _ _ h1 h2) e⟩
def Rising (xs : List α) : Prop := xs.Pairwise fun a b => DatumOrd.lt a b = true
theorem Rising.nodup {xs : List α} (h : Rising xs) : xs.Nodup := h.imp fun {a b} h e => by rw [e, lt_irr] at h; cases h
theorem Rising.eq : ∀ {xs ys : List α}, Rising xs → Rising ys → (∀ a, a ∈ xs ↔ a ∈ ys) → xs = ys
  | [], [], _, _, _ => rfl
  | [], y :: ys, _, _, h => absurd ((h y).mpr List.mem_cons_self) List.not_mem_nil
  | x :: xs, [], _, _, h => absurd ((h x).mp List.mem_cons_self) List.not_mem_nil
  | x :: xs, y :: ys, hx, hy, h => by
    have hx' := List.pairwise_cons.mp hx
    have hy' := List.pairwise_cons.mp hy
    have e : x = y := by
      rcases List.mem_cons.mp ((h x).mp List.mem_cons_self) with e | h1
      · exact e
      · rcases List.mem_cons.mp ((h y).mpr List.mem_cons_self) with e | h2
        · exact e.symm
        · have z1 := hy'.1 x h1
          have z2 := hx'.1 y h2
          rw [lt_asymm' z1] at z2
          cases z2
    subst e
    refine congrArg (x :: ·) (Rising.eq hx'.2 hy'.2 fun a => ⟨fun ha => ?_, fun ha => ?_⟩)
    · rcases List.mem_cons.mp ((h a).mp (List.mem_cons_of_mem _ ha)) with e | z
      · subst e
        exact absurd (hx'.1 a ha) (by rw [lt_irr]; decide)
      · exact z
    · rcases List.mem_cons.mp ((h a).mpr (List.mem_cons_of_mem _ ha)) with e | z
      · subst e
        exact absurd (hy'.1 a ha) (by rw [lt_irr]; decide)
      · exact z
def leD (a b : α) : Bool := !DatumOrd.lt b a
def sortL (xs : List α) : List α := xs.mergeSort leD
theorem leD_trans (a b c : α) (h1 : leD a b = true) (h2 : leD b c = true) : leD a c = true := by
  unfold leD at *
  cases e : DatumOrd.lt c a with
  | false => rfl
  | true =>
    rcases lt_neg (b := b) e with z | z
    · rw [z] at h2; cases h2
    · rw [z] at h1; cases h1
theorem leD_total (a b : α) : (leD a b || leD b a) = true := by
  unfold leD
  cases e : DatumOrd.lt b a with
  | false => rfl
  | true => rw [lt_asymm' e]; rfl
theorem sortL_perm (xs : List α) : (sortL xs).Perm xs := List.mergeSort_perm xs leD
theorem sortL_up (xs : List α) : (sortL xs).Pairwise fun a b => leD a b = true := List.pairwise_mergeSort (fun a b c => leD_trans a b c) (fun a b => leD_total a b) xs
theorem sortL_len (xs : List α) : (sortL xs).length = xs.length := (sortL_perm xs).length_eq
theorem mem_sortL {xs : List α} {a : α} : a ∈ sortL xs ↔ a ∈ xs := (sortL_perm xs).mem_iff
theorem rising_of [OrdL α] {xs : List α} (h : xs.Pairwise fun a b => leD a b = true) (n : xs.Nodup) : Rising xs := by
  induction xs with
  | nil => exact .nil
  | cons x xs ih =>
    have h' := List.pairwise_cons.mp h
    have n' := List.nodup_cons.mp n
    refine List.pairwise_cons.mpr ⟨fun y hy => ?_, ih h'.2 n'.2⟩
    cases e : DatumOrd.lt x y with
    | true => rfl
    | false =>
      have z : leD x y = true := h'.1 y hy
      unfold leD at z
      have z2 : DatumOrd.lt y x = false := by simpa using z
      exact absurd (OrdL.tri _ _ e z2) fun q => n'.1 (by rw [q]; exact hy)
theorem sortL_rising [OrdL α] {xs : List α} (n : xs.Nodup) : Rising (sortL xs) := rising_of (sortL_up xs) ((sortL_perm xs).nodup_iff.mpr n)
def once : List α → List α
  | [] => []
  | x :: xs => if x ∈ xs then once xs else x :: once xs
theorem mem_once : ∀ {xs : List α} {a : α}, a ∈ once xs ↔ a ∈ xs
  | [], _ => Iff.rfl
  | x :: xs, a => by
    rw [once]
    by_cases c : x ∈ xs
    · rw [if_pos c, mem_once, List.mem_cons]
      exact ⟨Or.inr, fun z => z.elim (fun e => by rw [e]; exact c) id⟩
    · rw [if_neg c, List.mem_cons, List.mem_cons, mem_once]
theorem once_nodup : ∀ xs : List α, (once xs).Nodup
  | [] => .nil
  | x :: xs => by
    rw [once]
    by_cases c : x ∈ xs
    · rw [if_pos c]; exact once_nodup xs
    · rw [if_neg c]; exact List.nodup_cons.mpr ⟨fun z => c (mem_once.mp z), once_nodup xs⟩
def sortU (xs : List α) : List α := sortL (once xs)
theorem mem_sortU {xs : List α} {a : α} : a ∈ sortU xs ↔ a ∈ xs := mem_sortL.trans mem_once
theorem sortU_rising [OrdL α] (xs : List α) : Rising (sortU xs) := sortL_rising (once_nodup xs)
theorem sortU_eq [OrdL α] {xs ys : List α} (h : Rising ys) (m : ∀ a, a ∈ ys ↔ a ∈ xs) : ys = sortU xs := h.eq (sortU_rising xs) fun a => (m a).trans mem_sortU.symm
theorem once_len : ∀ xs : List α, (once xs).length ≤ xs.length
  | [] => Nat.le_refl _
  | x :: xs => by
    rw [once]
    split
    · exact Nat.le_succ_of_le (once_len xs)
    · exact Nat.succ_le_succ (once_len xs)
theorem sortU_len (xs : List α) : (sortU xs).length ≤ xs.length := by
  unfold sortU
  rw [sortL_len]
  exact once_len xs
end
end Sk
set_option Elab.async false
set_option linter.all false
set_option maxRecDepth 100000
set_option maxHeartbeats 2000000
namespace Sk
open PySem PySem.Spec PyProof.Rows L2
open PySem.W (Datum DatumOrd Tup T3 T4)
open Evl (Ex Ev EvT EvA)
def EV (te : TE) (σ : L2.St) (H : Hp) (P : Hp → V → Hp → Prop) : Prop := ∀ H1, Ex H H1 → ∀ Q : VK, (∀ v H2, Ex H1 H2 → P H1 v H2 → Q v H2) → te σ H1 Q
abbrev ED {α : Type} [DecidableEq α] [Datum α] (K : PySem.W.Frag) (te : TE) (σ : L2.St) (H : Hp) (a : α) : Prop := EV te σ H fun _ v H2 => IsD K H2 v a
abbrev EL {α : Type} [DecidableEq α] [Datum α] (K : PySem.W.Frag) (te : TE) (σ : L2.St) (H : Hp) (xs : List α) : Prop := EV te σ H fun H1 v H2 => ∃ p, v = .ref p ∧ H1 p = none ∧ LsD K H2 p xs
section
variable {α β γ : Type} [DecidableEq α] [Datum α] [DecidableEq β] [Datum β] [DecidableEq γ] [Datum γ] {K : PySem.W.Frag} {σ : L2.St} {H H' Hk : Hp} {te ta tb tc : TE} {t u : TT} {v : V} {P : Hp → V → Hp → Prop}
theorem EV.mono (e : Ex H H') (h : EV te σ H P) : EV te σ H' P := fun H1 a Q q => h H1 (e.trans a) Q q
theorem EV.imp {P' : Hp → V → Hp → Prop} (h : EV te σ H P) (k : ∀ H1 v H2, Ex H H1 → Ex H1 H2 → P H1 v H2 → P' H1 v H2) : EV te σ H P' := fun H1 e Q q => h H1 e Q fun v H2 e2 p => q v H2 e2 (k H1 v H2 e e2 p)
theorem EV.go {Q : VK} (h : EV te σ H P) (q : ∀ v H2, Ex H H2 → P H v H2 → Q v H2) : te σ H Q := h H (Ex.refl H) Q q
theorem Ev.ev (h : Ev te σ H v) : EV te σ H fun _ x _ => x = v := fun H1 e Q q => h H1 e Q fun H2 e2 => q v H2 e2 rfl
theorem EV.exact (h : EV te σ H fun _ x _ => x = v) : Ev te σ H v := fun H1 e Q q => h H1 e Q fun x H2 e2 z => by rw [z]; exact q H2 e2
theorem Ev.int {i : Int} (h : Ev te σ H (.int i)) : ED K te σ H i := (Ev.ev h).imp fun _ _ _ _ _ z => by rw [z]; exact isD_int i
theorem Ev.str {i : Str} (h : Ev te σ H (.str i)) : ED K te σ H i := (Ev.ev h).imp fun _ _ _ _ _ z => by rw [z]; exact isD_str i
theorem Ev.bl {i : Bool} (h : Ev te σ H (.bl i)) : ED K te σ H i := (Ev.ev h).imp fun _ _ _ _ _ z => by rw [z]; exact isD_bl i
theorem Ev.non (h : Ev te σ H .non) : ED K te σ H () := (Ev.ev h).imp fun _ _ _ _ _ z => by rw [z]; exact isD_non
theorem ED.int {i : Int} (h : ED K te σ H i) : Ev te σ H (.int i) := (h.imp fun _ _ _ _ _ z => IsD.intV z).exact
theorem ED.str {i : Str} (h : ED K te σ H i) : Ev te σ H (.str i) := (h.imp fun _ _ _ _ _ z => IsD.strV z).exact
theorem ED.bl {i : Bool} (h : ED K te σ H i) : Ev te σ H (.bl i) := (h.imp fun _ _ _ _ _ z => IsD.blV z).exact
theorem EL.d {xs : List α} (h : EL K te σ H xs) : ED K te σ H xs := h.imp fun _ _ _ _ _ z => by
  obtain ⟨p, rfl, _, z⟩ := z
  exact LsD.isD z
end
end Sk
set_option Elab.async false
set_option linter.all false
set_option maxRecDepth 100000
set_option maxHeartbeats 2000000
namespace Sk
open PySem PySem.Spec PyProof.Rows L2
open Evl (Ex)
mutual
def keyN : PyData → NestedKey
  | .none => .none
  | .bool b => .num (if b = true then 1 else 0)
  | .int i => .num i
  | .str x => .text x
  | .tuple ds => .tup (keyNs ds)
  | .list _ => .none
  | .dict _ => .none
def keyNs : List PyData → List NestedKey
  | [] => []
  | d :: ds => keyN d :: keyNs ds
end
def KeyOk (d : PyData) : Prop := imm d = true ∧ (keyN d).depth ≤ 8
abbrev GEnt := NestedKey × V × V
abbrev GOb := Obj × List GEnt
def GDo (w : World) (p : Addr) (q : GOb) : HO := .ext fun h => h.get? p = some q.1 ∧ (p == sysModules) = false ∧ q.2.length ≤ sizeLine ∧ (q.2.map (·.1)).Nodup ∧ ∃ es ep, q.1.ExactDict ∧ q.1.data = .dict es ep ∧
  Paired (fun (x : GEnt) (e : DictEntry) => e.hash = x.1.hash w ∧ RelV x.2.1 e.key ∧ RelV x.2.2 e.val) q.2 es.toList
structure GRel (K : PySem.W.Frag) (G : Hp) (xs : List GEnt) (kvs : List (PyData × PyData)) : Prop where
  ks : xs.map (·.1) = kvs.map fun kv => keyN kv.1
  ok : ∀ kv ∈ kvs, KeyOk kv.1
  kv : DpAll K G (xs.map (·.2.1)) (kvs.map (·.1))
  vv : DpAll K G (xs.map (·.2.2)) (kvs.map (·.2))
theorem GRel.ex {K : PySem.W.Frag} {G G' : Hp} {xs : List GEnt} {kvs : List (PyData × PyData)} (e : Ex G G') (h : GRel K G xs kvs) : GRel K G' xs kvs := ⟨h.ks, h.ok, Dp.exAll e _ h.kv, Dp.exAll e _ h.vv⟩
abbrev Tbs := List (Addr × Str)
inductive PV where
  | dat (d : PyData)
  | own (ds : List PyData)
  | dct (kvs : List (Key × PyData))
  | dcg (kvs : List (PyData × PyData))
  | dgf (kvs : List (PyData × PyData))
  | abs (R : PySem.W.Frag → Hp → V → Prop)
  | drw
  | val (v : V)
  | byr (ds : List PyData)
def PV.mut : PV → Bool
  | .own _ => true
  | .dct _ => true
  | .dcg _ => true
  | .byr _ => true
  | _ => false
def PV.frz : PV → Option PyData
  | .dat d => some d
  | .own ds => some (.list ds)
  | _ => none
structure Sg where
  sl : List (Option PV)
  n : Nat
@[simp] def Sg.put (s : Sg) (i : Nat) (p : PV) : Sg := ⟨s.sl.set i (some p), s.n⟩
@[simp] def Sg.off (s : Sg) (i : Nat) : Sg := ⟨s.sl.set i none, s.n⟩
structure Ent where
  on : Bool
  m : Addr
  l : Addr
  c : Addr
  F : Hp
  O : Addr → Prop
  M : Addr → Prop
  r : Addr
  G : Hp
structure Fr where
  on : Bool
  m : Addr
  l : Addr
  c : Addr
  F : Hp
  O : Addr → Prop
  M : Addr → Prop
  r : Addr
  w : World
  T : Tbs
  e : Option Ent := none
def Fr.tab (f : Fr) (a : Addr) : Prop := ∃ q, (a, q) ∈ f.T
def TabOk (G H : Hp) (P : Addr) (q : Str) : Prop := ∃ ps : Array Value, H P = some (.tbl ps) ∧ TriplesOk ps.toList ∧ ∀ (pos : Pos) (cv : Value), codeAmong pos ps.toList = some cv → ∃ c, cv = .ref c ∧ G c = some (LamX.CodeO c q)
theorem TabOk.keep {G G' H H' : Hp} {P : Addr} {q : Str} (h : TabOk G H P q) (g : ∀ b o, (∀ xs, o ≠ .lst xs) → G b = some o → G' b = some o) (e : H' P = H P) : TabOk G' H' P q := by
  obtain ⟨ps, h1, h2, h3⟩ := h
  refine ⟨ps, by rw [e]; exact h1, h2, fun pos cv hc => ?_⟩
  obtain ⟨c, e1, e2⟩ := h3 pos cv hc
  exact ⟨c, e1, g _ _ (fun xs z => by unfold LamX.CodeO at z; cases z) e2⟩
theorem codeO_ne {c : Addr} {q : Str} {w : World} {g : GOb} : LamX.CodeO c q ≠ GDo w c g := fun e => by
  unfold LamX.CodeO GDo at e
  injection e with e
  have h0 := congrFun e ((⟨Array.replicate c default, {}⟩ : Heap).push { cls := .type "code", data := .fields #[.none, .str q 0] })
  have sz : (⟨Array.replicate c default, {}⟩ : Heap).objs.size = c := by simp
  have hg := Heap.get?_push_size (⟨Array.replicate c default, {}⟩ : Heap) (o := { cls := .type "code", data := .fields #[.none, .str q 0] }) rfl
  rw [sz] at hg
  have h1 := h0.mp ⟨_, _, 0, hg, rfl, rfl⟩
  obtain ⟨k1, _, _, _, es, ep, _, k2, _⟩ := h1
  rw [hg] at k1
  rw [← Option.some.inj k1] at k2
  cases k2
theorem TabOk.keep2 {G G' H H' : Hp} {P : Addr} {q : Str} (h : TabOk G H P q) (g : ∀ b o, (∀ xs, o ≠ .lst xs) → (∀ w g, o ≠ GDo w b g) → G b = some o → G' b = some o) (e : H' P = H P) : TabOk G' H' P q := by
  obtain ⟨ps, h1, h2, h3⟩ := h
  refine ⟨ps, by rw [e]; exact h1, h2, fun pos cv hc => ?_⟩
  obtain ⟨c, e1, e2⟩ := h3 pos cv hc
  exact ⟨c, e1, g _ _ (fun xs z => by unfold LamX.CodeO at z; cases z) (fun w g z => codeO_ne z) e2⟩
def DrwOk (m l c : Addr) (n : Nat) (H : Hp) : Prop := ∃ (k : Int) (cs ls : List Int) (rest : List (Key × V)),
  H m = some (.dK ([(.inr "cells", .ref c), (.inr "left", .ref l), (.inr "at", .int k)] ++ rest)) ∧ 0 ≤ k ∧ k ≤ n ∧ H c = some (.lst (cs.map V.int)) ∧ cs.length = 64 ∧ (∀ x ∈ cs, 0 ≤ x ∧ x < 2147483647) ∧
  H l = some (.lst (ls.map V.int)) ∧ ls.length ≤ 63 ∧ (∀ x ∈ ls, 0 ≤ x) ∧ rest.length ≤ 100 ∧ c ≠ l
theorem DrwOk.keep {m l c : Addr} {n : Nat} {H H' : Hp} (h : DrwOk m l c n H) (e1 : H' m = H m) (e2 : H' l = H l) (e3 : H' c = H c) : DrwOk m l c n H' := by
  obtain ⟨k, cs, ls, rest, h1, h2⟩ := h
  refine ⟨k, cs, ls, rest, ?_, ?_⟩
  · rw [e1]; exact h1
  · rw [e2, e3]; exact h2
theorem DrwOk.more {m l c : Addr} {n n' : Nat} {H : Hp} (h : DrwOk m l c n H) (e : n ≤ n') : DrwOk m l c n' H := by
  obtain ⟨k, cs, ls, rest, h1, h2, h3, h4⟩ := h
  exact ⟨k, cs, ls, rest, h1, h2, by omega, h4⟩
def VR (K : PySem.W.Frag) (f : Fr) (G H : Hp) : PV → V → Prop
  | .dat d, v => Dp K G v d
  | .own ds, v => ∃ p vs, v = .ref p ∧ H p = some (.lst vs) ∧ G p = none ∧ ¬ f.O p ∧ (f.F p = none ∨ f.M p) ∧ DpAll K G vs ds
  | .dct kvs, v => ∃ p ws, v = .ref p ∧ H p = some (.dK ws) ∧ G p = none ∧ ¬ f.O p ∧ (f.F p = none ∨ f.M p) ∧ ws.map (·.1) = kvs.map (·.1) ∧ DpAll K G (ws.map (·.2)) (kvs.map (·.2))
  | .dcg kvs, v => ∃ p xs, v = .ref p ∧ H p = some (GDo f.w p xs) ∧ G p = none ∧ ¬ f.O p ∧ (f.F p = none ∨ f.M p) ∧ GRel K G xs.2 kvs
  | .dgf kvs, v => ∃ p xs, v = .ref p ∧ G p = some (GDo f.w p xs) ∧ GRel K G xs.2 kvs
  | .abs R, v => ∀ G', Ex G G' → R K G' v
  | .drw, v => f.on = true ∧ v = .ref f.m
  | .val w, v => v = w
  | .byr ds, v => ∃ p vs, v = .ref p ∧ H p = some (.lst vs) ∧ G p = none ∧ ¬ f.O p ∧ (f.F p = none ∨ f.M p) ∧ DpAll K G vs ds ∧ p = f.r
structure EntOk (en : Ent) (f : Fr) (G : Hp) : Prop where
  on : f.on = en.on
  m : f.m = en.m
  l : f.l = en.l
  c : f.c = en.c
  F : Ex en.F f.F
  O : ∀ a, en.O a → f.O a
  M : f.M = en.M
  r : f.r = en.r
  G : Ex en.G G
  mo : en.on = true → en.O en.m ∧ en.O en.l ∧ en.O en.c ∧ en.M en.m ∧ en.M en.l
  tm : ∀ p ∈ f.T, en.O p.1 ∧ en.M p.1
theorem EntOk.ex {en : Ent} {f : Fr} {G G' : Hp} (h : EntOk en f G) (e : Ex G G') : EntOk en f G' := { h with G := h.G.trans e }
structure Rel (K : PySem.W.Frag) (f : Fr) (G : Hp) (s : Sg) (σ : L2.St) (H : Hp) : Prop where
  gh : Ex G H
  fh : ∀ a o, ¬ f.M a → f.F a = some o → H a = some o
  go : ∀ a, f.O a → G a = none
  oh : ∀ a, f.O a → H a ≠ none
  mh : ∀ a, f.M a → H a ≠ none
  mo : f.on = true → f.O f.m ∧ f.O f.l ∧ f.O f.c ∧ f.M f.m ∧ f.M f.l
  tm : ∀ p ∈ f.T, f.O p.1 ∧ f.M p.1
  tb : ∀ p ∈ f.T, TabOk G H p.1 p.2
  pk : ∀ en, f.e = some en → EntOk en f G
  dr : f.on = true → DrwOk f.m f.l f.c s.n H
  ln : σ.length = s.sl.length
  sl : ∀ (i : Nat) (p : PV), s.sl[i]? = some (some p) → ∃ v : V, σ[i]? = some (some v) ∧ VR K f G H p v
  ds : ∀ (i j : Nat) (p q : PV) (v : V), i ≠ j → s.sl[i]? = some (some p) → s.sl[j]? = some (some q) → p.mut = true → q.mut = true → σ[i]? = some (some v) → σ[j]? ≠ some (some v)
def VRf (K : PySem.W.Frag) (f : Fr) (G H : Hp) (s : Sg) (σ : L2.St) (p : PV) (v : V) : Prop := VR K f G H p v ∧ (p.mut = true → ∀ (i : Nat) (q : PV), s.sl[i]? = some (some q) → q.mut = true → σ[i]? ≠ some (some v))
def VRs (K : PySem.W.Frag) (f : Fr) (G H : Hp) : List PV → List V → Prop := Paired (VR K f G H)
section
variable {K : PySem.W.Frag} {f : Fr} {G G' G1 H H' H1 : Hp} {s s' : Sg} {σ σ' : L2.St} {p : PV} {v : V} {d : PyData}
theorem VR.mono (h : VR K f G H p v) (g : Ex G G') (n : ∀ a, G a = none → G' a ≠ none → H a = none) (e : Ex H H') : VR K f G' H' p v := by
  have key : ∀ a o, H a = some o → G a = none → G' a = none := fun a o h1 h2 => by
    cases q : G' a with
    | none => rfl
    | some u =>
      have := n a h2 (by rw [q]; intro z; cases z)
      rw [h1] at this; cases this
  cases p with
  | dat d => exact Dp.ex g _ h
  | own ds =>
    obtain ⟨p, vs, rfl, h1, h2, h3, h4, h5⟩ := h
    exact ⟨p, vs, rfl, e _ _ h1, key _ _ h1 h2, h3, h4, Dp.exAll g _ h5⟩
  | dct kvs =>
    obtain ⟨p, vs, rfl, h1, h2, h3, h4, h5, h6⟩ := h
    exact ⟨p, vs, rfl, e _ _ h1, key _ _ h1 h2, h3, h4, h5, Dp.exAll g _ h6⟩
  | dcg kvs =>
    obtain ⟨p, vs, rfl, h1, h2, h3, h4, h5⟩ := h
    exact ⟨p, vs, rfl, e _ _ h1, key _ _ h1 h2, h3, h4, h5.ex g⟩
  | dgf kvs =>
    obtain ⟨p, vs, rfl, h1, h2⟩ := h
    exact ⟨p, vs, rfl, g _ _ h1, h2.ex g⟩
  | abs _ => exact fun G9 e9 => h G9 (g.trans e9)
  | drw => exact h
  | val w => exact h
  | byr ds =>
    obtain ⟨p, vs, rfl, h1, h2, h3, h4, h5, h6⟩ := h
    exact ⟨p, vs, rfl, e _ _ h1, key _ _ h1 h2, h3, h4, Dp.exAll g _ h5, h6⟩
theorem VRs.mono {ps : List PV} {vs : List V} (h : VRs K f G H ps vs) (g : Ex G G') (n : ∀ a, G a = none → G' a ≠ none → H a = none) (e : Ex H H') : VRs K f G' H' ps vs := by
  unfold VRs at *
  induction h with
  | nil => exact .nil
  | cons h _ ih => exact .cons (h.mono g n e) ih
theorem Rel.grow (R : Rel K f G s σ H) (e : Ex H H') (g : Ex G G') (g2 : Ex G' H') (n : ∀ a, G a = none → G' a ≠ none → H a = none) : Rel K f G' s σ H' where
  gh := g2
  fh := fun a o m h => e _ _ (R.fh a o m h)
  go := fun a h => by
    cases q : G' a with
    | none => rfl
    | some u => exact absurd (n a (R.go a h) (by rw [q]; intro z; cases z)) (R.oh a h)
  oh := fun a h => by
    cases q : H a with
    | none => exact absurd q (R.oh a h)
    | some u => rw [e _ _ q]; intro z; cases z
  mh := fun a h => by
    cases q : H a with
    | none => exact absurd q (R.mh a h)
    | some u => rw [e _ _ q]; intro z; cases z
  mo := R.mo
  tm := R.tm
  tb := fun p hp => by
    obtain ⟨ps, h1, h2, h3⟩ := R.tb p hp
    exact ⟨ps, e _ _ h1, h2, fun pos cv hc => by obtain ⟨c, e1, e2⟩ := h3 pos cv hc; exact ⟨c, e1, g _ _ e2⟩⟩
  pk := fun en h => (R.pk en h).ex g
  dr := fun h => by
    obtain ⟨k, cs, ls, rest, h1, h2, h3, h4, h5, h6, h7, h8⟩ := R.dr h
    exact ⟨k, cs, ls, rest, e _ _ h1, h2, h3, e _ _ h4, h5, h6, e _ _ h7, h8⟩
  ln := R.ln
  sl := fun i p h => by
    obtain ⟨v, h1, h2⟩ := R.sl i p h
    exact ⟨v, h1, h2.mono g n e⟩
  ds := R.ds
theorem nomore : ∀ a, G a = none → G a ≠ none → H a = none := fun a h h2 => absurd h h2
theorem Rel.new {a : Addr} {o : HO} (R : Rel K f G s σ H) (h : H a = none) : Rel K f G s σ (upd H a o) := R.grow (Evl.Ex.new h) (Ex.refl G) (R.gh.trans (Evl.Ex.new h)) nomore
theorem Rel.gn {a : Addr} (R : Rel K f G s σ H) (h : H a = none) : G a = none := Evl.fresh_back R.gh h
theorem Rel.on' {a : Addr} (R : Rel K f G s σ H) (h : H a = none) : ¬ f.O a := fun z => R.oh a z h
theorem ex_upd {a : Addr} {o : HO} (e : Ex G H) : Ex (upd G a o) (upd H a o) := fun b u h => by
  by_cases q : b = a
  · subst q; rw [upd_same] at h ⊢; exact h
  · rw [upd_ne q] at h ⊢; exact e _ _ h
theorem new_upd {a : Addr} {o : HO} (h : H a = none) : ∀ b, G b = none → upd G a o b ≠ none → H b = none := fun b g n => by
  by_cases q : b = a
  · subst q; exact h
  · rw [upd_ne q] at n; exact absurd g n
theorem Rel.newG {a : Addr} {o : HO} (R : Rel K f G s σ H) (h : H a = none) : Rel K f (upd G a o) s σ (upd H a o) := R.grow (Evl.Ex.new h) (Evl.Ex.new (R.gn h)) (ex_upd R.gh) (new_upd h)
theorem Rel.fr_none {a : Addr} (R : Rel K f G s σ H) (h : H a = none) : f.F a = none ∨ f.M a := by
  cases q : f.F a with
  | none => exact Or.inl rfl
  | some o =>
    by_cases m : f.M a
    · exact Or.inr m
    · have := R.fh a o m q
      rw [h] at this; cases this
theorem Rel.own {a : Addr} {vs : List V} {ds : List PyData} (R : Rel K f G s σ H) (h : H a = none) (dv : DpAll K G vs ds) : VRf K f G (upd H a (.lst vs)) s σ (.own ds) (.ref a) := by
  refine ⟨⟨a, vs, rfl, upd_same, R.gn h, R.on' h, R.fr_none h, dv⟩, fun _ i q h1 h2 h3 => ?_⟩
  obtain ⟨v, h4, h5⟩ := R.sl i q h1
  rw [h3] at h4
  cases h4
  cases q with
  | dat d => cases h2
  | own ds => obtain ⟨p, _, e, h6, _⟩ := h5; cases e; rw [h] at h6; cases h6
  | byr ds => obtain ⟨p, _, e, h6, _⟩ := h5; cases e; rw [h] at h6; cases h6
  | dct ds => obtain ⟨p, _, e, h6, _⟩ := h5; cases e; rw [h] at h6; cases h6
  | dcg ds => obtain ⟨p, _, e, h6, _⟩ := h5; cases e; rw [h] at h6; cases h6
  | drw => cases h2
  | val _ => cases h2
  | dgf _ => cases h2
  | abs _ => cases h2
theorem Rel.ownD {a : Addr} {ws : List (Key × V)} {kvs : List (Key × PyData)} (R : Rel K f G s σ H) (h : H a = none) (hk : ws.map (·.1) = kvs.map (·.1)) (dv : DpAll K G (ws.map (·.2)) (kvs.map (·.2))) : VRf K f G (upd H a (.dK ws)) s σ (.dct kvs) (.ref a) := by
  refine ⟨⟨a, ws, rfl, upd_same, R.gn h, R.on' h, R.fr_none h, hk, dv⟩, fun _ i q h1 h2 h3 => ?_⟩
  obtain ⟨v, h4, h5⟩ := R.sl i q h1
  rw [h3] at h4
  cases h4
  cases q with
  | dat d => cases h2
  | own ds => obtain ⟨p, _, e, h6, _⟩ := h5; cases e; rw [h] at h6; cases h6
  | byr ds => obtain ⟨p, _, e, h6, _⟩ := h5; cases e; rw [h] at h6; cases h6
  | dct ds => obtain ⟨p, _, e, h6, _⟩ := h5; cases e; rw [h] at h6; cases h6
  | dcg ds => obtain ⟨p, _, e, h6, _⟩ := h5; cases e; rw [h] at h6; cases h6
  | drw => cases h2
  | val _ => cases h2
  | dgf _ => cases h2
  | abs _ => cases h2
theorem Rel.ownG {a : Addr} {xs : GOb} {kvs : List (PyData × PyData)} (R : Rel K f G s σ H) (h : H a = none) (g : GRel K G xs.2 kvs) : VRf K f G (upd H a (GDo f.w a xs)) s σ (.dcg kvs) (.ref a) := by
  refine ⟨⟨a, xs, rfl, upd_same, R.gn h, R.on' h, R.fr_none h, g⟩, fun _ i q h1 h2 h3 => ?_⟩
  obtain ⟨v, h4, h5⟩ := R.sl i q h1
  rw [h3] at h4
  cases h4
  cases q with
  | dat d => cases h2
  | own ds => obtain ⟨p, _, e, h6, _⟩ := h5; cases e; rw [h] at h6; cases h6
  | byr ds => obtain ⟨p, _, e, h6, _⟩ := h5; cases e; rw [h] at h6; cases h6
  | dct ds => obtain ⟨p, _, e, h6, _⟩ := h5; cases e; rw [h] at h6; cases h6
  | dcg ds => obtain ⟨p, _, e, h6, _⟩ := h5; cases e; rw [h] at h6; cases h6
  | drw => cases h2
  | val _ => cases h2
  | dgf _ => cases h2
  | abs _ => cases h2
theorem vrf_dat (h : Dp K G v d) : VRf K f G H s σ (.dat d) v := ⟨h, fun z => by cases z⟩
theorem Rel.frz (R : Rel K f G s σ H) (h : VRf K f G H s σ p v) (e : p.frz = some d) : ∃ G', Ex G G' ∧ Rel K f G' s σ H ∧ Dp K G' v d := by
  cases p with
  | dat d' => cases e; exact ⟨G, Ex.refl G, R, h.1⟩
  | drw => cases e
  | val _ => cases e
  | dgf _ => cases e
  | abs _ => cases e
  | byr _ => cases e
  | dct kvs => cases e
  | dcg kvs => cases e
  | own ds =>
    cases e
    obtain ⟨⟨a, vs, rfl, h1, h2, h3, h4, h5⟩, hf⟩ := h
    have hg : Ex G (upd G a (.lst vs)) := Evl.Ex.new h2
    refine ⟨upd G a (.lst vs), hg, { gh := fun b o hb => ?_, fh := R.fh, go := fun b hb => ?_, oh := R.oh, mh := R.mh, mo := R.mo, tm := R.tm, tb := fun p hp => (R.tb p hp).keep (fun b o _ z => hg _ _ z) rfl, pk := fun en h => (R.pk en h).ex hg, dr := R.dr, ln := R.ln, sl := fun i q hq => ?_, ds := R.ds }, .lst (Or.inl (Or.inl upd_same)) (Dp.exAll hg _ h5)⟩
    · by_cases q : b = a
      · subst q; rw [upd_same] at hb; cases hb; exact h1
      · rw [upd_ne q] at hb; exact R.gh _ _ hb
    · have q : b ≠ a := fun z => h3 (z ▸ hb)
      rw [upd_ne q]; exact R.go b hb
    · obtain ⟨w, hw, hv⟩ := R.sl i q hq
      refine ⟨w, hw, ?_⟩
      have ne : q.mut = true → w ≠ .ref a := fun m z => hf rfl i q hq m (by rw [hw, z])
      cases q with
      | dat d => exact Dp.ex hg _ hv
      | drw => exact hv
      | val _ => exact hv
      | dgf _ => obtain ⟨p0, xs0, z1, z2, z3⟩ := hv; exact ⟨p0, xs0, z1, hg _ _ z2, z3.ex hg⟩
      | abs _ => exact fun G9 e9 => hv G9 (hg.trans e9)
      | byr es =>
        obtain ⟨b, ws, rfl, k1, k2, k3, k4, k5, k6⟩ := hv
        exact ⟨b, ws, rfl, k1, by rw [upd_ne (fun z => ne rfl (by rw [z]))]; exact k2, k3, k4, Dp.exAll hg _ k5, k6⟩
      | own es =>
        obtain ⟨b, ws, rfl, k1, k2, k3, k4, k5⟩ := hv
        exact ⟨b, ws, rfl, k1, by rw [upd_ne (fun z => ne rfl (by rw [z]))]; exact k2, k3, k4, Dp.exAll hg _ k5⟩
      | dct es =>
        obtain ⟨b, ws, rfl, k1, k2, k3, k4, k5, k6⟩ := hv
        exact ⟨b, ws, rfl, k1, by rw [upd_ne (fun z => ne rfl (by rw [z]))]; exact k2, k3, k4, k5, Dp.exAll hg _ k6⟩
      | dcg es =>
        obtain ⟨b, ws, rfl, k1, k2, k3, k4, k5⟩ := hv
        exact ⟨b, ws, rfl, k1, by rw [upd_ne (fun z => ne rfl (by rw [z]))]; exact k2, k3, k4, k5.ex hg⟩
theorem set_get {α : Type} {xs : List α} {i j : Nat} {x y : α} (h : (xs.set i x)[j]? = some y) : (i = j ∧ y = x ∧ j < xs.length) ∨ (i ≠ j ∧ xs[j]? = some y) := by
  by_cases e : i = j
  · subst e
    rw [List.getElem?_set] at h
    simp at h
    exact Or.inl ⟨rfl, h.2.symm, h.1⟩
  · rw [List.getElem?_set_ne e] at h
    exact Or.inr ⟨e, h⟩
theorem Rel.put {i : Nat} (R : Rel K f G s σ H) (h : VRf K f G H s σ p v) : Rel K f G (s.put i p) (σ.set i (some v)) H where
  gh := R.gh
  fh := R.fh
  go := R.go
  oh := R.oh
  mh := R.mh
  mo := R.mo
  tm := R.tm
  tb := R.tb
  pk := R.pk
  dr := R.dr
  ln := by simp only [Sg.put, List.length_set]; exact R.ln
  sl := fun j q hq => by
    rcases set_get hq with ⟨e, e2, hl⟩ | ⟨e, h2⟩
    · cases e2
      subst e
      exact ⟨v, by rw [List.getElem?_set_self (by rw [R.ln]; exact hl)], h.1⟩
    · obtain ⟨w, hw, hv⟩ := R.sl j q h2
      exact ⟨w, by rw [List.getElem?_set_ne e]; exact hw, hv⟩
  ds := fun a b pa pb w ne ha hb ma mb wa wb => by
    rcases set_get ha with ⟨e, e2, hl⟩ | ⟨e, h2⟩
    · cases e2
      subst e
      rcases set_get hb with ⟨e', e2', hl'⟩ | ⟨e', h2'⟩
      · exact ne e'
      · rw [List.getElem?_set_self (by rw [R.ln]; exact hl)] at wa
        cases wa
        rw [List.getElem?_set_ne e'] at wb
        exact h.2 ma b pb h2' mb wb
    · rw [List.getElem?_set_ne e] at wa
      rcases set_get hb with ⟨e', e2', hl'⟩ | ⟨e', h2'⟩
      · cases e2'
        subst e'
        rw [List.getElem?_set_self (by rw [R.ln]; exact hl')] at wb
        cases wb
        exact h.2 mb a pa h2 ma wa
      · rw [List.getElem?_set_ne e'] at wb
        exact R.ds a b pa pb w ne h2 h2' ma mb wa wb
theorem Rel.put_off {i : Nat} (R : Rel K f G s σ H) : Rel K f G (s.off i) σ H where
  gh := R.gh
  fh := R.fh
  go := R.go
  oh := R.oh
  mh := R.mh
  mo := R.mo
  tm := R.tm
  tb := R.tb
  pk := R.pk
  dr := R.dr
  ln := by simp only [Sg.off, List.length_set]; exact R.ln
  sl := fun j q hq => by
    rcases set_get hq with ⟨e, e2, hl⟩ | ⟨e, h2⟩
    · cases e2
    · exact R.sl j q h2
  ds := fun a b pa pb w ne ha hb ma mb wa wb => by
    rcases set_get ha with ⟨e, e2, hl⟩ | ⟨e, h2⟩
    · cases e2
    rcases set_get hb with ⟨e', e2', hl'⟩ | ⟨e', h2'⟩
    · cases e2'
    exact R.ds a b pa pb w ne h2 h2' ma mb wa wb
theorem Rel.away {i : Nat} (R : Rel K f G s σ H) (h : s.sl[i]? = some (some p)) : ∃ v, σ[i]? = some (some v) ∧ Rel K f G (s.off i) σ H ∧ VRf K f G H (s.off i) σ p v := by
  obtain ⟨v, h1, h2⟩ := R.sl i p h
  refine ⟨v, h1, R.put_off, h2, fun m j q hq mq => ?_⟩
  rcases set_get hq with ⟨e, e2, hl⟩ | ⟨e, h3⟩
  · cases e2
  · exact R.ds i j p q v e h h3 m mq h1
theorem Rel.more {n : Nat} (R : Rel K f G s σ H) (e : s.n ≤ n) : Rel K f G ⟨s.sl, n⟩ σ H := { gh := R.gh, fh := R.fh, go := R.go, oh := R.oh, mh := R.mh, mo := R.mo, tm := R.tm, tb := R.tb, pk := R.pk, dr := fun h => (R.dr h).more e, ln := R.ln, sl := R.sl, ds := R.ds }
end
abbrev HE := Sg → (PV → Sg → Prop) → Prop
abbrev HT := Sg → (Bool → Sg → Prop) → Prop
abbrev HA := Sg → (List PV → Sg → Prop) → Prop
structure HD where
  nx : Sg → Prop
  rt : PV → Sg → Prop
  bk : Sg → Prop := fun _ => False
  ct : Sg → Prop := fun _ => False
abbrev HS := HD → Sg → Prop
def fo (f : Fr) (F : Fr) (O : Addr → Prop) : Fr := ⟨F.on, F.m, F.l, F.c, F.F, O, F.M, F.r, f.w, f.T, f.e⟩
def f1 (w : World) (T : Tbs) (en : Option Ent) : Fr := ⟨false, 0, 0, 0, fun _ => none, fun _ => False, fun _ => False, 0, w, T, en⟩
abbrev f0 (w : World) (T : Tbs) : Fr := f1 w T none
def Fr.up (F : Fr) (D : Addr) (o : HO) : Fr := ⟨F.on, F.m, F.l, F.c, upd F.F D o, F.O, F.M, F.r, F.w, F.T, F.e⟩
def lf (K : PySem.W.Frag) (f : Fr) (t : HE) : TE := fun σ H Q => ∃ F O G s C, Rel K (fo f F O) G s σ H ∧ t s C ∧ ∀ p s' G' H' v, C p s' → Ex G G' → Rel K (fo f F O) G' s' σ H' → VRf K (fo f F O) G' H' s' σ p v → Q v H'
def lfT (K : PySem.W.Frag) (f : Fr) (t : HT) : TT := fun σ H Q => ∃ F O G s C, Rel K (fo f F O) G s σ H ∧ t s C ∧ ∀ b s' G' H', C b s' → Ex G G' → Rel K (fo f F O) G' s' σ H' → Q b H'
def lfA (K : PySem.W.Frag) (f : Fr) (t : HA) : TA := fun σ H Q => ∃ F O G s C, Rel K (fo f F O) G s σ H ∧ t s C ∧ ∀ ps s' G' H' vs, C ps s' → Ex G G' → Rel K (fo f F O) G' s' σ H' → VRs K (fo f F O) G' H' ps vs → Q vs H'
structure Imp (K : PySem.W.Frag) (f : Fr) (F : Fr) (O : Addr → Prop) (G0 : Hp) (D' : HD) (D : Ends) : Prop where
  nx : ∀ G s σ H, Ex G0 G → Rel K (fo f F O) G s σ H → D'.nx s → D.nx σ H
  rt : ∀ p G s σ H v, Ex G0 G → Rel K (fo f F O) G s σ H → VRf K (fo f F O) G H s σ p v → D'.rt p s → D.rt v H
  bk : ∀ G s σ H, Ex G0 G → Rel K (fo f F O) G s σ H → D'.bk s → D.bk σ H
  ct : ∀ G s σ H, Ex G0 G → Rel K (fo f F O) G s σ H → D'.ct s → D.ct σ H
theorem Imp.ex {K : PySem.W.Frag} {f : Fr} {F : Fr} {O : Addr → Prop} {G G' : Hp} {D' : HD} {D : Ends} (h : Imp K f F O G D' D) (e : Ex G G') : Imp K f F O G' D' D := ⟨fun G1 s σ H a => h.nx G1 s σ H (e.trans a), fun p G1 s σ H v a => h.rt p G1 s σ H v (e.trans a), fun G1 s σ H a => h.bk G1 s σ H (e.trans a), fun G1 s σ H a => h.ct G1 s σ H (e.trans a)⟩
def lfS (K : PySem.W.Frag) (f : Fr) (t : HS) : TS := fun D σ H => ∃ F O G s D', Rel K (fo f F O) G s σ H ∧ t D' s ∧ Imp K f F O G D' D
theorem _root_.L2.PE.mono {X : Cx} {e : Expr} {t t' : TE} (h : PE X e t) (m : ∀ σ H Q, t' σ H Q → t σ H Q) : PE X e t' := ⟨fun pins s σ H Q I q => h.run pins s σ H Q I (m σ H Q q)⟩
theorem _root_.L2.PT.mono {X : Cx} {e : Expr} {t t' : TT} (h : PT X e t) (m : ∀ σ H Q, t' σ H Q → t σ H Q) : PT X e t' := ⟨fun pins s σ H Q I q => h.run pins s σ H Q I (m σ H Q q)⟩
theorem _root_.L2.PW.mono {X : Cx} {e : Expr} {t t' : TT} (h : PW X e t) (m : ∀ σ H Q, t' σ H Q → t σ H Q) : PW X e t' := ⟨fun wh pins s σ H Q I q => h.run wh pins s σ H Q I (m σ H Q q)⟩
theorem _root_.L2.PA.mono {X : Cx} {es : List Expr} {t t' : TA} (h : PA X es t) (m : ∀ σ H Q, t' σ H Q → t σ H Q) : PA X es t' := ⟨fun pos pins s σ H Q I q => h.run pos pins s σ H Q I (m σ H Q q)⟩
theorem _root_.L2.PS.mono {X : Cx} {st : Stmt} {t t' : TS} (h : PS X st t) (m : ∀ D σ H, t' D σ H → t D σ H) : PS X st t' := ⟨fun pins s σ H D I q => h.run pins s σ H D I (m D σ H q)⟩
theorem _root_.L2.PSs.mono {X : Cx} {st : List Stmt} {t t' : TS} (h : PSs X st t) (m : ∀ D σ H, t' D σ H → t D σ H) : PSs X st t' := ⟨fun pins s σ H D I q => h.run pins s σ H D I (m D σ H q)⟩
@[simp] def hNil : HA := fun s C => C [] s
@[simp] def hL (j : Nat) (r : HA) : HA := fun s C => (∃ p, s.sl[j]? = some (some p)) ∧ r s fun ps s2 => ∃ p, s2.sl[j]? = some (some p) ∧ C (p :: ps) s2
@[simp] def hE (t : HE) (r : HA) : HA := fun s C => t s fun p s1 => ∃ d, p.frz = some d ∧ r s1 fun ps s2 => C (.dat d :: ps) s2
structure Opd (X : Cx) (f : Fr) (e : Expr) (o : HA → HA) : Prop where
  ex : ∃ t, PE X e t ∧ ∀ (tr : TA) (r : HA), (∀ σ H Q, lfA X.K f r σ H Q → tr σ H Q) → ∀ σ H Q, lfA X.K f (o r) σ H Q → tCons t tr σ H Q
section
variable {X : Cx} {f : Fr} {e a b c : Expr} {es : List Expr} {o oa ob oc : HA → HA} {t : HE} {r : HA} {pos : Pos}
theorem opd_e (h : PE X e (lf X.K f t)) : Opd X f e (hE t) := ⟨_, h, fun tr r m σ H Q q => by
  obtain ⟨F, O, G, s, C, R, ht, k⟩ := q
  refine ⟨F, O, G, s, _, R, ht, fun p s1 G1 H1 v c1 e1 R1 V1 => ?_⟩
  obtain ⟨d, hd, hr⟩ := c1
  obtain ⟨G2, e2, R2, V2⟩ := R1.frz V1 hd
  refine m _ _ _ ⟨F, O, G2, s1, _, R2, hr, fun ps s3 G3 H3 vs c3 e3 R3 V3 => ?_⟩
  exact k _ _ _ _ _ c3 ((e1.trans e2).trans e3) R3 (.cons (Dp.ex e3 _ V2) V3)⟩
theorem opd_v (j : Nat) (h : PE X e (tVar j)) : Opd X f e (hL j) := ⟨_, h, fun tr r m σ H Q q => by
  obtain ⟨F, O, G, s, C, R, ⟨⟨p, hp⟩, ht⟩, k⟩ := q
  obtain ⟨v, hv, _⟩ := R.sl j p hp
  refine ⟨v, hv, m _ _ _ ⟨F, O, G, s, _, R, ht, fun ps s3 G3 H3 vs c3 e3 R3 V3 => ?_⟩⟩
  obtain ⟨p2, hp2, c4⟩ := c3
  obtain ⟨v2, hv2, V2⟩ := R3.sl j p2 hp2
  rw [hv] at hv2
  cases hv2
  exact k _ _ _ _ _ c4 e3 R3 (.cons V2 V3)⟩
theorem hpa_nil : PA X [] (lfA X.K f hNil) := pa_nil.mono fun σ H Q q => by
  obtain ⟨F, O, G, s, C, R, ht, k⟩ := q
  exact k _ _ _ _ _ ht (Ex.refl G) R .nil
theorem hpa_cons (A : Opd X f e o) (h : PA X es (lfA X.K f r)) (hs : starEach (e :: es) X.env = (false, eval e X.env) :: starEach es X.env := by rfl) : PA X (e :: es) (lfA X.K f (o r)) := by
  obtain ⟨t, h1, h2⟩ := A.ex
  exact (pa_cons h1 h hs).mono fun σ H Q q => h2 _ _ (fun _ _ _ z => z) σ H Q q
def Op (K : PySem.W.Frag) (f : Fr) (r : List V → Hp → VK → Prop) (w : List PV → (PV → Prop) → Prop) : Prop :=
  ∀ F O G s σ H ps vs (C : PV → Prop) (Q : VK), Rel K (fo f F O) G s σ H → VRs K (fo f F O) G H ps vs → w ps C → (∀ p G' H' v, C p → Ex G G' → Rel K (fo f F O) G' s σ H' → VRf K (fo f F O) G' H' s σ p v → Q v H') → r vs H Q
@[simp] def hC (w : List PV → (PV → Prop) → Prop) (ta : HA) : HE := fun s C => ta s fun ps s' => w ps fun p => C p s'
theorem Op.lift {r : List V → Hp → VK → Prop} {w : List PV → (PV → Prop) → Prop} (h : Op X.K f r w) (ta : HA) : ∀ σ H Q, lf X.K f (hC w ta) σ H Q → lfA X.K f ta σ H fun vs H' => r vs H' Q := fun σ H Q q => by
  obtain ⟨F, O, G, s, C, R, ht, k⟩ := q
  refine ⟨F, O, G, s, _, R, ht, fun ps s1 G1 H1 vs c1 e1 R1 V1 => h F O G1 s1 σ H1 ps vs _ Q R1 V1 c1 fun p G2 H2 v c2 e2 R2 V2 => ?_⟩
  exact k p s1 G2 H2 v c2 (e1.trans e2) R2 V2
def op2 (r : R2) : List V → Hp → VK → Prop := fun vs H Q => match vs with
  | [x, y] => r x y H Q
  | _ => False
def op1 (r : V → Hp → VK → Prop) : List V → Hp → VK → Prop := fun vs H Q => match vs with
  | [x] => r x H Q
  | _ => False
theorem Opd.two {r : R2} {w : List PV → (PV → Prop) → Prop} (A : Opd X f a oa) (B : Opd X f b ob) (h : Op X.K f (op2 r) w) : ∃ ta tb, PE X a ta ∧ PE X b tb ∧ ∀ σ H Q, lf X.K f (hC w (oa (ob hNil))) σ H Q → tOp r ta tb σ H Q := by
  obtain ⟨ta, a1, a2⟩ := A.ex
  obtain ⟨tb, b1, b2⟩ := B.ex
  refine ⟨ta, tb, a1, b1, fun σ H Q q => ?_⟩
  have z := a2 (tCons tb tNil) (ob hNil) (fun σ H Q => b2 tNil hNil (fun σ H Q q => by
    obtain ⟨F, O, G, s, C, R, ht, k⟩ := q
    exact k _ _ _ _ _ ht (Ex.refl G) R .nil) σ H Q) σ H _ (h.lift _ σ H Q q)
  exact z
theorem hp_op {op : Operator} {r : R2} {w : List PV → (PV → Prop) → Prop} (hr : OpR X (binaryOp op) r) (A : Opd X f a oa) (B : Opd X f b ob) (h : Op X.K f (op2 r) w) : PE X (.BinOp a op b pos) (lf X.K f (hC w (oa (ob hNil)))) := by
  obtain ⟨ta, tb, h1, h2, h3⟩ := A.two B h
  exact (pe_op hr h1 h2).mono h3
theorem hp_cmp {op : CmpOp} {r : R2} {w : List PV → (PV → Prop) → Prop} (hr : OpR X (compareOp op) r) (A : Opd X f a oa) (B : Opd X f b ob) (h : Op X.K f (op2 r) w) (hm : behindInMarks op b = false) : PE X (.Compare a [op] [b] pos) (lf X.K f (hC w (oa (ob hNil)))) := by
  obtain ⟨ta, tb, h1, h2, h3⟩ := A.two B h
  exact (pe_cmpR hr h1 h2 hm).mono h3
@[simp] def hB (t : HE) : HT := fun s C => t s fun p s' => ∃ b, p = .dat (.bool b) ∧ C b s'
theorem lfT_B : ∀ σ H Q, lfT X.K f (hB t) σ H Q → lf X.K f t σ H fun x H1 => ∃ c, x = .bl c ∧ Q c H1 := fun σ H Q q => by
  obtain ⟨F, O, G, s, C, R, ht, k⟩ := q
  refine ⟨F, O, G, s, _, R, ht, fun p s1 G1 H1 v c1 e1 R1 V1 => ?_⟩
  obtain ⟨b, rfl, c2⟩ := c1
  have z : v = .bl b := by
    have := V1.1
    cases (show Dp X.K G1 v (.bool b) from this)
    rfl
  exact ⟨b, z, k _ _ _ _ c2 e1 R1⟩
theorem hp_test (h : PE X e (lf X.K f t)) (he : ∀ whole, isTrue e X.env whole = (do let v ← whole; standAt e.pos; holding [v] (truthy v)) := by intro _; rfl) : PT X e (lfT X.K f (hB t)) := (pt_val h he).mono lfT_B
theorem ht_cmp {op : CmpOp} {r : R2} {w : List PV → (PV → Prop) → Prop} (hr : OpR X (compareOp op) r) (A : Opd X f a oa) (B : Opd X f b ob) (h : Op X.K f (op2 r) w) (hm : behindInMarks op b = false) : PT X (.Compare a [op] [b] pos) (lfT X.K f (hB (hC w (oa (ob hNil))))) := by
  obtain ⟨ta, tb, h1, h2, h3⟩ := A.two B h
  exact (pt_cmpR hr h1 h2 hm).mono fun σ H Q q => h3 _ _ _ (lfT_B _ _ _ q)
theorem hp_ix {r : R2} {w : List PV → (PV → Prop) → Prop} (hr : IxR X r) (A : Opd X f a oa) (B : Opd X f b ob) (h : Op X.K f (op2 r) w) (hs : PlainIx b) : PE X (.Subscript a b pos) (lf X.K f (hC w (oa (ob hNil)))) := by
  obtain ⟨ta, tb, h1, h2, h3⟩ := A.two B h
  exact (pe_ix hr h1 h2 hs).mono h3
end
end Sk
set_option Elab.async false
set_option linter.all false
set_option maxRecDepth 100000
set_option maxHeartbeats 2000000
namespace Sk
open PySem PySem.Spec PyProof.Rows L2
open Evl (Ex)
@[simp] def hV (j : Nat) : HE := fun s C => match s.sl[j]? with
  | some (some (.dat d)) => C (.dat d) s
  | some (some (.own ds)) => C (.dat (.list ds)) (s.put j (.dat (.list ds)))
  | some (some .drw) => C .drw s
  | some (some (.abs R)) => C (.abs R) s
  | _ => False
@[simp] def hM (j : Nat) : HE := fun s C => match s.sl[j]? with
  | some (some p) => C p (s.off j)
  | _ => False
@[simp] def hK (d : PyData) : HE := fun s C => C (.dat d) s
@[simp] def dats : List PV → Option (List PyData)
  | [] => some []
  | .dat d :: r => (dats r).map (d :: ·)
  | _ => none
@[simp] def hTup (ta : HA) : HE := hC (fun ps C => ∃ ds, dats ps = some ds ∧ ds.length ≤ 100000 ∧ C (.dat (.tuple ds))) ta
@[simp] def hLst (ta : HA) : HE := hC (fun ps C => ∃ ds, dats ps = some ds ∧ ds.length ≤ 100000 ∧ C (.own ds)) ta
@[simp] def hAndV (t u : HE) : HE := fun s C => t s fun p s1 => ∃ b, p = .dat (.bool b) ∧ if b = true then u s1 C else C (.dat (.bool false)) s1
@[simp] def hOrV (t u : HE) : HE := fun s C => t s fun p s1 => ∃ b, p = .dat (.bool b) ∧ if b = true then C (.dat (.bool true)) s1 else u s1 C
@[simp] def hNotV (t : HE) : HE := fun s C => t s fun p s1 => ∃ b, p = .dat (.bool b) ∧ C (.dat (.bool (!b))) s1
@[simp] def hIf (c : HT) (t u : HE) : HE := fun s C => c s fun b s1 => if b = true then t s1 C else u s1 C
@[simp] def hAnd (t u : HT) : HT := fun s C => t s fun b s1 => if b = true then u s1 C else C false s1
@[simp] def hOr (t u : HT) : HT := fun s C => t s fun b s1 => if b = true then C true s1 else u s1 C
@[simp] def hNot (t : HT) : HT := fun s C => t s fun b s1 => C (!b) s1
section
variable {X : Cx} {f : Fr} {e a b c : Expr} {es : List Expr} {o oa ob oc : HA → HA} {t u : HE} {tt tu : HT} {r : HA} {pos : Pos}
theorem dats_all {K : PySem.W.Frag} {f : Fr} {G H : Hp} : ∀ {ps : List PV} {vs : List V} {ds : List PyData}, dats ps = some ds → VRs K f G H ps vs → DpAll K G vs ds
  | [], _, _, h, .nil => by cases h; exact .nil
  | .dat d :: r, _, _, h, .cons h1 h2 => by
    rw [dats] at h
    cases q : dats r with
    | none => rw [q] at h; cases h
    | some es => rw [q] at h; cases h; exact .cons h1 (dats_all q h2)
  | .own _ :: _, _, _, h, .cons _ _ => by cases h
  | .dct _ :: _, _, _, h, .cons _ _ => by cases h
  | .dcg _ :: _, _, _, h, .cons _ _ => by cases h
  | .drw :: _, _, _, h, .cons _ _ => by cases h
  | .val _ :: _, _, _, h, .cons _ _ => by cases h
  | .dgf _ :: _, _, _, h, .cons _ _ => by cases h
  | .abs _ :: _, _, _, h, .cons _ _ => by cases h
  | .byr _ :: _, _, _, h, .cons _ _ => by cases h
theorem hp_v (j : Nat) (h : PE X e (tVar j)) : PE X e (lf X.K f (hV j)) := h.mono fun σ H Q q => by
  obtain ⟨F, O, G, s, C, R, ht, k⟩ := q
  unfold hV at ht
  split at ht
  · rename_i d hd
    obtain ⟨v, hv, V⟩ := R.sl j _ hd
    exact ⟨v, hv, k _ _ _ _ _ ht (Ex.refl G) R (vrf_dat V)⟩
  · rename_i ds hd
    obtain ⟨v, hv, R1, V1⟩ := R.away hd
    obtain ⟨G2, e2, R2, V2⟩ := R1.frz V1 rfl
    refine ⟨v, hv, k _ _ _ _ _ ht e2 ?_ (vrf_dat V2)⟩
    have := R2.put (i := j) (vrf_dat (f := fo f F O) (H := H) (s := s.off j) (σ := σ) V2)
    have e1 : (s.off j).put j (.dat (.list ds)) = s.put j (.dat (.list ds)) := by simp [Sg.off, Sg.put, List.set_set]
    have e2 : σ.set j (some v) = σ := by
      apply List.ext_getElem?
      intro i
      by_cases z : j = i
      · subst z
        rw [List.getElem?_set_self (by exact (List.getElem?_eq_some_iff.mp hv).1), hv]
      · rw [List.getElem?_set_ne z]
    rw [e1, e2] at this
    exact this
  · rename_i hd
    obtain ⟨v, hv, V⟩ := R.sl j _ hd
    exact ⟨v, hv, k _ _ _ _ _ ht (Ex.refl G) R ⟨V, fun z => by cases z⟩⟩
  · rename_i hd
    obtain ⟨v, hv, V⟩ := R.sl j _ hd
    exact ⟨v, hv, k _ _ _ _ _ ht (Ex.refl G) R ⟨V, fun z => by cases z⟩⟩
  · exact ht.elim
theorem hp_m (j : Nat) (h : PE X e (tVar j)) : PE X e (lf X.K f (hM j)) := h.mono fun σ H Q q => by
  obtain ⟨F, O, G, s, C, R, ht, k⟩ := q
  unfold hM at ht
  split at ht
  · rename_i d hd
    obtain ⟨v, hv, R1, V1⟩ := R.away hd
    exact ⟨v, hv, k _ _ _ _ _ ht (Ex.refl G) R1 V1⟩
  · exact ht.elim
theorem hp_k {v : V} {d : PyData} (h : PE X e (tC v)) (hv : ∀ G, Dp X.K G v d) : PE X e (lf X.K f (hK d)) := h.mono fun σ H Q q => by
  obtain ⟨F, O, G, s, C, R, ht, k⟩ := q
  exact k _ _ _ _ _ ht (Ex.refl G) R (vrf_dat (hv G))
def hW (v : V) : HE := fun s C => C (.val v) s
theorem opd_w {v : V} (h : PE X e (tC v)) : Opd X f e (fun r s C => r s fun ps s2 => C (.val v :: ps) s2) := ⟨_, h, fun tr r m σ H Q q => by
  obtain ⟨F, O, G, s, C, R, ht, k⟩ := q
  refine m _ _ _ ⟨F, O, G, s, _, R, ht, fun ps s3 G3 H3 vs c3 e3 R3 V3 => ?_⟩
  exact k _ _ _ _ _ c3 e3 R3 (.cons rfl V3)⟩
theorem op_tup : Op X.K f (fun vs H Q => vs.length ≤ sizeLine ∧ ∀ p, H p = none → Q (.ref p) (upd H p (.tup vs))) (fun ps C => ∃ ds, dats ps = some ds ∧ ds.length ≤ 100000 ∧ C (.dat (.tuple ds))) := fun F O G s σ H ps vs C Q R V w k => by
  obtain ⟨ds, h1, h2, h3⟩ := w
  have D := dats_all h1 V
  refine ⟨by rw [D.len]; exact Evl.sz_of h2, fun p hp => k _ _ _ _ h3 (Evl.Ex.new (R.gn hp)) (R.newG hp) (vrf_dat (.tup (Or.inl (Or.inl upd_same)) (Dp.exAll (Evl.Ex.new (R.gn hp)) _ D)))⟩
theorem op_lst : Op X.K f (fun vs H Q => vs.length ≤ sizeLine ∧ ∀ p, H p = none → Q (.ref p) (upd H p (.lst vs))) (fun ps C => ∃ ds, dats ps = some ds ∧ ds.length ≤ 100000 ∧ C (.own ds)) := fun F O G s σ H ps vs C Q R V w k => by
  obtain ⟨ds, h1, h2, h3⟩ := w
  have D := dats_all h1 V
  exact ⟨by rw [D.len]; exact Evl.sz_of h2, fun p hp => k _ _ _ _ h3 (Ex.refl G) (R.new hp) (R.own hp D)⟩
theorem hp_tup {x1} (h : PA X es (lfA X.K f r)) : PE X (.Tuple es x1 pos) (lf X.K f (hTup r)) := (pe_tup h).mono fun σ H Q q => op_tup.lift _ _ _ _ q
theorem hp_lst (h : PA X es (lfA X.K f r)) : PE X (.List es pos) (lf X.K f (hLst r)) := (pe_lst h).mono fun σ H Q q => op_lst.lift _ _ _ _ q
theorem vr_bool {K : PySem.W.Frag} {f : Fr} {G H : Hp} {s : Sg} {σ : L2.St} {b : Bool} {v : V} (h : VRf K f G H s σ (.dat (.bool b)) v) : v = .bl b := by
  cases (show Dp K G v (.bool b) from h.1)
  rfl
theorem hp_andV {rest : List Expr} (ha : PE X a (lf X.K f t)) (hb : PE X (.BoolOp .And (b :: rest) pos) (lf X.K f u)) : PE X (.BoolOp .And (a :: b :: rest) pos) (lf X.K f (hAndV t u)) := (pe_and ha hb).mono fun σ H Q q => by
  obtain ⟨F, O, G, s, C, R, ht, k⟩ := q
  refine ⟨F, O, G, s, _, R, ht, fun p s1 G1 H1 v c1 e1 R1 V1 => ?_⟩
  obtain ⟨b, rfl, c2⟩ := c1
  refine ⟨b, vr_bool V1, ?_⟩
  cases b with
  | true => exact ⟨F, O, G1, s1, _, R1, c2, fun p2 s2 G2 H2 v2 c3 e3 => k _ _ _ _ _ c3 (e1.trans e3)⟩
  | false => exact k _ _ _ _ _ c2 e1 R1 (vrf_dat (.bl false))
theorem hp_orV {rest : List Expr} (ha : PE X a (lf X.K f t)) (hb : PE X (.BoolOp .Or (b :: rest) pos) (lf X.K f u)) : PE X (.BoolOp .Or (a :: b :: rest) pos) (lf X.K f (hOrV t u)) := (pe_or ha hb).mono fun σ H Q q => by
  obtain ⟨F, O, G, s, C, R, ht, k⟩ := q
  refine ⟨F, O, G, s, _, R, ht, fun p s1 G1 H1 v c1 e1 R1 V1 => ?_⟩
  obtain ⟨b, rfl, c2⟩ := c1
  refine ⟨b, vr_bool V1, ?_⟩
  cases b with
  | false => exact ⟨F, O, G1, s1, _, R1, c2, fun p2 s2 G2 H2 v2 c3 e3 => k _ _ _ _ _ c3 (e1.trans e3)⟩
  | true => exact k _ _ _ _ _ c2 e1 R1 (vrf_dat (.bl true))
theorem hp_notV (ha : PE X a (lf X.K f t)) : PE X (.UnaryOp .Not a pos) (lf X.K f (hNotV t)) := (pe_not ha).mono fun σ H Q q => by
  obtain ⟨F, O, G, s, C, R, ht, k⟩ := q
  refine ⟨F, O, G, s, _, R, ht, fun p s1 G1 H1 v c1 e1 R1 V1 => ?_⟩
  obtain ⟨b, rfl, c2⟩ := c1
  exact ⟨b, vr_bool V1, k _ _ _ _ _ c2 e1 R1 (vrf_dat (.bl _))⟩
theorem hp_if (hc : PT X c (lfT X.K f tt)) (ha : PE X a (lf X.K f t)) (hb : PE X b (lf X.K f u)) : PE X (.IfExp c a b pos) (lf X.K f (hIf tt t u)) := (pe_ifExp hc ha hb).mono fun σ H Q q => by
  obtain ⟨F, O, G, s, C, R, ht, k⟩ := q
  refine ⟨F, O, G, s, _, R, ht, fun b s1 G1 H1 c1 e1 R1 => ?_⟩
  cases b with
  | true => exact ⟨F, O, G1, s1, _, R1, c1, fun p2 s2 G2 H2 v2 c3 e3 => k _ _ _ _ _ c3 (e1.trans e3)⟩
  | false => exact ⟨F, O, G1, s1, _, R1, c1, fun p2 s2 G2 H2 v2 c3 e3 => k _ _ _ _ _ c3 (e1.trans e3)⟩
theorem ht_and1 (ha : PT X a (lfT X.K f tt)) : PW X (.BoolOp .And [a] pos) (lfT X.K f tt) := pw_and1 ha
theorem ht_or1 (ha : PT X a (lfT X.K f tt)) : PW X (.BoolOp .Or [a] pos) (lfT X.K f tt) := pw_or1 ha
theorem ht_and {rest : List Expr} (ha : PT X a (lfT X.K f tt)) (hb : PW X (.BoolOp .And (b :: rest) pos) (lfT X.K f tu)) : PW X (.BoolOp .And (a :: b :: rest) pos) (lfT X.K f (hAnd tt tu)) := (pw_and ha hb).mono fun σ H Q q => by
  obtain ⟨F, O, G, s, C, R, ht, k⟩ := q
  refine ⟨F, O, G, s, _, R, ht, fun b s1 G1 H1 c1 e1 R1 => ?_⟩
  cases b with
  | true => exact ⟨F, O, G1, s1, _, R1, c1, fun p2 s2 G2 H2 c3 e3 => k _ _ _ _ c3 (e1.trans e3)⟩
  | false => exact k _ _ _ _ c1 e1 R1
theorem ht_or {rest : List Expr} (ha : PT X a (lfT X.K f tt)) (hb : PW X (.BoolOp .Or (b :: rest) pos) (lfT X.K f tu)) : PW X (.BoolOp .Or (a :: b :: rest) pos) (lfT X.K f (hOr tt tu)) := (pw_or ha hb).mono fun σ H Q q => by
  obtain ⟨F, O, G, s, C, R, ht, k⟩ := q
  refine ⟨F, O, G, s, _, R, ht, fun b s1 G1 H1 c1 e1 R1 => ?_⟩
  cases b with
  | false => exact ⟨F, O, G1, s1, _, R1, c1, fun p2 s2 G2 H2 c3 e3 => k _ _ _ _ c3 (e1.trans e3)⟩
  | true => exact k _ _ _ _ c1 e1 R1
theorem ht_not (ha : PT X a (lfT X.K f tt)) : PT X (.UnaryOp .Not a pos) (lfT X.K f (hNot tt)) := (pt_not ha).mono fun σ H Q q => by
  obtain ⟨F, O, G, s, C, R, ht, k⟩ := q
  exact ⟨F, O, G, s, _, R, ht, fun b s1 G1 H1 c1 e1 R1 => k _ _ _ _ c1 e1 R1⟩
@[simp] def hChain (w w' : List PV → (PV → Prop) → Prop) (oa ob oc : HA → HA) : HE := fun s C => oa (ob hNil) s fun ps s1 => match ps with
  | [x, y] => y.mut = false ∧ w [x, y] fun p => ∃ b, p = .dat (.bool b) ∧ if b = true then oc hNil s1 fun qs s2 => match qs with
      | [z] => w' [y, z] fun p2 => C p2 s2
      | _ => False
    else C (.dat (.bool false)) s1
  | _ => False
theorem VR.keepI {K : PySem.W.Frag} {f : Fr} {G G' H H' : Hp} {p : PV} {v : V} (h : VR K f G H p v) (m : p.mut = false) (e : Ex G G') : VR K f G' H' p v := by
  cases p with
  | dat d => exact Dp.ex e _ h
  | drw => exact h
  | val _ => exact h
  | dgf _ => obtain ⟨p0, xs0, z1, z2, z3⟩ := h; exact ⟨p0, xs0, z1, e _ _ z2, z3.ex e⟩
  | abs _ => exact fun G9 e9 => h G9 (e.trans e9)
  | own _ => cases m
  | byr _ => cases m
  | dct _ => cases m
  | dcg _ => cases m
theorem chain_conv {r r' : R2} {w w' : List PV → (PV → Prop) → Prop} (A : Opd X f a oa) (B : Opd X f b ob) (D : Opd X f c oc) (h : Op X.K f (op2 r) w) (h' : Op X.K f (op2 r') w') : ∃ ta tb tc, PE X a ta ∧ PE X b tb ∧ PE X c tc ∧ ∀ σ H Q, lf X.K f (hChain w w' oa ob oc) σ H Q → tChain r r' ta tb tc σ H Q := by
  obtain ⟨ta, a1, a2⟩ := A.ex
  obtain ⟨tb, b1, b2⟩ := B.ex
  obtain ⟨tc, c1, c2⟩ := D.ex
  have nil : ∀ (σ : L2.St) (H : Hp) (Q : List V → Hp → Prop), lfA X.K f hNil σ H Q → tNil σ H Q := fun σ H Q q => by
    obtain ⟨F, O, G, s, C, R, ht, k⟩ := q
    exact k _ _ _ _ _ ht (Ex.refl G) R .nil
  refine ⟨ta, tb, tc, a1, b1, c1, fun σ H Q q => ?_⟩
  obtain ⟨F, O, G, s, C, R, ht, k⟩ := q
  refine a2 (tCons tb tNil) (ob hNil) (fun σ H Q => b2 tNil hNil nil σ H Q) σ H (fun vs H2 => op2 r vs H2 fun z H3 => ∃ k, z = .bl k ∧ if k = true then tc σ H3 fun w H4 => op2 r' [(vs[1]?).getD .non, w] H4 Q else Q (.bl false) H3) ?_
  refine ⟨F, O, G, s, _, R, ht, fun ps s1 G1 H1 vs d1 e1 R1 V1 => ?_⟩
  split at d1
  case h_2 => exact d1.elim
  rename_i x y
  obtain ⟨my, d2⟩ := d1
  cases V1 with
  | cons vx V1 =>
    cases V1 with
    | cons vy V1 =>
      cases V1
      refine h F O G1 s1 σ H1 _ _ _ _ R1 (.cons vx (.cons vy .nil)) d2 fun p G2 H2 v d3 e2 R2 V2 => ?_
      obtain ⟨b, rfl, d4⟩ := d3
      refine ⟨b, vr_bool V2, ?_⟩
      cases b with
      | false => exact k _ _ _ _ _ d4 (e1.trans e2) R2 (vrf_dat (.bl false))
      | true =>
        refine c2 tNil hNil nil σ H2 (fun ws H4 => op2 r' ([(_ : List V)[1]?.getD .non] ++ ws) H4 Q) ⟨F, O, G2, s1, _, R2, d4, fun qs s2 G3 H3 ws d5 e3 R3 V3 => ?_⟩
        split at d5
        case h_2 => exact d5.elim
        have d6 := d5
        cases V3 with
        | cons vz V3 =>
          cases V3
          exact h' F O G3 s2 σ H3 _ _ _ _ R3 (.cons (vy.keepI my (e2.trans e3)) (.cons vz .nil)) d6 fun p G4 H4 v d7 e4 R4 V4 => k _ _ _ _ _ d7 (((e1.trans e2).trans e3).trans e4) R4 V4
theorem hp_chain {op op' : CmpOp} {r r' : R2} {w w' : List PV → (PV → Prop) → Prop} (hr : OpR X (compareOp op) r) (hr' : OpR X (compareOp op') r') (A : Opd X f a oa) (B : Opd X f b ob) (D : Opd X f c oc) (h : Op X.K f (op2 r) w) (h' : Op X.K f (op2 r') w')
    (hm : lastMarks [op, op'] [b, c] = false := by with_unfolding_all rfl) : PE X (.Compare a [op, op'] [b, c] pos) (lf X.K f (hChain w w' oa ob oc)) := by
  obtain ⟨ta, tb, tc, a1, b1, c1, h3⟩ := chain_conv A B D h h'
  exact (pe_chain hr hr' a1 b1 c1 hm).mono h3
theorem ht_chain {op op' : CmpOp} {r r' : R2} {w w' : List PV → (PV → Prop) → Prop} (hr : OpR X (compareOp op) r) (hr' : OpR X (compareOp op') r') (A : Opd X f a oa) (B : Opd X f b ob) (D : Opd X f c oc) (h : Op X.K f (op2 r) w) (h' : Op X.K f (op2 r') w')
    (hm : lastMarks [op, op'] [b, c] = false := by with_unfolding_all rfl) : PT X (.Compare a [op, op'] [b, c] pos) (lfT X.K f (hB (hChain w w' oa ob oc))) := by
  obtain ⟨ta, tb, tc, a1, b1, c1, h3⟩ := chain_conv A B D h h'
  exact (pt_chain hr hr' a1 b1 c1 hm).mono fun σ H Q q => h3 _ _ _ (lfT_B _ _ _ q)
variable {x id T : Str} {p : Pos}
theorem hp_callB {id : String} {x : Str} {rr : List V → Hp → VK → Prop} {w : List PV → (PV → Prop) → Prop} (hc : CallR X (.builtin id) rr) (hw : Op X.K f rr w) (hg : Gl X x) (hm : X.mg x = none) (hv : bootBuiltins x = some (.builtin id)) (ha : PA X (e :: es) (lfA X.K f r)) (hn : x ≠ "__name__" := by decide) (hdb : (x == ("__debug__" : Str)) = false := by decide)
    (he : starEach (e :: es) X.env = (false, eval e X.env) :: starEach es X.env := by rfl) (hpl : (backTo pos (starEach es X.env)).any (·.1) = false := by rfl) : PE X (.Call (.Name x p) (e :: es) [] pos) (lf X.K f (hC w r)) :=
  (pe_callB hc hg hm hv ha hn hdb he hpl).mono fun σ H Q q => hw.lift _ _ _ _ q
theorem hp_callTy {T : String} {x : Str} {rr : List V → Hp → VK → Prop} {w : List PV → (PV → Prop) → Prop} (hc : CallR X (.type T) rr) (hw : Op X.K f rr w) (hg : Gl X x) (hm : X.mg x = none) (hv : bootBuiltins x = some (.type T)) (ha : PA X (e :: es) (lfA X.K f r)) (hn : x ≠ "__name__" := by decide) (hdb : (x == ("__debug__" : Str)) = false := by decide)
    (he : starEach (e :: es) X.env = (false, eval e X.env) :: starEach es X.env := by rfl) (hpl : (backTo pos (starEach es X.env)).any (·.1) = false := by rfl) : PE X (.Call (.Name x p) (e :: es) [] pos) (lf X.K f (hC w r)) :=
  (pe_callTy hc hg hm hv ha hn hdb he hpl).mono fun σ H Q q => hw.lift _ _ _ _ q
end
@[simp] def hSeq (t u : HS) : HS := fun D s => t { D with nx := u D } s
@[simp] def hNext : HS := fun D s => D.nx s
@[simp] def hNever : HS := fun _ _ => False
@[simp] def hAsg (t : HE) (i : Nat) : HS := fun D s => t s fun p s' => D.nx (s'.put i p)
@[simp] def hRet (t : HE) : HS := fun D s => t s D.rt
@[simp] def hRetN : HS := fun D s => D.rt (.dat .none) s
@[simp] def hIfS (c : HT) (t u : HS) : HS := fun D s => c s fun b s1 => if b = true then t D s1 else u D s1
@[simp] def hDrop (t : HE) : HS := fun D s => t s fun _ s' => D.nx s'
@[simp] def hBrk : HS := fun D s => D.bk s
@[simp] def hCnt : HS := fun D s => D.ct s
@[simp] def hPar (i j : Nat) (ta : HA) : HS := fun D s => ta s fun ps s1 => ∃ p q, ps = [p, q] ∧ p.mut = false ∧ q.mut = false ∧ D.nx ((s1.put i p).put j q)
def hWhile (c : HT) (t : HS) : HS := fun D s => ∃ (I : Sg → Prop) (μ : Sg → Nat), I s ∧ ∀ s, I s → c s fun b s1 => if b = true then t { D with nx := fun s' => I s' ∧ μ s' < μ s, ct := fun s' => I s' ∧ μ s' < μ s, bk := D.nx } s1 else D.nx s1
abbrev HG := PyData → Sg → (Sg → Prop) → Prop
@[simp] def gN (i : Nat) : HG := fun d s C => C (s.put i (.dat d))
@[simp] def gP (i j : Nat) : HG := fun d s C => match d with
  | .tuple [a, b] => C ((s.put i (.dat a)).put j (.dat b))
  | _ => False
@[simp] def gT (i j k : Nat) : HG := fun d s C => match d with
  | .tuple [a, b, c] => C (((s.put i (.dat a)).put j (.dat b)).put k (.dat c))
  | _ => False
def lfG (K : PySem.W.Frag) (f : Fr) (g : HG) (ws : List Nat) : TG := fun v σ H Q => ∃ F O G s d C, Rel K (fo f F O) G s σ H ∧ Dp K G v d ∧ g d s C ∧ ∀ s' σ', C s' → (∀ i, i ∉ ws → σ'[i]? = σ[i]?) → Rel K (fo f F O) G s' σ' H → Q σ' H
abbrev HI := Sg → (List PyData → Sg → Prop) → Prop
def ItOk (K : PySem.W.Frag) (f : Fr) (G0 : Hp) (ds : List PyData) (J : It) : Prop := ∀ (i : Nat) F O G s σ H, Ex G0 G → Rel K (fo f F O) G s σ H → (ds.length ≤ i → J.stop i H) ∧ ∀ d, ds[i]? = some d → J.go i H ∧ ∀ x H', J.yld i H x H' → ∃ G', Ex G G' ∧ Ex H H' ∧ Rel K (fo f F O) G' s σ H' ∧ Dp K G' x d
def lfI (K : PySem.W.Frag) (f : Fr) (t : HI) : TI := fun σ H R => ∃ F O G s C, Rel K (fo f F O) G s σ H ∧ t s C ∧ ∀ ds s' G' H' J, C ds s' → Ex G G' → Rel K (fo f F O) G' s' σ H' → ItOk K f G' ds J → R J H'
@[simp] def each (g : HG) (t : HS) (D : HD) : List PyData → Sg → Prop
  | [], s => D.nx s
  | d :: ds, s => g d s fun s1 => t { D with nx := each g t D ds, ct := each g t D ds, bk := D.nx } s1
@[simp] def hFor (it : HI) (g : HG) (t : HS) : HS := fun D s => it s fun ds s1 => each g t D ds s1
theorem _root_.L2.PI.mono {X : Cx} {tg it : Expr} {t t' : TI} (h : PI X tg it t) (m : ∀ σ H R, t' σ H R → t σ H R) : PI X tg it t' := ⟨fun pins s σ H R I q => h.run pins s σ H R I (m σ H R q)⟩
theorem _root_.L2.PG.mono {X : Cx} {tg : Expr} {t t' : TG} (h : PG X tg t) (m : ∀ v σ H Q, t' v σ H Q → t v σ H Q) : PG X tg t' := ⟨fun pins s σ H v u Q I r q => h.run pins s σ H v u Q I r (m v σ H Q q)⟩
section
variable {X : Cx} {f : Fr} {e a b c : Expr} {es : List Expr} {st : Stmt} {sts rest : List Stmt} {t : HE} {tt : HT} {ts tu : HS} {r : HA} {g : HG} {ws : List Nat} {it : HI} {pos : Pos}
theorem hs_nil : PSs X [] (lfS X.K f hNext) := pss_nil.mono fun D σ H q => by
  obtain ⟨F, O, G, s, D', R, ht, k⟩ := q
  exact k.nx _ _ _ _ (Ex.refl G) R ht
theorem hs_one (h : PS X st (lfS X.K f ts)) : PSs X [st] (lfS X.K f ts) := pss_one h
theorem hs_cons (h1 : PS X st (lfS X.K f ts)) (h2 : PSs X rest (lfS X.K f tu)) : PSs X (st :: rest) (lfS X.K f (hSeq ts tu)) := (pss_cons h1 h2).mono fun D σ H q => by
  obtain ⟨F, O, G, s, D', R, ht, k⟩ := q
  exact ⟨F, O, G, s, _, R, ht, ⟨fun G1 s1 σ1 H1 e1 R1 d1 => ⟨F, O, G1, s1, D', R1, d1, k.ex e1⟩, k.rt, k.bk, k.ct⟩⟩
theorem hs_asg {te : TE} {i : Nat} (h : PS X st (tAsg te (gName i))) (m : ∀ σ H Q, lf X.K f t σ H Q → te σ H Q) : PS X st (lfS X.K f (hAsg t i)) := h.mono fun D σ H q => by
  obtain ⟨F, O, G, s, D', R, ht, k⟩ := q
  exact m _ _ _ ⟨F, O, G, s, _, R, ht, fun p s1 G1 H1 v c1 e1 R1 V1 => k.nx _ _ _ _ e1 (R1.put V1) c1⟩
theorem hs_set {i : Nat} {x : Str} {pos' : Pos} (hN : X.N.Nodup) (hi : X.N[i]? = some x) (hx : Loc X.env.scope x) (he : PE X e (lf X.K f t)) (hs : swapsWith e (some (.Name x pos')) pos.line X.env = pure false := by rfl) (hf : X.fn x = true ∨ X.env.scope.names.lookup x = some .local := by first | exact .inl rfl | exact .inr rfl | assumption) :
    PS X (.Assign [.Name x pos'] e pos) (lfS X.K f (hAsg t i)) := hs_asg (ps_set hN hi hx he hs hf) fun _ _ _ q => q
theorem hs_ret (he : PE X e (lf X.K f t)) : PS X (.Return (some e) pos) (lfS X.K f (hRet t)) := (ps_ret he).mono fun D σ H q => by
  obtain ⟨F, O, G, s, D', R, ht, k⟩ := q
  exact ⟨F, O, G, s, _, R, ht, fun p s1 G1 H1 v c1 e1 R1 V1 => k.rt _ _ _ _ _ _ e1 R1 V1 c1⟩
theorem hs_if (hc : PT X c (lfT X.K f tt)) (ha : PSs X sts (lfS X.K f ts)) (hb : PSs X rest (lfS X.K f tu)) : PS X (.If c sts rest pos) (lfS X.K f (hIfS tt ts tu)) := (ps_if hc ha hb).mono fun D σ H q => by
  obtain ⟨F, O, G, s, D', R, ht, k⟩ := q
  refine ⟨F, O, G, s, _, R, ht, fun b s1 G1 H1 c1 e1 R1 => ?_⟩
  cases b with
  | true => exact ⟨F, O, G1, s1, D', R1, c1, k.ex e1⟩
  | false => exact ⟨F, O, G1, s1, D', R1, c1, k.ex e1⟩
theorem hs_never : PS X st (lfS X.K f hNever) := ps_never.mono fun D σ H q => by
  obtain ⟨F, O, G, s, D', R, ht, k⟩ := q
  exact ht.elim
theorem hs_drop (he : PE X e (lf X.K f t)) (hs : swapsWith e none pos.line X.env = pure false := by rfl) : PS X (.Expr e pos) (lfS X.K f (hDrop t)) := (ps_expr he hs).mono fun D σ H q => by
  obtain ⟨F, O, G, s, D', R, ht, k⟩ := q
  exact ⟨F, O, G, s, _, R, ht, fun p s1 G1 H1 v c1 e1 R1 V1 => k.nx _ _ _ _ e1 R1 c1⟩
theorem hs_while (hp : PassesOwn (model X.prog X.w) X.A X.env X.xe) (hc : PT X c (lfT X.K f tt)) (hb : PSs X sts (lfS X.K f ts)) : PS X (.While c sts [] pos) (lfS X.K f (hWhile tt ts)) := (ps_while hp hc hb).mono fun D σ H q => by
  obtain ⟨F, O, G, s, D', R, ⟨I, μ, hI, turn⟩, k⟩ := q
  refine ⟨fun m σ H => ∃ G2 s2, Ex G G2 ∧ Rel X.K (fo f F O) G2 s2 σ H ∧ I s2 ∧ m = μ s2, ⟨_, G, s, Ex.refl G, R, hI, rfl⟩, ?_⟩
  rintro m σ2 H2 ⟨G2, s2, e2, R2, I2, rfl⟩
  refine ⟨F, O, G2, s2, _, R2, turn s2 I2, fun b s3 G3 H3 c3 e3 R3 => ?_⟩
  cases b with
  | false => exact k.nx _ _ _ _ (e2.trans e3) R3 c3
  | true =>
    refine ⟨fun σ' H' => ∃ G4 s4, Ex G G4 ∧ Rel X.K (fo f F O) G4 s4 σ' H' ∧ I s4 ∧ μ s4 < μ s2, fun σ' H' h => ?_, F, O, G3, s3, _, R3, c3, ⟨fun G4 s4 σ4 H4 e4 R4 d4 => ⟨G4, s4, (e2.trans e3).trans e4, R4, d4.1, d4.2⟩, fun p G4 s4 σ4 H4 v e4 => k.rt p G4 s4 σ4 H4 v ((e2.trans e3).trans e4), fun G4 s4 σ4 H4 e4 => k.nx G4 s4 σ4 H4 ((e2.trans e3).trans e4), fun G4 s4 σ4 H4 e4 R4 d4 => ⟨G4, s4, (e2.trans e3).trans e4, R4, d4.1, d4.2⟩⟩⟩
    obtain ⟨G4, s4, a1, a2, a3, a4⟩ := h
    exact ⟨_, a4, G4, s4, a1, a2, a3, rfl⟩
theorem hs_for (hp : PassesOwn (model X.prog X.w) X.A X.env X.xe) (hc : X.calm = true) (hi : PI X a e (lfI X.K f it)) (hg : PG X a (lfG X.K f g ws)) (hb : PSs X sts (lfS X.K f ts)) (hs : ∀ x, foldedSetIterable e X.env x = pure x := by intro _; rfl) :
    PS X (.For a e sts [] pos) (lfS X.K f (hFor it g ts)) := (ps_for hp hc hi hg hb hs).mono fun D σ H q => by
  obtain ⟨F, O, G, s, D', R, ht, k⟩ := q
  refine ⟨F, O, G, s, _, R, ht, fun ds s1 G1 H1 J c1 e1 R1 ok => ?_⟩
  refine ⟨fun i m σ2 H2 => ∃ G2 s2, Ex G1 G2 ∧ Rel X.K (fo f F O) G2 s2 σ2 H2 ∧ m = ds.length - i ∧ each g ts D' (ds.drop i) s2, ⟨_, G1, s1, Ex.refl G1, R1, rfl, c1⟩, ?_⟩
  rintro i m σ2 H2 ⟨G2, s2, e2, R2, rfl, w⟩
  obtain ⟨k1, k2⟩ := ok i F O G2 s2 σ2 H2 e2 R2
  by_cases hi : i < ds.length
  · have hd : ds[i]? = some ds[i] := List.getElem?_eq_getElem hi
    obtain ⟨go, yl⟩ := k2 _ hd
    rw [List.drop_eq_getElem_cons hi] at w
    refine Or.inr ⟨go, fun σ' H' => ∃ G3 s3, Ex G1 G3 ∧ Rel X.K (fo f F O) G3 s3 σ' H' ∧ each g ts D' (ds.drop (i + 1)) s3, fun σ' H' h => ?_, fun x H' y => ?_⟩
    · obtain ⟨G3, s3, b1, b2, b3⟩ := h
      exact ⟨_, by omega, G3, s3, b1, b2, rfl, b3⟩
    · obtain ⟨G3, e3, _, R3, V3⟩ := yl x H' y
      refine ⟨F, O, G3, s2, _, _, R3, V3, w, fun s4 σ4 c4 _ R4 => ?_⟩
      exact ⟨F, O, G3, s4, _, R4, c4, ⟨fun G5 s5 σ5 H5 e5 R5 d5 => ⟨G5, s5, (e2.trans e3).trans e5, R5, d5⟩, fun p G5 s5 σ5 H5 v e5 => k.rt p G5 s5 σ5 H5 v (((e1.trans e2).trans e3).trans e5), fun G5 s5 σ5 H5 e5 => k.nx G5 s5 σ5 H5 (((e1.trans e2).trans e3).trans e5), fun G5 s5 σ5 H5 e5 R5 d5 => ⟨G5, s5, (e2.trans e3).trans e5, R5, d5⟩⟩⟩
  · rw [List.drop_eq_nil_of_le (by omega)] at w
    exact Or.inl ⟨k1 (by omega), k.nx _ _ _ _ (e1.trans e2) R2 w⟩
theorem hg_name {i : Nat} (h : PG X a (gName i)) : PG X a (lfG X.K f (gN i) [i]) := h.mono fun v σ H Q q => by
  obtain ⟨F, O, G, s, d, C, R, V, hg, k⟩ := q
  exact k _ _ hg (fun z hz => List.getElem?_set_ne (fun e => hz (by simp [e]))) (R.put (vrf_dat V))
theorem hg_pair {i j : Nat} (h : PG X a (gTup X.K 2 (gCons (gName i) (gCons (gName j) gNil)))) : PG X a (lfG X.K f (gP i j) [i, j]) := h.mono fun v σ H Q q => by
  obtain ⟨F, O, G, s, d, C, R, V, hg, k⟩ := q
  unfold gP at hg
  split at hg
  · rename_i x y
    cases V with
    | tup hs ha =>
      cases ha with
      | cons h1 h2 =>
        cases h2 with
        | cons h2 h3 =>
          cases h3
          exact ⟨_, _, rfl, Evl.ex_t R.gh hs, rfl, _, _, rfl, _, _, rfl, rfl, k _ _ hg (fun z hz => by rw [List.getElem?_set_ne (fun e => hz (by simp [e])), List.getElem?_set_ne (fun e => hz (by simp [e]))]) ((R.put (vrf_dat h1)).put (vrf_dat h2))⟩
  · exact hg.elim
theorem hg_tri {i j l : Nat} (h : PG X a (gTup X.K 3 (gCons (gName i) (gCons (gName j) (gCons (gName l) gNil))))) : PG X a (lfG X.K f (gT i j l) [i, j, l]) := h.mono fun v σ H Q q => by
  obtain ⟨F, O, G, s, d, C, R, V, hg, k⟩ := q
  unfold gT at hg
  split at hg
  · rename_i x y z
    cases V with
    | tup hs ha =>
      cases ha with
      | cons h1 h2 =>
        cases h2 with
        | cons h2 h3 =>
          cases h3 with
          | cons h3 h4 =>
            cases h4
            exact ⟨_, _, rfl, Evl.ex_t R.gh hs, rfl, _, _, rfl, _, _, rfl, _, _, rfl, rfl, k _ _ hg (fun z hz => by rw [List.getElem?_set_ne (fun e => hz (by simp [e])), List.getElem?_set_ne (fun e => hz (by simp [e])), List.getElem?_set_ne (fun e => hz (by simp [e]))]) (((R.put (vrf_dat h1)).put (vrf_dat h2)).put (vrf_dat h3))⟩
  · exact hg.elim
theorem hs_unp (he : PE X e (lf X.K f t)) (hg : PG X a (lfG X.K f g ws)) (hs : swapsWithSole [a] e pos.line X.env = pure false := by rfl) (hw : swappedStores [a] e X.env = pure none := by rfl)
    (h1 : (assignEach [a] X.env).map (·.2) = [assign a X.env] := by rfl) : PS X (.Assign [a] e pos) (lfS X.K f fun D s => t s fun p s1 => ∃ d, p.frz = some d ∧ g d s1 D.nx) := (ps_asg he hg hs hw h1).mono fun D σ H q => by
  obtain ⟨F, O, G, s, D', R, ht, k⟩ := q
  refine ⟨F, O, G, s, _, R, ht, fun p s1 G1 H1 v c1 e1 R1 V1 => ?_⟩
  obtain ⟨d, hd, hg⟩ := c1
  obtain ⟨G2, e2, R2, V2⟩ := R1.frz V1 hd
  exact ⟨F, O, G2, s1, d, _, R2, V2, hg, fun s3 σ3 c3 _ R3 => k.nx _ _ _ _ (e1.trans e2) R3 c3⟩
theorem hs_par {i j : Nat} (h : ∀ {ta : TA}, PA X es ta → PS X st (tPar i j ta)) (ha : PA X es (lfA X.K f r)) : PS X st (lfS X.K f (hPar i j r)) := (h ha).mono fun D σ H q => by
  obtain ⟨F, O, G, s, D', R, ht, k⟩ := q
  refine ⟨F, O, G, s, _, R, ht, fun ps s1 G1 H1 vs c1 e1 R1 V1 => ?_⟩
  obtain ⟨p, q, rfl, mp, mq, c2⟩ := c1
  cases V1 with
  | cons v1 V1 =>
    cases V1 with
    | cons v2 V1 =>
      cases V1
      exact ⟨_, _, rfl, k.nx _ _ _ _ e1 ((R1.put ⟨v1, fun z => by rw [mp] at z; cases z⟩).put ⟨v2, fun z => by rw [mq] at z; cases z⟩) c2⟩
end
end Sk
set_option Elab.async false
set_option linter.all false
set_option maxRecDepth 100000
set_option maxHeartbeats 2000000
namespace Sk
open PySem PySem.Spec PyProof.Rows L2
open Evl (Ex)
@[simp] def hiL (t : HE) : HI := fun s C => t s fun p s1 => match p.frz with
  | some (.list ds) => C ds s1
  | _ => False
@[simp] def hiT (t : HE) : HI := fun s C => t s fun p s1 => match p.frz with
  | some (.tuple ds) => C ds s1
  | _ => False
@[simp] def hiS (t : HE) : HI := fun s C => t s fun p s1 => match p with
  | .dat (.str x) => C (x.cps.toList.map fun c => .str ⟨#[c]⟩) s1
  | _ => False
def rngD (lo : Int) (n : Nat) : List PyData := (List.range n).map fun i => .int (lo + (i : Nat))
@[simp] def hiR1 (ta : HA) : HI := fun s C => ta s fun ps s1 => match ps with
  | [.dat (.int n)] => (-1000000 ≤ n ∧ n ≤ 1000000) ∧ C (rngD 0 n.toNat) s1
  | _ => False
@[simp] def hiR2 (ta : HA) : HI := fun s C => ta s fun ps s1 => match ps with
  | [.dat (.int a), .dat (.int b)] => (-1000000 ≤ a ∧ a ≤ 1000000 ∧ -1000000 ≤ b ∧ b ≤ 1000000) ∧ C (rngD a (b - a).toNat) s1
  | _ => False
def enumD : Nat → List PyData → List PyData
  | _, [] => []
  | i, d :: ds => .tuple [.int i, d] :: enumD (i + 1) ds
@[simp] def hiE (ta : HA) : HI := fun s C => ta s fun ps s1 => match ps with
  | [.dat (.list ds)] => C (enumD 0 ds) s1
  | _ => False
def zipD : List PyData → List PyData → List PyData
  | d :: ds, e :: es => .tuple [d, e] :: zipD ds es
  | _, _ => []
@[simp] def hiZ (ta : HA) : HI := fun s C => ta s fun ps s1 => match ps with
  | [.dat (.list ds), .dat (.list es)] => C (zipD ds es) s1
  | [.dat (.tuple ds), .dat (.tuple es)] => C (zipD ds es) s1
  | _ => False
theorem enumD_at : ∀ {ds : List PyData} {k i : Nat} {d : PyData}, (enumD k ds)[i]? = some d → ∃ e, ds[i]? = some e ∧ d = .tuple [.int (k + i : Nat), e]
  | [], _, _, _, h => by simp [enumD] at h
  | e :: ds, k, 0, d, h => by simp [enumD] at h; exact ⟨e, rfl, by simp [← h]⟩
  | e :: ds, k, i + 1, d, h => by
    obtain ⟨x, h1, h2⟩ := enumD_at (k := k + 1) (i := i) (d := d) (by simpa [enumD] using h)
    exact ⟨x, by simpa using h1, by rw [h2]; simp; omega⟩
theorem enumD_len : ∀ {ds : List PyData} {k : Nat}, (enumD k ds).length = ds.length
  | [], _ => rfl
  | e :: ds, k => by simp [enumD, enumD_len]
theorem zipD_at : ∀ {ds es : List PyData} {i : Nat} {d : PyData}, (zipD ds es)[i]? = some d → ∃ a b, ds[i]? = some a ∧ es[i]? = some b ∧ d = .tuple [a, b]
  | [], _, _, _, h => by simp [zipD] at h
  | _ :: _, [], _, _, h => by simp [zipD] at h
  | a :: ds, b :: es, 0, d, h => by simp [zipD] at h; exact ⟨a, b, rfl, rfl, h.symm⟩
  | a :: ds, b :: es, i + 1, d, h => by
    obtain ⟨x, y, h1, h2, h3⟩ := zipD_at (ds := ds) (es := es) (i := i) (d := d) (by simpa [zipD] using h)
    exact ⟨x, y, by simpa using h1, by simpa using h2, h3⟩
theorem zipD_len : ∀ {ds es : List PyData}, (zipD ds es).length = min ds.length es.length
  | [], _ => by simp [zipD]
  | _ :: _, [] => by simp [zipD]
  | a :: ds, b :: es => by simp [zipD, zipD_len, Nat.succ_min_succ]
section
variable {X : Cx} {f : Fr} {tg e a b c : Expr} {es : List Expr} {t : HE} {r : HA} {pos : Pos}
theorem itOk_list {K : PySem.W.Frag} {G : Hp} {a : Addr} {xs : List V} {ds : List PyData} (h : SqL K G a xs) (hd : DpAll K G xs ds) : ItOk K f G ds (Itl K a) := fun i F O G1 s σ H e R => by
  have hH := Evl.ex_l (e.trans R.gh) h
  refine ⟨fun hi => ⟨xs, hH, by rw [hd.len]; exact hi⟩, fun d hdi => ?_⟩
  obtain ⟨v, hv, V⟩ := hd.at hdi
  exact ⟨⟨xs, v, hH, hv⟩, fun x H' y => by
    obtain ⟨rfl, y⟩ := y
    have := y xs hH
    rw [hv] at this
    cases this
    exact ⟨G1, Ex.refl _, Ex.refl _, R, Dp.ex e _ V⟩⟩
theorem itOk_tup {K : PySem.W.Frag} {G : Hp} {a : Addr} {xs : List V} {ds : List PyData} (h : SqT K G a xs) (hd : DpAll K G xs ds) : ItOk K f G ds (Itt K a) := fun i F O G1 s σ H e R => by
  have hH := Evl.ex_t (e.trans R.gh) h
  refine ⟨fun hi => ⟨xs, hH, by rw [hd.len]; exact hi⟩, fun d hdi => ?_⟩
  obtain ⟨v, hv, V⟩ := hd.at hdi
  exact ⟨⟨xs, v, hH, hv⟩, fun x H' y => by
    obtain ⟨rfl, y⟩ := y
    have := y xs hH
    rw [hv] at this
    cases this
    exact ⟨G1, Ex.refl _, Ex.refl _, R, Dp.ex e _ V⟩⟩
theorem itOk_rng {K : PySem.W.Frag} {G : Hp} {lo : Int} {n : Nat} : ItOk K f G (rngD lo n) (Itr lo n) := fun i F O G1 s σ H e R => by
  refine ⟨fun hi => (show n ≤ i by simpa [rngD] using hi), fun d hdi => ?_⟩
  unfold rngD at hdi
  rw [List.getElem?_map] at hdi
  obtain ⟨k, hk, rfl⟩ := Option.map_eq_some_iff.mp hdi
  obtain ⟨hl, hk2⟩ := List.getElem?_eq_some_iff.mp hk
  simp at hk2 hl
  subst hk2
  exact ⟨hl, fun x H' y => by
    obtain ⟨rfl, rfl⟩ := y
    exact ⟨G1, Ex.refl _, Ex.refl _, R, .int _⟩⟩
theorem itOk_enum {K : PySem.W.Frag} {G : Hp} {a : Addr} {xs : List V} {ds : List PyData} (h : SqL K G a xs) (hd : DpAll K G xs ds) : ItOk K f G (enumD 0 ds) (Ite K a) := fun i F O G1 s σ H e R => by
  have hH := Evl.ex_l (e.trans R.gh) h
  refine ⟨fun hi => ⟨xs, hH, by rw [hd.len]; rw [enumD_len] at hi; exact hi⟩, fun d hdi => ?_⟩
  obtain ⟨x, hx, rfl⟩ := enumD_at hdi
  obtain ⟨v, hv, V⟩ := hd.at hx
  refine ⟨⟨xs, v, hH, hv⟩, fun y H' yl => ?_⟩
  obtain ⟨T, w, rfl, hT, rfl, q⟩ := yl
  have := q xs hH
  rw [hv] at this
  cases this
  have eg := Evl.Ex.new (o := .tup [.int (i : Nat), v]) (R.gn hT)
  exact ⟨_, eg, Evl.Ex.new hT, R.newG hT, .tup (Or.inl (Or.inl upd_same)) (.cons (by rw [Nat.zero_add]; exact .int _) (.cons (Dp.ex (e.trans eg) _ V) .nil))⟩
theorem itOk_zipL {K : PySem.W.Frag} {G : Hp} {a b : Addr} {xs ys : List V} {ds es : List PyData} (h : SqL K G a xs) (hd : DpAll K G xs ds) (h' : SqL K G b ys) (hd' : DpAll K G ys es) : ItOk K f G (zipD ds es) (Itz K a b) := fun i F O G1 s σ H e R => by
  have hH := Evl.ex_l (e.trans R.gh) h
  have hH' := Evl.ex_l (e.trans R.gh) h'
  refine ⟨fun hi => ⟨xs, ys, hH, hH', by rw [hd.len, hd'.len]; rw [zipD_len] at hi; omega⟩, fun d hdi => ?_⟩
  obtain ⟨x, y, hx, hy, rfl⟩ := zipD_at hdi
  obtain ⟨v, hv, V⟩ := hd.at hx
  obtain ⟨v', hv', V'⟩ := hd'.at hy
  refine ⟨⟨xs, ys, v, v', hH, hH', hv, hv'⟩, fun z H' yl => ?_⟩
  obtain ⟨T, w, w', rfl, hT, rfl, q, q'⟩ := yl
  have z1 := q xs hH
  rw [hv] at z1
  cases z1
  have z2 := q' ys hH'
  rw [hv'] at z2
  cases z2
  have eg := Evl.Ex.new (o := .tup [v, v']) (R.gn hT)
  exact ⟨_, eg, Evl.Ex.new hT, R.newG hT, .tup (Or.inl (Or.inl upd_same)) (.cons (Dp.ex (e.trans eg) _ V) (.cons (Dp.ex (e.trans eg) _ V') .nil))⟩
theorem itOk_zipT {K : PySem.W.Frag} {G : Hp} {a b : Addr} {xs ys : List V} {ds es : List PyData} (h : SqT K G a xs) (hd : DpAll K G xs ds) (h' : SqT K G b ys) (hd' : DpAll K G ys es) : ItOk K f G (zipD ds es) (RZ.ItzT K a b) := fun i F O G1 s σ H e R => by
  have hH := Evl.ex_t (e.trans R.gh) h
  have hH' := Evl.ex_t (e.trans R.gh) h'
  refine ⟨fun hi => ⟨xs, ys, hH, hH', by rw [hd.len, hd'.len]; rw [zipD_len] at hi; omega⟩, fun d hdi => ?_⟩
  obtain ⟨x, y, hx, hy, rfl⟩ := zipD_at hdi
  obtain ⟨v, hv, V⟩ := hd.at hx
  obtain ⟨v', hv', V'⟩ := hd'.at hy
  refine ⟨⟨xs, ys, v, v', hH, hH', hv, hv'⟩, fun z H' yl => ?_⟩
  obtain ⟨T, w, w', rfl, hT, rfl, q, q'⟩ := yl
  have z1 := q xs hH
  rw [hv] at z1
  cases z1
  have z2 := q' ys hH'
  rw [hv'] at z2
  cases z2
  have eg := Evl.Ex.new (o := .tup [v, v']) (R.gn hT)
  exact ⟨_, eg, Evl.Ex.new hT, R.newG hT, .tup (Or.inl (Or.inl upd_same)) (.cons (Dp.ex (e.trans eg) _ V) (.cons (Dp.ex (e.trans eg) _ V') .nil))⟩
theorem itOk_str {K : PySem.W.Frag} {G : Hp} {x : Str} : ItOk K f G (x.cps.toList.map fun c => .str ⟨#[c]⟩) (Its x) := fun i F O G1 s σ H e R => by
  refine ⟨fun hi => (show x.cps.size ≤ i by simpa using hi), fun d hdi => ?_⟩
  rw [List.getElem?_map] at hdi
  obtain ⟨k, hk, rfl⟩ := Option.map_eq_some_iff.mp hdi
  obtain ⟨hl, hk2⟩ := List.getElem?_eq_some_iff.mp hk
  refine ⟨(by have z : i < x.cps.size := by simpa using hl
              exact z), fun v H' y => ?_⟩
  obtain ⟨rfl, c, hc, rfl⟩ := y
  have : c = k := by
    rw [← Array.getElem?_toList, hk] at hc
    exact (Option.some.inj hc).symm
  subst this
  exact ⟨G1, Ex.refl _, Ex.refl _, R, .str _⟩
theorem hi_list (h : PE X e (lf X.K f t)) : PI X tg e (lfI X.K f (hiL t)) := (pi_list h).mono fun σ H Q q => by
  obtain ⟨F, O, G, s, C, R, ht, k⟩ := q
  refine ⟨F, O, G, s, _, R, ht, fun p s1 G1 H1 v c1 e1 R1 V1 => ?_⟩
  split at c1
  · rename_i ds hd
    obtain ⟨G2, e2, R2, V2⟩ := R1.frz V1 hd
    cases V2 with
    | lst hs ha => exact ⟨_, rfl, ⟨_, Evl.ex_l R2.gh hs⟩, k _ _ _ _ _ c1 (e1.trans e2) R2 (itOk_list hs ha)⟩
  · exact c1.elim
theorem hi_tup (h : PE X e (lf X.K f t)) : PI X tg e (lfI X.K f (hiT t)) := (pi_tup h).mono fun σ H Q q => by
  obtain ⟨F, O, G, s, C, R, ht, k⟩ := q
  refine ⟨F, O, G, s, _, R, ht, fun p s1 G1 H1 v c1 e1 R1 V1 => ?_⟩
  split at c1
  · rename_i ds hd
    obtain ⟨G2, e2, R2, V2⟩ := R1.frz V1 hd
    cases V2 with
    | tup hs ha => exact ⟨_, rfl, ⟨_, Evl.ex_t R2.gh hs⟩, k _ _ _ _ _ c1 (e1.trans e2) R2 (itOk_tup hs ha)⟩
  · exact c1.elim
theorem hi_str (h : PE X e (lf X.K f t)) : PI X tg e (lfI X.K f (hiS t)) := (pi_str h).mono fun σ H Q q => by
  obtain ⟨F, O, G, s, C, R, ht, k⟩ := q
  refine ⟨F, O, G, s, _, R, ht, fun p s1 G1 H1 v c1 e1 R1 V1 => ?_⟩
  split at c1
  · rename_i x
    have : v = .str x := by cases (show Dp X.K G1 v (.str x) from V1.1); rfl
    exact ⟨x, this, k _ _ _ _ _ c1 e1 R1 itOk_str⟩
  · exact c1.elim
theorem vr_int {K : PySem.W.Frag} {f : Fr} {G H : Hp} {i : Int} {v : V} (h : VR K f G H (.dat (.int i)) v) : v = .int i := by
  cases (show Dp K G v (.int i) from h)
  rfl
theorem vr_str {K : PySem.W.Frag} {f : Fr} {G H : Hp} {i : Str} {v : V} (h : VR K f G H (.dat (.str i)) v) : v = .str i := by
  cases (show Dp K G v (.str i) from h)
  rfl
theorem hi_rng1 {p : Pos} (hg : Gl X "range") (hm : X.mg "range" = none) (ha : PA X [a] (lfA X.K f r)) (hs : starEach [a] X.env = [(false, eval a X.env)] := by rfl) : PI X tg (.Call (.Name "range" p) [a] [] pos) (lfI X.K f (hiR1 r)) := (pi_range1 hg hm ha hs).mono fun σ H Q q => by
  obtain ⟨F, O, G, s, C, R, ht, k⟩ := q
  refine ⟨F, O, G, s, _, R, ht, fun ps s1 G1 H1 vs c1 e1 R1 V1 => ?_⟩
  split at c1
  · rename_i n
    cases V1 with
    | cons v1 V1 =>
      cases V1
      have := vr_int v1
      subst this
      exact ⟨n, rfl, by omega, by omega, k _ _ _ _ _ c1.2 e1 R1 itOk_rng⟩
  · exact c1.elim
theorem hi_rng2 {p : Pos} (hg : Gl X "range") (hm : X.mg "range" = none) (ha : PA X [a, b] (lfA X.K f r)) (hs : starEach [a, b] X.env = [(false, eval a X.env), (false, eval b X.env)] := by rfl) (hs2 : starEach [b] X.env = [(false, eval b X.env)] := by rfl) : PI X tg (.Call (.Name "range" p) [a, b] [] pos) (lfI X.K f (hiR2 r)) := (pi_range2 hg hm ha hs hs2).mono fun σ H Q q => by
  obtain ⟨F, O, G, s, C, R, ht, k⟩ := q
  refine ⟨F, O, G, s, _, R, ht, fun ps s1 G1 H1 vs c1 e1 R1 V1 => ?_⟩
  split at c1
  · rename_i n m
    cases V1 with
    | cons v1 V1 =>
      cases V1 with
      | cons v2 V1 =>
        cases V1
        have := vr_int v1
        subst this
        have := vr_int v2
        subst this
        exact ⟨n, m, rfl, by omega, k _ _ _ _ _ c1.2 e1 R1 itOk_rng⟩
  · exact c1.elim
theorem hi_enum {p : Pos} {elts : List Expr} {kk : Nat} {tpos : Pos} (hg : Gl X "enumerate") (hm : X.mg "enumerate" = none) (ha : PA X [a] (lfA X.K f r)) (hs : starEach [a] X.env = [(false, eval a X.env)] := by rfl) : PI X (.Tuple elts kk tpos) (.Call (.Name "enumerate" p) [a] [] pos) (lfI X.K f (hiE r)) := (pi_enum hg hm ha hs).mono fun σ H Q q => by
  obtain ⟨F, O, G, s, C, R, ht, k⟩ := q
  refine ⟨F, O, G, s, _, R, ht, fun ps s1 G1 H1 vs c1 e1 R1 V1 => ?_⟩
  split at c1
  · rename_i ds
    cases V1 with
    | cons v1 V1 =>
      cases V1
      have v1 : Dp X.K G1 _ (.list ds) := v1
      cases v1 with
      | lst hs ha => exact ⟨_, _, rfl, Evl.ex_l R1.gh hs, k _ _ _ _ _ c1 e1 R1 (itOk_enum hs ha)⟩
  · exact c1.elim
theorem hi_zip {p : Pos} {elts : List Expr} {kk : Nat} {tpos : Pos} (hg : Gl X "zip") (hm : X.mg "zip" = none) (ha : PA X [a, b] (lfA X.K f r)) (hs : starEach [a, b] X.env = (false, eval a X.env) :: starEach [b] X.env := by rfl) (hpl : (backTo pos (starEach [b] X.env)).any (·.1) = false := by rfl) : PI X (.Tuple elts kk tpos) (.Call (.Name "zip" p) [a, b] [] pos) (lfI X.K f (hiZ r)) := (RZ.pi_zipA hg hm ha hs hpl).mono fun σ H Q q => by
  obtain ⟨F, O, G, s, C, R, ht, k⟩ := q
  refine ⟨F, O, G, s, _, R, ht, fun ps s1 G1 H1 vs c1 e1 R1 V1 => ?_⟩
  split at c1
  · rename_i ds es
    cases V1 with
    | cons v1 V1 =>
      cases V1 with
      | cons v2 V1 =>
        cases V1
        have v1 : Dp X.K G1 _ (.list ds) := v1
        have v2 : Dp X.K G1 _ (.list es) := v2
        cases v1 with
        | lst hs ha =>
          cases v2 with
          | lst hs' ha' => exact ⟨_, _, _, _, rfl, Or.inl ⟨Evl.ex_l R1.gh hs, Evl.ex_l R1.gh hs', k _ _ _ _ _ c1 e1 R1 (itOk_zipL hs ha hs' ha')⟩⟩
  · rename_i ds es
    cases V1 with
    | cons v1 V1 =>
      cases V1 with
      | cons v2 V1 =>
        cases V1
        have v1 : Dp X.K G1 _ (.tuple ds) := v1
        have v2 : Dp X.K G1 _ (.tuple es) := v2
        cases v1 with
        | tup hs ha =>
          cases v2 with
          | tup hs' ha' => exact ⟨_, _, _, _, rfl, Or.inr ⟨Evl.ex_t R1.gh hs, Evl.ex_t R1.gh hs', k _ _ _ _ _ c1 e1 R1 (itOk_zipT hs ha hs' ha')⟩⟩
  · exact c1.elim
@[simp] def Sg.wipe (s : Sg) (vs : List Nat) : Sg := ⟨vs.foldr (fun i l => l.set i none) s.sl, s.n⟩
@[simp] def lcs (vs : List Nat) (g : HG) (tt : HT) (t : HE) : List PyData → List PyData → Sg → (PV → Sg → Prop) → Prop
  | [], acc, s, C => C (.own acc) s
  | d :: ds, acc, s, C => g d s fun s1 => tt s1 fun b s2 => if b = true then t s2 fun p s3 => ∃ x, p.frz = some x ∧ acc.length < 100000 ∧ lcs vs g tt t ds (acc ++ [x]) (s3.wipe vs) C else lcs vs g tt t ds acc (s2.wipe vs) C
@[simp] def hLc (it : HI) (g : HG) (tt : HT) (t : HE) (vs : List Nat) : HE := fun s C => it s fun ds s1 => lcs vs g tt t ds [] (s1.wipe vs) C
@[simp] def hYes : HT := fun s C => C true s
theorem wipe_get {σ : L2.St} {s : Sg} {vs : List Nat} : ∀ (i : Nat) (p : PV), (s.wipe vs).sl[i]? = some (some p) → s.sl[i]? = some (some p) ∧ i ∉ vs := by
  induction vs with
  | nil => intro i p h; exact ⟨h, by simp⟩
  | cons v vs ih =>
    intro i p h
    rcases set_get (show ((s.wipe vs).sl.set v none)[i]? = _ from h) with ⟨_, e, _⟩ | ⟨ne, h⟩
    · cases e
    · obtain ⟨h1, h2⟩ := ih i p h
      exact ⟨h1, by simp [h2]; exact fun z => ne z.symm⟩
theorem wipe_len {s : Sg} {vs : List Nat} : (s.wipe vs).sl.length = s.sl.length := by
  induction vs with
  | nil => rfl
  | cons v vs ih => show ((s.wipe vs).sl.set v none).length = _; rw [List.length_set, ih]
theorem Rel.wipe {K : PySem.W.Frag} {G H : Hp} {s : Sg} {σ : L2.St} (R : Rel K f G s σ H) (vs : List Nat) : Rel K f G (s.wipe vs) (L2.wipe σ vs) H where
  gh := R.gh
  fh := R.fh
  go := R.go
  oh := R.oh
  mh := R.mh
  mo := R.mo
  tm := R.tm
  tb := R.tb
  pk := R.pk
  dr := R.dr
  ln := by rw [wipe_length, wipe_len]; exact R.ln
  sl := fun i p h => by
    obtain ⟨h1, h2⟩ := wipe_get (σ := σ) i p h
    obtain ⟨v, h3, h4⟩ := R.sl i p h1
    exact ⟨v, by rw [wipe_out h2]; exact h3, h4⟩
  ds := fun i j p q v ne hi hj mp mq wi wj => by
    obtain ⟨a1, a2⟩ := wipe_get (σ := σ) i p hi
    obtain ⟨b1, b2⟩ := wipe_get (σ := σ) j q hj
    rw [wipe_out a2] at wi
    rw [wipe_out b2] at wj
    exact R.ds i j p q v ne a1 b1 mp mq wi wj
theorem Rel.outw {K : PySem.W.Frag} {G H : Hp} {s : Sg} {σ σ2 : L2.St} {vs : List Nat} (R : Rel K f G s σ2 H) (e : L2.wipe σ2 vs = L2.wipe σ vs) : Rel K f G (s.wipe vs) σ H where
  gh := R.gh
  fh := R.fh
  go := R.go
  oh := R.oh
  mh := R.mh
  mo := R.mo
  tm := R.tm
  tb := R.tb
  pk := R.pk
  dr := R.dr
  ln := by
    have := congrArg List.length e
    rw [wipe_length, wipe_length] at this
    rw [wipe_len, ← R.ln, this]
  sl := fun i p h => by
    obtain ⟨h1, h2⟩ := wipe_get (σ := σ) i p h
    obtain ⟨v, h3, h4⟩ := R.sl i p h1
    have z : σ2[i]? = σ[i]? := by rw [← wipe_out h2, e, wipe_out h2]
    exact ⟨v, by rw [← z]; exact h3, h4⟩
  ds := fun i j p q v ne hi hj mp mq wi wj => by
    obtain ⟨a1, a2⟩ := wipe_get (σ := σ) i p hi
    obtain ⟨b1, b2⟩ := wipe_get (σ := σ) j q hj
    have z1 : σ2[i]? = σ[i]? := by rw [← wipe_out a2, e, wipe_out a2]
    have z2 : σ2[j]? = σ[j]? := by rw [← wipe_out b2, e, wipe_out b2]
    exact R.ds i j p q v ne a1 b1 mp mq (by rw [z1]; exact wi) (by rw [z2]; exact wj)
theorem EntOk.up {en : Ent} {F : Fr} {O : Addr → Prop} {G : Hp} {D : Addr} {o : HO} (h : EntOk en (fo f F O) G) (hF : F.F D = none) : EntOk en (fo f (F.up D o) fun a => O a ∨ a = D) G := { h with
  F := fun a u e => by
    have e2 : F.F a = some u := h.F a u e
    show upd F.F D o a = some u
    rw [upd_ne (fun z => by rw [z, hF] at e2; cases e2)]
    exact e2
  O := fun a e => Or.inl (h.O a e) }
theorem Rel.beside {K : PySem.W.Frag} {F : Fr} {O : Addr → Prop} {G H : Hp} {s : Sg} {σ : L2.St} {D : Addr} {o : HO} (R : Rel K (fo f F O) G s σ H) (hD : H D = none) : Rel K (fo f (F.up D o) fun a => O a ∨ a = D) G s σ (upd H D o) := by
  have ne : ∀ {a : Addr} {u : HO}, H a = some u → a ≠ D := fun h z => by rw [z, hD] at h; cases h
  have no : ∀ {a : Addr}, H a ≠ none → a ≠ D := fun h z => h (by rw [z]; exact hD)
  exact {
    gh := R.gh.trans (Evl.Ex.new hD)
    fh := fun a u m h => by
      have h' : upd F.F D o a = some u := h
      by_cases q : a = D
      · subst q; rw [upd_same] at h' ⊢; exact h'
      · rw [upd_ne q] at h' ⊢; exact R.fh a u m h'
    go := fun a h => h.elim (fun h => R.go a h) fun h => by rw [h]; exact R.gn hD
    oh := fun a h => h.elim (fun h => by rw [upd_ne (no (R.oh a h))]; exact R.oh a h) fun h => by rw [h, upd_same]; intro z; cases z
    mh := fun a h => by rw [upd_ne (no (R.mh a h))]; exact R.mh a h
    mo := fun h => by obtain ⟨a, b, c, d, e⟩ := R.mo h; exact ⟨Or.inl a, Or.inl b, Or.inl c, d, e⟩
    tm := fun p hp => ⟨Or.inl (R.tm p hp).1, (R.tm p hp).2⟩
    tb := fun p hp => (R.tb p hp).keep (fun _ _ _ z => z) (upd_ne (no (R.oh _ (R.tm p hp).1)))
    pk := fun en h => (R.pk en h).up ((R.fr_none hD).elim id fun z => absurd hD (R.mh D z))
    dr := fun h => by
      obtain ⟨a, b, c, d, e⟩ := R.mo h
      exact (R.dr h).keep (upd_ne (no (R.oh _ a))) (upd_ne (no (R.oh _ b))) (upd_ne (no (R.oh _ c)))
    ln := R.ln
    sl := fun i p h => by
      obtain ⟨v, h1, h2⟩ := R.sl i p h
      refine ⟨v, h1, ?_⟩
      cases p with
      | dat d => exact h2
      | drw => exact h2
      | val _ => exact h2
      | dgf _ => exact h2
      | abs _ => exact h2
      | own ds =>
        obtain ⟨a, vs, rfl, k1, k2, k3, k4, k5⟩ := h2
        exact ⟨a, vs, rfl, by rw [upd_ne (ne k1)]; exact k1, k2, fun z => z.elim k3 (ne k1), k4.elim (fun z => Or.inl (by show upd F.F D o a = none; rw [upd_ne (ne k1)]; exact z)) Or.inr, k5⟩
      | byr ds =>
        obtain ⟨a, vs, rfl, k1, k2, k3, k4, k5, k6⟩ := h2
        exact ⟨a, vs, rfl, by rw [upd_ne (ne k1)]; exact k1, k2, fun z => z.elim k3 (ne k1), k4.elim (fun z => Or.inl (by show upd F.F D o a = none; rw [upd_ne (ne k1)]; exact z)) Or.inr, k5, k6⟩
      | dct ds =>
        obtain ⟨a, vs, rfl, k1, k2, k3, k4, k5, k6⟩ := h2
        exact ⟨a, vs, rfl, by rw [upd_ne (ne k1)]; exact k1, k2, fun z => z.elim k3 (ne k1), k4.elim (fun z => Or.inl (by show upd F.F D o a = none; rw [upd_ne (ne k1)]; exact z)) Or.inr, k5, k6⟩
      | dcg ds =>
        obtain ⟨a, vs, rfl, k1, k2, k3, k4, k5⟩ := h2
        exact ⟨a, vs, rfl, by rw [upd_ne (ne k1)]; exact k1, k2, fun z => z.elim k3 (ne k1), k4.elim (fun z => Or.inl (by show upd F.F D o a = none; rw [upd_ne (ne k1)]; exact z)) Or.inr, k5⟩
    ds := R.ds }
theorem Rel.beside2 {K : PySem.W.Frag} {F : Fr} {O : Addr → Prop} {G H : Hp} {s : Sg} {σ : L2.St} {D : Addr} {o o' : HO} (R : Rel K (fo f (F.up D o) fun a => O a ∨ a = D) G s σ H) (hF : F.F D = none) (hP : ∀ en, f.e = some en → EntOk en (fo f F O) G) (hM : ¬ F.M D) (hO : ¬ O D) (hd : F.on = true → D ≠ F.m ∧ D ≠ F.l ∧ D ≠ F.c) : Rel K (fo f (F.up D o') fun a => O a ∨ a = D) G s σ (upd H D o') := by
  have gD : G D = none := R.go D (Or.inr rfl)
  exact {
    gh := fun a u h => by rw [upd_ne (fun z => by rw [z, gD] at h; cases h)]; exact R.gh a u h
    fh := fun a u m h => by
      have h' : upd F.F D o' a = some u := h
      by_cases q : a = D
      · subst q; rw [upd_same] at h' ⊢; exact h'
      · rw [upd_ne q] at h' ⊢; exact R.fh a u m (show upd F.F D o a = some u by rw [upd_ne q]; exact h')
    go := R.go
    oh := fun a h => by
      by_cases q : a = D
      · subst q; rw [upd_same]; intro z; cases z
      · rw [upd_ne q]; exact R.oh a h
    mh := fun a h => by
      by_cases q : a = D
      · subst q; rw [upd_same]; intro z; cases z
      · rw [upd_ne q]; exact R.mh a h
    mo := R.mo
    tm := R.tm
    tb := fun p hp => (R.tb p hp).keep (fun _ _ _ z => z) (upd_ne fun z => hM (z ▸ (R.tm p hp).2))
    pk := fun en h => (hP en h).up hF
    dr := fun h => by
      obtain ⟨a, b, c⟩ := hd h
      exact (R.dr h).keep (upd_ne a.symm) (upd_ne b.symm) (upd_ne c.symm)
    ln := R.ln
    sl := fun i p h => by
      obtain ⟨v, h1, h2⟩ := R.sl i p h
      refine ⟨v, h1, ?_⟩
      cases p with
      | dat d => exact h2
      | drw => exact h2
      | val _ => exact h2
      | dgf _ => exact h2
      | abs _ => exact h2
      | own ds =>
        obtain ⟨a, vs, rfl, k1, k2, k3, k4, k5⟩ := h2
        have ne : a ≠ D := fun z => k3 (Or.inr z)
        exact ⟨a, vs, rfl, by rw [upd_ne ne]; exact k1, k2, k3, k4.elim (fun z => Or.inl (by show upd F.F D o' a = none; rw [upd_ne ne]; have z' : upd F.F D o a = none := z; rw [upd_ne ne] at z'; exact z')) Or.inr, k5⟩
      | byr ds =>
        obtain ⟨a, vs, rfl, k1, k2, k3, k4, k5, k6⟩ := h2
        have ne : a ≠ D := fun z => k3 (Or.inr z)
        exact ⟨a, vs, rfl, by rw [upd_ne ne]; exact k1, k2, k3, k4.elim (fun z => Or.inl (by show upd F.F D o' a = none; rw [upd_ne ne]; have z' : upd F.F D o a = none := z; rw [upd_ne ne] at z'; exact z')) Or.inr, k5, k6⟩
      | dct ds =>
        obtain ⟨a, vs, rfl, k1, k2, k3, k4, k5, k6⟩ := h2
        have ne : a ≠ D := fun z => k3 (Or.inr z)
        exact ⟨a, vs, rfl, by rw [upd_ne ne]; exact k1, k2, k3, k4.elim (fun z => Or.inl (by show upd F.F D o' a = none; rw [upd_ne ne]; have z' : upd F.F D o a = none := z; rw [upd_ne ne] at z'; exact z')) Or.inr, k5, k6⟩
      | dcg ds =>
        obtain ⟨a, vs, rfl, k1, k2, k3, k4, k5⟩ := h2
        have ne : a ≠ D := fun z => k3 (Or.inr z)
        exact ⟨a, vs, rfl, by rw [upd_ne ne]; exact k1, k2, k3, k4.elim (fun z => Or.inl (by show upd F.F D o' a = none; rw [upd_ne ne]; have z' : upd F.F D o a = none := z; rw [upd_ne ne] at z'; exact z')) Or.inr, k5⟩
    ds := R.ds }
theorem Rel.beside3 {K : PySem.W.Frag} {F : Fr} {O : Addr → Prop} {G H : Hp} {s : Sg} {σ : L2.St} {D : Addr} {vs : List V} {ds : List PyData} (R : Rel K (fo f (F.up D (.lst vs)) fun a => O a ∨ a = D) G s σ H) (hP : ∀ en, f.e = some en → EntOk en (fo f F O) G) (hM : ¬ F.M D) (hO : ¬ O D) (hF : F.F D = none) (hc : F.on = true → D ≠ F.c) (dv : DpAll K G vs ds) : Rel K (fo f F O) G s σ H ∧ VRf K (fo f F O) G H s σ (.own ds) (.ref D) := by
  have hD : H D = some (.lst vs) := R.fh D _ hM (show upd F.F D (.lst vs) D = _ by rw [upd_same])
  have gD : G D = none := R.go D (Or.inr rfl)
  have sl' : ∀ (i : Nat) (p : PV), s.sl[i]? = some (some p) → ∃ v : V, σ[i]? = some (some v) ∧ VR K (fo f F O) G H p v := fun i p h => by
    obtain ⟨v, h1, h2⟩ := R.sl i p h
    refine ⟨v, h1, ?_⟩
    cases p with
    | dat d => exact h2
    | drw => exact h2
    | val _ => exact h2
    | dgf _ => exact h2
    | abs _ => exact h2
    | own ds =>
      obtain ⟨a, vs, rfl, k1, k2, k3, k4, k5⟩ := h2
      have ne : a ≠ D := fun z => k3 (Or.inr z)
      exact ⟨a, vs, rfl, k1, k2, fun z => k3 (Or.inl z), k4.elim (fun z => Or.inl (by have z' : upd F.F D (.lst _) a = none := z; rw [upd_ne ne] at z'; exact z')) Or.inr, k5⟩
    | byr ds =>
      obtain ⟨a, vs, rfl, k1, k2, k3, k4, k5, k6⟩ := h2
      have ne : a ≠ D := fun z => k3 (Or.inr z)
      exact ⟨a, vs, rfl, k1, k2, fun z => k3 (Or.inl z), k4.elim (fun z => Or.inl (by have z' : upd F.F D (.lst _) a = none := z; rw [upd_ne ne] at z'; exact z')) Or.inr, k5, k6⟩
    | dct ds =>
      obtain ⟨a, vs, rfl, k1, k2, k3, k4, k5, k6⟩ := h2
      have ne : a ≠ D := fun z => k3 (Or.inr z)
      exact ⟨a, vs, rfl, k1, k2, fun z => k3 (Or.inl z), k4.elim (fun z => Or.inl (by have z' : upd F.F D (.lst _) a = none := z; rw [upd_ne ne] at z'; exact z')) Or.inr, k5, k6⟩
    | dcg ds =>
      obtain ⟨a, vs, rfl, k1, k2, k3, k4, k5⟩ := h2
      have ne : a ≠ D := fun z => k3 (Or.inr z)
      exact ⟨a, vs, rfl, k1, k2, fun z => k3 (Or.inl z), k4.elim (fun z => Or.inl (by have z' : upd F.F D (.lst _) a = none := z; rw [upd_ne ne] at z'; exact z')) Or.inr, k5⟩
  refine ⟨{ gh := R.gh, fh := fun a u m h => R.fh a u m (show upd F.F D (.lst vs) a = some u from ?_), go := fun a h => R.go a (Or.inl h), oh := fun a h => R.oh a (Or.inl h), mh := R.mh, mo := fun h => ?_, tm := fun p hp => ⟨(R.tm p hp).1.elim id fun z => absurd (z ▸ (R.tm p hp).2) hM, (R.tm p hp).2⟩, tb := R.tb, pk := hP, dr := R.dr, ln := R.ln, sl := sl', ds := R.ds }, ⟨D, vs, rfl, hD, gD, hO, Or.inl hF, dv⟩, fun _ i q h1 h2 h3 => ?_⟩
  · have h' : F.F a = some u := h
    rw [upd_ne (fun z => by rw [z, hF] at h'; cases h')]; exact h'
  · obtain ⟨a, b, c, d, e⟩ := R.mo h
    have nn : ∀ {x : Addr}, (O x ∨ x = D) → F.M x → O x := fun z m => z.elim id fun z => absurd (z ▸ m) hM
    exact ⟨nn a d, nn b e, c.elim id fun z => absurd z.symm (hc h), d, e⟩
  · obtain ⟨v, h4, h5⟩ := R.sl i q h1
    rw [h3] at h4
    cases h4
    cases q with
    | dat d => cases h2
    | drw => cases h2
    | val _ => cases h2
    | dgf _ => cases h2
    | abs _ => cases h2
    | own ds => obtain ⟨p, _, e, _, _, h6, _⟩ := h5; cases e; exact h6 (Or.inr rfl)
    | byr ds => obtain ⟨p, _, e, _, _, h6, _⟩ := h5; cases e; exact h6 (Or.inr rfl)
    | dct ds => obtain ⟨p, _, e, _, _, h6, _⟩ := h5; cases e; exact h6 (Or.inr rfl)
    | dcg ds => obtain ⟨p, _, e, _, _, h6, _⟩ := h5; cases e; exact h6 (Or.inr rfl)
end
end Sk
set_option Elab.async false
set_option linter.all false
set_option maxRecDepth 100000
set_option maxHeartbeats 2000000
namespace Sk
open PySem PySem.Spec PyProof.Rows L2
open Evl (Ex)
theorem _root_.L2.PTs.mono {X : Cx} {es : List Expr} {t t' : TT} (h : PTs X es t) (m : ∀ σ H Q, t' σ H Q → t σ H Q) : PTs X es t' := ⟨fun pins s σ H Q I q => h.run pins s σ H Q I (m σ H Q q)⟩
theorem pts_yes {X : Cx} {f : Fr} : PTs X [] (lfT X.K f hYes) := pts_nil.mono fun σ H Q q => by
  obtain ⟨F, O, G, s, C, R, ht, k⟩ := q
  exact k _ _ _ _ ht (Ex.refl G) R
theorem wipe_cong {σ σ2 : L2.St} : ∀ {vs : List Nat}, σ2.length = σ.length → (∀ i, i ∉ vs → σ2[i]? = σ[i]?) → L2.wipe σ2 vs = L2.wipe σ vs := fun {vs} hl h => by
  apply List.ext_getElem?
  intro i
  by_cases hi : i ∈ vs
  · have key : ∀ (τ : L2.St) (ws : List Nat), i ∈ ws → (L2.wipe τ ws)[i]? = if i < τ.length then some none else none := fun τ ws => by
      induction ws with
      | nil => intro h; cases h
      | cons w ws ih =>
        intro h
        show ((L2.wipe τ ws).set w none)[i]? = _
        by_cases q : w = i
        · subst q
          rw [List.getElem?_set]
          simp [wipe_length]
        · rw [List.getElem?_set_ne q]
          exact ih (by cases h with
            | head => exact absurd rfl q
            | tail _ h => exact h)
    rw [key _ _ hi, key _ _ hi, hl]
  · rw [wipe_out hi, wipe_out hi]
    exact h i hi
theorem wipe_idem {σ : L2.St} {vs : List Nat} : L2.wipe (L2.wipe σ vs) vs = L2.wipe σ vs := wipe_cong (by rw [wipe_length]) fun i hi => wipe_out hi
theorem Rel.inw {K : PySem.W.Frag} {f : Fr} {G H : Hp} {s0 : Sg} {σ : L2.St} {vs : List Nat} (R : Rel K f G (s0.wipe vs) σ H) : Rel K f G (s0.wipe vs) (L2.wipe σ vs) H where
  gh := R.gh
  fh := R.fh
  go := R.go
  oh := R.oh
  mh := R.mh
  mo := R.mo
  tm := R.tm
  tb := R.tb
  pk := R.pk
  dr := R.dr
  ln := by rw [wipe_length]; exact R.ln
  sl := fun i p h => by
    obtain ⟨v, h3, h4⟩ := R.sl i p h
    exact ⟨v, by rw [wipe_out (wipe_get (σ := σ) i p h).2]; exact h3, h4⟩
  ds := fun i j p q v ne hi hj mp mq wi wj => by
    rw [wipe_out (wipe_get (σ := σ) i p hi).2] at wi
    rw [wipe_out (wipe_get (σ := σ) j q hj).2] at wj
    exact R.ds i j p q v ne hi hj mp mq wi wj
section
variable {X : Cx} {f : Fr} {e : Expr} {t : HE} {tt : HT} {g : HG} {ws : List Nat} {it : HI}
theorem lc_conv {vs : List Nat} (hw : ∀ i, i ∈ ws → i ∈ vs) (hgl : ∀ d s C, g d s C → ∃ C', g d s C' ∧ ∀ s', C' s' → C s' ∧ s'.sl.length = s.sl.length) : ∀ σ H Q, lf X.K f (hLc it g tt t vs) σ H Q → tLc (lfI X.K f it) (lfG X.K f g ws) (lfT X.K f tt) (lf X.K f t) vs σ H Q := fun σ H Q q => by
  obtain ⟨F, O, G, s, C, R, ht, k⟩ := q
  refine ⟨F, O, G, s, _, R, ht, fun ds s1 G1 H1 J c1 e1 R1 ok D hD => ?_⟩
  have hM : ¬ F.M D := fun z => R1.mh D z hD
  have hO : ¬ O D := fun z => R1.oh D z hD
  have hF : F.F D = none := (R1.fr_none hD).elim id fun z => absurd z hM
  have hd : F.on = true → D ≠ F.m ∧ D ≠ F.l ∧ D ≠ F.c := fun h => by
    obtain ⟨a, b, c, _⟩ := R1.mo h
    have nn : ∀ {x : Addr}, O x → D ≠ x := fun z q => hO (by rw [q]; exact z)
    exact ⟨nn a, nn b, nn c⟩
  refine ⟨fun i m H2 => ∃ (G2 : Hp) (s0 : Sg) (acc : List PyData) (vs' : List V), Ex G1 G2 ∧ Rel X.K (fo f (F.up D (.lst vs')) fun a => O a ∨ a = D) G2 (s0.wipe vs) σ H2 ∧ DpAll X.K G2 vs' acc ∧ m = ds.length - i ∧ lcs vs g tt t (ds.drop i) acc (s0.wipe vs) C, ⟨_, G1, s1, [], [], Ex.refl G1, (R1.beside hD).outw rfl, .nil, rfl, c1⟩, ?_⟩
  rintro i m H2 ⟨G2, s0, acc, vs', e2, R2, V2, rfl, w⟩
  obtain ⟨k1, k2⟩ := ok i _ _ G2 _ σ H2 e2 R2
  by_cases hi : i < ds.length
  · have hdi : ds[i]? = some ds[i] := List.getElem?_eq_getElem hi
    obtain ⟨go, yl⟩ := k2 _ hdi
    rw [List.drop_eq_getElem_cons hi] at w
    refine Or.inr ⟨go, fun H' => ∃ (G3 : Hp) (s0 : Sg) (acc : List PyData) (vs' : List V), Ex G1 G3 ∧ Rel X.K (fo f (F.up D (.lst vs')) fun a => O a ∨ a = D) G3 (s0.wipe vs) σ H' ∧ DpAll X.K G3 vs' acc ∧ lcs vs g tt t (ds.drop (i + 1)) acc (s0.wipe vs) C, fun H' h => ?_, fun x H' y => ?_⟩
    · obtain ⟨G3, s3, acc', vs3, b1, b2, b3, b4⟩ := h
      exact ⟨_, by omega, G3, s3, acc', vs3, b1, b2, b3, rfl, b4⟩
    · obtain ⟨G3, e3, _, R3, V3⟩ := yl x H' y
      obtain ⟨C', w', hC'⟩ := hgl _ _ _ w
      refine ⟨_, _, G3, s0.wipe vs, _, C', R3.inw, V3, w', fun s4 σ4 c4 hs R4 => ?_⟩
      obtain ⟨c4, hlen⟩ := hC' s4 c4
      have we : L2.wipe σ4 vs = L2.wipe σ vs := by
        rw [← wipe_idem (σ := σ)]
        refine wipe_cong ?_ fun i hi => hs i fun z => hi (hw i z)
        rw [R4.ln, hlen, wipe_length, ← R3.ln]
      refine ⟨we, _, _, G3, s4, _, R4, c4, fun b s5 G5 H5 c5 e5 R5 => ?_⟩
      cases b with
      | false => exact ⟨G5, s5, acc, vs', (e2.trans e3).trans e5, R5.outw we, Dp.exAll (e3.trans e5) _ V2, c5⟩
      | true =>
        refine ⟨_, _, G5, s5, _, R5, c5, fun p s6 G6 H6 v c6 e6 R6 V6 => ?_⟩
        obtain ⟨x', hx, hlen, hl⟩ := c6
        obtain ⟨G7, e7, R7, V7⟩ := R6.frz V6 hx
        have V2' := Dp.exAll (((e3.trans e5).trans e6).trans e7) _ V2
        refine ⟨vs', R6.fh D _ hM (show upd F.F D (.lst vs') D = _ by rw [upd_same]), by rw [V2.len]; exact Evl.sz_lt hlen, G7, s6, acc ++ [x'], vs' ++ [v], (((e2.trans e3).trans e5).trans e6).trans e7, (R7.beside2 hF (fun en h => (R1.pk en h).ex ((((e2.trans e3).trans e5).trans e6).trans e7)) hM hO hd).outw we, V2'.append (.cons V7 .nil), hl⟩
  · rw [List.drop_eq_nil_of_le (by omega)] at w
    obtain ⟨R5, V5⟩ := R2.beside3 (fun en h => (R1.pk en h).ex e2) hM hO hF (fun h => (hd h).2.2) V2
    exact Or.inl ⟨k1 (by omega), k _ _ _ _ _ w (e1.trans e2) R5 V5⟩
theorem hp_lc {vs : List Nat} (h : PE X e (tLc (lfI X.K f it) (lfG X.K f g ws) (lfT X.K f tt) (lf X.K f t) vs)) (hw : ∀ i, i ∈ ws → i ∈ vs) (hgl : ∀ d s C, g d s C → ∃ C', g d s C' ∧ ∀ s', C' s' → C s' ∧ s'.sl.length = s.sl.length) : PE X e (lf X.K f (hLc it g tt t vs)) := h.mono (lc_conv hw hgl)
theorem hs_setLc {st : Stmt} {i : Nat} {vs : List Nat} (h : PS X st (tAsg (tLc (lfI X.K f it) (lfG X.K f g ws) (lfT X.K f tt) (lf X.K f t) vs) (gName i))) (hw : ∀ i, i ∈ ws → i ∈ vs) (hgl : ∀ d s C, g d s C → ∃ C', g d s C' ∧ ∀ s', C' s' → C s' ∧ s'.sl.length = s.sl.length) : PS X st (lfS X.K f (hAsg (hLc it g tt t vs) i)) := hs_asg h (lc_conv hw hgl)
theorem gl_name {i : Nat} : ∀ d s C, gN i d s C → ∃ C', gN i d s C' ∧ ∀ s', C' s' → C s' ∧ s'.sl.length = s.sl.length := fun d s C h => ⟨fun s' => s' = s.put i (.dat d), rfl, fun s' e => by subst e; exact ⟨h, by simp [Sg.put]⟩⟩
theorem gl_pair {i j : Nat} : ∀ d s C, gP i j d s C → ∃ C', gP i j d s C' ∧ ∀ s', C' s' → C s' ∧ s'.sl.length = s.sl.length := fun d s C h => by
  unfold gP at h ⊢
  split at h
  · exact ⟨fun s' => s' = (s.put i (.dat _)).put j (.dat _), rfl, fun s' e => by subst e; exact ⟨h, by simp [Sg.put]⟩⟩
  · exact h.elim
end
abbrev HSp := List PV → Nat → (PV → Nat → Prop) → Prop
def PV.imm : PV → Bool
  | .dat d => Sk.imm d
  | .own ds => immAll ds
  | .dct kvs => immAll (kvs.map (·.2))
  | .dcg _ => false
  | .byr _ => false
  | .drw => true
  | .val _ => true
  | .dgf _ => false
  | .abs _ => false
def PV.isD : PV → Bool
  | .dct _ => true
  | .byr _ => true
  | _ => false
def PV.arg : PV → PV
  | .own ds => .dat (.list ds)
  | .dcg kvs => .dgf kvs
  | p => p
def SpH (K : PySem.W.Frag) (w : World) (T : Tbs) (k : Nat) (sp : HSp) : Sp := fun vs H Q _ => ∃ f G n ps C, f.w = w ∧ f.T = T ∧ f.e = none ∧ f.F = H ∧ (∀ a, f.M a → (f.on = true ∧ (a = f.m ∨ a = f.l)) ∨ f.tab a) ∧ Rel K f G ⟨ps.map some, n⟩ (vs.map some) H ∧ (∀ p ∈ ps, p.mut = false) ∧ ps.length = k ∧ sp ps n C ∧
  ∀ p n' G' H' v, C p n' → Ex G G' → Rel K f G' ⟨[], n'⟩ [] H' → VR K f G' H' p v → Q v H'
@[simp] def hCall (sp : HSp) (k : Nat) (ta : HA) : HE := fun s C => ta s fun ps s' => ps.length = k ∧ (∀ p ∈ ps, p.isD = false) ∧ sp (ps.map PV.arg) s'.n fun p n' => (ps.any PV.mut = true → p.imm = true) ∧ C p ⟨s'.sl, n'⟩
theorem Rel.bare {K : PySem.W.Frag} {f : Fr} {G H : Hp} {s : Sg} {σ : L2.St} (R : Rel K f G s σ H) : Rel K f G ⟨[], s.n⟩ [] H where
  gh := R.gh
  fh := R.fh
  go := R.go
  oh := R.oh
  mh := R.mh
  mo := R.mo
  tm := R.tm
  tb := R.tb
  pk := R.pk
  dr := R.dr
  ln := rfl
  sl := fun i p h => by simp at h
  ds := fun i j p q v _ h => by simp at h
theorem pair_at {K : PySem.W.Frag} {f : Fr} {G H : Hp} : ∀ {ps : List PV} {vs : List V} {i : Nat} {p : PV}, VRs K f G H ps vs → ps[i]? = some p → ∃ v, vs[i]? = some v ∧ VR K f G H p v
  | _, _, i, p, .nil, h => by simp at h
  | _, _, 0, p, .cons h1 h2, h => by simp at h; subst h; exact ⟨_, rfl, h1⟩
  | _, _, i + 1, p, .cons h1 h2, h => by
    obtain ⟨v, a, b⟩ := pair_at (i := i) (p := p) h2 (by simpa using h)
    exact ⟨v, by simpa using a, b⟩
theorem spH_core {K : PySem.W.Frag} {f : Fr} {F : Fr} {O : Addr → Prop} {G H : Hp} {s : Sg} {σ : L2.St} {ps : List PV} {vs : List V} {k : Nat} (R : Rel K (fo f F O) G s σ H) (W : VRs K (fo f F O) G H ps vs) (hk : ps.length = k) (hD : ∀ p ∈ ps, p.isD = false) :
    ∃ (f' : Fr) (Gc : Hp), f'.w = f.w ∧ f'.T = f.T ∧ f'.e = none ∧ f'.F = H ∧ (∀ a, f'.M a → (f'.on = true ∧ (a = f'.m ∨ a = f'.l)) ∨ f'.tab a) ∧ Rel K f' Gc ⟨(ps.map PV.arg).map some, s.n⟩ (vs.map some) H ∧ (∀ p ∈ ps.map PV.arg, p.mut = false) ∧ (ps.map PV.arg).length = k ∧ Ex G Gc ∧
      ∀ (p : PV) (n' : Nat) (G' H' : Hp) (v : V), (ps.any PV.mut = true → p.imm = true) → Ex Gc G' → Rel K f' G' ⟨[], n'⟩ [] H' → VR K f' G' H' p v → ∃ G2, Ex G G2 ∧ Rel K (fo f F O) G2 ⟨s.sl, n'⟩ σ H' ∧ VRf K (fo f F O) G2 H' s σ p v := by
  classical
  let A : Addr → Prop := fun a => ∃ (i : Nat) (p : PV), ps[i]? = some p ∧ ((∃ ds, p = .own ds) ∨ ∃ kvs, p = .dcg kvs) ∧ vs[i]? = some (.ref a)
  let S : Addr → Prop := fun a => ∃ (i : Nat) (q : PV), s.sl[i]? = some (some q) ∧ q.mut = true ∧ σ[i]? = some (some (.ref a))
  have hA : ∀ a, A a → ∃ u, H a = some u ∧ G a = none ∧ ¬ O a ∧ ((∃ ws, u = .lst ws) ∨ ∃ w g, u = GDo w a g) := fun a ⟨i, p0, h1, hp0, h2⟩ => by
    obtain ⟨v, h3, h4⟩ := pair_at W h1
    rw [h2] at h3
    cases h3
    rcases hp0 with ⟨ds, rfl⟩ | ⟨kvs, rfl⟩
    · obtain ⟨p, ws, e, k1, k2, k3, _⟩ := h4
      cases e
      exact ⟨_, k1, k2, k3, Or.inl ⟨ws, rfl⟩⟩
    · obtain ⟨p, ws, e, k1, k2, k3, _⟩ := h4
      cases e
      exact ⟨_, k1, k2, k3, Or.inr ⟨_, ws, rfl⟩⟩
  have hS : ∀ a, S a → H a ≠ none ∧ G a = none ∧ ¬ O a := fun a ⟨i, q, h1, h2, h3⟩ => by
    obtain ⟨v, h4, h5⟩ := R.sl i q h1
    rw [h3] at h4
    cases h4
    cases q with
    | dat d => cases h2
    | drw => cases h2
    | val _ => cases h2
    | dgf _ => cases h2
    | abs _ => cases h2
    | own ds => obtain ⟨p, ws, e, k1, k2, k3, _⟩ := h5; cases e; exact ⟨(by rw [k1]; intro z; cases z), k2, k3⟩
    | byr ds => obtain ⟨p, ws, e, k1, k2, k3, _⟩ := h5; cases e; exact ⟨(by rw [k1]; intro z; cases z), k2, k3⟩
    | dct ds => obtain ⟨p, ws, e, k1, k2, k3, _⟩ := h5; cases e; exact ⟨(by rw [k1]; intro z; cases z), k2, k3⟩
    | dcg ds => obtain ⟨p, ws, e, k1, k2, k3, _⟩ := h5; cases e; exact ⟨(by rw [k1]; intro z; cases z), k2, k3⟩
  let Gc : Hp := fun a => if A a then H a else G a
  let O' : Addr → Prop := fun a => (O a ∨ S a) ∧ ¬ A a
  let f' : Fr := ⟨F.on, F.m, F.l, F.c, H, O', fun a => (F.on = true ∧ (a = F.m ∨ a = F.l)) ∨ (fo f F O).tab a, F.r, f.w, f.T, none⟩
  have gc : Ex G Gc := fun a o h => by
    show (if A a then H a else G a) = some o
    split
    · rename_i ha
      obtain ⟨_, _, h2, _⟩ := hA a ha
      rw [h2] at h; cases h
    · exact h
  have oo : ∀ a, O a → O' a := fun a h => ⟨Or.inl h, fun z => by obtain ⟨_, _, _, n, _⟩ := hA a z; exact n h⟩
  have lenv : vs.length = ps.length := by
    have := Paired.length W
    omega
  have Mo : ∀ a, f'.M a → O a := fun a h0 => by
    rcases h0 with ⟨h1, h2⟩ | ⟨q, hq⟩
    case inr => exact (R.tm _ hq).1
    obtain ⟨a1, a2, _⟩ := R.mo h1
    rcases h2 with h2 | h2
    · rw [h2]; exact a1
    · rw [h2]; exact a2
  have R' : Rel K f' Gc ⟨(ps.map PV.arg).map some, s.n⟩ (vs.map some) H := {
    gh := fun a o h => by
      have h' : (if A a then H a else G a) = some o := h
      split at h'
      · exact h'
      · exact R.gh _ _ h'
    fh := fun a o _ h => h
    go := fun a h => by
      show (if A a then H a else G a) = none
      rw [if_neg h.2]
      exact h.1.elim (fun z => R.go a z) fun z => (hS a z).2.1
    oh := fun a h => h.1.elim (fun z => R.oh a z) fun z => (hS a z).1
    mh := fun a h => R.oh a (Mo a h)
    mo := fun h => by
      obtain ⟨a1, a2, a3, _⟩ := R.mo h
      exact ⟨oo _ a1, oo _ a2, oo _ a3, Or.inl ⟨h, Or.inl rfl⟩, Or.inl ⟨h, Or.inr rfl⟩⟩
    tm := fun p hp => ⟨oo _ (R.tm p hp).1, Or.inr ⟨p.2, hp⟩⟩
    tb := fun p hp => (R.tb p hp).keep (fun _ _ _ z => gc _ _ z) rfl
    pk := fun _ h => by cases h
    dr := R.dr
    ln := by simp [lenv]
    sl := fun i p h => by
      rw [List.getElem?_map] at h
      obtain ⟨p0, h1, e⟩ := Option.map_eq_some_iff.mp h
      cases e
      rw [List.getElem?_map] at h1
      obtain ⟨p1, h2, rfl⟩ := Option.map_eq_some_iff.mp h1
      obtain ⟨v, h3, h4⟩ := pair_at W h2
      refine ⟨v, by rw [List.getElem?_map, h3]; rfl, ?_⟩
      cases p1 with
      | dat d => exact Dp.ex gc _ h4
      | drw => exact h4
      | val _ => exact h4
      | dgf _ => obtain ⟨p0, xs0, z1, z2, z3⟩ := h4; exact ⟨p0, xs0, z1, gc _ _ z2, z3.ex gc⟩
      | abs _ => exact fun G9 e9 => h4 G9 (gc.trans e9)
      | dct kvs => have := hD _ (List.mem_of_getElem? h2); cases this
      | dcg kvs =>
        obtain ⟨a, ws, rfl, k1, k2, k3, k4, k5⟩ := h4
        have ha : A a := ⟨i, _, h2, Or.inr ⟨kvs, rfl⟩, h3⟩
        exact ⟨a, ws, rfl, by show (if A a then H a else G a) = _; rw [if_pos ha]; exact k1, k5.ex gc⟩
      | byr kvs => have := hD _ (List.mem_of_getElem? h2); cases this
      | own ds =>
        obtain ⟨a, ws, rfl, k1, k2, k3, k4, k5⟩ := h4
        have ha : A a := ⟨i, _, h2, Or.inl ⟨ds, rfl⟩, h3⟩
        exact .lst (Or.inl (Or.inl (by show (if A a then H a else G a) = _; rw [if_pos ha]; exact k1))) (Dp.exAll gc _ k5)
    ds := fun i j p q v _ h _ mp => by
      rw [List.getElem?_map] at h
      obtain ⟨p0, h1, e⟩ := Option.map_eq_some_iff.mp h
      cases e
      rw [List.getElem?_map] at h1
      obtain ⟨p1, h2, rfl⟩ := Option.map_eq_some_iff.mp h1
      cases p1 with
      | dat d => cases mp
      | drw => cases mp
      | val _ => cases mp
      | dgf _ => cases mp
      | abs _ => cases mp
      | own ds => cases mp
      | dct kvs => have := hD _ (List.mem_of_getElem? h2); cases this
      | dcg kvs => cases mp
      | byr kvs => have := hD _ (List.mem_of_getElem? h2); cases this }
  refine ⟨f', Gc, rfl, rfl, rfl, rfl, fun a h => h, R', fun p hp => ?_, by simp [hk], gc, fun p n' G' H' v ci e R2 V2 => ?_⟩
  · obtain ⟨p0, h1, rfl⟩ := List.mem_map.mp hp
    cases p0 with
    | dct kvs => have := hD _ h1; cases this
    | byr kvs => have := hD _ h1; cases this
    | _ => rfl
  let G2 : Hp := fun a => if A a then none else G' a
  have e2 : Ex G G2 := fun a o h => by
    have n : ¬ A a := fun z => by obtain ⟨_, _, h2, _⟩ := hA a z; rw [h2] at h; cases h
    show (if A a then none else G' a) = some o
    rw [if_neg n]
    exact e _ _ (gc _ _ h)
  have hk2 : ∀ a u, H a = some u → ¬ O a → H' a = some u := fun a u h n => R2.fh a u (fun z => n (Mo a z)) h
  have key : ∀ a, H a ≠ none → ¬ O a → S a → G2 a = none := fun a h n hs => by
    show (if A a then none else G' a) = none
    split
    · rfl
    · rename_i na
      exact R2.go a ⟨Or.inr hs, na⟩
  have slk : ∀ (i : Nat) (p : PV), s.sl[i]? = some (some p) → ∃ v : V, σ[i]? = some (some v) ∧ VR K (fo f F O) G2 H' p v := fun i p h => by
    obtain ⟨w, h1, h2⟩ := R.sl i p h
    refine ⟨w, h1, ?_⟩
    cases p with
    | dat d => exact Dp.ex e2 _ h2
    | drw => exact h2
    | val _ => exact h2
    | dgf _ => obtain ⟨p0, xs0, z1, z2, z3⟩ := h2; exact ⟨p0, xs0, z1, e2 _ _ z2, z3.ex e2⟩
    | abs _ => exact fun G9 e9 => h2 G9 (e2.trans e9)
    | own ds =>
      obtain ⟨a, ws, rfl, k1, k2, k3, k4, k5⟩ := h2
      exact ⟨a, ws, rfl, hk2 a _ k1 k3, key a (by rw [k1]; intro z; cases z) k3 ⟨i, _, h, rfl, h1⟩, k3, k4, Dp.exAll e2 _ k5⟩
    | byr ds =>
      obtain ⟨a, ws, rfl, k1, k2, k3, k4, k5, k6⟩ := h2
      exact ⟨a, ws, rfl, hk2 a _ k1 k3, key a (by rw [k1]; intro z; cases z) k3 ⟨i, _, h, rfl, h1⟩, k3, k4, Dp.exAll e2 _ k5, k6⟩
    | dct ds =>
      obtain ⟨a, ws, rfl, k1, k2, k3, k4, k5, k6⟩ := h2
      exact ⟨a, ws, rfl, hk2 a _ k1 k3, key a (by rw [k1]; intro z; cases z) k3 ⟨i, _, h, rfl, h1⟩, k3, k4, k5, Dp.exAll e2 _ k6⟩
    | dcg ds =>
      obtain ⟨a, ws, rfl, k1, k2, k3, k4, k5⟩ := h2
      exact ⟨a, ws, rfl, hk2 a _ k1 k3, key a (by rw [k1]; intro z; cases z) k3 ⟨i, _, h, rfl, h1⟩, k3, k4, k5.ex e2⟩
  have R3 : Rel K (fo f F O) G2 ⟨s.sl, n'⟩ σ H' := {
    gh := fun a o h => by
      have h' : (if A a then none else G' a) = some o := h
      split at h'
      · cases h'
      · exact R2.gh _ _ h'
    fh := fun a o m h => R2.fh a o (fun z => by
      rcases z with ⟨h1, h2⟩ | ⟨q, hq⟩
      case inr => exact m (R.tm _ hq).2
      obtain ⟨_, _, _, a4, a5⟩ := R.mo h1
      rcases h2 with h2 | h2
      · exact m (by rw [h2]; exact a4)
      · exact m (by rw [h2]; exact a5)) (R.fh a o m h)
    go := fun a h => by
      show (if A a then none else G' a) = none
      rw [if_neg (oo a h).2]
      exact R2.go a (oo a h)
    oh := fun a h => R2.oh a (oo a h)
    mh := fun a h => by
      by_cases z : f'.M a
      · exact R2.mh a z
      · cases w : H a with
        | none => exact absurd w (R.mh a h)
        | some u => rw [R2.fh a u z w]; intro z; cases z
    mo := R.mo
    tm := R.tm
    tb := fun p hp => (R2.tb p hp).keep2 (fun b o hn hn2 z => by
      show (if A b then none else G' b) = some o
      split
      · rename_i ha
        obtain ⟨u, k1, _, _, k4⟩ := hA b ha
        have q1 : Gc b = some u := by show (if A b then H b else G b) = _; rw [if_pos ha]; exact k1
        rw [e _ _ q1] at z
        cases z
        rcases k4 with ⟨ws, rfl⟩ | ⟨w, g, rfl⟩
        · exact absurd rfl (hn ws)
        · exact absurd rfl (hn2 w g)
      · exact z) rfl
    pk := fun en h => (R.pk en h).ex fun a o h => by
      show (if A a then none else G' a) = some o
      split
      · rename_i ha
        obtain ⟨_, _, h2, _⟩ := hA a ha
        rw [h2] at h; cases h
      · exact e _ _ (gc _ _ h)
    dr := R2.dr
    ln := R.ln
    sl := slk
    ds := R.ds }
  have noA : ps.any PV.mut = false → ∀ a, ¬ A a := fun h a ⟨i, p0, h1, hp0, _⟩ => by
    have := List.any_eq_false.mp h _ (List.mem_of_getElem? h1)
    rcases hp0 with ⟨ds, rfl⟩ | ⟨kvs, rfl⟩ <;> exact this rfl
  have gg : ps.any PV.mut = false → Ex G' G2 := fun h a o ho => by
    show (if A a then none else G' a) = some o
    rw [if_neg (noA h a)]
    exact ho
  have gr : Gr G' G2 := fun a xs r => by
    have n : ∀ o, G' a = some o → (∀ ws, o ≠ .lst ws) → (∀ w g, o ≠ GDo w a g) → G2 a = some o := fun o ho hn hn2 => by
      show (if A a then none else G' a) = some o
      split
      · rename_i ha
        obtain ⟨u, h1, _, _, k4⟩ := hA a ha
        have : Gc a = some u := by show (if A a then H a else G a) = _; rw [if_pos ha]; exact h1
        rw [e _ _ this] at ho
        cases ho
        rcases k4 with ⟨ws, rfl⟩ | ⟨w, g, rfl⟩
        · exact absurd rfl (hn ws)
        · exact absurd rfl (hn2 w g)
      · exact ho
    rcases r with r | ⟨ob, r⟩
    · exact Or.inl (n _ r (fun ws z => by cases z) fun w g z => by unfold GDo at z; cases z)
    · exact Or.inr ⟨ob, n _ r (fun ws z => by cases z) fun w g z => by unfold GDo at z; cases z⟩
  have dpk : ∀ (d : PyData) (w : V), (ps.any PV.mut = true → Sk.imm d = true) → Dp K G' w d → Dp K G2 w d := fun d w hi hd => by
    cases hm : ps.any PV.mut with
    | false => exact Dp.ex (gg hm) _ hd
    | true => exact Dp.gr gr _ (hi hm) hd
  have dpa : ∀ (ds : List PyData) (ws : List V), (ps.any PV.mut = true → immAll ds = true) → DpAll K G' ws ds → DpAll K G2 ws ds := fun d w hi hd => by
    cases hm : ps.any PV.mut with
    | false => exact Dp.exAll (gg hm) _ hd
    | true => exact Dp.grAll gr _ (hi hm) hd
  have newp : ∀ a, G' a = none → ¬ O' a → (H a = none ∨ f'.M a) → G2 a = none ∧ ¬ O a ∧ (F.F a = none ∨ F.M a) ∧ H a = none := fun a h1 h2 h3 => by
    have ha : H a = none := h3.elim id fun z => absurd (oo a (Mo a z)) h2
    refine ⟨?_, fun z => h2 (oo a z), R.fr_none ha, ha⟩
    show (if A a then none else G' a) = none
    split
    · rfl
    · exact h1
  refine ⟨G2, e2, R3, ?_⟩
  cases p with
  | dat d => exact vrf_dat (dpk d v ci V2)
  | drw => exact ⟨V2, fun z => by cases z⟩
  | val _ => exact ⟨V2, fun z => by cases z⟩
  | dgf ds =>
    obtain ⟨p0, xs0, z1, z2, z3⟩ := V2
    cases hm : ps.any PV.mut with
    | false => exact ⟨⟨p0, xs0, z1, gg hm _ _ z2, z3.ex (gg hm)⟩, fun z => by cases z⟩
    | true => have z := ci hm; cases z
  | abs _ =>
    cases hm : ps.any PV.mut with
    | false => exact ⟨fun G9 e9 => V2 G9 ((gg hm).trans e9), fun z => by cases z⟩
    | true => have z := ci hm; cases z
  | own ds =>
    obtain ⟨a, ws, rfl, k1, k2, k3, k4, k5⟩ := V2
    obtain ⟨b1, b2, b3, b4⟩ := newp a k2 k3 k4
    refine ⟨⟨a, ws, rfl, k1, b1, b2, b3, dpa ds ws ci k5⟩, fun _ i q h1 h2 h3 => ?_⟩
    exact (hS a ⟨i, q, h1, h2, h3⟩).1 b4
  | byr ds =>
    obtain ⟨a, ws, rfl, k1, k2, k3, k4, k5, k6⟩ := V2
    obtain ⟨b1, b2, b3, b4⟩ := newp a k2 k3 k4
    refine ⟨⟨a, ws, rfl, k1, b1, b2, b3, dpa ds ws (fun h => by have z := ci h; cases z) k5, k6⟩, fun _ i q h1 h2 h3 => ?_⟩
    exact (hS a ⟨i, q, h1, h2, h3⟩).1 b4
  | dct ds =>
    obtain ⟨a, ws, rfl, k1, k2, k3, k4, k5, k6⟩ := V2
    obtain ⟨b1, b2, b3, b4⟩ := newp a k2 k3 k4
    refine ⟨⟨a, ws, rfl, k1, b1, b2, b3, k5, dpa _ _ ci k6⟩, fun _ i q h1 h2 h3 => ?_⟩
    exact (hS a ⟨i, q, h1, h2, h3⟩).1 b4
  | dcg ds =>
    obtain ⟨a, ws, rfl, k1, k2, k3, k4, k5⟩ := V2
    obtain ⟨b1, b2, b3, b4⟩ := newp a k2 k3 k4
    have k6 : GRel K G2 ws.2 ds := by
      cases hm : ps.any PV.mut with
      | false => exact k5.ex (gg hm)
      | true => have z := ci hm; cases z
    refine ⟨⟨a, ws, rfl, k1, b1, b2, b3, k6⟩, fun _ i q h1 h2 h3 => ?_⟩
    exact (hS a ⟨i, q, h1, h2, h3⟩).1 b4
theorem spH_call {K : PySem.W.Frag} {f : Fr} {F : Fr} {O : Addr → Prop} {G H : Hp} {s : Sg} {σ : L2.St} {ps : List PV} {vs : List V} {k : Nat} {sp : HSp} {Q : VK} {E : XK} {C : PV → Nat → Prop} (R : Rel K (fo f F O) G s σ H) (W : VRs K (fo f F O) G H ps vs) (hk : ps.length = k) (hD : ∀ p ∈ ps, p.isD = false)
    (h : sp (ps.map PV.arg) s.n fun p n' => (ps.any PV.mut = true → p.imm = true) ∧ C p n')
    (q : ∀ p n' G' H' v, C p n' → Ex G G' → Rel K (fo f F O) G' ⟨s.sl, n'⟩ σ H' → VRf K (fo f F O) G' H' s σ p v → Q v H') : SpH K f.w f.T k sp vs H Q E := by
  obtain ⟨f', Gc, x1, x2, x3, x4, x5, R', x6, x7, _, back⟩ := spH_core (k := k) R W hk hD
  refine ⟨f', Gc, s.n, ps.map PV.arg, _, x1, x2, x3, x4, x5, R', x6, x7, h, fun p n' G' H' v c e R2 V2 => ?_⟩
  obtain ⟨G2, e2, R3, V3⟩ := back p n' G' H' v c.1 e R2 V2
  exact q p n' G2 H' v c.2 e2 R3 V3
section
variable {X : Cx} {f : Fr} {e : Expr} {es : List Expr} {ta : HA} {sp : HSp} {E : XK}
theorem hp_call {k : Nat} (h : ∀ {t : TA}, PA X es t → PE X e (tCall (SpH X.K f.w f.T k sp) [] E t)) (ha : PA X es (lfA X.K f ta)) : PE X e (lf X.K f (hCall sp k ta)) := (h ha).mono fun σ H Q q => by
  obtain ⟨F, O, G, s, C, R, ht, kk⟩ := q
  refine ⟨F, O, G, s, _, R, ht, fun ps s1 G1 H1 vs c1 e1 R1 V1 => ?_⟩
  obtain ⟨c2, c3, c4⟩ := c1
  rw [List.append_nil]
  exact spH_call R1 V1 c2 c3 c4 fun p n' G' H' v c e2 R2 V2 => kk p ⟨s1.sl, n'⟩ G' H' v c (e1.trans e2) R2 V2
theorem vals_len {k : Nat} {K : PySem.W.Frag} {w : World} {T : Tbs} : ∀ vs H Q E, SpH K w T k sp vs H Q E → vs.length = k := fun vs H Q E h => by
  obtain ⟨f, G, n, ps, C, _, _, _, _, _, R, _, hk, _⟩ := h
  have := R.ln
  simp at this
  omega
theorem gnH {P : Program} {w : World} {T : Tbs} {K : PySem.W.Frag} {mg : Str → Option Value} {base : Heap} {k : Nat} {fa : Addr} {fd : FuncData} {x qual : Str} {st : Stmt} {N ps : List Str} {hs : HS} (Fn : Fun K x qual st fa fd) (S : FnScope N ps (defScope st))
    (body : ∀ (cdv : Value), fd.code = cdv → ∀ (A : Around) (outer : List Env) (s : Shared) (H : Hp) (E : XK), (A.deeper (envOfC qual (defScope st) s.heap.objs.size fa cdv)).guards = some [] → Room k (A.deeper (envOfC qual (defScope st) s.heap.objs.size fa cdv)) → PSs (cxOf CX0 P w K mg base N qual (defScope st) fa cdv A outer s H E).nox (defBody st) (lfS K (f0 w T) hs))
    (rd : ∀ pvs n C, pvs.length = ps.length → sp pvs n C → hs ⟨fun s => C (.dat .none) s.n, fun p s => C p s.n, fun _ => False, fun _ => False⟩ ⟨pvs.map some ++ List.replicate (N.length - pvs.length) none, n⟩) :
    GnOk P w K mg base CX0 (k + 1) fa fd ps (SpH K w T ps.length sp) := by
  refine gn_ok Fn S vals_len fun cdv ecd A outer s H vs Q E hgd hr h => ?_
  obtain ⟨⟨on, m, l, c, fF, fO, fM, r, fw, fT, fe⟩, G, n, pvs, C, hw, hT, he, hF, hM, R, hm, hk, hsp, kk⟩ := h
  have hw : fw = w := hw
  have hT : fT = T := hT
  have he : fe = none := he
  subst hw hT he
  let f : Fr := ⟨on, m, l, c, fF, fO, fM, r, fw, fT, none⟩
  have lnv : vs.length = pvs.length := by
    have := R.ln
    simpa using this
  refine ⟨_, body cdv ecd A outer s H E hgd hr, ⟨on, m, l, c, fF, fO, fM, r, fw, fT, none⟩, fO, G, _, _, ?_, rd pvs n C hk hsp, ⟨fun G1 s1 σ1 H1 e1 R1 c => kk _ _ _ _ _ c e1 R1.bare .non, fun p G1 s1 σ1 H1 v e1 R1 V1 c => kk _ _ _ _ _ c e1 R1.bare V1.1, fun _ _ _ _ _ _ z => z.elim, fun _ _ _ _ _ _ z => z.elim⟩⟩
  have ap : ∀ {α : Type} (xs : List α) (m i : Nat) (y : α), (xs.map some ++ List.replicate m none)[i]? = some (some y) → (xs.map some)[i]? = some (some y) := fun xs m i y h => by
    by_cases hi : i < xs.length
    · rw [List.getElem?_append_left (by simpa using hi)] at h; exact h
    · rw [List.getElem?_append_right (by simpa using hi)] at h
      rw [List.getElem?_replicate] at h
      split at h <;> cases h
  have ap2 : ∀ {α : Type} (xs : List α) (m i : Nat) (y : α), (xs.map some)[i]? = some (some y) → (xs.map some ++ List.replicate m none)[i]? = some (some y) := fun xs m i y h => by
    have hi : i < (xs.map some).length := (List.getElem?_eq_some_iff.mp h).1
    rw [List.getElem?_append_left hi]; exact h
  show Rel K f G ⟨_, n⟩ (L2.start N vs) H
  exact { R with
    ln := by simp [L2.start, lnv]
    sl := fun i p h => by
      obtain ⟨v, h1, h2⟩ := R.sl i p (ap _ _ _ _ h)
      exact ⟨v, ap2 _ _ _ _ h1, h2⟩
    ds := fun i j p q v ne hi _ mp => by
      have h1 := ap _ _ _ _ hi
      rw [List.getElem?_map] at h1
      obtain ⟨p0, h2, e⟩ := Option.map_eq_some_iff.mp h1
      cases e
      have := hm _ (List.mem_of_getElem? h2)
      rw [this] at mp
      cases mp }
end
end Sk
set_option Elab.async false
set_option linter.all false
set_option maxRecDepth 100000
set_option maxHeartbeats 2000000
namespace Sk
open PySem PySem.Spec PyProof.Rows L2
open PySem.W (Datum DatumOrd Tup T3 T4)
open Evl (Ex)
def tyD : PyData → String
  | .none => "NoneType"
  | .bool _ => "bool"
  | .int _ => "int"
  | .str _ => "str"
  | .list _ => "list"
  | .tuple _ => "tuple"
  | .dict _ => "dict"
section
variable {X : Cx} {f : Fr}
theorem kit_dp {pins : List (Addr × Obj)} {σ : L2.St} {H : Hp} {s : Shared} {x : V} {u : Value} {d : PyData} (I : Inv X pins σ H s) (h : Dp X.K H x d) (rx : RelV x u) : ∃ P : Heap → Prop, PySem.W.KitX X.K u (.type (tyD d)) P ∧ P s.heap ∧ u ≠ .builtin "__main__.__loader__#opaque" := by
  cases h with
  | non => exact kit_of I rx (.base .non)
  | bl b => exact kit_of I rx (.base (.bl b))
  | int i => exact kit_of I rx (.base (.int i))
  | str i => exact kit_of I rx (.base (.str i))
  | @lst a xs ds hs ha =>
    cases (show u = Value.ref a from rx)
    obtain ⟨its, _, ⟨o, n, h1, h2, _⟩, _⟩ := I.list hs
    exact ⟨_, PySem.W.kitx_list, ⟨o, h1, h2⟩, fun z => nomatch z⟩
  | @tup a xs ds hs ha =>
    cases (show u = Value.ref a from rx)
    obtain ⟨its, _, ⟨o, h1, h2, _⟩, _⟩ := I.tuple hs
    exact ⟨_, PySem.W.kitx_tuple, ⟨o, h1, h2⟩, fun z => nomatch z⟩
def rIsiD (K : PySem.W.Frag) : List V → Hp → VK → Prop := fun xs H Q => ∃ (x : V) (n : String) (d : PyData) (b : Bool), xs = [x, .ty n] ∧ Dp K H x d ∧ kitB (tyD d) n = some b ∧ Q (.bl b) H
theorem call_isiD : CallR X (.builtin "isinstance") (rIsiD X.K) := by
  intro pins s σ H xs us Q I r h
  obtain ⟨x, n, d, b, rfl, k, e, q⟩ := h
  obtain ⟨u1, u2, rfl, r1, r2⟩ := vals2 r
  cases (show u2 = Value.type n from r2)
  obtain ⟨P, Z, p, hx⟩ := kit_dp I k r1
  exact PySem.W.kia_one Z I.kIn p (kit_ty e) hx fun tk => ⟨.bl b, H, I.tok tk, rfl, q⟩
theorem VR.dp {K : PySem.W.Frag} {G H : Hp} {p : PV} {v : V} {d : PyData} (h : VR K f G H p v) (g : Ex G H) (e : p.frz = some d) : Dp K H v d := by
  cases p with
  | dat d' => cases e; exact Dp.ex g _ h
  | own ds =>
    cases e
    obtain ⟨a, vs, rfl, h1, _, _, _, h5⟩ := h
    exact .lst (Or.inl (Or.inl h1)) (Dp.exAll g _ h5)
  | dct _ => cases e
  | dcg _ => cases e
  | drw => cases e
  | val _ => cases e
  | dgf _ => cases e
  | abs _ => cases e
  | byr _ => cases e
def isiW : List PV → (PV → Prop) → Prop := fun ps C => match ps with
  | [p, .val (.ty n)] => ∃ d b, p.frz = some d ∧ kitB (tyD d) n = some b ∧ C (.dat (.bool b))
  | _ => False
theorem op_isi : Op X.K f (rIsiD X.K) isiW := fun F O G s σ H ps vs C Q R V w k => by
  unfold isiW at w
  split at w
  · rename_i p n
    obtain ⟨d, b, h1, h2, h3⟩ := w
    cases V with
    | cons v1 V =>
      cases V with
      | cons v2 V =>
        cases V
        cases (show _ = V.ty n from v2)
        exact ⟨_, n, d, b, rfl, v1.dp R.gh h1, h2, k _ _ _ _ h3 (Ex.refl G) R (vrf_dat (.bl b))⟩
  · exact w.elim
@[simp] def i2 (C : Int → Int → Prop) (g : Int → Int → PyData) : List PV → (PV → Prop) → Prop := fun ps K => match ps with
  | [.dat (.int i), .dat (.int j)] => C i j ∧ K (.dat (g i j))
  | _ => False
theorem op_i2 {Cd : Int → Int → Prop} {g : Int → Int → V} {g' : Int → Int → PyData} (hg : ∀ i j G, Dp X.K G (g i j) (g' i j)) : Op X.K f (op2 (rI Cd g)) (i2 Cd g') := fun F O G s σ H ps vs C Q R V w k => by
  unfold i2 at w
  split at w
  · rename_i i j
    cases V with
    | cons v1 V =>
      cases V with
      | cons v2 V =>
        cases V
        cases vr_int v1
        cases vr_int v2
        exact ⟨i, j, rfl, rfl, w.1, k _ _ _ _ w.2 (Ex.refl G) R (vrf_dat (hg i j G))⟩
  · exact w.elim
@[simp] def i2' (g : Int → Int → PyData) : List PV → (PV → Prop) → Prop := fun ps K => match ps with
  | [.dat (.int i), .dat (.int j)] => K (.dat (g i j))
  | _ => False
theorem op_i2' {g : Int → Int → V} {g' : Int → Int → PyData} (hg : ∀ i j G, Dp X.K G (g i j) (g' i j)) : Op X.K f (op2 (rI0 g)) (i2' g') := fun F O G s σ H ps vs C Q R V w k => by
  unfold i2' at w
  split at w
  · rename_i i j
    cases V with
    | cons v1 V =>
      cases V with
      | cons v2 V =>
        cases V
        cases vr_int v1
        cases vr_int v2
        exact ⟨i, j, rfl, rfl, k _ _ _ _ w (Ex.refl G) R (vrf_dat (hg i j G))⟩
  · exact w.elim
abbrev subW := i2' fun i j => .int (i - j)
abbrev fdivW := i2 CDivW fun i j => .int (i / j)
abbrev modW := i2 (fun _ j => 0 < j) fun i j => .int (i % j)
abbrev powW := i2 CPow fun i j => .int (i ^ j.toNat)
abbrev ltW := i2' fun i j => .bool (decide (i < j))
abbrev leW := i2' fun i j => .bool (decide (i ≤ j))
abbrev gtW := i2' fun i j => .bool (decide (j < i))
abbrev geW := i2' fun i j => .bool (decide (j ≤ i))
theorem op_subW : Op X.K f (op2 (rI0 fun i j => .int (i - j))) subW := op_i2' fun _ _ _ => .int _
theorem op_fdivWW : Op X.K f (op2 (rI CDivW fun i j => .int (i / j))) fdivW := op_i2 fun _ _ _ => .int _
theorem op_modWW : Op X.K f (op2 (rI (fun _ j => 0 < j) fun i j => .int (i % j))) modW := op_i2 fun _ _ _ => .int _
theorem op_powW : Op X.K f (op2 (rI CPow fun i j => .int (i ^ j.toNat))) powW := op_i2 fun _ _ _ => .int _
theorem op_ltW : Op X.K f (op2 (rI0 fun i j => .bl (decide (i < j)))) ltW := op_i2' fun _ _ _ => .bl _
theorem op_leW : Op X.K f (op2 (rI0 fun i j => .bl (decide (i ≤ j)))) leW := op_i2' fun _ _ _ => .bl _
theorem op_gtW : Op X.K f (op2 (rI0 fun i j => .bl (decide (j < i)))) gtW := op_i2' fun _ _ _ => .bl _
theorem op_geW : Op X.K f (op2 (rI0 fun i j => .bl (decide (j ≤ i)))) geW := op_i2' fun _ _ _ => .bl _
def dd (sh : PyData → PyData → Prop) (g : PyData → PyData → Bool) : List PV → (PV → Prop) → Prop := fun ps K => match ps with
  | [p, q] => ∃ d e, p.frz = some d ∧ q.frz = some e ∧ sh d e ∧ K (.dat (.bool (g d e)))
  | _ => False
def ltA (α : Type) [DecidableEq α] [DatumOrd α] : List PV → (PV → Prop) → Prop := fun ps K => match ps with
  | [p, q] => ∃ a b : α, p.frz = some (Datum.toD a) ∧ q.frz = some (Datum.toD b) ∧ K (.dat (.bool (DatumOrd.lt a b)))
  | _ => False
theorem op_ltAW {α : Type} [DecidableEq α] [DatumOrd α] : Op X.K f (op2 (rLtA α X.K)) (ltA α) := fun F O G s σ H ps vs C Q R V w k => by
  unfold ltA at w
  split at w
  · obtain ⟨a, b, h1, h2, h5⟩ := w
    cases V with
    | cons v1 V =>
      cases V with
      | cons v2 V =>
        cases V
        exact ⟨a, b, v1.dp R.gh h1, v2.dp R.gh h2, k _ _ _ _ h5 (Ex.refl G) R (vrf_dat (.bl _))⟩
  · exact w.elim
def inS : List PV → (PV → Prop) → Prop := fun ps K => match ps with
  | [.dat (.str c), .dat (.str z)] => ∃ n, c = ⟨#[n]⟩ ∧ K (.dat (.bool (decide (n ∈ z.cps.toList))))
  | _ => False
theorem op_inS : Op X.K f (op2 fun x y H Q => ∃ (c : Nat) (z : Str), x = .str ⟨#[c]⟩ ∧ y = .str z ∧ Q (.bl (decide (c ∈ z.cps.toList))) H) inS := fun F O G s σ H ps vs C Q R V w k => by
  unfold inS at w
  split at w
  · obtain ⟨n, rfl, h5⟩ := w
    cases V with
    | cons v1 V =>
      cases V with
      | cons v2 V =>
        cases V
        cases vr_str v1
        cases vr_str v2
        exact ⟨n, _, rfl, rfl, k _ _ _ _ h5 (Ex.refl G) R (vrf_dat (.bl _))⟩
  · exact w.elim
def isN (neg : Bool) : List PV → (PV → Prop) → Prop := fun ps K => match ps with
  | [.dat d, .dat .none] => K (.dat (.bool (if neg then !(match d with | .none => true | _ => false) else match d with | .none => true | _ => false)))
  | _ => False
end
end Sk
set_option Elab.async false
set_option linter.all false
set_option maxRecDepth 100000
set_option maxHeartbeats 2000000
namespace Sk
open PySem PySem.Spec PyProof.Rows L2
open PySem.W (Datum DatumOrd Tup T3 T4)
open Evl (Ex)
section
variable {X : Cx} {f : Fr}
def rCatL (K : PySem.W.Frag) : R2 := fun x y H Q => ∃ l b xs zs, x = .ref l ∧ y = .ref b ∧ SqL K H l xs ∧ SqL K H b zs ∧ xs.length + zs.length ≤ sizeLine ∧ ∀ p, H p = none → Q (.ref p) (upd H p (.lst (xs ++ zs)))
theorem op_catL : OpR X (binaryOp .Add) (rCatL X.K) := by
  intro pins s σ H x y v u Q I rx ry h
  obtain ⟨l, b, xs, zs, rfl, rfl, hx, hy, hz, q⟩ := h
  cases (show v = Value.ref l from rx)
  cases (show u = Value.ref b from ry)
  obtain ⟨its, r, pl, _⟩ := I.list hx
  obtain ⟨jts, r2, pk, _⟩ := I.list hy
  have l1 := r.length
  have l2 := r2.length
  obtain ⟨⟨c1, d1, t1, z1⟩, g1, q1, m1, y1⟩ := pl.isList
  obtain ⟨⟨c2, d2, t2, z2⟩, g2, q2, m2, y2⟩ := pk.isList
  simp only at q1 y1 q2 y2
  subst q1 y1 q2 y2
  have small : its.toArray.size + jts.toArray.size ≤ sizeLine := by
    simp only [List.size_toArray]
    omega
  have add := list_addW l b its.toArray jts.toArray m1 m2 d1 d2 z1 z2 small
  refine PySem.concat_meets ⟨_, g1, rfl⟩ ⟨_, g2, rfl⟩ noFill_list_add seq_list_add
    PySem.F.slot_list_add PySem.F.entry_list_add
    (PySem.F.args_list_add_2 _ _) add ⟨g1, g2, ?_⟩
  have ea : its.toArray ++ jts.toArray = (its ++ jts).toArray := by simp
  rw [ea]
  exact ⟨V.ref s.heap.objs.size, _, I.lnew (t' := s.toks) (Vals.append r r2) (by rw [List.length_append]; exact hz), rfl, q _ I.fresh⟩
def PV.seq : PV → Option (List PyData)
  | .dat (.list ds) => some ds
  | .dat (.tuple ds) => some ds
  | .own ds => some ds
  | _ => none
theorem VR.sq {K : PySem.W.Frag} {G H : Hp} {p : PV} {v : V} {ds : List PyData} (h : VR K f G H p v) (g : Ex G H) (e : p.seq = some ds) : ∃ a vs, v = .ref a ∧ (SqL K H a vs ∨ SqT K H a vs) ∧ DpAll K G vs ds := by
  cases p with
  | own es =>
    cases e
    obtain ⟨a, vs, rfl, h1, _, _, _, h5⟩ := h
    exact ⟨a, vs, rfl, Or.inl (Or.inl (Or.inl h1)), h5⟩
  | dat d =>
    have h : Dp K G v d := h
    cases h with
    | lst hs ha => cases e; exact ⟨_, _, rfl, Or.inl (Evl.ex_l g hs), ha⟩
    | tup hs ha => cases e; exact ⟨_, _, rfl, Or.inr (Evl.ex_t g hs), ha⟩
    | _ => cases e
  | dct _ => cases e
  | dcg _ => cases e
  | drw => cases e
  | val _ => cases e
  | dgf _ => cases e
  | abs _ => cases e
  | byr _ => cases e
def PV.lst : PV → Option (List PyData)
  | .dat (.list ds) => some ds
  | .own ds => some ds
  | _ => none
theorem VR.sl {K : PySem.W.Frag} {G H : Hp} {p : PV} {v : V} {ds : List PyData} (h : VR K f G H p v) (g : Ex G H) (e : p.lst = some ds) : ∃ a vs, v = .ref a ∧ SqL K H a vs ∧ DpAll K G vs ds := by
  cases p with
  | own es =>
    cases e
    obtain ⟨a, vs, rfl, h1, _, _, _, h5⟩ := h
    exact ⟨a, vs, rfl, Or.inl (Or.inl h1), h5⟩
  | dat d =>
    have h : Dp K G v d := h
    cases h with
    | lst hs ha => cases e; exact ⟨_, _, rfl, Evl.ex_l g hs, ha⟩
    | tup hs ha => cases e
    | _ => cases e
  | dct _ => cases e
  | dcg _ => cases e
  | drw => cases e
  | val _ => cases e
  | dgf _ => cases e
  | abs _ => cases e
  | byr _ => cases e
def ixW : List PV → (PV → Prop) → Prop := fun ps C => match ps with
  | [p, .dat (.int i)] => (∃ ds d, p.seq = some ds ∧ atI ds i = some d ∧ C (.dat d)) ∨ ∃ z c, p = .dat (.str z) ∧ z.length ≤ 100000 ∧ atI z.cps.toList i = some c ∧ C (.dat (.str ⟨#[c]⟩))
  | _ => False
theorem atI_dp {K : PySem.W.Frag} {G : Hp} {vs : List V} {ds : List PyData} {i : Int} {d : PyData} (h : DpAll K G vs ds) (e : atI ds i = some d) : ∃ v, atI vs i = some v ∧ Dp K G v d := by
  unfold atI at e ⊢
  rw [h.len]
  cases q : ixN ds.length i with
  | none => rw [q] at e; cases e
  | some j =>
    rw [q] at e
    exact h.at e
theorem op_ixW : Op X.K f (op2 (rIx X.K)) ixW := fun F O G s σ H ps vs C Q R V w k => by
  unfold ixW at w
  split at w
  · rename_i p i
    cases V with
    | cons v1 V =>
      cases V with
      | cons v2 V =>
        cases V
        cases vr_int v2
        rcases w with ⟨ds, d, h1, h2, h3⟩ | ⟨z, c, rfl, h1, h2, h3⟩
        · obtain ⟨a, ws, rfl, hs, ha⟩ := v1.sq R.gh h1
          obtain ⟨x, hx, dx⟩ := atI_dp ha h2
          rcases hs with hs | hs
          · exact Or.inl ⟨a, ws, i, x, rfl, rfl, hs, hx, k _ _ _ _ h3 (Ex.refl G) R (vrf_dat dx)⟩
          · exact Or.inr (Or.inl ⟨a, ws, i, x, rfl, rfl, hs, hx, k _ _ _ _ h3 (Ex.refl G) R (vrf_dat dx)⟩)
        · cases vr_str v1
          exact Or.inr (Or.inr ⟨z, i, c, rfl, rfl, Evl.sz_of h1, h2, k _ _ _ _ h3 (Ex.refl G) R (vrf_dat (.str _))⟩)
  · exact w.elim
def lenW : List PV → (PV → Prop) → Prop := fun ps C => match ps with
  | [p] => (∃ ds, p.seq = some ds ∧ C (.dat (.int ds.length))) ∨ (∃ z, p = .dat (.str z) ∧ z.length ≤ sizeLine ∧ C (.dat (.int z.length))) ∨ ∃ kvs, p = .dct kvs ∧ C (.dat (.int kvs.length))
  | _ => False
def rLen (K : PySem.W.Frag) : List V → Hp → VK → Prop := fun xs H Q => (∃ p ys, xs = [.ref p] ∧ (SqL K H p ys ∨ SqT K H p ys) ∧ Q (.int ys.length) H) ∨ (∃ z, xs = [.str z] ∧ z.length ≤ sizeLine ∧ Q (.int z.length) H) ∨ ∃ a kvs, xs = [V.ref a] ∧ H a = some (.dK kvs) ∧ Q (.int kvs.length) H
theorem call_lenAll : CallR X (.builtin "len") (rLen X.K) := call_len_seq.or (call_len_str.or call_lenD)
theorem op_lenW : Op X.K f (rLen X.K) lenW := fun F O G s σ H ps vs C Q R V w k => by
  unfold lenW at w
  split at w
  · cases V with
    | cons v1 V =>
      cases V
      rcases w with ⟨ds, h1, h2⟩ | ⟨z, rfl, h1, h2⟩ | ⟨kvs, rfl, h1⟩
      · obtain ⟨a, ws, rfl, hs, ha⟩ := v1.sq R.gh h1
        exact Or.inl ⟨a, ws, rfl, hs, by rw [ha.len]; exact k _ _ _ _ h2 (Ex.refl G) R (vrf_dat (.int _))⟩
      · cases vr_str v1
        exact Or.inr (Or.inl ⟨z, rfl, h1, k _ _ _ _ h2 (Ex.refl G) R (vrf_dat (.int _))⟩)
      · obtain ⟨a, ws, rfl, b1, b2, b3, b4, b5, b6⟩ := v1
        have : ws.length = kvs.length := by simpa using congrArg List.length b5
        exact Or.inr (Or.inr ⟨a, ws, rfl, b1, by rw [this]; exact k _ _ _ _ h1 (Ex.refl G) R (vrf_dat (.int _))⟩)
  · exact w.elim
def listW : List PV → (PV → Prop) → Prop := fun ps C => match ps with
  | [p] => ∃ ds, p.seq = some ds ∧ C (.own ds)
  | _ => False
def tupW : List PV → (PV → Prop) → Prop := fun ps C => match ps with
  | [p] => ∃ ds, p.seq = some ds ∧ C (.dat (.tuple ds))
  | _ => False
theorem op_tupW : Op X.K f (fun xs H Q => ∃ p ys, xs = [.ref p] ∧ ((SqL X.K H p ys ∧ ∀ l, H l = none → Q (.ref l) (upd H l (.tup ys))) ∨ (SqT X.K H p ys ∧ Q (.ref p) H))) tupW := fun F O G s σ H ps vs C Q R V w k => by
  unfold tupW at w
  split at w
  · rename_i p
    cases V with
    | cons v1 V =>
      cases V
      obtain ⟨ds, h1, h2⟩ := w
      have new : ∀ ws, DpAll X.K G ws ds → ∀ l, H l = none → Q (.ref l) (upd H l (.tup ws)) := fun ws ha l hl => k _ _ _ _ h2 (Evl.Ex.new (R.gn hl)) (R.newG hl) (vrf_dat (.tup (Or.inl (Or.inl upd_same)) (Dp.exAll (Evl.Ex.new (R.gn hl)) _ ha)))
      cases p with
      | own es =>
        cases h1
        obtain ⟨a, ws, rfl, b1, _, _, _, b5⟩ := v1
        exact ⟨a, ws, rfl, Or.inl ⟨Or.inl (Or.inl b1), new ws b5⟩⟩
      | dat d =>
        have v1 : Dp X.K G _ d := v1
        cases v1 with
        | lst hs ha => cases h1; exact ⟨_, _, rfl, Or.inl ⟨Evl.ex_l R.gh hs, new _ ha⟩⟩
        | tup hs ha => cases h1; exact ⟨_, _, rfl, Or.inr ⟨Evl.ex_t R.gh hs, k _ _ _ _ h2 (Ex.refl G) R (vrf_dat (.tup hs ha))⟩⟩
        | _ => cases h1
      | dct _ => cases h1
      | dcg _ => cases h1
      | drw => cases h1
      | val _ => cases h1
      | dgf _ => cases h1
      | abs _ => cases h1
      | byr _ => cases h1
  · exact w.elim
def allW (g : List Bool → Bool) : List PV → (PV → Prop) → Prop := fun ps C => match ps with
  | [p] => ∃ bs : List Bool, p.lst = some (bs.map .bool) ∧ C (.dat (.bool (g bs)))
  | _ => False
theorem bools_dp {K : PySem.W.Frag} {G : Hp} : ∀ {bs : List Bool} {vs : List V}, DpAll K G vs (bs.map .bool) → vs = bs.map V.bl
  | [], _, h => by cases h; rfl
  | b :: bs, _, h => by
    cases h with
    | cons h1 h2 =>
      cases h1
      rw [bools_dp h2]
      rfl
theorem op_allW : Op X.K f (rAll X.K) (allW fun bs => bs.all id) := fun F O G s σ H ps vs C Q R V w k => by
  unfold allW at w
  split at w
  · cases V with
    | cons v1 V =>
      cases V
      obtain ⟨bs, h1, h2⟩ := w
      obtain ⟨a, ws, rfl, hs, ha⟩ := v1.sl R.gh h1
      exact ⟨a, bs, rfl, by rw [← bools_dp ha]; exact hs, k _ _ _ _ h2 (Ex.refl G) R (vrf_dat (.bl _))⟩
  · exact w.elim
def reprW : List PV → (PV → Prop) → Prop := fun ps C => match ps with
  | [p] => ∃ d, p.frz = some d ∧ d.showable = true ∧ d.hasDict = false ∧ d.depth ≤ 100 ∧ d.shown.length ≤ sizeLine ∧ C (.dat (.str d.shown))
  | _ => False
theorem op_reprW : Op X.K f (rRepr X.K) reprW := fun F O G s σ H ps vs C Q R V w k => by
  unfold reprW at w
  split at w
  · cases V with
    | cons v1 V =>
      cases V
      obtain ⟨d, h1, h2, h3, h4, h5, h6⟩ := w
      exact ⟨_, d, rfl, v1.dp R.gh h1, h2, h3, h4, h5, k _ _ _ _ h6 (Ex.refl G) R (vrf_dat (.str _))⟩
  · exact w.elim
end
end Sk
set_option Elab.async false
set_option linter.all false
set_option maxRecDepth 100000
set_option maxHeartbeats 2000000
namespace Sk
open PySem PySem.Spec PyProof.Rows L2
open PySem.W (Datum DatumOrd Tup T3 T4)
open Evl (Ex)
section
variable {X : Cx} {f : Fr}
def rRepL (K : PySem.W.Frag) : R2 := fun x y H Q => ∃ l k xs, x = .ref l ∧ y = .int k ∧ SqL K H l xs ∧ -(2 ^ 63) ≤ k ∧ k < 2 ^ 63 ∧ xs.length * k.toNat ≤ sizeLine ∧ ∀ p, H p = none → Q (.ref p) (upd H p (.lst (List.replicate k.toNat xs).flatten))
theorem op_repL : OpR X (binaryOp .Mult) (rRepL X.K) := by
  intro pins s σ H x y v u Q I rx ry h
  obtain ⟨l, k, xs, rfl, rfl, hx, b1, b2, hz, q⟩ := h
  cases (show v = Value.ref l from rx)
  obtain ⟨t, rfl⟩ := (show ∃ t, u = Value.int k t from ry)
  obtain ⟨its, r, pl, _⟩ := I.list hx
  have l1 := r.length
  obtain ⟨⟨c1, d1, t1, z1⟩, g1, q1, m1, y1⟩ := pl.isList
  simp only at q1 y1
  subst q1 y1
  have sz : its.toArray.size * k.toNat ≤ 2 ^ 24 := by
    simp only [List.size_toArray]
    rw [← l1]
    exact hz
  have fit : ¬ (!Builtin.List.listFitsIndex k) = true := by simp [Builtin.List.listFitsIndex]; omega
  have lng : ¬ Builtin.List.listTooLong (its.toArray.size * k.toNat) = true := by simp [Builtin.List.listTooLong, sizeLine]; simpa using sz
  have inner := lm_list_mul_any l its.toArray m1 d1 z1 k t fit (by omega) lng
  have outer := lm_int_rmul_list_any k t l its.toArray m1 d1 z1
  refine wpAny_binaryOp_repeat_ref (T := "list") (U := "int") (by decide) ⟨_, g1, rfl⟩ (fun s' => typeIs_int s' k t)
    noFill_list_mul PySem.F.fills_int_mul PySem.F.slot_int_rmul
    repeat_list PySem.F.slot_int_index.lookup ?_
  refine call_meets PySem.F.slot_int_rmul (typeIs_int s k t) PySem.F.entry_int_rmul
    (PySem.F.args_int_rmul_2 _ _) outer ⟨g1, rfl, ⟨_, g1, rfl⟩, ?_⟩
  refine call_meets PySem.F.slot_list_mul ⟨_, g1, rfl⟩ PySem.F.entry_list_mul
    (PySem.F.args_list_mul_2 _ _) inner ⟨g1, ?_⟩
  have ea : List.foldl (fun x1 x2 => x1 ++ x2) #[] (List.replicate (if its.toArray.isEmpty = true then 0 else k.toNat) its.toArray) = (List.replicate k.toNat its).flatten.toArray := listMul_foldl_if ..
  rw [ea]
  exact ⟨V.ref s.heap.objs.size, _, I.lnew (t' := s.toks) (r.rep k.toNat) (by rw [PyProof.Rows.lm_len_rep_flat, Nat.mul_comm]; exact hz), rfl, q _ I.fresh⟩
def rAddAll (K : PySem.W.Frag) : R2 := fun x y H Q => (rI0 (fun i j => .int (i + j)) x y H Q) ∨ (∃ i j, x = .str i ∧ y = .str j ∧ i.length + j.length ≤ sizeLine ∧ Q (.str (i ++ j)) H) ∨ rCatL K x y H Q
theorem op_addAll : OpR X (binaryOp .Add) (rAddAll X.K) := by
  intro pins s σ H x y v u Q I rx ry h
  rcases h with h | h | h
  · exact op_add pins s σ H x y v u Q I rx ry h
  · exact op_add_str pins s σ H x y v u Q I rx ry h
  · exact op_catL pins s σ H x y v u Q I rx ry h
def addW : List PV → (PV → Prop) → Prop := fun ps C => match ps with
  | [.dat (.int i), .dat (.int j)] => C (.dat (.int (i + j)))
  | [.dat (.str a), .dat (.str b)] => a.length + b.length ≤ 100000 ∧ C (.dat (.str (a ++ b)))
  | [p, q] => ∃ ds es, p.lst = some ds ∧ q.lst = some es ∧ ds.length + es.length ≤ 100000 ∧ C (.own (ds ++ es))
  | _ => False
theorem op_addW : Op X.K f (op2 (rAddAll X.K)) addW := fun F O G s σ H ps vs C Q R V w k => by
  unfold addW at w
  split at w
  · cases V with
    | cons v1 V =>
      cases V with
      | cons v2 V =>
        cases V
        cases vr_int v1
        cases vr_int v2
        exact Or.inl ⟨_, _, rfl, rfl, k _ _ _ _ w (Ex.refl G) R (vrf_dat (.int _))⟩
  · cases V with
    | cons v1 V =>
      cases V with
      | cons v2 V =>
        cases V
        cases vr_str v1
        cases vr_str v2
        exact Or.inr (Or.inl ⟨_, _, rfl, rfl, Evl.sz_of w.1, k _ _ _ _ w.2 (Ex.refl G) R (vrf_dat (.str _))⟩)
  · cases V with
    | cons v1 V =>
      cases V with
      | cons v2 V =>
        cases V
        obtain ⟨ds, es, h1, h2, h3, h4⟩ := w
        obtain ⟨a, xs, rfl, s1, d1⟩ := v1.sl R.gh h1
        obtain ⟨b, ys, rfl, s2, d2⟩ := v2.sl R.gh h2
        exact Or.inr (Or.inr ⟨a, b, xs, ys, rfl, rfl, s1, s2, by rw [d1.len, d2.len]; exact Evl.sz_of h3, fun p hp => k _ _ _ _ h4 (Ex.refl G) (R.new hp) (R.own hp (d1.append d2))⟩)
  · exact w.elim
def rMulAll (K : PySem.W.Frag) : R2 := fun x y H Q => (rI CMulW (fun i j => .int (i * j)) x y H Q) ∨ rRepL K x y H Q
theorem op_mulAll : OpR X (binaryOp .Mult) (rMulAll X.K) := by
  intro pins s σ H x y v u Q I rx ry h
  rcases h with h | h
  · exact op_mulW pins s σ H x y v u Q I rx ry h
  · exact op_repL pins s σ H x y v u Q I rx ry h
def mulW' : List PV → (PV → Prop) → Prop := fun ps C => match ps with
  | [.dat (.int i), .dat (.int j)] => CMulW i j ∧ C (.dat (.int (i * j)))
  | [p, .dat (.int k)] => ∃ ds, p.lst = some ds ∧ k ≤ 100000 ∧ -100000 ≤ k ∧ ds.length * k.toNat ≤ 100000 ∧ C (.own (List.replicate k.toNat ds).flatten)
  | _ => False
theorem dpAll_rep {K : PySem.W.Frag} {G : Hp} {vs : List V} {ds : List PyData} (h : DpAll K G vs ds) : ∀ n, DpAll K G (List.replicate n vs).flatten (List.replicate n ds).flatten
  | 0 => .nil
  | n + 1 => by
    rw [List.replicate_succ, List.replicate_succ, List.flatten_cons, List.flatten_cons]
    exact h.append (dpAll_rep h n)
theorem op_mulW' : Op X.K f (op2 (rMulAll X.K)) mulW' := fun F O G s σ H ps vs C Q R V w k => by
  unfold mulW' at w
  split at w
  · cases V with
    | cons v1 V =>
      cases V with
      | cons v2 V =>
        cases V
        cases vr_int v1
        cases vr_int v2
        exact Or.inl ⟨_, _, rfl, rfl, w.1, k _ _ _ _ w.2 (Ex.refl G) R (vrf_dat (.int _))⟩
  · cases V with
    | cons v1 V =>
      cases V with
      | cons v2 V =>
        cases V
        cases vr_int v2
        obtain ⟨ds, h1, h2, h3, h4, h5⟩ := w
        obtain ⟨a, xs, rfl, s1, d1⟩ := v1.sl R.gh h1
        exact Or.inr ⟨a, _, xs, rfl, rfl, s1, by omega, by omega, by rw [d1.len]; exact Evl.sz_of h4, fun p hp => k _ _ _ _ h5 (Ex.refl G) (R.new hp) (R.own hp (dpAll_rep d1 _))⟩
  · exact w.elim
def cutD (ds : List PyData) (lo hi : Option Int) : List PyData := (ds.drop (HT.sIx ds.length 0 lo)).take (HT.sIx ds.length ds.length hi - HT.sIx ds.length 0 lo)
theorem cut_dp {K : PySem.W.Frag} {G : Hp} {vs : List V} {ds : List PyData} {lo hi : Option Int} (h : DpAll K G vs ds) : DpAll K G (cutV vs lo hi) (cutD ds lo hi) := by
  unfold cutV cutD
  rw [h.len]
  exact (h.drop _).take _
def rSlAll (K : PySem.W.Frag) : V → Option Int → Option Int → Hp → VK → Prop := fun x lo hi H Q => rSlS x lo hi H Q ∨ rSlA K x lo hi H Q ∨ rSlL K x lo hi H Q
theorem sl_all : SlR X (rSlAll X.K) := by
  intro pins s σ H x v vl vu lo hi sl Q I rx hs pl pu h
  rcases h with h | h | h
  · exact sl_str pins s σ H x v vl vu lo hi sl Q I rx hs pl pu h
  · exact sl_tupA pins s σ H x v vl vu lo hi sl Q I rx hs pl pu h
  · exact sl_list pins s σ H x v vl vu lo hi sl Q I rx hs pl pu h
@[simp] def slW (p : PV) (lo hi : Option Int) (C : PV → Prop) : Prop := match p with
  | .dat (.str z) => z.length ≤ sizeLine ∧ C (.dat (.str (cutS z lo hi)))
  | .dat (.tuple ds) => C (.dat (.tuple (cutD ds lo hi)))
  | .dat (.list ds) => C (.own (cutD ds lo hi))
  | .own ds => C (.own (cutD ds lo hi))
  | _ => False
abbrev HOp := Sg → (Option Int → Sg → Prop) → Prop
@[simp] def hNo : HOp := fun s C => C none s
@[simp] def hPt (t : HE) : HOp := fun s C => t s fun p s1 => ∃ i, p = .dat (.int i) ∧ C (some i) s1
def lfO (K : PySem.W.Frag) (f : Fr) (t : HOp) : TO := fun σ H Q => ∃ F O G s C, Rel K (fo f F O) G s σ H ∧ t s C ∧ ∀ o s' G' H', C o s' → Ex G G' → Rel K (fo f F O) G' s' σ H' → Q o H'
theorem _root_.L2.PO.mono {e : Option Expr} {t t' : TO} (h : PO X e t) (m : ∀ σ H Q, t' σ H Q → t σ H Q) : PO X e t' := ⟨fun pins s σ H Q I q => h.run pins s σ H Q I (m σ H Q q)⟩
theorem ho_none : PO X none (lfO X.K f hNo) := po_none.mono fun σ H Q q => by
  obtain ⟨F, O, G, s, C, R, ht, k⟩ := q
  exact k _ _ _ _ ht (Ex.refl G) R
theorem ho_some {e : Expr} {t : HE} (h : PE X e (lf X.K f t)) : PO X (some e) (lfO X.K f (hPt t)) := (po_some h).mono fun σ H Q q => by
  obtain ⟨F, O, G, s, C, R, ht, k⟩ := q
  refine ⟨F, O, G, s, _, R, ht, fun p s1 G1 H1 v c1 e1 R1 V1 => ?_⟩
  obtain ⟨i, rfl, c2⟩ := c1
  exact ⟨i, vr_int V1.1, k _ _ _ _ c2 e1 R1⟩
@[simp] def hSl (j : Nat) (tl th : HOp) : HE := fun s C => (∃ p, s.sl[j]? = some (some p)) ∧ tl s fun lo s1 => th s1 fun hi s2 => ∃ p, s2.sl[j]? = some (some p) ∧ slW p lo hi fun q => C q s2
theorem op_slW {F : Fr} {O : Addr → Prop} {G H : Hp} {s : Sg} {σ : L2.St} {p : PV} {v : V} {lo hi : Option Int} {C : PV → Prop} {Q : VK} (R : Rel X.K (fo f F O) G s σ H) (V : VR X.K (fo f F O) G H p v) (w : slW p lo hi C)
    (k : ∀ p G' H' v, C p → Ex G G' → Rel X.K (fo f F O) G' s σ H' → VRf X.K (fo f F O) G' H' s σ p v → Q v H') : rSlAll X.K v lo hi H Q := by
  unfold slW at w
  split at w
  · cases vr_str V
    exact Or.inl ⟨_, rfl, w.1, k _ _ _ _ w.2 (Ex.refl G) R (vrf_dat (.str _))⟩
  · rename_i ds
    have V : Dp X.K G v (.tuple ds) := V
    cases V with
    | tup hs ha =>
      refine Or.inr (Or.inl ⟨_, _, rfl, Evl.ex_t R.gh hs, fun e => ?_, fun e p hp => k _ _ _ _ w (Evl.Ex.new (R.gn hp)) (R.newG hp) (vrf_dat (.tup (Or.inl (Or.inl upd_same)) (Dp.exAll (Evl.Ex.new (R.gn hp)) _ (cut_dp ha))))⟩)
      have : cutD ds lo hi = ds := by
        unfold cutD
        rw [← ha.len, e.1, e.2]
        simp [ha.len]
      rw [this] at w
      exact k _ _ _ _ w (Ex.refl G) R (vrf_dat (.tup hs ha))
  · rename_i ds
    have V : Dp X.K G v (.list ds) := V
    cases V with
    | lst hs ha => exact Or.inr (Or.inr ⟨_, _, rfl, Evl.ex_l R.gh hs, fun p hp => k _ _ _ _ w (Ex.refl G) (R.new hp) (R.own hp (cut_dp ha))⟩)
  · obtain ⟨a, vs, rfl, h1, h2, h3, h4, h5⟩ := V
    exact Or.inr (Or.inr ⟨_, _, rfl, Or.inl (Or.inl h1), fun p hp => k _ _ _ _ w (Ex.refl G) (R.new hp) (R.own hp (cut_dp h5))⟩)
  · exact w.elim
theorem hp_sl {e : Expr} {j : Nat} {lo hi : Option Expr} {tl th : HOp} {p2 pos : Pos} (h : PE X e (tVar j)) (hl : PO X lo (lfO X.K f tl)) (hh : PO X hi (lfO X.K f th)) : PE X (.Subscript e (.Slice lo hi none p2) pos) (lf X.K f (hSl j tl th)) := (pe_slice sl_all h hl hh).mono fun σ H Q q => by
  obtain ⟨F, O, G, s, C, R, ⟨⟨p, hp⟩, ht⟩, k⟩ := q
  obtain ⟨v, hv, _⟩ := R.sl j p hp
  refine ⟨v, hv, F, O, G, s, _, R, ht, fun lo s1 G1 H1 c1 e1 R1 => ⟨F, O, G1, s1, _, R1, c1, fun hi s2 G2 H2 c2 e2 R2 => ?_⟩⟩
  obtain ⟨p2, hp2, c3⟩ := c2
  obtain ⟨v2, hv2, V2⟩ := R2.sl j p2 hp2
  rw [hv] at hv2
  cases hv2
  exact op_slW R2 V2 c3 fun p G3 H3 v c e3 R3 V3 => k _ _ _ _ _ c ((e1.trans e2).trans e3) R3 V3
end
end Sk
set_option Elab.async false
set_option linter.all false
set_option maxRecDepth 100000
set_option maxHeartbeats 2000000
namespace Sk
open PySem PySem.Spec PyProof.Rows L2
open PySem.W (Datum DatumOrd Tup T3 T4)
open Evl (Ex)
class Srt (α : Type) [DecidableEq α] [DatumOrd α] : Prop extends OrdL α where
  kind : (∀ a : α, ∃ x r, (Datum.toD a) = PyData.tuple (x :: r)) ∨ ∀ a : α, (Datum.toD a) ≠ PyData.none ∧ ∀ xs, (Datum.toD a) ≠ PyData.tuple xs
instance : Srt Int where
  kind := Or.inr fun a => ⟨fun z => (by cases z), fun xs (z : PyData.int a = _) => (by cases z)⟩
instance : Srt Str where
  kind := Or.inr fun a => ⟨fun z => (by cases z), fun xs (z : PyData.str a = _) => (by cases z)⟩
instance {α β : Type} [DecidableEq α] [DatumOrd α] [DecidableEq β] [DatumOrd β] [OrdL α] [OrdL β] : Srt (α × β) where
  kind := Or.inl fun a => ⟨_, _, rfl⟩
section
variable {X : Cx} {f : Fr}
theorem each_of {K : PySem.W.Frag} {H : Hp} {α : Type} [DecidableEq α] [Datum α] : ∀ {ws : List V} {xs : List α} {us : List Value}, DpAll K H ws (xs.map Datum.toD) → Vals ws us → PySem.W.EachIs (fun v b => ∃ x : V, RelV x v ∧ Dp K H x (Datum.toD b)) us xs
  | _, [], _, h, r => by cases h; cases r; exact .nil
  | _, x :: xs, _, h, r => by
    cases h with
    | cons h1 h2 =>
      cases r with
      | cons r1 r2 => exact .cons ⟨_, r1, h1⟩ (each_of h2 r2)
theorem of_each {K : PySem.W.Frag} {H : Hp} {α : Type} [DecidableEq α] [Datum α] : ∀ {us : List Value} {xs : List α}, PySem.W.EachIs (fun v b => ∃ x : V, RelV x v ∧ Dp K H x (Datum.toD b)) us xs → ∃ ws, Vals ws us ∧ DpAll K H ws (xs.map Datum.toD)
  | _, _, .nil => ⟨[], .nil, .nil⟩
  | _, _, .cons ⟨x, r, h⟩ t => by
    obtain ⟨ws, h1, h2⟩ := of_each t
    exact ⟨x :: ws, .cons r h1, .cons h h2⟩
def sortA (α : Type) [DecidableEq α] [DatumOrd α] : List PV → (PV → Prop) → Prop := fun ps C => match ps with
  | [p] => ∃ xs : List α, p.lst = some (xs.map Datum.toD) ∧ C (.own ((sortL xs).map Datum.toD))
  | _ => False
def rSortG (α : Type) [DecidableEq α] [DatumOrd α] (K : PySem.W.Frag) : List V → Hp → VK → Prop := fun vs H Q => ∃ (G : Hp) (a : Addr) (ws : List V) (xs : List α), Ex G H ∧ vs = [.ref a] ∧ SqL K H a ws ∧ DpAll K G ws (xs.map Datum.toD) ∧ ∀ ys p, DpAll K G ys ((sortL xs).map Datum.toD) → H p = none → Q (.ref p) (upd H p (.lst ys))
theorem cr_sortG {α : Type} [DecidableEq α] [DatumOrd α] [Srt α] (hu : X.A.units + 64 < cLine) (hd : Datum.depth α ≤ 50) : CallR X (.builtin "sorted") (rSortG α X.K) := by
  intro pins s σ H vs us Q I r h
  obtain ⟨G, a, ws, xs, gh, rfl, hs, hv, q⟩ := h
  obtain ⟨its, rv, hl, hz⟩ := I.list hs
  rw [Vals.ref1 r]
  have e := each_of hv rv
  have er : PySem.W.EachIs (fun v (b : α) => ∃ as, Reads s.heap v (Datum.toD b) as) its xs := e.mono fun v b ⟨x, r1, d1⟩ => Dp.reads I _ _ _ (Dp.ex gh _ d1) r1
  have lx : xs.length = its.length := by
    have := hv.len
    have := rv.length
    simp at *
    omega
  have big : xs.length ≤ sizeLine := by
    have := rv.length
    omega
  refine PySem.W.sorted_data hl.isList e er (PySem.W.AllAlike.of fun a b => DatumOrd.alike a b) ?_ big (fun b _ => ?_) fun out h1 h2 => ?_
  · rcases (Srt.kind (α := α)) with k | k
    · exact PySem.W.Sortable.tuples k
    · exact PySem.W.Sortable.others k
  · have := Datum.depth_le b
    omega
  · obtain ⟨ys, v2, d2⟩ := of_each h2
    obtain ⟨ep, he⟩ := PyProof.Rows.sortedAll_at s.heap its out.toArray
    have same : (PySem.W.dataLe false (Datum.toD : α → PyData)) = leD := by
      funext a b
      rw [PySem.W.dataLe_eq]
      show (!PySem.W.dataLt (Datum.toD b) (Datum.toD a)) = !DatumOrd.lt b a
      rw [DatumOrd.lt_eq]
    rw [same] at d2
    have l2 : ys.length ≤ sizeLine := by
      have := v2.length
      omega
    exact ⟨.ref _, upd H (s.heap.objs.size + 1) (.lst ys), I.laid (t' := s.toks) (fun _ _ => PyProof.Rows.sortedAll_old) (Nat.le_succ _) ⟨l2, out, ep, v2, he⟩, rfl, q ys _ d2 (I.hok.fresh (Nat.le_succ _))⟩
theorem op_sortA {α : Type} [DecidableEq α] [DatumOrd α] : Op X.K f (rSortG α X.K) (sortA α) := fun F O G s σ H ps vs C Q R V w k => by
  unfold sortA at w
  split at w
  · cases V with
    | cons v1 V =>
      cases V
      obtain ⟨xs, h1, h2⟩ := w
      obtain ⟨a, ws, rfl, hs, ha⟩ := v1.sl R.gh h1
      exact ⟨G, a, ws, xs, R.gh, rfl, hs, ha, fun ys p dy hp => k _ _ _ _ h2 (Ex.refl G) (R.new hp) (R.own hp dy)⟩
  · exact w.elim
def sortUA (α : Type) [DecidableEq α] [DatumOrd α] (b : Nat) : List PV → (PV → Prop) → Prop := fun ps C => match ps with
  | [p] => ∃ xs : List α, p.seq = some (xs.map Datum.toD) ∧ xs.length < b ∧ C (.own ((sortU xs).map Datum.toD))
  | _ => False
def rSSS (K : PySem.W.Frag) : V → Hp → VK → Prop := fun x H1 Q => ∃ (a : Addr) (ns : List Str), x = .ref a ∧ Sq K H1 a (ns.map V.str) ∧ ns.length < 4000 ∧ ∀ (ms : List Str) (p : Addr), ms.Pairwise slt → (∀ k, k ∈ ms ↔ k ∈ ns) → H1 p = none → Q (.ref p) (upd H1 p (.lst (ms.map V.str)))
def rSST (K : PySem.W.Frag) : V → Hp → VK → Prop := fun x H1 Q => ∃ (T : List Key → V → Prop) (a : Addr) (xs : List V) (ks : List (List Key)) (sh : Nat → Bool), (∀ k y, T k y → TupV K H1 k y) ∧ x = .ref a ∧ Sq K H1 a xs ∧ Paired T ks xs ∧ ks.length < 64 ∧ (∀ k ∈ ks, Shape sh k ∧ k ≠ []) ∧
  ∀ (ls : List (List Key)) (ys : List V) (p : Addr), ls.Nodup → ls.Pairwise tle → (∀ k, k ∈ ls ↔ k ∈ ks) → Paired T ls ys → H1 p = none → Q (.ref p) (upd H1 p (.lst ys))
theorem op_sortUS : Op X.K f (op1 (rSSS X.K)) (sortUA Str 4000) := fun F O G s σ H ps vs C Q R V w k => by
  unfold sortUA at w
  split at w
  · cases V with
    | cons v1 V =>
      cases V
      obtain ⟨xs, h1, hl, h2⟩ := w
      obtain ⟨a, ws, rfl, hs, ha⟩ := v1.sq R.gh h1
      have e := strs_dpAll ha
      subst e
      refine ⟨a, xs, rfl, hs, hl, fun ms p hp hm hn => k _ _ _ _ h2 (Ex.refl G) (R.new hn) (R.own hn ?_)⟩
      have : ms = sortU xs := sortU_eq (List.Pairwise.imp (fun {a b} h => decide_eq_true h) hp) hm
      subst this
      exact dpAll_strs _
  · exact w.elim
end
class FK (α : Type) [DecidableEq α] [DatumOrd α] where
  key : α → Key
  rt : Bool
  inj : ∀ a b, key a = key b → a = b
  isR : ∀ a, (key a).isRight = rt
  toV : ∀ (K : PySem.W.Frag) (G : Hp) (v : V) (a : α), Dp K G v (Datum.toD a) → v = kV (key a)
  ofV : ∀ (K : PySem.W.Frag) (G : Hp) (a : α), Dp K G (kV (key a)) (Datum.toD a)
  ltk : ∀ a b : α, PyProof.Rows.lexLt itemOrd [kc (key a)] [kc (key b)] = DatumOrd.lt a b
instance : FK Int where
  key := .inl
  rt := false
  inj := fun a b h => Sum.inl.inj h
  isR := fun _ => rfl
  toV := fun K G v a h => by cases (show Dp K G v (.int a) from h); rfl
  ofV := fun K G a => .int a
  ltk := fun a b => by rw [← DatumOrd.lt_eq]; show _ = PySem.W.dataLt (.int a) (.int b); simp only [PySem.W.dataLt, PySem.W.keyToks, kc]
instance : FK Str where
  key := .inr
  rt := true
  inj := fun a b h => Sum.inr.inj h
  isR := fun _ => rfl
  toV := fun K G v a h => by cases (show Dp K G v (.str a) from h); rfl
  ofV := fun K G a => .str a
  ltk := fun a b => by rw [← DatumOrd.lt_eq]; show _ = PySem.W.dataLt (.str a) (.str b); simp only [PySem.W.dataLt, PySem.W.keyToks, kc]
section
variable {X : Cx} {f : Fr} {α β : Type} [DecidableEq α] [DatumOrd α] [DecidableEq β] [DatumOrd β] [FK α] [FK β] [OrdL α] [OrdL β]
def pk (p : α × β) : List Key := [FK.key p.1, FK.key p.2]
theorem pk_inj {p q : α × β} (h : pk p = pk q) : p = q := by
  unfold pk at h
  injection h with h1 h2
  injection h2 with h2 _
  exact Prod.ext (FK.inj _ _ h1) (FK.inj _ _ h2)
theorem kc_inj {a b : Key} (h : kc a = kc b) : a = b := by
  cases a <;> cases b <;> simp [kc] at h
  · exact congrArg _ h
  · exact congrArg _ (PySem.W.str_of_cps (by rw [h]))
theorem pk_lt (p q : α × β) : PyProof.Rows.lexLt itemOrd ((pk p).map kc) ((pk q).map kc) = DatumOrd.lt p q := by
  show PyProof.Rows.lexLt itemOrd [kc (FK.key p.1), kc (FK.key p.2)] [kc (FK.key q.1), kc (FK.key q.2)] = if p.1 = q.1 then DatumOrd.lt p.2 q.2 else DatumOrd.lt p.1 q.1
  by_cases e : p.1 = q.1
  · rw [if_pos e, e, lex_self (O := itemOrd), FK.ltk]
  · rw [if_neg e, PySem.W.lex_atom (fun z => e (FK.inj _ _ (kc_inj z))), FK.ltk]
theorem op_sortUT : Op X.K f (op1 (rSST X.K)) (sortUA (α × β) 64) := fun F O G s σ H ps vs C Q R V w k => by
  unfold sortUA at w
  split at w
  · cases V with
    | cons v1 V =>
      cases V
      obtain ⟨xs, h1, hl, h2⟩ := w
      obtain ⟨a, ws, rfl, hs, ha⟩ := v1.sq R.gh h1
      let T : List Key → V → Prop := fun k y => ∃ p : α × β, k = pk p ∧ Dp X.K G y (Datum.toD p)
      have hT : ∀ k y, T k y → TupV X.K H k y := fun k y ⟨p, e, d⟩ => by
        have d : Dp X.K G y (.tuple [Datum.toD p.1, Datum.toD p.2]) := d
        cases d with
        | tup hs ha =>
          cases ha with
          | cons d1 t =>
            cases t with
            | cons d2 t =>
              cases t
              have e1 := FK.toV _ _ _ _ d1
              have e2 := FK.toV _ _ _ _ d2
              subst e1 e2 e
              exact ⟨_, rfl, Evl.ex_t R.gh hs⟩
      have hp : Paired T (xs.map pk) ws := by
        clear h1 hl h2 hs
        induction xs generalizing ws with
        | nil => cases ha; exact .nil
        | cons x xs ih =>
          cases ha with
          | cons d t => exact .cons ⟨x, rfl, d⟩ (ih _ t)
      refine ⟨T, a, ws, xs.map pk, fun i => if i = 0 then FK.rt α else FK.rt β, hT, rfl, hs, hp, by simpa using hl, fun q hq => ?_, fun ls ys p nd up mem pr hn => k _ _ _ _ h2 (Ex.refl G) (R.new hn) (R.own hn ?_)⟩
      · obtain ⟨x, _, rfl⟩ := List.mem_map.mp hq
        refine ⟨fun i y hy => ?_, by simp [pk]⟩
        match i, hy with
        | 0, hy => simp [pk] at hy; subst hy; simp [FK.isR]
        | 1, hy => simp [pk] at hy; subst hy; simp [FK.isR]
        | i + 2, hy => simp [pk] at hy
      · have form : ∀ L' : List (List Key), (∀ q ∈ L', ∃ x : α × β, q = pk x) → ∃ ms : List (α × β), L' = ms.map pk := by
          intro L'
          induction L' with
          | nil => intro _; exact ⟨[], rfl⟩
          | cons q r ih =>
            intro hq
            obtain ⟨x, rfl⟩ := hq q List.mem_cons_self
            obtain ⟨ms, rfl⟩ := ih fun j hj => hq j (List.mem_cons_of_mem _ hj)
            exact ⟨x :: ms, rfl⟩
        obtain ⟨ms, rfl⟩ := form ls fun q hq => by
          obtain ⟨x, _, e⟩ := List.mem_map.mp ((mem q).mp hq)
          exact ⟨x, e.symm⟩
        have nd2 : ms.Nodup := List.Pairwise.imp (fun h e => h (congrArg _ e)) (List.pairwise_map.mp nd)
        have up2 : ms.Pairwise fun a b => leD a b = true := List.Pairwise.imp (fun {a b} (h : tle (pk a) (pk b)) => by
          unfold tle at h
          rw [pk_lt] at h
          unfold leD
          rw [h]
          rfl) (List.pairwise_map.mp up)
        have mem2 : ∀ m, m ∈ ms ↔ m ∈ xs := fun m => by
          have z := mem (pk m)
          constructor
          · intro hm
            obtain ⟨x, hx, e⟩ := List.mem_map.mp (z.mp (List.mem_map.mpr ⟨m, hm, rfl⟩))
            rw [← pk_inj e]; exact hx
          · intro hm
            obtain ⟨x, hx, e⟩ := List.mem_map.mp (z.mpr (List.mem_map.mpr ⟨m, hm, rfl⟩))
            rw [← pk_inj e]; exact hx
        have e : ms = sortU xs := sortU_eq (rising_of up2 nd2) mem2
        rw [← e]
        clear e mem2 up2 nd2 form mem up nd
        induction ms generalizing ys with
        | nil => cases pr; exact .nil
        | cons m ms ih =>
          cases pr with
          | cons t r =>
            obtain ⟨p', e, d⟩ := t
            rw [← pk_inj e] at d
            exact .cons d (ih _ r)
  · exact w.elim
theorem hp_sortUT {a : Expr} {oa : HA → HA} {p p2 q pos : Pos} (hc : X.calm = true) (hu : X.A.units + 64 < cLine) (hg : Gl X "sorted") (hm : X.mg "sorted" = none) (hg2 : Gl X "set") (hm2 : X.mg "set" = none) (A : Opd X f a oa)
    (na : starEach [a] X.env = (false, eval a X.env) :: starEach [] X.env := by rfl) : PE X (.Call (.Name "sorted" p) [.Call (.Name "set" p2) [a] [] q] [] pos) (lf X.K f (hC (sortUA (α × β) 64) (oa hNil))) := by
  obtain ⟨t, h1, h2⟩ := A.ex
  refine (pe_sortSetT hc hu hg hm hg2 hm2 h1 na).mono fun σ H Q w => ?_
  have z := h2 tNil hNil (fun σ H Q q => by
    obtain ⟨F, O, G, s, C, R, ht, k⟩ := q
    exact k _ _ _ _ _ ht (Ex.refl G) R .nil) σ H _ ((op_sortUT (X := X) (f := f) (α := α) (β := β)).lift _ σ H Q w)
  exact z
end
section
variable {X : Cx} {f : Fr}
theorem hp_sortUS {a : Expr} {oa : HA → HA} {p p2 q pos : Pos} (hc : X.calm = true) (hu : X.A.units + 64 < cLine) (hg : Gl X "sorted") (hm : X.mg "sorted" = none) (hg2 : Gl X "set") (hm2 : X.mg "set" = none) (A : Opd X f a oa)
    (na : starEach [a] X.env = (false, eval a X.env) :: starEach [] X.env := by rfl) : PE X (.Call (.Name "sorted" p) [.Call (.Name "set" p2) [a] [] q] [] pos) (lf X.K f (hC (sortUA Str 4000) (oa hNil))) := by
  obtain ⟨t, h1, h2⟩ := A.ex
  refine (pe_sortSetS hc hu hg hm hg2 hm2 h1 na).mono fun σ H Q w => ?_
  have z := h2 tNil hNil (fun σ H Q q => by
    obtain ⟨F, O, G, s, C, R, ht, k⟩ := q
    exact k _ _ _ _ _ ht (Ex.refl G) R .nil) σ H _ ((op_sortUS (X := X) (f := f)).lift _ σ H Q w)
  exact z
end
end Sk
set_option Elab.async false
set_option linter.all false
set_option maxRecDepth 100000
set_option maxHeartbeats 2000000
namespace Sk
open PySem PySem.Spec PyProof.Rows L2
open PySem.W (Datum DatumOrd Tup T3 T4)
open Evl (Ex)
section
variable {K : PySem.W.Frag} {f : Fr} {F : Fr} {O : Addr → Prop} {G H : Hp} {s : Sg} {σ : L2.St}
theorem Rel.poke {j : Nat} {q p : PV} {a : Addr} {u o : HO} (R : Rel K (fo f F O) G s σ H) (hj : s.sl[j]? = some (some q)) (hm : q.mut = true) (hs : σ[j]? = some (some (.ref a))) (ha : H a = some u) (ga : G a = none) (oa : ¬ O a) (fa : F.F a = none ∨ F.M a)
    (V : VR K (fo f F O) G (upd H a o) p (.ref a)) : Rel K (fo f F O) G (s.put j p) σ (upd H a o) := by
  have jl : j < s.sl.length := (List.getElem?_eq_some_iff.mp hj).1
  exact {
    gh := fun b u h => by rw [upd_ne (fun z => by rw [z, ga] at h; cases h)]; exact R.gh b u h
    fh := fun b u m h => by
      have ne : b ≠ a := fun z => by
        subst z
        rcases fa with fa | fa
        · rw [show F.F b = some u from h] at fa; cases fa
        · exact m fa
      rw [upd_ne ne]; exact R.fh b u m h
    go := R.go
    oh := fun b h => by
      have ne : b ≠ a := fun z => oa (by rw [← z]; exact h)
      rw [upd_ne ne]; exact R.oh b h
    mh := fun b h => by
      by_cases e : b = a
      · subst e; rw [upd_same]; intro z; cases z
      · rw [upd_ne e]; exact R.mh b h
    mo := R.mo
    tm := R.tm
    tb := fun p hp => (R.tb p hp).keep (fun _ _ _ z => z) (upd_ne fun e => oa (e ▸ (R.tm p hp).1))
    pk := R.pk
    dr := fun h => by
      obtain ⟨x, y, z, _⟩ := R.mo h
      exact (R.dr h).keep (upd_ne fun e => oa (e ▸ x)) (upd_ne fun e => oa (e ▸ y)) (upd_ne fun e => oa (e ▸ z))
    ln := by simp only [Sg.put, List.length_set]; exact R.ln
    sl := fun i r hr => by
      rcases set_get hr with ⟨e, e2, hl⟩ | ⟨e, h2⟩
      · cases e2
        subst e
        exact ⟨_, hs, V⟩
      · obtain ⟨w, hw, hv⟩ := R.sl i r h2
        refine ⟨w, hw, ?_⟩
        cases r with
        | dat d => exact hv
        | drw => exact hv
        | val _ => exact hv
        | dgf _ => exact hv
        | abs _ => exact hv
        | own ds =>
          obtain ⟨b, ws, rfl, k1, k2, k3, k4, k5⟩ := hv
          have ne : b ≠ a := fun z => R.ds j i q _ _ e hj h2 hm rfl hs (by rw [hw, z])
          exact ⟨b, ws, rfl, by rw [upd_ne ne]; exact k1, k2, k3, k4, k5⟩
        | byr ds =>
          obtain ⟨b, ws, rfl, k1, k2, k3, k4, k5, k6⟩ := hv
          have ne : b ≠ a := fun z => R.ds j i q _ _ e hj h2 hm rfl hs (by rw [hw, z])
          exact ⟨b, ws, rfl, by rw [upd_ne ne]; exact k1, k2, k3, k4, k5, k6⟩
        | dcg ds =>
          obtain ⟨b, ws, rfl, k1, k2, k3, k4, k5⟩ := hv
          have ne : b ≠ a := fun z => R.ds j i q _ _ e hj h2 hm rfl hs (by rw [hw, z])
          exact ⟨b, ws, rfl, by rw [upd_ne ne]; exact k1, k2, k3, k4, k5⟩
        | dct ds =>
          obtain ⟨b, ws, rfl, k1, k2, k3, k4, k5, k6⟩ := hv
          have ne : b ≠ a := fun z => R.ds j i q _ _ e hj h2 hm rfl hs (by rw [hw, z])
          exact ⟨b, ws, rfl, by rw [upd_ne ne]; exact k1, k2, k3, k4, k5, k6⟩
    ds := fun x y pa pb w ne hx hy mx my wx wy => by
      rcases set_get hx with ⟨e, e2, hl⟩ | ⟨e, h2⟩
      · cases e2
        subst e
        rcases set_get hy with ⟨e', e2', _⟩ | ⟨e', h2'⟩
        · exact ne e'
        · exact R.ds _ y q pb w ne hj h2' hm my wx wy
      · rcases set_get hy with ⟨e', e2', _⟩ | ⟨e', h2'⟩
        · cases e2'
          subst e'
          exact R.ds x _ pa q w ne h2 hj mx hm wx wy
        · exact R.ds x y pa pb w ne h2 h2' mx my wx wy }
end
@[simp] def hApp (j : Nat) (t : HE) : HE := fun s C => (∃ ds, s.sl[j]? = some (some (.own ds))) ∧ t s fun p s1 => ∃ x ds, p.frz = some x ∧ s1.sl[j]? = some (some (.own ds)) ∧ ds.length < 100000 ∧ C (.dat .none) (s1.put j (.own (ds ++ [x])))
@[simp] def hPop (j : Nat) : HE := fun s C => ∃ ds d, s.sl[j]? = some (some (.own ds)) ∧ ds[ds.length - 1]? = some d ∧ C (.dat d) (s.put j (.own ds.dropLast))
@[simp] def hSetL (j : Nat) (t ti : HE) : HS := fun D s => t s fun p s1 => ∃ x, p.frz = some x ∧ (∃ ds, s1.sl[j]? = some (some (.own ds))) ∧ ti s1 fun q s2 => ∃ k n ds, q = .dat (.int k) ∧ s2.sl[j]? = some (some (.own ds)) ∧ ixN ds.length k = some n ∧ D.nx (s2.put j (.own (ds.set n x)))
@[simp] def keyD : PyData → Option Key
  | .int i => some (.inl i)
  | .str x => some (.inr x)
  | _ => none
def putD (kvs : List (Key × PyData)) (k : Key) (d : PyData) : List (Key × PyData) := if (kvs.any fun kv => decide (kv.1 = k)) = true then kvs.map (fun kv => if kv.1 = k then (kv.1, d) else kv) else kvs ++ [(k, d)]
def mergeD (kvs more : List (Key × PyData)) : List (Key × PyData) := more.foldl (fun acc kv => putD acc kv.1 kv.2) kvs
@[simp] def hDnew : HE := fun s C => C (.dct []) s
@[simp] def hDput (j : Nat) (t ti : HE) : HS := fun D s => t s fun p s1 => ∃ x, p.frz = some x ∧ (∃ kvs, s1.sl[j]? = some (some (.dct kvs))) ∧ ti s1 fun q s2 => ∃ d k kvs, q = .dat d ∧ keyD d = some k ∧ s2.sl[j]? = some (some (.dct kvs)) ∧ kvs.length < 100000 ∧ D.nx (s2.put j (.dct (putD kvs k x)))
section
variable {K : PySem.W.Frag} {G : Hp}
def KVD (K : PySem.W.Frag) (G : Hp) (ws : List (Key × V)) (kvs : List (Key × PyData)) : Prop := ws.map (·.1) = kvs.map (·.1) ∧ DpAll K G (ws.map (·.2)) (kvs.map (·.2))
theorem KVD.nil : KVD K G [] [] := ⟨rfl, .nil⟩
theorem KVD.cons_inv {ws : List (Key × V)} {k : Key} {d : PyData} {kvs : List (Key × PyData)} (h : KVD K G ws ((k, d) :: kvs)) : ∃ v r, ws = (k, v) :: r ∧ Dp K G v d ∧ KVD K G r kvs := by
  obtain ⟨h1, h2⟩ := h
  match ws, h1, h2 with
  | (k', v) :: r, h1, h2 =>
    simp only [List.map_cons, List.cons.injEq] at h1
    obtain ⟨e1, e2⟩ := h1
    subst e1
    cases h2 with
    | cons a b => exact ⟨v, r, rfl, a, e2, b⟩
theorem KVD.cons {v : V} {k : Key} {d : PyData} {r : List (Key × V)} {kvs : List (Key × PyData)} (h : Dp K G v d) (t : KVD K G r kvs) : KVD K G ((k, v) :: r) ((k, d) :: kvs) := ⟨by simp [t.1], .cons h t.2⟩
theorem KVD.any {k : Key} : ∀ {kvs : List (Key × PyData)} {ws : List (Key × V)}, KVD K G ws kvs → (ws.any fun kv => decide (kv.1 = k)) = (kvs.any fun kv => decide (kv.1 = k))
  | [], ws, h => by
    have : ws = [] := by
      have := congrArg List.length h.1
      simpa using this
    subst this; rfl
  | (k', d) :: kvs, ws, h => by
    obtain ⟨v, r, rfl, _, t⟩ := h.cons_inv
    simp [KVD.any t]
theorem KVD.map {k : Key} {v : V} {d : PyData} (hd : Dp K G v d) : ∀ {kvs : List (Key × PyData)} {ws : List (Key × V)}, KVD K G ws kvs → KVD K G (ws.map fun kv => if kv.1 = k then (kv.1, v) else kv) (kvs.map fun kv => if kv.1 = k then (kv.1, d) else kv)
  | [], ws, h => by
    have : ws = [] := by
      have := congrArg List.length h.1
      simpa using this
    subst this; exact .nil
  | (k', d') :: kvs, ws, h => by
    obtain ⟨v', r, rfl, h1, t⟩ := h.cons_inv
    by_cases e : k' = k
    · simp only [List.map_cons, e, if_true]
      exact .cons hd (KVD.map hd t)
    · simp only [List.map_cons, e, if_false]
      exact .cons h1 (KVD.map hd t)
theorem KVD.snoc {k : Key} {v : V} {d : PyData} (hd : Dp K G v d) {kvs : List (Key × PyData)} {ws : List (Key × V)} (h : KVD K G ws kvs) : KVD K G (ws ++ [(k, v)]) (kvs ++ [(k, d)]) := ⟨by simp [h.1], by simp only [List.map_append]; exact h.2.append (.cons hd .nil)⟩
theorem KVD.put {k : Key} {v : V} {d : PyData} (hd : Dp K G v d) {kvs : List (Key × PyData)} {ws : List (Key × V)} (h : KVD K G ws kvs) : KVD K G (putK ws k v) (putD kvs k d) := by
  unfold putK putD
  rw [KVD.any h]
  split
  · exact h.map hd
  · exact h.snoc hd
theorem KVD.merge : ∀ {more : List (Key × PyData)} {mw : List (Key × V)} {kvs : List (Key × PyData)} {ws : List (Key × V)}, KVD K G ws kvs → KVD K G mw more → KVD K G (mergeK ws mw) (mergeD kvs more)
  | [], mw, kvs, ws, h, m => by
    have : mw = [] := by
      have := congrArg List.length m.1
      simpa using this
    subst this; exact h
  | (k, d) :: more, mw, kvs, ws, h, m => by
    obtain ⟨v, r, rfl, h1, t⟩ := m.cons_inv
    exact (show KVD K G (mergeK (putK ws k v) r) (mergeD (putD kvs k d) more) from KVD.merge (h.put h1) t)
theorem key_dp {v : V} {d : PyData} {k : Key} (h : Dp K G v d) (e : keyD d = some k) : v = kV k := by
  cases h with
  | int i => cases e; rfl
  | str x => cases e; rfl
  | _ => cases e
end
section
variable {X : Cx} {f : Fr} {e o a : Expr} {t ti : HE} {x : Str} {apos cpos pos p : Pos}
theorem hp_app {j : Nat} (he : PE X e (lf X.K f t)) (h : ∀ {ta : TA}, PA X [e] ta → PE X a (tBM X.K "list" rAppend (tVar j) ta)) (hs : starEach [e] X.env = (false, eval e X.env) :: starEach [] X.env := by rfl) : PE X a (lf X.K f (hApp j t)) := (h (pa_cons he pa_nil hs)).mono fun σ H Q q => by
  obtain ⟨F, O, G, s, C, R, ⟨⟨ds0, hj⟩, ht⟩, k⟩ := q
  obtain ⟨v, hv, V⟩ := R.sl j _ hj
  obtain ⟨b, ws, rfl, k1, k2, k3, k4, k5⟩ := V
  refine ⟨_, hv, Or.inl ⟨rfl, ws, Or.inl (Or.inl k1)⟩, F, O, G, s, _, R, ht, fun p s1 G1 H1 y c1 e1 R1 V1 => ?_⟩
  obtain ⟨x, ds, hx, hj1, hl, c2⟩ := c1
  obtain ⟨G2, e2, R2, V2⟩ := R1.frz V1 hx
  obtain ⟨v', hv', V'⟩ := R2.sl j _ hj1
  rw [hv] at hv'
  cases hv'
  obtain ⟨b', ws', eb, m1, m2, m3, m4, m5⟩ := V'
  cases eb
  refine ⟨_, ws', y, rfl, rfl, m1, by rw [m5.len]; exact Evl.sz_lt hl, k _ _ _ _ _ c2 (e1.trans e2) ?_ (vrf_dat .non)⟩
  exact R2.poke hj1 rfl hv m1 m2 m3 m4 ⟨_, _, rfl, upd_same, m2, m3, m4, m5.append (.cons V2 .nil)⟩
theorem hs_setL {j : Nat} {st : Stmt} (h : PS X st (tAsg (lf X.K f t) (gSub (tVar j) (lf X.K f ti) rSetL))) : PS X st (lfS X.K f (hSetL j t ti)) := h.mono fun D σ H q => by
  obtain ⟨F, O, G, s, D', R, ht, k⟩ := q
  refine ⟨F, O, G, s, _, R, ht, fun p s1 G1 H1 y c1 e1 R1 V1 => ?_⟩
  obtain ⟨x, hx, ⟨ds0, hj0⟩, c2⟩ := c1
  obtain ⟨G2, e2, R2, V2⟩ := R1.frz V1 hx
  obtain ⟨v, hv, _⟩ := R2.sl j _ hj0
  refine ⟨v, hv, F, O, G2, s1, _, R2, c2, fun q s3 G3 H3 z c3 e3 R3 V3 => ?_⟩
  obtain ⟨i, n, ds, rfl, hj1, hn, c4⟩ := c3
  obtain ⟨v', hv', V'⟩ := R3.sl j _ hj1
  rw [hv] at hv'
  cases hv'
  obtain ⟨b, ws, eb, m1, m2, m3, m4, m5⟩ := V'
  subst eb
  cases vr_int V3.1
  refine ⟨b, ws, i, n, rfl, rfl, m1, by rw [m5.len]; exact hn, k.nx _ _ _ _ ((e1.trans e2).trans e3) ?_ c4⟩
  exact R3.poke hj1 rfl hv m1 m2 m3 m4 ⟨_, _, rfl, upd_same, m2, m3, m4, m5.set (Dp.ex e3 _ V2)⟩
theorem hp_dnew (h : PE X e tDNewK) : PE X e (lf X.K f hDnew) := h.mono fun σ H Q q => by
  obtain ⟨F, O, G, s, C, R, ht, k⟩ := q
  intro p hp
  exact k _ _ _ _ _ ht (Ex.refl G) (R.new hp) (R.ownD hp rfl .nil)
end
end Sk
set_option Elab.async false
set_option linter.all false
set_option maxRecDepth 100000
set_option maxHeartbeats 2000000
namespace Sk
open PySem PySem.Spec PyProof.Rows L2
open PySem.W (Datum DatumOrd Tup T3 T4)
open Evl (Ex)
def joinW (a : Str) : List PV → (PV → Prop) → Prop := fun ps C => match ps with
  | [p] => ∃ ys : List Str, p.seq = some (ys.map .str) ∧ (ys.map (·.length)).sum + ys.length * a.length ≤ 16777216 ∧ C (.dat (.str (Txt.join a ys)))
  | _ => False
def sortDW (α : Type) [DecidableEq α] [DatumOrd α] [FK α] : List PV → (PV → Prop) → Prop := fun ps C => match ps with
  | [.dct kvs] => ∃ xs : List α, kvs.map (·.1) = xs.map FK.key ∧ C (.own ((sortU xs).map Datum.toD))
  | _ => False
def pairsD : List PyData → Option (List (Key × PyData))
  | [] => some []
  | .tuple [d, e] :: r => match keyD d, pairsD r with
    | some k, some t => some ((k, e) :: t)
    | _, _ => none
  | _ => none
def dictW : List PV → (PV → Prop) → Prop := fun ps C => match ps with
  | [p] => ∃ ds kvs, p.lst = some ds ∧ pairsD ds = some kvs ∧ C (.dct (mergeD [] kvs))
  | _ => False
@[simp] def hUpd (j : Nat) (t : HE) : HE := fun s C => (∃ kvs, s.sl[j]? = some (some (.dct kvs))) ∧ t s fun p s1 => ∃ more kvs, p = .dct more ∧ s1.sl[j]? = some (some (.dct kvs)) ∧ kvs.length + more.length ≤ 100000 ∧ C (.dat .none) (s1.put j (.dct (mergeD kvs more)))
def rUpd : V → List V → Hp → VK → Prop := fun x xs H Q => ∃ a b kvs more, x = .ref a ∧ xs = [.ref b] ∧ H a = some (.dK kvs) ∧ H b = some (.dK more) ∧ a ≠ b ∧ kvs.length + more.length ≤ sizeLine ∧ Q .non (upd H a (.dK (mergeK kvs more)))
section
variable {X : Cx} {f : Fr}
theorem op_joinW {a : Str} : Op X.K f (op1 fun x H Q => ∃ b p, ∃ ys : List Str, V.str a = .str b ∧ [x] = [V.ref p] ∧ (SqL X.K H p (ys.map V.str) ∨ SqT X.K H p (ys.map V.str)) ∧ (ys.map (·.length)).sum + ys.length * b.length ≤ 16777216 ∧ Q (.str (Txt.join b ys)) H) (joinW a) := fun F O G s σ H ps vs C Q R V w k => by
  unfold joinW at w
  split at w
  · cases V with
    | cons v2 V =>
      cases V
      obtain ⟨ys, h1, h2, h3⟩ := w
      obtain ⟨b, ws, rfl, hs, ha⟩ := v2.sq R.gh h1
      have e : ws = ys.map V.str := strs_dpAll ha
      subst e
      exact ⟨_, b, ys, rfl, rfl, hs, h2, k _ _ _ _ h3 (Ex.refl G) R (vrf_dat (.str _))⟩
  · exact w.elim
theorem hp_join {o e : Expr} {a : Str} {ob : HA → HA} {apos pos : Pos} (A : PE X o (tC (.str a))) (B : Opd X f e ob) (hs : starEach [e] X.env = [(false, eval e X.env)] := by rfl) (hbase : attributeBase o "join" X.env (eval o X.env) = eval o X.env := by rfl) (hline : (apos.endLine == pos.line) = true := by rfl) :
    PE X (.Call (.Attribute o "join" apos) [e] [] pos) (lf X.K f (hC (joinW a) (ob hNil))) := by
  obtain ⟨tb, b1, b2⟩ := B.ex
  refine (pe_m1 PySem.F.slot_str_join PySem.F.type_str_join mt_join A b1 hs hbase hline).mono fun σ H Q q => ?_
  have z := b2 tNil hNil (fun σ H Q q => by
    obtain ⟨F, O, G, s, C, R, ht, k⟩ := q
    exact k _ _ _ _ _ ht (Ex.refl G) R .nil) σ H _ ((op_joinW (X := X) (f := f) (a := a)).lift _ σ H Q q)
  exact ⟨⟨a, rfl⟩, z⟩
theorem mt_update : MtR X "dict.update" rUpd := by
  intro pins s σ H x vs v us Q I rx rv h
  obtain ⟨a, b, kvs, more, rfl, rfl, ha, hb, hne, hz, q⟩ := h
  cases (show v = Value.ref a from rx)
  obtain ⟨u, rfl, ru⟩ := vals1 rv
  cases (show u = Value.ref b from ru)
  obtain ⟨z1, y1, xs, r1, d1⟩ := dk_of I.hok ha
  obtain ⟨z2, y2, ys, r2, d2⟩ := dk_of I.hok hb
  have l1 : kvs.length = xs.length := Paired.length r1
  have l2 : more.length = ys.length := Paired.length r2
  refine call_meetsIn PySem.F.slot_dict_update d1.typeIs PySem.F.entry_dict_update (PySem.F.args_dict_update_2 _ _)
    (meets_dict_update (mixKind X.prog X.w) a b hne y2) ⟨xs, ys, d1, d2, by omega, fun h' e1 e2 sb => ?_⟩
  have rel : KV (mergeK kvs more) (merged xs ys) := KV.merge r2 r1
  have big : (mergeK kvs more).length ≤ sizeLine := by
    have := length_mergeK more kvs
    omega
  obtain ⟨ob, _, _, hob, _⟩ := id e1
  exact ⟨.non, _, d_write (t' := s.toks) I (by rw [ha]; exact True.intro) sb ⟨ob, hob⟩ (dk_new big y1 rel e1), rfl, q⟩
theorem hp_upd {j : Nat} {a e : Expr} {t : HE} (h : ∀ {ta : TA}, PA X [e] ta → PE X a (tBM X.K "dict" rUpd (tVar j) ta)) (he : PE X e (lf X.K f t)) (hs : starEach [e] X.env = (false, eval e X.env) :: starEach [] X.env := by rfl) : PE X a (lf X.K f (hUpd j t)) := (h (pa_cons he pa_nil hs)).mono fun σ H Q q => by
  obtain ⟨F, O, G, s, C, R, ⟨⟨kv0, hj⟩, ht⟩, k⟩ := q
  obtain ⟨v, hv, V⟩ := R.sl j _ hj
  obtain ⟨b, ws, rfl, k1, k2, k3, k4, k5, k6⟩ := V
  refine ⟨_, hv, ?_, F, O, G, s, _, R, ht, fun p s1 G1 H1 y c1 e1 R1 V1 => ?_⟩
  · exact Or.inr (Or.inr (Or.inl ⟨rfl, Or.inl ⟨ws, k1⟩⟩))
  obtain ⟨more, kvs, rfl, hj1, hl, c2⟩ := c1
  obtain ⟨v', hv', V'⟩ := R1.sl j _ hj1
  rw [hv] at hv'
  cases hv'
  obtain ⟨b', ws', eb, m1, m2, m3, m4, m5, m6⟩ := V'
  cases eb
  obtain ⟨⟨c, us, rfl, n1, n2, n3, n4, n5, n6⟩, nf⟩ := V1
  have ne : b ≠ c := fun z => nf rfl j _ hj1 rfl (by rw [hv, z])
  have la : ws'.length = kvs.length := by simpa using congrArg List.length m5
  have lb : us.length = more.length := by simpa using congrArg List.length n5
  refine ⟨b, c, ws', us, rfl, rfl, m1, n1, ne, by rw [la, lb]; exact Evl.sz_of hl, k _ _ _ _ _ c2 e1 ?_ (vrf_dat .non)⟩
  have kv := KVD.merge ⟨m5, m6⟩ ⟨n5, n6⟩
  exact R1.poke hj1 rfl hv m1 m2 m3 m4 ⟨_, _, rfl, upd_same, m2, m3, m4, kv.1, kv.2⟩
theorem pairs_dp {G : Hp} {K : PySem.W.Frag} : ∀ {ds : List PyData} {kvs : List (Key × PyData)} {vs : List V}, pairsD ds = some kvs → DpAll K G vs ds → ∃ (ps : List Addr) (ws : List (Key × V)), vs = ps.map V.ref ∧ Paired (fun p kv => SqT K G p [kV kv.1, kv.2]) ps ws ∧ KVD K G ws kvs
  | [], _, _, h, a => by cases h; cases a; exact ⟨[], [], rfl, .nil, .nil⟩
  | .tuple [d, e] :: r, kvs, vs, h, a => by
    rw [pairsD] at h
    split at h
    · rename_i k t hk ht
      cases h
      cases a with
      | cons a1 a2 =>
        obtain ⟨ps, ws, rfl, h1, h2⟩ := pairs_dp ht a2
        cases a1 with
        | tup hs ha =>
          cases ha with
          | cons d1 ha =>
            cases ha with
            | cons d2 ha =>
              cases ha
              have := key_dp d1 hk
              subst this
              exact ⟨_ :: ps, (k, _) :: ws, rfl, .cons hs h1, .cons d2 h2⟩
    · cases h
theorem op_dictW : Op X.K f (fun xs H Q => ∃ (a : Addr) (ps : List Addr) (kvs : List (Key × V)), xs = [.ref a] ∧ SqL X.K H a (ps.map V.ref) ∧ Paired (fun p kv => SqT X.K H p [kV kv.1, kv.2]) ps kvs ∧ ∀ p, H p = none → Q (.ref p) (upd H p (.dK (mergeK [] kvs)))) dictW := fun F O G s σ H ps vs C Q R V w k => by
  unfold dictW at w
  split at w
  · cases V with
    | cons v1 V =>
      cases V
      obtain ⟨ds, kvs, h1, h2, h3⟩ := w
      obtain ⟨a, ws, rfl, hs, ha⟩ := v1.sl R.gh h1
      obtain ⟨ps, us, rfl, p1, p2⟩ := pairs_dp h2 ha
      have p3 : Paired (fun p kv => SqT X.K H p [kV kv.1, kv.2]) ps us := by
        clear p2 ha hs
        induction p1 with
        | nil => exact .nil
        | cons h _ ih => exact .cons (Evl.ex_t R.gh h) ih
      have kv := KVD.merge (K := X.K) (G := G) .nil p2
      exact ⟨a, ps, us, rfl, hs, p3, fun p hp => k _ _ _ _ h3 (Ex.refl G) (R.new hp) (R.ownD hp kv.1 kv.2)⟩
  · exact w.elim
def rSortD (α : Type) [DecidableEq α] [DatumOrd α] [FK α] (K : PySem.W.Frag) : List V → Hp → VK → Prop := fun vs H Q => ∃ (a : Addr) (kvs : List (Key × V)) (xs : List α), vs = [.ref a] ∧ H a = some (.dK kvs) ∧ kvs.map (·.1) = xs.map FK.key ∧ ∀ p, H p = none → Q (.ref p) (upd H p (.lst ((sortU xs).map fun x => kV (FK.key x))))
class SK (α : Type) [DecidableEq α] [DatumOrd α] [FK α] [OrdL α] : Prop where
  run : ∀ (P : Program) (w : World) (h : Heap), ∃ (good : Value → Prop) (S : SrtK P w h good), (∀ (k : α) v, keyIs (FK.key k) v = true → good v) ∧
    ∀ (ms : List α) (us : List Value), Paired (fun k v => keyIs k v = true) (ms.map FK.key) us → us.Pairwise (Upto S.κ) → (ms.map FK.key).Nodup → Rising ms
instance : SK Int where
  run := fun P w h => ⟨_, srtI P w h, (fun k v hv => by
    rcases keyIs_shape hv with ⟨i, u, e, rfl⟩ | ⟨i, u, e, rfl⟩ <;> first | exact ⟨i, u, rfl⟩ | cases e), fun ms us h1 h2 h3 => List.Pairwise.imp (fun {a b} (z : a < b) => decide_eq_true z) (lt_of_upto h1 h2 h3)⟩
instance : SK Str where
  run := fun P w h => ⟨_, srtS P w h, (fun k v hv => by
    rcases keyIs_shape hv with ⟨i, u, e, rfl⟩ | ⟨i, u, e, rfl⟩ <;> first | exact ⟨i, u, rfl⟩ | cases e), fun ms us h1 h2 h3 => List.Pairwise.imp (fun {a b} (z : a.cps.toList < b.cps.toList) => (show decide (a.cps.toList < b.cps.toList) = true from decide_eq_true z)) (slt_of_upto h1 h2 h3)⟩
theorem cr_sortD {α : Type} [DecidableEq α] [DatumOrd α] [FK α] [OrdL α] [SK α] (hc : X.calm = true) : CallR X (.builtin "sorted") (rSortD α X.K) := by
  intro pins s σ H vs us Q I r h
  obtain ⟨a, kvs, xs, rfl, ha, hk, q⟩ := h
  obtain ⟨u, rfl, ru⟩ := vals1 r
  cases (show u = Value.ref a from ru)
  obtain ⟨z, lo, ws, rel, dd⟩ := dk_of I.hok ha
  obtain ⟨ep, hat⟩ := dd.dictAt
  have keys : ws.map (·.1) = xs.map FK.key := rel.keys.symm.trans hk
  have lw : ws.length = xs.length := by simpa using congrArg List.length keys
  have lk : kvs.length = xs.length := by simpa using congrArg List.length hk
  have nd : (xs.map FK.key).Nodup := by
    obtain ⟨_, _, _, _, _, _, _, _, n⟩ := id dd
    rw [← keys]; exact n
  refine sorted_by fun {R'} hR => ?_
  refine PySem.W.kdu_collect (A := X.A.in1) (PySem.W.kdl_dict (knd := mixKind X.prog X.w) (kvs := ws) (ep := ep) lo) (I.ok.hd hc) hat (by omega) fun h' tk acc hkeep hacc => ?_
  obtain ⟨good, S, g1, g2⟩ := SK.run (α := α) X.prog X.w h'
  have pr : Paired (fun k v => keyIs k v = true) (xs.map FK.key) acc.toList := by
    rw [← keys]
    have gen : ∀ (qs : List (Key × Value)) (us : List Value), us.length = qs.length → (∀ (j : Nat) (v : Value), us[j]? = some v → ∃ k x, qs[j]? = some (k, x) ∧ keyIs k v = true) → Paired (fun k v => keyIs k v = true) (qs.map (·.1)) us := by
      intro qs
      induction qs with
      | nil => intro us hl _; have : us = [] := List.length_eq_zero_iff.mp hl; subst this; exact .nil
      | cons q qs ih =>
        intro us hl hg
        match us, hl, hg with
        | u :: us, hl, hg =>
          obtain ⟨k, x, e1, e2⟩ := hg 0 u rfl
          have e1' : q = (k, x) := Option.some.inj e1
          subst e1'
          exact .cons e2 (ih us (by simpa using hl) fun j v e => by
            obtain ⟨k, x, a, b⟩ := hg (j + 1) v (by simpa using e)
            exact ⟨k, x, by simpa using a, b⟩)
    exact gen ws acc.toList (by rw [Array.length_toList, hacc.1]) fun j v e => hacc.2 j v (by rw [← Array.getElem?_toList]; exact e)
  have la : acc.toList.length = xs.length := by rw [Array.length_toList, hacc.1, lw]
  refine hR { s with heap := h', toks := tk } acc.toList good S (fun v hv => ?_) (by omega) fun out c h2 k2 hget pm pw => ?_
  · obtain ⟨i, hi⟩ := List.getElem?_of_mem hv
    obtain ⟨k, hkm, hkk⟩ := paired_at pr hi
    rw [List.getElem?_map] at hkm
    obtain ⟨x, _, rfl⟩ := Option.map_eq_some_iff.mp hkm
    exact g1 x v hkk
  · obtain ⟨L2, p2, h3⟩ := paired_perm pm pr
    have form : ∀ L' : List Key, (∀ q ∈ L', ∃ x : α, q = FK.key x) → ∃ ms : List α, L' = ms.map FK.key := by
      intro L'
      induction L' with
      | nil => intro _; exact ⟨[], rfl⟩
      | cons q r ih =>
        intro hq
        obtain ⟨x, rfl⟩ := hq q List.mem_cons_self
        obtain ⟨ms, rfl⟩ := ih fun j hj => hq j (List.mem_cons_of_mem _ hj)
        exact ⟨x :: ms, rfl⟩
    obtain ⟨ms, rfl⟩ := form L2 fun q hq => by
      obtain ⟨x, _, e⟩ := List.mem_map.mp (p2.mem_iff.mp hq)
      exact ⟨x, e.symm⟩
    have nd2 := p2.nodup_iff.mpr nd
    have rs := g2 ms out.toList h3 pw nd2
    have mem : ∀ m, m ∈ ms ↔ m ∈ xs := fun m => by
      have z := p2.mem_iff (a := FK.key m)
      constructor
      · intro hm
        obtain ⟨x, hx, e⟩ := List.mem_map.mp (z.mp (List.mem_map.mpr ⟨m, hm, rfl⟩))
        rw [← FK.inj _ _ e]; exact hx
      · intro hm
        obtain ⟨x, hx, e⟩ := List.mem_map.mp (z.mpr (List.mem_map.mpr ⟨m, hm, rfl⟩))
        rw [← FK.inj _ _ e]; exact hx
    have e := sortU_eq rs mem
    subst e
    have vv : Vals ((sortU xs).map fun x => kV (FK.key x)) out.toList := by
      have z := vals_of_keys h3
      rwa [List.map_map] at z
    have lo2 : ((sortU xs).map fun x => kV (FK.key x)).length ≤ sizeLine := by
      have := sortU_len xs
      simp only [List.length_map]
      omega
    have I1 : Inv X pins σ H { s with heap := h', toks := tk } := I.kept hkeep
    exact sorted_back I1 k2 rfl rfl (Nat.le_refl _) hget vv lo2 fun hn => q _ hn
theorem op_sortDW {α : Type} [DecidableEq α] [DatumOrd α] [FK α] : Op X.K f (rSortD α X.K) (sortDW α) := fun F O G s σ H ps vs C Q R V w k => by
  unfold sortDW at w
  split at w
  · cases V with
    | cons v1 V =>
      cases V
      obtain ⟨xs, h1, h2⟩ := w
      obtain ⟨a, ws, rfl, m1, m2, m3, m4, m5, m6⟩ := v1
      refine ⟨a, ws, xs, rfl, m1, m5.trans h1, fun p hp => k _ _ _ _ h2 (Ex.refl G) (R.new hp) (R.own hp ?_)⟩
      generalize sortU xs = ys
      induction ys with
      | nil => exact .nil
      | cons y ys ih => exact .cons (FK.ofV _ _ _) ih
  · exact w.elim
end
end Sk
set_option Elab.async false
set_option linter.all false
set_option maxRecDepth 100000
set_option maxHeartbeats 2000000
namespace Sk
open PySem PySem.Spec PyProof.Rows L2
open PySem.W (Datum DatumOrd Tup T3 T4)
open Evl (Ex)
def rEqP (K : PySem.W.Frag) (neg : Bool) : R2 := fun x y H Q => ∃ d e, Dp K H x d ∧ Dp K H y e ∧ d.plain = true ∧ e.plain = true ∧ min d.depth e.depth ≤ 60 ∧ Q (.bl (if neg then !PyData.eqv d e else PyData.eqv d e)) H
def rInP (K : PySem.W.Frag) (neg : Bool) : R2 := fun x y H Q => ∃ d ds, Dp K H x d ∧ (Dp K H y (.list ds) ∨ Dp K H y (.tuple ds)) ∧ d.plain = true ∧ PyData.plainAll ds = true ∧ min (PyData.depthAll ds) d.depth ≤ 60 ∧ Q (.bl (if neg then !ds.any fun z => PyData.eqv z d else ds.any fun z => PyData.eqv z d)) H
def eqP (neg : Bool) : List PV → (PV → Prop) → Prop := fun ps C => match ps with
  | [p, q] => ∃ d e, p.frz = some d ∧ q.frz = some e ∧ d.plain = true ∧ e.plain = true ∧ min d.depth e.depth ≤ 60 ∧ C (.dat (.bool (if neg then !PyData.eqv d e else PyData.eqv d e)))
  | _ => False
def inP (neg : Bool) : List PV → (PV → Prop) → Prop := fun ps C => match ps with
  | [p, q] => ∃ d ds, p.frz = some d ∧ q.seq = some ds ∧ d.plain = true ∧ PyData.plainAll ds = true ∧ min (PyData.depthAll ds) d.depth ≤ 60 ∧ C (.dat (.bool (if neg then !ds.any fun z => PyData.eqv z d else ds.any fun z => PyData.eqv z d)))
  | _ => False
section
variable {X : Cx} {f : Fr}
theorem op_eqP (hu : X.A.units + 64 < cLine) : OpR X (compareOp .Eq) (rEqP X.K false) := by
  intro pins s σ H x y v u Q I rx ry h
  obtain ⟨d, e, hd, he, sd, se, hm, q⟩ := h
  obtain ⟨as, r1⟩ := Dp.reads I d x v hd rx
  obtain ⟨bs, r2⟩ := Dp.reads I e y u he ry
  exact SeqAt.eq_plain r1 r2 sd se (by omega) ⟨.bl _, H, I, rfl, q⟩
theorem op_neP (hu : X.A.units + 64 < cLine) : OpR X (compareOp .NotEq) (rEqP X.K true) := by
  intro pins s σ H x y v u Q I rx ry h
  obtain ⟨d, e, hd, he, sd, se, hm, q⟩ := h
  obtain ⟨as, r1⟩ := Dp.reads I d x v hd rx
  obtain ⟨bs, r2⟩ := Dp.reads I e y u he ry
  exact SeqAt.ne_plain r1 r2 sd se (by omega) ⟨.bl _, H, I, rfl, q⟩
theorem op_inP (hu : X.A.units + 64 < cLine) : OpR X (compareOp .In) (rInP X.K false) := by
  intro pins s σ H x y v u Q I rx ry h
  obtain ⟨d, ds, hd, he, sd, se, hm, q⟩ := h
  obtain ⟨as, r1⟩ := Dp.reads I d x v hd rx
  rcases he with he | he
  · obtain ⟨bs, r2⟩ := Dp.reads I _ y u he ry
    exact SeqAt.in_list_data r2 r1 se sd (by omega) ⟨.bl _, H, I, rfl, q⟩
  · obtain ⟨bs, r2⟩ := Dp.reads I _ y u he ry
    exact SeqAt.in_tuple_data r2 r1 se sd (by omega) ⟨.bl _, H, I, rfl, q⟩
theorem op_ninP (hu : X.A.units + 64 < cLine) : OpR X (compareOp .NotIn) (rInP X.K true) := by
  intro pins s σ H x y v u Q I rx ry h
  obtain ⟨d, ds, hd, he, sd, se, hm, q⟩ := h
  obtain ⟨as, r1⟩ := Dp.reads I d x v hd rx
  rcases he with he | he
  · obtain ⟨bs, r2⟩ := Dp.reads I _ y u he ry
    exact SeqAt.notIn_list_data r2 r1 se sd (by omega) ⟨.bl _, H, I, rfl, q⟩
  · obtain ⟨bs, r2⟩ := Dp.reads I _ y u he ry
    exact SeqAt.notIn_tuple_data r2 r1 se sd (by omega) ⟨.bl _, H, I, rfl, q⟩
theorem op_eqPW {neg : Bool} : Op X.K f (op2 (rEqP X.K neg)) (eqP neg) := fun F O G s σ H ps vs C Q R V w k => by
  unfold eqP at w
  split at w
  · obtain ⟨d, e, h1, h2, h3, h4, h6, h5⟩ := w
    cases V with
    | cons v1 V =>
      cases V with
      | cons v2 V =>
        cases V
        exact ⟨d, e, v1.dp R.gh h1, v2.dp R.gh h2, h3, h4, h6, k _ _ _ _ h5 (Ex.refl G) R (vrf_dat (.bl _))⟩
  · exact w.elim
theorem op_inPW {neg : Bool} : Op X.K f (op2 (rInP X.K neg)) (inP neg) := fun F O G s σ H ps vs C Q R V w k => by
  unfold inP at w
  split at w
  · rename_i p q
    obtain ⟨d, ds, h1, h2, h3, h4, h6, h5⟩ := w
    cases V with
    | cons v1 V =>
      cases V with
      | cons v2 V =>
        cases V
        refine ⟨d, ds, v1.dp R.gh h1, ?_, h3, h4, h6, k _ _ _ _ h5 (Ex.refl G) R (vrf_dat (.bl _))⟩
        cases q with
        | own es => cases h2; exact Or.inl (v2.dp R.gh rfl)
        | dat e =>
          cases e with
          | list es => cases h2; exact Or.inl (v2.dp R.gh rfl)
          | tuple es => cases h2; exact Or.inr (v2.dp R.gh rfl)
          | _ => cases h2
        | _ => cases h2
  · exact w.elim
theorem plainAll_D {α : Type} [DecidableEq α] [Datum α] : ∀ xs : List α, PyData.plainAll (xs.map Datum.toD) = true
  | [] => rfl
  | x :: xs => by rw [List.map_cons, PyData.plainAll, Datum.plain, plainAll_D xs]; rfl
theorem any_D {α : Type} [DecidableEq α] [Datum α] (a : α) : ∀ xs : List α, ((xs.map Datum.toD).any fun z => PyData.eqv z (Datum.toD a)) = decide (a ∈ xs)
  | [] => by simp
  | x :: xs => by
    rw [List.map_cons, List.any_cons, Datum.eqv, any_D a xs, ← Bool.decide_or]
    exact decide_eq_decide.mpr ⟨fun h => h.elim (fun z => by rw [z]; exact List.mem_cons_self) (List.mem_cons_of_mem _), fun h => by
      rcases List.mem_cons.mp h with h | h
      · exact Or.inl h.symm
      · exact Or.inr h⟩
end
theorem Rel.drawn {K : PySem.W.Frag} {f : Fr} {G H H' : Hp} {s : Sg} {σ : L2.St} {n' : Nat} (R : Rel K f G s σ H) (on : f.on = true) (d : DrwOk f.m f.l f.c n' H') (k : ∀ a o, a ≠ f.m → a ≠ f.l → H a = some o → H' a = some o) : Rel K f G ⟨[], n'⟩ [] H' := by
  obtain ⟨o1, o2, o3, m1, m2⟩ := R.mo on
  have h1 : H' f.m ≠ none := by obtain ⟨_, _, _, _, h, _⟩ := d; rw [h]; intro z; cases z
  have h2 : H' f.l ≠ none := by obtain ⟨_, _, _, _, _, _, _, _, _, _, h, _⟩ := d; rw [h]; intro z; cases z
  have some : ∀ a, H a ≠ none → H' a ≠ none := fun a h => by
    by_cases e1 : a = f.m
    · rw [e1]; exact h1
    by_cases e2 : a = f.l
    · rw [e2]; exact h2
    cases q : H a with
    | none => exact absurd q h
    | some u => rw [k a u e1 e2 q]; intro z; cases z
  obtain ⟨_, _, _, _, hm0, _, _, _, _, _, hl0, _⟩ := R.dr on
  exact {
    gh := fun a o h => k a o (fun z => by rw [z, R.go _ o1] at h; cases h) (fun z => by rw [z, R.go _ o2] at h; cases h) (R.gh _ _ h)
    fh := fun a o m h => k a o (fun z => m (by rw [z]; exact m1)) (fun z => m (by rw [z]; exact m2)) (R.fh a o m h)
    go := R.go
    oh := fun a h => some a (R.oh a h)
    mh := fun a h => some a (R.mh a h)
    mo := R.mo
    tm := R.tm
    tb := fun p hp => by
      obtain ⟨ps, q1, q2, q3⟩ := R.tb p hp
      exact ⟨ps, k _ _ (fun z => by rw [z, hm0] at q1; cases q1) (fun z => by rw [z, hl0] at q1; cases q1) q1, q2, q3⟩
    pk := R.pk
    dr := fun _ => d
    ln := rfl
    sl := fun i p h => by simp at h
    ds := fun i j p q v _ h => by simp at h }
def spMixed : HSp := fun ps n C => ∃ c k : Int, ps = [.dat (.int c), .dat (.int k)] ∧ 0 ≤ c ∧ c < 4294967296 ∧ 0 ≤ k ∧ k < 536870912 ∧ ∀ i : Int, 0 ≤ i → i < 2147483647 → C (.dat (.int i)) n
def spDraw : HSp := fun ps n C => ∃ k : Int, ps = [.drw, .dat (.int k)] ∧ 0 < k ∧ k ≤ 1000000 ∧ n < 268435456 ∧ ∀ i : Int, 0 ≤ i → i < k → C (.dat (.int i)) (n + 1)
end Sk
set_option Elab.async false
set_option linter.all false
set_option maxRecDepth 100000
set_option maxHeartbeats 2000000
namespace Sk
open PySem PySem.Spec PyProof.Rows L2
open PySem.W (Datum DatumOrd Tup T3 T4)
open Evl (Ex)
structure Has (P : Program) (w : World) (T : Tbs) (K : PySem.W.Frag) (mg : Str → Option Value) (base : Heap) (k : Nat) (x : Str) (n : Nat) (sp : HSp) : Prop where
  ex : ∃ fa fd ps, ps.length = n ∧ GnOk P w K mg base CX0 k fa fd ps (SpH K w T n sp) ∧ mg x = some (.ref fa) ∧ PySem.W.keepIn K (.ref fa) = true ∧ Binds K fd ps []
structure Cst (K : PySem.W.Frag) (mg : Str → Option Value) (x : Str) (d : PyData) : Prop where
  ex : ∃ v u, mg x = some u ∧ RelV v u ∧ ∀ G, Dp K G v d
theorem u64 {k : Nat} {A : Around} (r : Room k A) : A.units + 64 < cLine := by have := r.un; omega
theorem u1 {k : Nat} {A : Around} (r : Room k A) : A.units + 1 < cLine := by have := r.un; omega
theorem u150 {k : Nat} {A : Around} (r : Room k A) : A.units + 150 < cLine := by have := r.un; omega
theorem uD {k n : Nat} {A : Around} (r : Room k A) (h : n ≤ 60) : A.units + n < cLine := by have := r.un; omega
section
variable {X : Cx} {T : Tbs} {en : Option Ent} {e a o : Expr} {es : List Expr} {ta : HA} {sp : HSp} {x : Str} {p pos : Pos} {k n : Nat} {d : PyData}
theorem hp_callH (h : Has X.prog X.w T X.K X.mg X.base k x n sp) (hgd : X.A.guards = some []) (hr : Room k X.A) (hg : Gl X x) (ha : PA X (e :: es) (lfA X.K (f1 X.w T en) ta))
    (hdb : (x == ("__debug__" : Str)) = false := by decide) (he : starEach (e :: es) X.env = (false, eval e X.env) :: starEach es X.env := by rfl) (hpl : (backTo pos (starEach es X.env)).any (·.1) = false := by rfl) : PE X (.Call (.Name x p) (e :: es) [] pos) (lf X.K (f1 X.w T en) (hCall sp n ta)) := by
  obtain ⟨fa, fd, ps, _, G, hm, kp, b⟩ := h.ex
  exact hp_call (f := f1 X.w T en) (E := E0) (fun z => pe_callG G hgd hr hg hm kp b pass0 z hdb he hpl) ha
theorem hp_c (h : Cst X.K X.mg x d) (hg : Gl X x) (hdb : (x == ("__debug__" : Str)) = false := by decide) : PE X (.Name x pos) (lf X.K (f1 X.w T en) (hK d)) := by
  obtain ⟨v, u, hm, r, hd⟩ := h.ex
  exact hp_k (pe_glob hg hm r hdb) hd
end
@[simp] def hD1 (k : Key) (d : PyData) : HE := fun s C => C (.dct [(k, d)]) s
theorem Has.mk' {P : Program} {w : World} {T : Tbs} {K : PySem.W.Frag} {mg : Str → Option Value} {base : Heap} {k : Nat} {fa : Addr} {fd : FuncData} {x : Str} {st : Stmt} {N ps : List Str} {hs : HS} {sp : HSp} (Fn : Fun K x x st fa fd) (hm : mg x = some (.ref fa)) (b : Binds K fd ps []) (S : FnScope N ps (defScope st))
    (body : ∀ (cdv : Value), fd.code = cdv → ∀ (A : Around) (outer : List Env) (s : Shared) (H : Hp) (E : XK), (A.deeper (envOfC x (defScope st) s.heap.objs.size fa cdv)).guards = some [] → Room k (A.deeper (envOfC x (defScope st) s.heap.objs.size fa cdv)) → PSs (cxOf CX0 P w K mg base N x (defScope st) fa cdv A outer s H E).nox (defBody st) (lfS K (f0 w T) hs))
    (rd : ∀ pvs n C, pvs.length = ps.length → sp pvs n C → hs ⟨fun s => C (.dat .none) s.n, fun p s => C p s.n, fun _ => False, fun _ => False⟩ ⟨pvs.map some ++ List.replicate (N.length - pvs.length) none, n⟩) : Has P w T K mg base (k + 1) x ps.length sp :=
  ⟨fa, fd, ps, rfl, gnH Fn S body rd, hm, Fn.kp, b⟩
end Sk
set_option Elab.async false
set_option linter.all false
set_option maxRecDepth 100000
set_option maxHeartbeats 2000000
namespace Sk
open PySem PySem.Spec PyProof.Rows L2
open PySem.W (Datum DatumOrd Tup T3 T4)
open Evl (Ex)
mutual
theorem reads_imm {h : Heap} : ∀ {v : Value} {d : PyData} {as : List Addr}, imm d = true → Reads h v d as → as = []
  | _, _, _, _, .none => rfl
  | _, _, _, _, .bool _ => rfl
  | _, _, _, _, .int _ _ => rfl
  | _, _, _, _, .str _ _ => rfl
  | _, _, _, e, .list _ _ _ _ => nomatch e
  | _, _, _, e, .tuple _ _ _ h => reads_immAll e h
  | _, _, _, e, .dict _ _ _ _ _ => nomatch e
theorem reads_immAll {h : Heap} : ∀ {vs : List Value} {ds : List PyData} {as : List Addr}, immAll ds = true → ReadsAll h vs ds as → as = []
  | _, _, _, _, .nil => rfl
  | _, _, _, e, .cons h1 h2 => by
    unfold immAll at e
    rw [Bool.and_eq_true] at e
    rw [reads_imm e.1 h1, reads_immAll e.2 h2]
    rfl
end
end Sk
set_option Elab.async false
set_option linter.all false
set_option maxRecDepth 100000
set_option maxHeartbeats 2000000
namespace Sk
open PySem PySem.Spec PyProof.Rows L2
open PySem.W (Datum DatumOrd Tup T3 T4)
open Evl (Ex)
def LamStep (P : Addr) (q : Str) (G H G1 H1 : Hp) : Prop :=
  (G1 = G ∧ H1 = H) ∨ ∃ (ps more : Array Value) (c' : Addr), H P = some (.tbl ps) ∧ H c' = none ∧ H1 = upd (upd H P (.tbl (ps ++ more))) c' (LamX.CodeO c' q) ∧ G1 = upd G c' (LamX.CodeO c' q) ∧ TabOk G1 H1 P q
section
variable {K : PySem.W.Frag} {f : Fr} {G G1 H H1 : Hp} {s : Sg} {σ : L2.St} {P : Addr} {q : Str}
theorem LamStep.keep (h : LamStep P q G H G1 H1) {b : Addr} {o : HO} (e : H b = some o) (n : ∀ ps, o ≠ .tbl ps) : H1 b = some o := by
  rcases h with ⟨_, rfl⟩ | ⟨ps, more, c', h1, h2, rfl, rfl, h5⟩
  · exact e
  · rw [upd_ne (ne_of_none e h2), upd_ne (fun z => n ps (Option.some.inj (e.symm.trans (by rw [z]; exact h1))))]
    exact e
theorem LamStep.noB (h : LamStep P q G H G1 H1) {b : Addr} (e : H1 b = none) : H b = none := by
  rcases h with ⟨_, rfl⟩ | ⟨ps, more, c', h1, h2, rfl, rfl, h5⟩
  · exact e
  · by_cases z : b = c'
    · rw [z]; exact h2
    · rw [upd_ne z] at e
      by_cases z2 : b = P
      · rw [z2, upd_same] at e; cases e
      · rw [upd_ne z2] at e; exact e
theorem LamStep.g (h : LamStep P q G H G1 H1) (gh : Ex G H) : Ex G G1 := by
  rcases h with ⟨rfl, _⟩ | ⟨ps, more, c', h1, h2, rfl, rfl, h5⟩
  · exact Ex.refl _
  · exact Evl.Ex.new (Evl.fresh_back gh h2)
theorem VR.tab {p : PV} {v : V} (h : VR K f G H p v) (st : LamStep P q G H G1 H1) (gh : Ex G H) : VR K f G1 H1 p v := by
  have g := st.g gh
  have gn : ∀ a o, H a = some o → G a = none → G1 a = none := fun a o h1 h2 => by
    rcases st with ⟨rfl, _⟩ | ⟨ps, more, c', e1, e2, rfl, rfl, e5⟩
    · exact h2
    · rw [upd_ne (ne_of_none h1 e2)]; exact h2
  cases p with
  | dat d => exact Dp.ex g _ h
  | own ds =>
    obtain ⟨p, vs, rfl, h1, h2, h3, h4, h5⟩ := h
    exact ⟨p, vs, rfl, st.keep h1 (fun _ z => by cases z), gn _ _ h1 h2, h3, h4, Dp.exAll g _ h5⟩
  | dct kvs =>
    obtain ⟨p, vs, rfl, h1, h2, h3, h4, h5, h6⟩ := h
    exact ⟨p, vs, rfl, st.keep h1 (fun _ z => by cases z), gn _ _ h1 h2, h3, h4, h5, Dp.exAll g _ h6⟩
  | dcg kvs =>
    obtain ⟨p, vs, rfl, h1, h2, h3, h4, h5⟩ := h
    exact ⟨p, vs, rfl, st.keep h1 (fun _ z => by unfold GDo at z; cases z), gn _ _ h1 h2, h3, h4, h5.ex g⟩
  | dgf kvs =>
    obtain ⟨p, vs, rfl, h1, h2⟩ := h
    exact ⟨p, vs, rfl, g _ _ h1, h2.ex g⟩
  | abs _ => exact fun G9 e9 => h G9 (g.trans e9)
  | drw => exact h
  | val w => exact h
  | byr ds =>
    obtain ⟨p, vs, rfl, h1, h2, h3, h4, h5, h6⟩ := h
    exact ⟨p, vs, rfl, st.keep h1 (fun _ z => by cases z), gn _ _ h1 h2, h3, h4, Dp.exAll g _ h5, h6⟩
theorem Rel.lam (R : Rel K f G s σ H) (hm : (P, q) ∈ f.T) (hu : ∀ p ∈ f.T, p.1 = P → p.2 = q) (st : LamStep P q G H G1 H1) : Rel K f G1 s σ H1 := by
  have st0 := st
  have g := st.g R.gh
  rcases st with ⟨rfl, rfl⟩ | ⟨ps, more, c', h1, h2, rfl, rfl, h5⟩
  · exact R
  have gP : G P = none := R.go P (R.tm _ hm).1
  have mP : f.M P := (R.tm _ hm).2
  have some' : ∀ a, H a ≠ none → upd (upd H P (.tbl (ps ++ more))) c' (LamX.CodeO c' q) a ≠ none := fun a h z => h (st0.noB z)
  refine { gh := fun b o hb => ?_, fh := fun a o m h => ?_, go := fun a h => ?_, oh := fun a h => some' a (R.oh a h), mh := fun a h => some' a (R.mh a h), mo := R.mo, tm := R.tm, tb := fun p hp => ?_, pk := fun en h => (R.pk en h).ex g, dr := fun h => ?_, ln := R.ln, sl := fun i p h => ?_, ds := R.ds }
  · by_cases z : b = c'
    · rw [z, upd_same] at hb ⊢; exact hb
    · rw [upd_ne z] at hb ⊢
      rw [upd_ne (fun z2 => by rw [z2, gP] at hb; cases hb)]
      exact R.gh _ _ hb
  · have e := R.fh a o m h
    rw [upd_ne (ne_of_none e h2), upd_ne (fun z => m (by rw [z]; exact mP))]
    exact e
  · rw [upd_ne (fun z => R.oh a h (by rw [z]; exact h2))]
    exact R.go a h
  · by_cases z : p.1 = P
    · rw [z, hu p hp z]; exact h5
    · obtain ⟨ps', a1, a2, a3⟩ := R.tb p hp
      refine ⟨ps', ?_, a2, fun pos cv hc => ?_⟩
      · rw [upd_ne (ne_of_none a1 h2), upd_ne z]; exact a1
      · obtain ⟨c, e1, e2⟩ := a3 pos cv hc
        exact ⟨c, e1, g _ _ e2⟩
  · obtain ⟨k, cs, ls, rest, k1, k2, k3, k4, k5, k6, k7, k8⟩ := R.dr h
    exact ⟨k, cs, ls, rest, st0.keep k1 (fun _ z => by cases z), k2, k3, st0.keep k4 (fun _ z => by cases z), k5, k6, st0.keep k7 (fun _ z => by cases z), k8⟩
  · obtain ⟨v, e1, e2⟩ := R.sl i p h
    exact ⟨v, e1, e2.tab st0 R.gh⟩
end
structure Mkr (X : Cx) (P : Addr) (q : Str) : Prop where
  ex : ∃ c, LamX.TabB X.base X.mg c P ∧ X.env.code = .ref c
  qu : X.env.qual ++ "<lambda>" = q
section
variable {X : Cx} {pins : List (Addr × Obj)} {σ : L2.St} {H G : Hp} {s : Shared} {E : Value → Shared → Prop}
end
end Sk
set_option Elab.async false
set_option linter.all false
set_option maxRecDepth 100000
set_option maxHeartbeats 2000000
namespace Sk
open PySem PySem.Spec PyProof.Rows L2
open PySem.W (Datum DatumOrd Tup T3 T4)
open Evl (Ex)
def sortK {α κ : Type} [DecidableEq κ] [DatumOrd κ] (k : α → κ) (xs : List α) : List α := xs.mergeSort fun a b => leD (k a) (k b)
theorem LamStep.gh {P : Addr} {q : Str} {G H G1 H1 : Hp} (st : LamStep P q G H G1 H1) (gh : Ex G H) (gP : G P = none) : Ex G1 H1 := by
  rcases st with ⟨rfl, rfl⟩ | ⟨ps, more, c', h1, h2, rfl, rfl, h5⟩
  · exact gh
  · intro b o hb
    by_cases z : b = c'
    · rw [z, upd_same] at hb ⊢; exact hb
    · rw [upd_ne z] at hb ⊢
      rw [upd_ne (fun z2 => by rw [z2, gP] at hb; cases hb)]
      exact gh _ _ hb
theorem LamStep.sl {P : Addr} {q : Str} {G H G1 H1 : Hp} {K : PySem.W.Frag} {a : Addr} {ws : List V} (st : LamStep P q G H G1 H1) (h : SqL K H a ws) : SqL K H1 a ws := by
  rcases h with (h | ⟨o, h⟩) | h
  · exact Or.inl (Or.inl (st.keep h fun _ z => by cases z))
  · exact Or.inl (Or.inr ⟨o, st.keep h fun _ z => by cases z⟩)
  · exact Or.inr h
section
variable {X : Cx} {pins : List (Addr × Obj)} {σ : L2.St} {H : Hp} {s : Shared}
structure KSc (x : Str) (params : Arguments) (sc : Scope) : Prop where
  kind : sc.kind = .function
  co : sc.isCoroutine = false
  gen : sc.isGenerator = false
  par : sc.names.lookup x = some .local
  cell : ∀ y ∈ sc.names, y.2 ≠ .cell
  free : ∀ y ∈ sc.names, y.2 ≠ .free
  dflt : ∀ env : Env, defaultsOf params env = ([], [])
  bind : ∀ (body : Expr) (q : Str) (cl : List (Str × Addr)) (pm cv ctv v : Value), bindArgs (PySem.W.kla_fn "<lambda>" q params body sc cl pm cv ctv) ⟨[v], []⟩ = pure [(x, v)]
end
end Sk
set_option Elab.async false
set_option linter.all false
set_option maxRecDepth 100000
set_option maxHeartbeats 2000000
namespace Sk
open PySem PySem.Spec PyProof.Rows L2
open PySem.W (Datum DatumOrd Tup T3 T4)
open Evl (Ex)
section
variable {X : Cx} {f : Fr} {α κ : Type} [DecidableEq α] [Datum α] [Im α] [DecidableEq κ] [DatumOrd κ] [Srt κ] {k : α → κ} {P : Addr} {q : Str}
end
section
variable {α κ : Type} [DecidableEq κ] [DatumOrd κ] [OrdL κ] {k : α → κ}
theorem sortK_perm (xs : List α) : (sortK k xs).Perm xs := List.mergeSort_perm _ _
@[simp] theorem sortK_len (xs : List α) : (sortK k xs).length = xs.length := (sortK_perm xs).length_eq
end
end Sk
set_option Elab.async false
set_option linter.all false
set_option maxRecDepth 100000
set_option maxHeartbeats 2000000
namespace Sk
open PySem PySem.Spec PyProof.Rows L2
open Evl (Ex)
abbrev HSpR := List PV → List PyData → Nat → (PV → List PyData → Nat → Prop) → Prop
def SpHR (K : PySem.W.Frag) (w : World) (T : Tbs) (k : Nat) (sp : HSpR) : Sp := fun vs H Q _ => ∃ f G n ps ds C, f.w = w ∧ f.T = T ∧ f.e = none ∧ f.F = H ∧ (∀ a, f.M a → ((f.on = true ∧ (a = f.m ∨ a = f.l)) ∨ f.tab a) ∨ a = f.r) ∧ Rel K f G ⟨(ps ++ [.byr ds]).map some, n⟩ (vs.map some) H ∧ (∀ p ∈ ps, p.mut = false) ∧ ps.length = k ∧ sp ps ds n C ∧
  ∀ p es n' G' H' v, C p es n' → Ex G G' → Rel K f G' ⟨[some (.byr es)], n'⟩ [some (.ref f.r)] H' → VRf K f G' H' ⟨[some (.byr es)], n'⟩ [some (.ref f.r)] p v → Q v H'
section
variable {X : Cx} {T : Tbs} {e x a : Expr} {oa : HA → HA} {sp : HSpR} {E : XK}
theorem valsR_len {k : Nat} {K : PySem.W.Frag} {w : World} {T : Tbs} : ∀ vs H Q E, SpHR K w T k sp vs H Q E → vs.length = k + 1 := fun vs H Q E h => by
  obtain ⟨f, G, n, ps, ds, C, _, _, _, _, _, R, _, hk, _⟩ := h
  have := R.ln
  simp at this
  omega
theorem gnHR {P : Program} {w : World} {T : Tbs} {K : PySem.W.Frag} {mg : Str → Option Value} {base : Heap} {k kk : Nat} {fa : Addr} {fd : FuncData} {x qual : Str} {st : Stmt} {N ps : List Str} {hs : HS} (Fn : Fun K x qual st fa fd) (S : FnScope N ps (defScope st)) (hps : ps.length = kk + 1)
    (body : ∀ (cdv : Value), fd.code = cdv → ∀ (A : Around) (outer : List Env) (s : Shared) (H : Hp) (E : XK), (A.deeper (envOfC qual (defScope st) s.heap.objs.size fa cdv)).guards = some [] → Room k (A.deeper (envOfC qual (defScope st) s.heap.objs.size fa cdv)) → PSs (cxOf CX0 P w K mg base N qual (defScope st) fa cdv A outer s H E).nox (defBody st) (lfS K (f0 w T) hs))
    (rd : ∀ pvs ds n C, pvs.length = kk → sp pvs ds n C → hs ⟨fun s => ∃ es, s.sl[kk]? = some (some (.byr es)) ∧ C (.dat .none) es s.n, fun p s => ∃ es, s.sl[kk]? = some (some (.byr es)) ∧ C p es s.n, fun _ => False, fun _ => False⟩ ⟨(pvs ++ [PV.byr ds]).map some ++ List.replicate (N.length - (pvs.length + 1)) none, n⟩) :
    GnOk P w K mg base CX0 (k + 1) fa fd ps (SpHR K w T kk sp) := by
  refine gn_ok Fn S (fun vs H Q E h => by rw [hps]; exact valsR_len vs H Q E h) fun cdv ecd A outer s H vs Q E hgd hr h => ?_
  obtain ⟨⟨on, m, l, c, fF, fO, fM, r, fw, fT, fe⟩, G, n, pvs, ds, C, hw, hT, he, hF, hM, R, hm, hk, hsp, fin⟩ := h
  have hw : fw = w := hw
  have hT : fT = T := hT
  have he : fe = none := he
  subst hw hT he
  let f : Fr := ⟨on, m, l, c, fF, fO, fM, r, fw, fT, none⟩
  have lnv : vs.length = pvs.length + 1 := by
    have := R.ln
    simpa using this
  have endR : ∀ {G1 H1 : Hp} {s1 : Sg} {σ1 : L2.St} {es : List PyData}, Rel K f G1 s1 σ1 H1 → s1.sl[kk]? = some (some (.byr es)) → Rel K f G1 ⟨[some (.byr es)], s1.n⟩ [some (.ref f.r)] H1 ∧ σ1[kk]? = some (some (.ref f.r)) := fun {G1 H1 s1 σ1 es} R1 h1 => by
    obtain ⟨w1, h2, h3⟩ := R1.sl kk _ h1
    obtain ⟨b, ws, rfl, k1, k2, k3, k4, k5, rfl⟩ := h3
    refine ⟨{ gh := R1.gh, fh := R1.fh, go := R1.go, oh := R1.oh, mh := R1.mh, mo := R1.mo, tm := R1.tm, tb := R1.tb, pk := R1.pk, dr := R1.dr, ln := rfl, sl := fun i p h => ?_, ds := fun i j p q v ne hi hj _ _ _ => ?_ }, h2⟩
    · match i, h with
      | 0, h => simp at h; subst h; exact ⟨_, rfl, _, ws, rfl, k1, k2, k3, k4, k5, rfl⟩
      | i + 1, h => simp at h
    · match i, j, hi, hj, ne with
      | 0, 0, _, _, ne => exact absurd rfl ne
      | 0, j + 1, _, hj, _ => simp at hj
      | i + 1, _, hi, _, _ => simp at hi
  refine ⟨_, body cdv ecd A outer s H E hgd hr, f, f.O, G, _, _, ?_, rd pvs ds n C hk hsp, ⟨fun G1 s1 σ1 H1 e1 R1 c => ?_, fun p G1 s1 σ1 H1 v e1 R1 V1 c => ?_, fun _ _ _ _ _ _ z => z.elim, fun _ _ _ _ _ _ z => z.elim⟩⟩
  · have ap : ∀ {α : Type} (xs : List α) (m i : Nat) (y : α), (xs.map some ++ List.replicate m none)[i]? = some (some y) → (xs.map some)[i]? = some (some y) := fun xs m i y h => by
      by_cases hi : i < xs.length
      · rw [List.getElem?_append_left (by simpa using hi)] at h; exact h
      · rw [List.getElem?_append_right (by simpa using hi)] at h
        rw [List.getElem?_replicate] at h
        split at h <;> cases h
    have ap2 : ∀ {α : Type} (xs : List α) (m i : Nat) (y : α), (xs.map some)[i]? = some (some y) → (xs.map some ++ List.replicate m none)[i]? = some (some y) := fun xs m i y h => by
      have hi : i < (xs.map some).length := (List.getElem?_eq_some_iff.mp h).1
      rw [List.getElem?_append_left hi]; exact h
    show Rel K f G ⟨_, n⟩ (L2.start N vs) H
    exact { R with
      ln := by simp [L2.start, lnv]; omega
      sl := fun i p h => by
        obtain ⟨v, h1, h2⟩ := R.sl i p (ap _ _ _ _ h)
        exact ⟨v, ap2 _ _ _ _ h1, h2⟩
      ds := fun i j p q v ne hi hj mp mq wi wj => by
        obtain ⟨v1, h1, _⟩ := R.sl i p (ap _ _ _ _ hi)
        obtain ⟨v2, h2, _⟩ := R.sl j q (ap _ _ _ _ hj)
        have e1 := ap2 _ (N.length - vs.length) _ _ h1
        have e2 := ap2 _ (N.length - vs.length) _ _ h2
        have f1 : v1 = v := by
          have : (L2.start N vs)[i]? = some (some v1) := e1
          rw [this] at wi
          exact Option.some.inj (Option.some.inj wi)
        have f2 : v2 = v := by
          have : (L2.start N vs)[j]? = some (some v2) := e2
          rw [this] at wj
          exact Option.some.inj (Option.some.inj wj)
        subst f1
        rw [f2] at h2
        exact R.ds i j p q _ ne (ap _ _ _ _ hi) (ap _ _ _ _ hj) mp mq h1 h2 }
  · obtain ⟨es, h1, c⟩ := c
    obtain ⟨R2, _⟩ := endR R1 h1
    exact fin _ _ _ _ _ _ c e1 R2 (vrf_dat .non)
  · obtain ⟨es, h1, c⟩ := c
    obtain ⟨R2, h2⟩ := endR R1 h1
    refine fin _ _ _ _ _ _ c e1 R2 ⟨V1.1, fun m i q hi hq => ?_⟩
    match i, hi with
    | 0, hi => 
      intro z
      exact V1.2 m kk _ h1 rfl (by rw [h2]; exact z)
    | i + 1, hi => simp at hi
end
structure HasR (P : Program) (w : World) (T : Tbs) (K : PySem.W.Frag) (mg : Str → Option Value) (base : Heap) (k : Nat) (x : Str) (n : Nat) (sp : HSpR) : Prop where
  ex : ∃ fa fd ps, ps.length = n + 1 ∧ GnOk P w K mg base CX0 k fa fd ps (SpHR K w T n sp) ∧ mg x = some (.ref fa) ∧ PySem.W.keepIn K (.ref fa) = true ∧ Binds K fd ps []
section
variable {X : Cx} {T : Tbs} {e a o : Expr} {y : Expr} {oa : HA → HA} {sp : HSpR} {x : Str} {p pos : Pos} {k n j : Nat}
end
theorem HasR.mk' {P : Program} {w : World} {T : Tbs} {K : PySem.W.Frag} {mg : Str → Option Value} {base : Heap} {k n : Nat} {fa : Addr} {fd : FuncData} {x : Str} {st : Stmt} {N ps : List Str} {hs : HS} {sp : HSpR} (hn : ps.length = n + 1) (Fn : Fun K x x st fa fd) (hm : mg x = some (.ref fa)) (b : Binds K fd ps []) (S : FnScope N ps (defScope st))
    (body : ∀ (cdv : Value), fd.code = cdv → ∀ (A : Around) (outer : List Env) (s : Shared) (H : Hp) (E : XK), (A.deeper (envOfC x (defScope st) s.heap.objs.size fa cdv)).guards = some [] → Room k (A.deeper (envOfC x (defScope st) s.heap.objs.size fa cdv)) → PSs (cxOf CX0 P w K mg base N x (defScope st) fa cdv A outer s H E).nox (defBody st) (lfS K (f0 w T) hs))
    (rd : ∀ pvs ds n' C, pvs.length = n → sp pvs ds n' C → hs ⟨fun s => ∃ es, s.sl[n]? = some (some (.byr es)) ∧ C (.dat .none) es s.n, fun p s => ∃ es, s.sl[n]? = some (some (.byr es)) ∧ C p es s.n, fun _ => False, fun _ => False⟩ ⟨(pvs ++ [PV.byr ds]).map some ++ List.replicate (N.length - (pvs.length + 1)) none, n'⟩) : HasR P w T K mg base (k + 1) x n sp :=
  ⟨fa, fd, ps, hn, gnHR Fn S hn body rd, hm, Fn.kp, b⟩
@[simp] def hAppR (j : Nat) (t : HE) : HE := fun s C => (∃ ds, s.sl[j]? = some (some (.byr ds))) ∧ t s fun p s1 => ∃ x ds, p.frz = some x ∧ s1.sl[j]? = some (some (.byr ds)) ∧ ds.length < 100000 ∧ C (.dat .none) (s1.put j (.byr (ds ++ [x])))
section
variable {X : Cx} {f : Fr} {e a : Expr} {t : HE}
end
end Sk
set_option Elab.async false
set_option linter.all false
set_option maxRecDepth 100000
set_option maxHeartbeats 4000000
namespace Sk
open PySem PySem.Spec PyProof.Rows L2
open Evl (Ex)
def t_draw (K : PySem.W.Frag) (w : World) (T : Tbs) : TS :=
  tSeq (tAsg (tDGet (tVar 0) (tC (.str "at"))) (gName 2))
  (tSeq (sDPut (tVar 0) (tC (.str "at")) (tOp (rI0 fun i j => .int (i + j)) (tVar 2) (tC (.int 1))))
  (tSeq (tIfS (tTest (tOp (rEqP K true) (tDGet (tVar 0) (tC (.str "left"))) (tLst tNil)))
      (tSeq (tAsg (tOp (rI (fun _ j => 0 < j) fun i j => .int (i % j)) (tVar 2) (tCB (fun xs H Q => ∃ p ys, xs = [.ref p] ∧ (SqL K H p ys ∨ SqT K H p ys) ∧ Q (.int ys.length) H) (tCons (tDGet (tVar 0) (tC (.str "left"))) tNil))) (gName 3))
      (tSeq (tAsg (tOp (rIxL K) (tDGet (tVar 0) (tC (.str "left"))) (tVar 3)) (gName 4))
        (tIfS (tTest (tOp (rI0 fun i j => .bl (decide (j < i))) (tVar 4) (tC (.int 0))))
          (tSeq (tAsg (tOp (rI CDivW fun i j => .int (i / j)) (tVar 4) (tVar 1)) (gSub (tDGet (tVar 0) (tC (.str "left"))) (tVar 3) rSetL))
            (tRet (tOp (rI (fun _ j => 0 < j) fun i j => .int (i % j)) (tVar 4) (tVar 1)))) tNext))) tNext)
  (tRet (tOp (rI (fun _ j => 0 < j) fun i j => .int (i % j))
    (tCall (SpH K w T 2 spMixed) [] E0 (tCons (tCall (SpH K w T 2 spMixed) [] E0 (tCons (tOp (rI0 fun i j => .int (i + j)) (tOp (rIxL K) (tDGet (tVar 0) (tC (.str "cells"))) (tOp (rI (fun _ j => 0 < j) fun i j => .int (i % j)) (tVar 2) (tC (.int 64)))) (tOp (rI CMulW fun i j => .int (i * j)) (tC (.int 31)) (tOp (rI CDivW fun i j => .int (i / j)) (tVar 2) (tC (.int 64))))) (tCons (tVar 2) tNil)))
      (tCons (tOp (rI0 fun i j => .int (i + j)) (tVar 2) (tC (.int 7))) tNil))) (tVar 1)))))
section
variable {K : PySem.W.Frag}
theorem plain_ints (ls : List Int) : PyData.plainAll (ls.map PyData.int) = true := plainAll_D (α := Int) ls
theorem eqv_nil (ds : List PyData) : PyData.eqv (.list ds) (.list []) = ds.isEmpty := by
  cases ds <;> simp [PyData.eqv, PyData.eqvAll]
abbrev dkv (c l : Addr) (k : Int) (rest : List (Key × V)) : List (Key × V) := (.inr "cells", .ref c) :: (.inr "left", .ref l) :: (.inr "at", .int k) :: rest
theorem k_cl : ¬ ((Sum.inr ("cells" : Str) : Key) = Sum.inr ("left" : Str)) := by decide
theorem k_ca : ¬ ((Sum.inr ("cells" : Str) : Key) = Sum.inr ("at" : Str)) := by decide
theorem k_la : ¬ ((Sum.inr ("left" : Str) : Key) = Sum.inr ("at" : Str)) := by decide
theorem k_al : ¬ ((Sum.inr ("at" : Str) : Key) = Sum.inr ("left" : Str)) := by decide
theorem v_cells {c l : Addr} {k : Int} {rest : List (Key × V)} : valV (dkv c l k rest) (.inr "cells") = some (.ref c) := valV_pos rfl
theorem v_left {c l : Addr} {k : Int} {rest : List (Key × V)} : valV (dkv c l k rest) (.inr "left") = some (.ref l) := by rw [valV_neg k_cl, valV_pos rfl]
theorem v_at {c l : Addr} {k : Int} {rest : List (Key × V)} : valV (dkv c l k rest) (.inr "at") = some (.int k) := by rw [valV_neg k_ca, valV_neg k_la, valV_pos rfl]
theorem put_at {c l : Addr} {k i : Int} {rest : List (Key × V)} : ∃ rest', putK (dkv c l k rest) (.inr "at") (.int i) = dkv c l i rest' ∧ rest'.length = rest.length := by
  refine ⟨rest.map fun kv => if kv.1 = (Sum.inr ("at" : Str) : Key) then (kv.1, .int i) else kv, ?_, by simp⟩
  have e1 := k_ca
  have e2 := k_la
  unfold putK
  rw [if_pos (by simp [dkv])]
  simp [dkv, e1, e2]
theorem put_left {c l l' : Addr} {k : Int} {rest : List (Key × V)} : ∃ rest', putK (dkv c l k rest) (.inr "left") (.ref l') = dkv c l' k rest' ∧ rest'.length = rest.length := by
  refine ⟨rest.map fun kv => if kv.1 = (Sum.inr ("left" : Str) : Key) then (kv.1, .ref l') else kv, ?_, by simp⟩
  have e1 := k_cl
  have e2 := k_al
  unfold putK
  rw [if_pos (by simp [dkv])]
  simp [dkv, e1, e2]
theorem dget_of {H : Hp} {a : Addr} {kvs : List (Key × V)} {x : Str} {v : V} (h : H a = some (.dK kvs)) (e : valV kvs (.inr x) = some v) : DGet H a (.str x) (some v) := .inl ⟨kvs, .inr x, .inl h, rfl, e.symm⟩
theorem big_dkv {c l : Addr} {k : Int} {rest : List (Key × V)} (h : rest.length ≤ 100) : (dkv c l k rest).length < sizeLine := by
  show rest.length + 3 < sizeLine
  rw [sizeLine_eq]; omega
theorem mod_at {ls : List Int} {k : Int} (h0 : 0 ≤ k) (hl : ls ≠ []) : ∃ j x, ixN (ls.map V.int).length (k % (ls.map V.int).length) = some j ∧ ls[j]? = some x := by
  have hp : 0 < ls.length := List.length_pos_iff.mpr hl
  have h1 : 0 ≤ k % (ls.length : Int) := Int.emod_nonneg _ (by omega)
  have h2 : k % (ls.length : Int) < ls.length := Int.emod_lt_of_pos _ (by omega)
  have hj : (k % (ls.length : Int)).toNat < ls.length := by omega
  refine ⟨(k % (ls.length : Int)).toNat, ls[(k % (ls.length : Int)).toNat], ?_, List.getElem?_eq_getElem hj⟩
  unfold ixN
  rw [List.length_map, if_pos h1, if_pos h2]
theorem rd_draw {w : World} {T : Tbs} {vs : List V} {H : Hp} {Q : VK} {E : XK} (h : SpH K w T 2 spDraw vs H Q E) : t_draw K w T ⟨fun _ H' => Q .non H', Q, fun _ _ => False, fun _ _ => False⟩ (L2.start ["_law_m", "_law_many", "_law_k", "_law_at", "_law_cell"] vs) H := by
  obtain ⟨f, G, n, ps, C, hw, hT, he, hF, hM, R, hm, hk, ⟨k, rfl, k0, k1, hn, hC⟩, kk⟩ := h
  subst hw hT
  obtain ⟨v0, e0, on, rfl⟩ := R.sl 0 _ rfl
  obtain ⟨v1, e1, V1⟩ := R.sl 1 _ rfl
  cases vr_int V1
  have hv : vs = [.ref f.m, .int k] := by
    have ln := R.ln
    match vs, e0, e1, ln with
    | [a, b], e0, e1, _ =>
      simp at e0 e1
      rw [e0, e1]
  subst hv
  obtain ⟨at', cs, ls, rest, hmm, a0, an, hc, hcl, hcb, hl, hll, hlb, hrl, hcn⟩ := R.dr on
  have hmm : H f.m = some (.dK (dkv f.c f.l at' rest)) := hmm
  have ml : f.m ≠ f.l := fun z => by rw [z, hl] at hmm; cases hmm
  have mc : f.m ≠ f.c := fun z => by rw [z, hc] at hmm; cases hmm
  -- k = m["at"]; m["at"] = k + 1
  refine ⟨.ref f.m, rfl, f.m, .int at', rfl, dget_of hmm v_at, ?_⟩
  obtain ⟨rest', hput, hrl'⟩ := put_at (c := f.c) (l := f.l) (k := at') (i := at' + 1) (rest := rest)
  refine ⟨_, rfl, at', 1, rfl, rfl, .ref f.m, rfl, f.m, _, rfl, DPut.k (k := .inr "at") hmm (big_dkv hrl), ?_⟩
  rw [hput]
  -- what holds from now on
  have keep : ∀ (H' : Hp), (∀ a o, a ≠ f.m → a ≠ f.l → H a = some o → H' a = some o) → H' f.m = some (.dK (dkv f.c f.l (at' + 1) rest')) → ∀ ls' : List Int, H' f.l = some (.lst (ls'.map V.int)) → ls'.length ≤ 63 → (∀ x ∈ ls', 0 ≤ x) → Rel K f G ⟨[], n + 1⟩ [] H' := fun H' hk' h1 ls' h2 h3 h4 =>
    R.drawn on ⟨at' + 1, cs, ls', rest', h1, by omega, by show at' + 1 ≤ ((n + 1 : Nat) : Int); have : at' ≤ ((n : Nat) : Int) := an; omega, hk' _ _ mc.symm hcn hc, hcl, hcb, h2, h3, h4, by omega, hcn⟩ hk'
  -- the last row
  have last : ∀ (σ : L2.St) (H' : Hp), σ[0]? = some (some (.ref f.m)) → σ[1]? = some (some (.int k)) → σ[2]? = some (some (.int at')) → (∀ a o, a ≠ f.m → a ≠ f.l → H a = some o → H' a = some o) → H' f.m = some (.dK (dkv f.c f.l (at' + 1) rest')) → H' f.l = some (.lst (ls.map V.int)) →
      (tRet (tOp (rI (fun _ j => 0 < j) fun i j => .int (i % j))
        (tCall (SpH K f.w f.T 2 spMixed) [] E0 (tCons (tCall (SpH K f.w f.T 2 spMixed) [] E0 (tCons (tOp (rI0 fun i j => .int (i + j)) (tOp (rIxL K) (tDGet (tVar 0) (tC (.str "cells"))) (tOp (rI (fun _ j => 0 < j) fun i j => .int (i % j)) (tVar 2) (tC (.int 64)))) (tOp (rI CMulW fun i j => .int (i * j)) (tC (.int 31)) (tOp (rI CDivW fun i j => .int (i / j)) (tVar 2) (tC (.int 64))))) (tCons (tVar 2) tNil)))
          (tCons (tOp (rI0 fun i j => .int (i + j)) (tVar 2) (tC (.int 7))) tNil))) (tVar 1))) ⟨fun _ H' => Q .non H', Q, fun _ _ => False, fun _ _ => False⟩ σ H' := by
    intro σ H' s0 s1 s2 hk' h1 h2
    have R' := keep H' hk' h1 ls h2 hll hlb
    have hc' := hk' _ _ mc.symm hcn hc
    have b : at' ≤ ((n : Nat) : Int) := an
    have m0 : 0 ≤ at' % 64 := Int.emod_nonneg _ (by decide)
    have m1 : at' % 64 < 64 := Int.emod_lt_of_pos _ (by decide)
    have hj : (at' % 64).toNat < cs.length := by omega
    have hx := List.getElem_mem hj
    obtain ⟨x0, x1⟩ := hcb _ hx
    have d0 : 0 ≤ at' / 64 := Int.ediv_nonneg a0 (by decide)
    have d1 : at' / 64 ≤ at' := Int.ediv_le_self _ a0
    have d2 : at' / 64 < 4194305 := by omega
    have hat : atI (cs.map V.int) (at' % 64) = some (.int cs[(at' % 64).toNat]) := by
      unfold atI ixN
      rw [List.length_map, if_pos m0, if_pos (by omega)]
      show (cs.map V.int)[(at' % 64).toNat]? = _
      rw [List.getElem?_map, List.getElem?_eq_getElem hj]; rfl
    refine ⟨.ref f.m, s0, f.m, .ref f.c, rfl, dget_of h1 v_cells, .int at', s2, at', 64, rfl, rfl, (by show (0 : Int) < 64; decide), f.c, _, at' % 64, _, rfl, rfl, Or.inl (Or.inl hc'), hat, ?_⟩
    refine ⟨.int at', s2, at', 64, rfl, rfl, wide_div (b := 7) (by decide) (by decide) (by decide) (by decide), 31, at' / 64, rfl, rfl, wide_mul (a := 6) (b := 40) (by decide) (by omega) (by decide) (by decide) (by decide), _, 31 * (at' / 64), rfl, rfl, .int at', s2, ?_⟩
    have call : ∀ (p q : Int) (H2 : Hp) (n2 : Nat) (G2 : Hp) (Q2 : VK), Rel K f G2 ⟨[], n2⟩ [] H2 → 0 ≤ p → p < 4294967296 → 0 ≤ q → q < 536870912 → (∀ (i : Int) H3 G3, 0 ≤ i → i < 2147483647 → Ex G2 G3 → Rel K f G3 ⟨[], n2⟩ [] H3 → Q2 (.int i) H3) → SpH K f.w f.T 2 spMixed ([.int p, .int q] ++ []) H2 Q2 E0 := by
      intro p q H2 n2 G2 Q2 R2 p0 p1 q0 q1 kq
      refine spH_call (f := f) (F := f) (O := f.O) (s := ⟨[], n2⟩) (σ := []) (ps := [.dat (.int p), .dat (.int q)]) (C := fun pv n' => n' = n2 ∧ ∃ i : Int, pv = .dat (.int i) ∧ 0 ≤ i ∧ i < 2147483647) R2 (.cons (.int p) (.cons (.int q) .nil)) rfl (fun a ha => by
        rcases List.mem_cons.mp ha with rfl | ha
        · rfl
        · rcases List.mem_cons.mp ha with rfl | ha
          · rfl
          · cases ha) ⟨p, q, rfl, p0, p1, q0, q1, fun i i0 i1 => ⟨(fun z => by cases z), rfl, i, rfl, i0, i1⟩⟩ fun pv n' G3 H3 v c e3 R3 V3 => ?_
      obtain ⟨rfl, i, rfl, i0, i1⟩ := c
      cases vr_int V3.1
      exact kq i H3 G3 i0 i1 e3 R3
    refine call _ _ _ _ _ _ R' (by omega) (by omega) a0 (by omega) fun i H3 G3 i0 i1 e3 R3 => ?_
    refine ⟨.int at', s2, at', 7, rfl, rfl, ?_⟩
    refine call _ _ _ _ _ _ R3 i0 (by omega) (by omega) (by omega) fun i2 H4 G4 j0 j1 e4 R4 => ?_
    refine ⟨.int k, s1, i2, k, rfl, rfl, k0, ?_⟩
    exact kk _ _ _ _ _ (hC _ (Int.emod_nonneg _ (by omega)) (Int.emod_lt_of_pos _ k0)) (e3.trans e4) R4 (.int _)
  generalize hH1 : upd H f.m (.dK (dkv f.c f.l (at' + 1) rest')) = H1
  have h1m : H1 f.m = some (.dK (dkv f.c f.l (at' + 1) rest')) := by rw [← hH1, upd_same]
  have h1o : ∀ a o, a ≠ f.m → H a = some o → H1 a = some o := fun a o ne h => by rw [← hH1, upd_ne ne]; exact h
  have h1l := h1o _ _ ml.symm hl
  -- if m["left"] != []
  refine ⟨.ref f.m, rfl, f.m, .ref f.l, rfl, dget_of h1m v_left, Nat.zero_le _, fun p hp => ?_⟩
  have pm : f.m ≠ p := fun z => by rw [← z, h1m] at hp; cases hp
  have pl : f.l ≠ p := fun z => by rw [← z, h1l] at hp; cases hp
  have h2m : upd H1 p (.lst []) f.m = some (.dK (dkv f.c f.l (at' + 1) rest')) := by rw [upd_ne pm]; exact h1m
  have h2l : upd H1 p (.lst []) f.l = some (.lst (ls.map V.int)) := by rw [upd_ne pl]; exact h1l
  have h2o : ∀ a o, a ≠ f.m → a ≠ f.l → H a = some o → upd H1 p (.lst []) a = some o := fun a o n1 n2 h => by
    have z := h1o a o n1 h
    rw [upd_ne (fun e => by rw [e, hp] at z; cases z)]; exact z
  refine ⟨.list (ls.map .int), .list [], .lst (Or.inl (Or.inl h2l)) (dpAll_ints _), .lst (Or.inl (Or.inl upd_same)) .nil, plain_ints ls, rfl, (by
    have : PyData.depth (.list []) ≤ 60 := by simp [PyData.depth, PyData.depthAll]
    omega), _, rfl, ?_⟩
  rw [eqv_nil]
  cases hls : ls with
  | nil =>
    refine iteF ?_
    exact last _ _ rfl rfl rfl h2o h2m h2l
  | cons y r =>
    refine iteT ?_
    have ne : ls ≠ [] := by rw [hls]; intro z; cases z
    have hp2 : 0 < ls.length := List.length_pos_iff.mpr ne
    obtain ⟨j, x, hj, hx⟩ := mod_at a0 ne
    have x0 : 0 ≤ x := hlb x (List.mem_of_getElem? hx)
    have jl : j < ls.length := (List.getElem?_eq_some_iff.mp hx).1
    refine ⟨.int at', rfl, .ref f.m, rfl, f.m, .ref f.l, rfl, dget_of h2m v_left, f.l, _, rfl, Or.inl (Or.inl (Or.inl h2l)), at', _, rfl, rfl, (by show (0 : Int) < ((ls.map V.int).length : Nat); rw [List.length_map]; omega), ?_⟩
    refine ⟨.ref f.m, rfl, f.m, .ref f.l, rfl, dget_of h2m v_left, _, rfl, f.l, _, _, .int x, rfl, rfl, Or.inl (Or.inl h2l), (by unfold atI; rw [hj]; show (ls.map V.int)[j]? = _; rw [List.getElem?_map, hx]; rfl), ?_⟩
    refine ⟨_, rfl, x, 0, rfl, rfl, _, rfl, ?_⟩
    by_cases hx0 : 0 < x
    · rw [decide_eq_true hx0]
      refine iteT ?_
      refine ⟨_, rfl, _, rfl, x, k, rfl, rfl, wide_div (b := 30) k0 (by omega) (by decide) (by decide), .ref f.m, rfl, f.m, .ref f.l, rfl, dget_of h2m v_left, _, rfl, f.l, _, _, j, rfl, rfl, h2l, hj, ?_⟩
      refine ⟨_, rfl, _, rfl, x, k, rfl, rfl, k0, ?_⟩
      have q0 : 0 ≤ x / k := Int.ediv_nonneg x0 (by omega)
      have hset : (ls.map V.int).set j (.int (x / k)) = (ls.set j (x / k)).map V.int := by rw [List.map_set]
      rw [hset]
      refine kk _ (n + 1) G _ _ (hC _ (Int.emod_nonneg _ (by omega)) (Int.emod_lt_of_pos _ k0)) (Ex.refl G) (keep _ (fun a o n1 n2 h => by rw [upd_ne n2]; exact h2o a o n1 n2 h) (by rw [upd_ne ml]; exact h2m) _ upd_same (by rw [List.length_set]; exact hll) fun z hz => ?_) (.int _)
      rcases List.mem_or_eq_of_mem_set hz with hz | rfl
      · exact hlb z hz
      · exact q0
    · rw [decide_eq_false hx0]
      exact iteF (last _ _ rfl rfl rfl h2o h2m h2l)
end
end Sk
set_option Elab.async false
set_option linter.all false
set_option maxRecDepth 100000
set_option maxHeartbeats 4000000
namespace Sk
open PySem PySem.Spec PyProof.Rows L2
open Evl (Ex)
def spFolded : HSp := fun ps n C => ∃ ns : List Int, ps = [.dat (.list (ns.map .int))] ∧ ns.length ≤ 63 ∧ ∀ cs : List Int, cs.length = 64 → (∀ x ∈ cs, 0 ≤ x ∧ x < 2147483647) → C (.own (cs.map .int)) n
def h_lefts : HE := hLc (hiL (hV 0)) (gN 2) hYes (hIf (hB (hC geW (hL 2 (hE (hC powW (hE (hK (.int 10)) (hE (hK (.int 18)) hNil))) hNil)))) (hV 2) (hK (.int 0))) [2]
def t_begun (K : PySem.W.Frag) (w : World) (more : List (TE × TE)) : TS :=
  tSeq (tAsg (tDisp ((tC (.str "cells"), tCall (SpH K w [] 1 spFolded) [] E0 (tCons (tVar 0) tNil)) :: (tC (.str "left"), tLst tNil) :: (tC (.str "at"), tC (.int 0)) :: more)) (gName 1))
  (tSeq (sDPut (tVar 1) (tC (.str "left")) (lf K (f0 w []) h_lefts)) (tRet (tVar 1)))
def spBegun (K : PySem.W.Frag) : Sp := fun vs H Q _ => ∃ (a : Addr) (ns : List Int), vs = [.ref a] ∧ SqL K H a (ns.map V.int) ∧ ns.length ≤ 63 ∧ ∀ m l c H', Ex H H' → H m = none → H l = none → H c = none → DrwOk m l c 0 H' → Q (.ref m) H'
def mores (kv : List (Str × Int)) : List (TE × TE) := kv.map fun p => (tC (.str p.1), tC (.int p.2))
theorem tp_mores {σ : L2.St} : ∀ (kv : List (Str × Int)) (H : Hp) (Q : List (V × V) → Hp → Prop), Q (kv.map fun p => (V.str p.1, V.int p.2)) H → tPairs (mores kv) σ H Q
  | [], _, _, h => h
  | p :: kv, H, Q, h => tp_mores kv H _ h
theorem lefts_ok (ds : List Int) : ∀ (acc : List Int) (p0 : Option PV), acc.length + ds.length ≤ 63 → (∀ x ∈ acc, 0 ≤ x) →
    lcs [2] (gN 2) hYes (hIf (hB (hC geW (hL 2 (hE (hC powW (hE (hK (.int 10)) (hE (hK (.int 18)) hNil))) hNil)))) (hV 2) (hK (.int 0))) (ds.map .int) (acc.map .int) ⟨[p0, none, none], 0⟩ (fun p s' => ∃ ls : List Int, p = .own (ls.map .int) ∧ ls.length ≤ 63 ∧ ∀ x ∈ ls, 0 ≤ x) := by
  induction ds with
  | nil => intro acc p0 h h2; exact ⟨acc, rfl, by simpa using h, h2⟩
  | cons d ds ih =>
    intro acc p0 h h2
    have hp : CPow 10 18 := by unfold CPow; decide
    have step : ∀ x : Int, 0 ≤ x → lcs [2] (gN 2) hYes (hIf (hB (hC geW (hL 2 (hE (hC powW (hE (hK (.int 10)) (hE (hK (.int 18)) hNil))) hNil)))) (hV 2) (hK (.int 0))) (ds.map .int) ((acc.map PyData.int) ++ [.int x]) ⟨[p0, none, none], 0⟩ (fun p s' => ∃ ls : List Int, p = .own (ls.map .int) ∧ ls.length ≤ 63 ∧ ∀ x ∈ ls, 0 ≤ x) := fun x hx => by
      have e : (acc.map PyData.int) ++ [.int x] = (acc ++ [x]).map .int := by simp
      rw [e]
      refine ih _ _ (by simp at h ⊢; omega) fun y hy => ?_
      rcases List.mem_append.mp hy with hy | hy
      · exact h2 y hy
      · rw [List.mem_singleton.mp hy]; exact hx
    have al : (acc.map PyData.int).length < 100000 := by simp at h ⊢; omega
    simp only [List.map_cons, lcs, gN, hYes, hIf, hB, hC, hL, hE, hNil, hK, hV, i2, i2', Sg.put, List.set_cons_succ, List.set_cons_zero, List.getElem?_cons_succ, List.getElem?_cons_zero, PV.frz, if_true, Option.some.injEq, exists_eq_left', PV.dat.injEq]
    refine ⟨⟨_, rfl⟩, hp, _, rfl, ?_⟩
    by_cases hd : (10 : Int) ^ Int.toNat 18 ≤ d
    · rw [decide_eq_true hd]
      have d0 : 0 ≤ d := by
        have : (0 : Int) ≤ 10 ^ Int.toNat 18 := by decide
        omega
      exact ⟨al, step d d0⟩
    · rw [decide_eq_false hd]
      exact ⟨al, step 0 (Int.le_refl _)⟩
theorem rd_begun {w : World} {K : PySem.W.Frag} {kv : List (Str × Int)} {vs : List V} {H : Hp} {Q : VK} {E : XK} (hkv : kv.length ≤ 10) (hmer : ∀ c l, mergeK [] ((Sum.inr ("cells" : Str), V.ref c) :: (Sum.inr ("left" : Str), V.ref l) :: (Sum.inr ("at" : Str), V.int 0) :: kv.map fun p => ((Sum.inr p.1 : Key), V.int p.2)) = dkv c l 0 (kv.map fun p => ((Sum.inr p.1 : Key), V.int p.2)))
    (h : spBegun K vs H Q E) : t_begun K w (mores kv) ⟨fun _ H' => Q .non H', Q, fun _ _ => False, fun _ _ => False⟩ (L2.start ["_law_script", "_law_m", "_law_cell"] vs) H := by
  obtain ⟨a, ns, rfl, hs, hn, k⟩ := h
  intro m0 hm0
  have e1 : Ex H (upd H m0 (.dK [])) := Evl.Ex.new hm0
  have hs1 := Evl.ex_l e1 hs
  -- folded(script)
  refine ⟨.ref a, rfl, ?_⟩
  refine ⟨⟨false, 0, 0, 0, upd H m0 (.dK []), fun _ => False, fun _ => False, 0, w, [], none⟩, upd H m0 (.dK []), 0, [.dat (.list (ns.map .int))], fun p n' => ∃ cs : List Int, p = .own (cs.map .int) ∧ cs.length = 64 ∧ ∀ x ∈ cs, 0 ≤ x ∧ x < 2147483647, rfl, rfl, rfl, rfl, (fun _ z => z.elim), ?_, ?_, rfl, ⟨ns, rfl, hn, fun cs h1 h2 => ⟨cs, rfl, h1, h2⟩⟩, ?_⟩
  · exact {
      gh := Ex.refl _
      fh := fun _ _ _ h => h
      go := fun _ z => z.elim
      oh := fun _ z => z.elim
      mh := fun _ z => z.elim
      mo := fun z => by cases z
      tm := fun _ h => by cases h
      tb := fun _ h => by cases h
      pk := fun _ h => by cases h
      dr := fun z => by cases z
      ln := rfl
      sl := fun i p h => by
        match i, h with
        | 0, h =>
          simp at h; subst h
          exact ⟨.ref a, rfl, .lst hs1 (dpAll_ints ns)⟩
        | i + 1, h => simp at h
      ds := fun i j p q v _ h _ mp => by
        match i, h with
        | 0, h => simp at h; subst h; cases mp
        | i + 1, h => simp at h }
  · intro p hp
    rcases List.mem_cons.mp hp with rfl | hp
    · rfl
    · cases hp
  intro p n' G' H1 v c eG R V
  obtain ⟨cs, rfl, hcl, hcb⟩ := c
  obtain ⟨c, ws, rfl, hc, _, _, hcF, hcd⟩ := V
  have hws := ints_dpAll hcd
  subst hws
  have e2 : Ex (upd H m0 (.dK [])) H1 := fun b o hb => R.fh b o (fun z => z) hb
  have hc0 : upd H m0 (.dK []) c = none := hcF.elim id fun z => z.elim
  have hcm : c ≠ m0 := fun z => by rw [z, upd_same] at hc0; cases hc0
  have hcH : H c = none := by rw [upd_ne hcm] at hc0; exact hc0
  have hm1 : H1 m0 = some (.dK []) := e2 _ _ upd_same
  -- []
  refine ⟨Nat.zero_le _, fun l0 hl0 => ?_⟩
  have e3 : Ex H1 (upd H1 l0 (.lst [])) := Evl.Ex.new hl0
  have hm2 := e3 _ _ hm1
  refine tp_mores kv _ _ ⟨hm2, (Sum.inr ("cells" : Str), V.ref c) :: (Sum.inr ("left" : Str), V.ref l0) :: (Sum.inr ("at" : Str), V.int 0) :: kv.map (fun p => ((Sum.inr p.1 : Key), V.int p.2)), ?_, ?_, ?_⟩
  · simp only [List.map_cons, List.map_map, kV, List.cons.injEq, true_and]
    rfl
  · simp only [List.length_cons, List.length_map]; omega
  rw [hmer]
  generalize hr : (kv.map fun p => ((Sum.inr p.1 : Key), V.int p.2)) = rest
  have hrl : rest.length ≤ 10 := by rw [← hr, List.length_map]; exact hkv
  -- m["left"] = [..]
  generalize hH2 : upd (upd H1 l0 (.lst [])) m0 (.dK (dkv c l0 0 rest)) = H2
  have m2 : H2 m0 = some (.dK (dkv c l0 0 rest)) := by rw [← hH2, upd_same]
  have o2 : ∀ b o, b ≠ m0 → H1 b = some o → H2 b = some o := fun b o ne h => by rw [← hH2, upd_ne ne]; exact e3 _ _ h
  have s2 : SqL K H2 a (ns.map V.int) := by
    rcases hs with (hs | ⟨ob, hs⟩) | hs
    · exact Or.inl (Or.inl (o2 _ _ (ne_of_none hs hm0) (e2 _ _ (e1 _ _ hs))))
    · exact Or.inl (Or.inr ⟨ob, o2 _ _ (ne_of_none hs hm0) (e2 _ _ (e1 _ _ hs))⟩)
    · exact Or.inr hs
  refine ⟨⟨false, 0, 0, 0, H2, fun _ => False, fun _ => False, 0, w, [], none⟩, fun _ => False, H2, ⟨[some (.dat (.list (ns.map .int))), none, none], 0⟩, fun p s' => ∃ ls : List Int, p = .own (ls.map .int) ∧ ls.length ≤ 63 ∧ ∀ x ∈ ls, 0 ≤ x, ?_, ?_, ?_⟩
  · exact {
      gh := Ex.refl _
      fh := fun _ _ _ h => h
      go := fun _ z => z.elim
      oh := fun _ z => z.elim
      mh := fun _ z => z.elim
      mo := fun z => by cases z
      tm := fun _ h => by cases h
      tb := fun _ h => by cases h
      pk := fun _ h => by cases h
      dr := fun z => by cases z
      ln := rfl
      sl := fun i p h => by
        match i, h with
        | 0, h =>
          simp at h; subst h
          exact ⟨.ref a, rfl, .lst s2 (dpAll_ints ns)⟩
        | 1, h => simp at h
        | 2, h => simp at h
        | i + 3, h => simp at h
      ds := fun i j p q v _ h _ mp => by
        match i, h with
        | 0, h => simp at h; subst h; cases mp
        | 1, h => simp at h
        | 2, h => simp at h
        | i + 3, h => simp at h }
  · exact lefts_ok ns [] _ (by simpa using hn) (fun x hx => by cases hx)
  intro p s' G3 H3 v c3 e3' R3 V3
  obtain ⟨ls, rfl, hll, hlb⟩ := c3
  obtain ⟨⟨l1, ws, rfl, hl1, _, _, hF1, hd1⟩, _⟩ := V3
  have hws := ints_dpAll hd1
  subst hws
  have n2 : H2 l1 = none := hF1.elim id fun z => z.elim
  have e4 : Ex H2 H3 := fun b o hb => R3.fh b o (fun z => z) hb
  obtain ⟨rest', hput, hrl'⟩ := put_left (c := c) (l := l0) (l' := l1) (k := 0) (rest := rest)
  refine ⟨.ref m0, rfl, m0, _, rfl, DPut.k (k := .inr "left") (e4 _ _ m2) (big_dkv (by omega)), ?_⟩
  rw [hput]
  refine ⟨.ref m0, rfl, ?_⟩
  have c2 : H2 c = some (.lst (cs.map V.int)) := o2 _ _ hcm hc
  have lm : l1 ≠ m0 := fun z => by rw [z, m2] at n2; cases n2
  have all : ∀ b o, H b = some o → H3 b = some o := fun b o hb => e4 _ _ (o2 _ _ (ne_of_none hb hm0) (e2 _ _ (e1 _ _ hb)))
  refine k m0 l1 c _ (fun b o hb => by rw [upd_ne (ne_of_none hb hm0)]; exact all b o hb) hm0 ?_ hcH ⟨0, cs, ls, rest', upd_same, Int.le_refl _, Int.le_refl _, by rw [upd_ne hcm]; exact e4 _ _ c2, hcl, hcb, by rw [upd_ne lm]; exact hl1, hll, hlb, by omega, fun z => by rw [z, n2] at c2; cases c2⟩
  cases q : H l1 with
  | none => rfl
  | some o => rw [o2 _ _ lm (e2 _ _ (e1 _ _ q))] at n2; cases n2
end Sk
set_option Elab.async false
set_option linter.all false
set_option maxRecDepth 100000
set_option maxHeartbeats 4000000
namespace Sk
open PySem PySem.Spec PyProof.Rows L2
open Evl (Ex)
def spLaw (K : PySem.W.Frag) (T : Tbs) : Sp := fun vs H Q _ => (∀ p ∈ T, H p.1 = some (.tbl #[])) ∧ ∃ (a : Addr) (ns : List Int), vs = [.ref a] ∧ SqL K H a (ns.map V.int) ∧ ns.length ≤ 63 ∧ ∀ H', Q (.bl true) H'
abbrev lawD : HD := ⟨fun _ => False, fun p _ => p = .dat (.bool true), fun _ => False, fun _ => False⟩
theorem law_begin {w : World} {T : Tbs} {K : PySem.W.Frag} {N : List Str} {n : Nat} {t : HS} {a : Addr} {ns : List Int} {H : Hp} {Q : VK} (hN : N.length = n + 2) (hT : ∀ p ∈ T, H p.1 = some (.tbl #[])) (hS : SqL K H a (ns.map V.int)) (hl : ns.length ≤ 63) (q : ∀ H', Q (.bl true) H')
    (rd : t lawD ⟨some (.dat (.list (ns.map .int))) :: some .drw :: List.replicate n none, 0⟩) :
    (tSeq (tAsg (tCall (spBegun K) [] E0 (tCons (tVar 0) tNil)) (gName 1)) (lfS K (f0 w T) t)) ⟨fun _ H' => Q .non H', Q, fun _ _ => False, fun _ _ => False⟩ (L2.start N [.ref a]) H := by
  have e : L2.start N [.ref a] = some (.ref a) :: none :: List.replicate n none := by
    unfold L2.start
    rw [hN]
    rfl
  rw [e]
  refine ⟨.ref a, rfl, a, ns, rfl, hS, hl, fun m l c H' ex hm hlx hc dr => ?_⟩
  obtain ⟨k, cs, ls, rest, h1, h2, h3, h4, h5, h6, h7, h8⟩ := id dr
  classical
  show lfS K (f0 w T) t _ (some (.ref a) :: some (.ref m) :: List.replicate n none) H'
  let tb : Addr → Prop := fun b => ∃ q, (b, q) ∈ T
  have ht : ∀ b, tb b → H b = some (.tbl #[]) := fun b ⟨q, hq⟩ => hT _ hq
  let G : Hp := fun b => if tb b then none else H b
  have hG : Ex G H := fun b o h => by
    have h : (if tb b then none else H b) = some o := h
    split at h
    · cases h
    · exact h
  have hS' : SqL K G a (ns.map V.int) := by
    have up : ∀ o, H a = some o → (∀ xs, o ≠ .tbl xs) → G a = some o := fun o h hn => by
      show (if tb a then none else H a) = some o
      rw [if_neg fun z => by rw [ht _ z] at h; cases h; exact hn _ rfl]
      exact h
    rcases hS with (h | ⟨ob, h⟩) | h
    · exact Or.inl (Or.inl (up _ h fun xs z => by cases z))
    · exact Or.inl (Or.inr ⟨ob, up _ h fun xs z => by cases z⟩)
    · exact Or.inr h
  refine ⟨⟨true, m, l, c, H', fun b => (b = m ∨ b = l ∨ b = c) ∨ tb b, fun b => (b = m ∨ b = l) ∨ tb b, 0, w, T, none⟩, fun b => (b = m ∨ b = l ∨ b = c) ∨ tb b, G, ⟨some (.dat (.list (ns.map .int))) :: some .drw :: List.replicate n none, 0⟩, lawD, ?_, rd, ?_⟩
  · exact {
      gh := hG.trans ex
      fh := fun _ _ _ h => h
      go := fun b hb => by
        show (if tb b then none else H b) = none
        split
        · rfl
        · rename_i nt
          rcases hb with (rfl | rfl | rfl) | hb
          · exact hm
          · exact hlx
          · exact hc
          · exact absurd hb nt
      oh := fun b hb => by
        rcases hb with (rfl | rfl | rfl) | hb
        · rw [h1]; intro z; cases z
        · rw [h7]; intro z; cases z
        · rw [h4]; intro z; cases z
        · rw [ex _ _ (ht _ hb)]; intro z; cases z
      mh := fun b hb => by
        rcases hb with (rfl | rfl) | hb
        · rw [h1]; intro z; cases z
        · rw [h7]; intro z; cases z
        · rw [ex _ _ (ht _ hb)]; intro z; cases z
      mo := fun _ => ⟨Or.inl (Or.inl rfl), Or.inl (Or.inr (Or.inl rfl)), Or.inl (Or.inr (Or.inr rfl)), Or.inl (Or.inl rfl), Or.inl (Or.inr rfl)⟩
      tm := fun p hp => ⟨Or.inr ⟨p.2, hp⟩, Or.inr ⟨p.2, hp⟩⟩
      tb := fun p hp => ⟨#[], ex _ _ (hT p hp), True.intro, fun pos cv hc => by
        have z : codeAmong pos [] = some cv := hc
        simp [codeAmong] at z⟩
      pk := fun _ h => by cases h
      dr := fun _ => dr
      ln := by simp
      sl := fun i p h => by
        match i, h with
        | 0, h =>
          simp at h; subst h
          exact ⟨.ref a, rfl, .lst hS' (dpAll_ints ns)⟩
        | 1, h =>
          simp at h; subst h
          exact ⟨.ref m, rfl, rfl, rfl⟩
        | i + 2, h =>
          simp only [List.getElem?_cons_succ] at h
          rw [List.getElem?_replicate] at h
          split at h <;> cases h
      ds := fun i j p q v _ h _ mp => by
        match i, h with
        | 0, h => simp at h; subst h; cases mp
        | 1, h => simp at h; subst h; cases mp
        | i + 2, h =>
          simp only [List.getElem?_cons_succ] at h
          rw [List.getElem?_replicate] at h
          split at h <;> cases h }
  · exact {
      nx := fun _ _ _ _ _ _ z => z.elim
      rt := fun p G s σ H2 v _ R V z => by
        have z : p = .dat (.bool true) := z
        subst z
        have e := vr_bool V
        subst e
        exact q H2
      bk := fun _ _ _ _ _ _ z => z.elim
      ct := fun _ _ _ _ _ _ z => z.elim }
section
variable {P : Program} {w : World} {K : PySem.W.Frag} {mg : Str → Option Value} {base h : Heap} {fa : Addr} {fd : FuncData}
theorem ok_law {T : Tbs} {k n : Nat} {st : Stmt} {N : List Str} {hs : HS} (Fn : Fun K "law" "law" st fa fd) (S : FnScope N ["_law_script"] (defScope st)) (hN : N.length = n + 2)
    (body : ∀ (cdv : Value), fd.code = cdv → ∀ (A : Around) (outer : List Env) (s : Shared) (H : Hp) (E : XK), (A.deeper (envOfC "law" (defScope st) s.heap.objs.size fa cdv)).guards = some [] → Room k (A.deeper (envOfC "law" (defScope st) s.heap.objs.size fa cdv)) →
      PSs (cxOf CX0 P w K mg base N "law" (defScope st) fa cdv A outer s H E).nox (defBody st) (tSeq (tAsg (tCall (spBegun K) [] E0 (tCons (tVar 0) tNil)) (gName 1)) (lfS K (f0 w T) hs)))
    (rd : ∀ ns : List Int, ns.length ≤ 63 → hs lawD ⟨some (.dat (.list (ns.map .int))) :: some .drw :: List.replicate n none, 0⟩) : GnOk P w K mg base CX0 (k + 1) fa fd ["_law_script"] (spLaw K T) := by
  refine gn_ok Fn S (fun vs H Q E h => by obtain ⟨_, a, ns, rfl, _⟩ := h; rfl) fun cdv ecd A outer s H vs Q E hgd hr h => ?_
  obtain ⟨hT, a, ns, rfl, hS, hl, q⟩ := h
  exact ⟨_, body cdv ecd A outer s H E hgd hr, law_begin hN hT hS hl q (rd ns hl)⟩
theorem has_draw {T : Tbs} {x : Str} {st : Stmt} {k : Nat} (hk : 1 ≤ k) (Fn : Fun K x x st fa fd) (hm : mg x = some (.ref fa)) {ps : List Str} (hp : ps.length = 2) (b : Binds K fd ps []) {t : TS} {N : List Str} (S : FnScope N ps (defScope st))
    (body : ∀ (cdv : Value), fd.code = cdv → ∀ (A : Around) (outer : List Env) (s : Shared) (H : Hp) (E : XK), (A.deeper (envOfC x (defScope st) s.heap.objs.size fa cdv)).guards = some [] → Room 1 (A.deeper (envOfC x (defScope st) s.heap.objs.size fa cdv)) →
      PSs (cxOf CX0 P w K mg base N x (defScope st) fa cdv A outer s H E).nox (defBody st) t)
    (rd : ∀ vs H Q (E : XK), SpH K w T 2 spDraw vs H Q E → t ⟨fun _ H' => Q .non H', Q, fun _ _ => False, fun _ _ => False⟩ (L2.start N vs) H) : Has P w T K mg base 2 x 2 spDraw :=
  ⟨fa, fd, ps, hp, gn_ok Fn S (fun vs H Q E h => by rw [hp]; exact vals_len vs H Q E h) fun cdv ecd A outer s H vs Q E hgd hr h => ⟨t, body cdv ecd A outer s H E hgd hr, rd vs H Q E h⟩, hm, Fn.kp, b⟩
theorem begun_ok {st : Stmt} {N : List Str} {t : TS} (Fn : Fun K "_law_begun" "_law_begun" st fa fd) (S : FnScope N ["_law_script"] (defScope st))
    (body : ∀ (cdv : Value), fd.code = cdv → ∀ (A : Around) (outer : List Env) (s : Shared) (H : Hp) (E : XK), (A.deeper (envOfC "_law_begun" (defScope st) s.heap.objs.size fa cdv)).guards = some [] → Room 1 (A.deeper (envOfC "_law_begun" (defScope st) s.heap.objs.size fa cdv)) →
      PSs (cxOf CX0 P w K mg base N "_law_begun" (defScope st) fa cdv A outer s H E).nox (defBody st) t)
    (rd : ∀ vs H Q (E : XK), spBegun K vs H Q E → t ⟨fun _ H' => Q .non H', Q, fun _ _ => False, fun _ _ => False⟩ (L2.start N vs) H) : GnOk P w K mg base CX0 2 fa fd ["_law_script"] (spBegun K) :=
  gn_ok Fn S (fun vs H Q E h => by obtain ⟨a, ns, rfl, _⟩ := h; rfl) fun cdv ecd A outer s H vs Q E hgd hr h => ⟨t, body cdv ecd A outer s H E hgd hr, rd vs H Q E h⟩
theorem cst_v {x : Str} {v : V} {u : Value} {d : PyData} (X : K.In h) (G : h.Ns mainGlobals mg) (a : PySem.W.nsIn K mainGlobals x = some (some u)) (r : RelV v u) (hd : ∀ G, Dp K G v d) : Cst K mg x d := ⟨v, u, PySem.W.mg_of X G a, r, hd⟩
def TupK (o : Obj) (vs : List V) : Prop := ∃ (its : Array Value) (n : Nat), o.cls = .type "tuple" ∧ o.data = .seq its n ∧ its.size ≤ sizeLine ∧ Vals vs its.toList
theorem cst_t {x : Str} {b : Addr} {o : Obj} {vs : List V} {ds : List PyData} (X : K.In h) (G : h.Ns mainGlobals mg) (a : PySem.W.nsIn K mainGlobals x = some (some (.ref b))) (l : K.lookup b = some o) (t : TupK o vs) (hd : ∀ G, DpAll K G vs ds) : Cst K mg x (.tuple ds) := by
  obtain ⟨its, n, h1, h2, h3, h4⟩ := t
  exact ⟨.ref b, _, PySem.W.mg_of X G a, rfl, fun G => .tup (Or.inr ⟨o, its, n, l, h1, h2, h3, h4⟩) (hd G)⟩
end
end Sk
set_option Elab.async false
set_option linter.all false
set_option maxRecDepth 100000
set_option maxHeartbeats 2000000
namespace Sk
open PySem PySem.Spec PyProof.Rows L2
abbrev tab0 : Obj := { cls := .none, data := .fields #[] }
def hpT (ts : List Addr) (H : Hp) : Hp := fun b => if b ∈ ts then some (.tbl #[]) else H b
theorem hpT_in {ts : List Addr} {H : Hp} {b : Addr} (h : b ∈ ts) : hpT ts H b = some (.tbl #[]) := if_pos h
theorem hpT_out {ts : List Addr} {H : Hp} {b : Addr} (h : b ∉ ts) : hpT ts H b = H b := if_neg h
section
variable {P : Program} {w : World} {K : PySem.W.Frag} {mg mb : Str → Option Value} {k : Nat} {fa a : Addr} {fd : FuncData} {x : Str} {sp : Sp} {s1 : Shared} {vs : List Value} {ns : List Int} {cs : List (Addr × Addr)}
theorem law_callGT (hin : K.In s1.heap) (hns : s1.heap.Ns mainGlobals mg) (hbn : s1.heap.Ns builtinsNs mb) (hbb : ∀ y : Str, y ≠ "__name__" → mb y = bootBuiltins y) (hlim : s1.heap.NoLimit) (hgn : s1.gens = #[])
    (ht0 : ∀ p ∈ cs, s1.heap.get? p.2 = some tab0) (hk0 : ∀ p ∈ cs, K.lookup p.2 = none) (hcd : ∀ p ∈ cs, PySem.W.CodeHd s1.heap p.1 p.2)
    (hbm : ∃ (bm : Addr) (ob : Obj), mg "__builtins__" = some (.ref bm) ∧ bm ≠ builtinsNs ∧ s1.heap.get? bm = some ob ∧ ob.cls = .type "module" ∧ ob.dict = some builtinsNs ∧ ob.data = .plain)
    (hobj : s1.heap.get? a = some { cls := .type "list", data := .seq vs.toArray }) (hi : IntsAre vs ns) (hl : ns.length ≤ sizeLine) (hr : Room k callerA)
    (F : ∀ base : Heap, K.In base → base.Ns mainGlobals mg → (∀ p ∈ cs, LamX.TabB base mg p.1 p.2) → GnOk P w K mg base CX0 k fa fd [x] sp) (hbind : ∀ (s : Shared) (u : Value), BindsTo s fd ⟨[u], []⟩ [(x, u)])
    (hsp : ∀ H : Hp, (∀ p ∈ cs, H p.2 = some (.tbl #[])) → SqL K H a (ns.map V.int) → sp [.ref a] H (fun v _ => v = .bl true) fun _ _ _ => False) :
    codeAny (model P w) callerA (.call (.ref fa) ⟨[.ref a], []⟩) (fun r s' => r = .ok (.ret (.bool true)) ∧ OldK s1.heap s'.heap ∧ s'.os = s1.os ∧ AllBare s'.gens) s1 := by
  have rv := vals_ints hi
  have hlen := hi.length
  generalize hts : cs.map (·.2) = ts
  have inT : ∀ p ∈ cs, p.2 ∈ ts := fun p hp => by rw [← hts]; exact List.mem_map.mpr ⟨p, hp, rfl⟩
  have ofT : ∀ b ∈ ts, ∃ p ∈ cs, p.2 = b := fun b hb => by rw [← hts] at hb; exact List.mem_map.mp hb
  have getT : ∀ b ∈ ts, s1.heap.get? b = some tab0 := fun b hb => by
    obtain ⟨p, hp, rfl⟩ := ofT b hb
    exact ht0 p hp
  have naT : a ∉ ts := fun z => by
    have q := getT a z
    rw [hobj] at q
    cases q
  let H : Hp := hpT ts (hpScript K a vs ns)
  have at' : ∀ {b : Addr} {o : HO}, H b = some o → (b ∈ ts ∧ o = .tbl #[]) ∨ (b ∉ ts ∧ b = a ∧ K.lookup a = none ∧ o = .frz { cls := .type "list", data := .seq vs.toArray } (.lst (ns.map V.int))) := fun {b o} h => by
    by_cases hb : b ∈ ts
    · exact Or.inl ⟨hb, Option.some.inj (h.symm.trans (hpT_in hb))⟩
    · have h2 : hpScript K a vs ns b = some o := (hpT_out hb).symm.trans h
      exact Or.inr ⟨hb, hpScript_at h2⟩
  have hS : SqL K H a (ns.map V.int) := by
    cases hk : K.lookup a with
    | none =>
      refine Or.inl (Or.inr ⟨{ cls := .type "list", data := .seq vs.toArray }, (hpT_out naT).trans ?_⟩)
      unfold hpScript
      rw [if_pos ⟨rfl, by rw [hk]; rfl⟩]
    | some o =>
      have e := hin a o hk
      rw [hobj] at e
      cases e
      exact Or.inr ⟨_, vs.toArray, _, hk, rfl, rfl, rfl, by rw [List.size_toArray, hlen]; exact hl, by simpa using rv⟩
  have hok : HOk P w H s1.heap := fun b u e => by
    rcases at' e with ⟨hb, rfl⟩ | ⟨_, rfl, _, rfl⟩
    · exact getT b hb
    · exact ⟨hobj, by rw [List.length_map]; exact hl, vs, _, rv, hobj⟩
  have low : ∀ {b : Addr} {o : Obj}, s1.heap.get? b = some o → H b = none → (hidT s1.heap H).get? b = some o := fun e n => hidT_get e n
  -- what is neither a list nor a table is not tracked
  have free : ∀ {b : Addr} {o : Obj}, s1.heap.get? b = some o → o.cls ≠ .type "list" → o ≠ tab0 → H b = none := fun {b o} e h1 h2 => by
    cases q : H b with
    | none => rfl
    | some u =>
      rcases at' q with ⟨hb, _⟩ | ⟨_, rfl, _, _⟩
      · rw [getT b hb] at e
        exact absurd (Option.some.inj e).symm h2
      · rw [hobj] at e
        cases e
        exact absurd rfl h1
  have dct : ∀ {b : Addr} {o : Obj} {es : Array DictEntry} {ep : Nat}, s1.heap.get? b = some o → o.data = .dict es ep → H b = none := fun {b o es ep} e d => by
    cases q : H b with
    | none => rfl
    | some u =>
      rcases at' q with ⟨hb, _⟩ | ⟨_, rfl, _, _⟩
      · rw [getT b hb] at e
        cases e
        cases d
      · rw [hobj] at e
        cases e
        cases d
  have ns' : ∀ {b : Addr} {m : Str → Option Value}, s1.heap.Ns b m → (hidT s1.heap H).Ns b m := fun z => by
    obtain ⟨o, es, ep, e, d, r⟩ := z
    exact ⟨o, es, ep, low e (dct e d), d, r⟩
  have hK : K.In (hidT s1.heap H) := fun b o e => low (hin b o e) (by
    cases q : H b with
    | none => rfl
    | some u =>
      rcases at' q with ⟨hb, _⟩ | ⟨_, rfl, z, _⟩
      · obtain ⟨p, hp, rfl⟩ := ofT b hb
        rw [hk0 p hp] at e
        cases e
      · rw [z] at e
        cases e)
  have hM : Mod K mg (hidT s1.heap H) := { kin := hK, glob := ns' hns, blt := ⟨mb, ns' hbn, hbb⟩, nolimit := by obtain ⟨mc, h1, h2⟩ := hlim; exact ⟨mc, ns' h1, h2⟩ }
  have e0 : Env0 P w K mg (hidT s1.heap H) callerA [] s1 H := { frames := rfl, mod := hM, bs := fun b o e => of_hidT e, bsz := Nat.le_of_eq (hidT_size _ _), funs := trivial, frf := fun b hb => absurd (show b ∈ ([] : List Addr) from hb) List.not_mem_nil, hok := hok, bare := .of_eq hgn }
  have tabs : ∀ p ∈ cs, LamX.TabB (hidT s1.heap H) mg p.1 p.2 := fun p hp => by
    refine ⟨?_, ?_, fun z => ?_⟩
    · obtain ⟨o, us, file, tf, flags, tg, inF, text, tt, g, gc, more⟩ := hcd p hp
      refine ⟨o, us, file, tf, flags, tg, inF, text, tt, low g (free g (fun z => ?_) fun z => ?_), gc, more⟩
      · rw [gc] at z
        exact absurd z (by decide)
      · rw [z] at gc
        cases gc
    · obtain ⟨bm, ob, m1, m2, m3, m4, m5, m6⟩ := hbm
      have hfree : H bm = none := free m3 (fun z => by rw [m4] at z; exact absurd z (by decide)) fun z => by rw [z] at m6; cases m6
      refine ⟨bm, ob, m1, m2, fun z => ?_, fun z => ?_, low m3 hfree, m4, m5, m6⟩
      · obtain ⟨o, es, ep, g, d, _⟩ := hns
        rw [z, g] at m3
        cases m3
        rw [d] at m6
        cases m6
      · rw [z, ht0 p hp] at m3
        cases m3
        cases m6
    · obtain ⟨o, es, ep, g, d, _⟩ := hns
      rw [z, ht0 p hp] at g
      cases g
      cases d
  have trk : ∀ p ∈ cs, H p.2 = some (.tbl #[]) := fun p hp => hpT_in (inT p hp)
  refine codeAny_mono ((F _ hK (ns' hns) tabs).go (us := [.ref a]) (vs := [V.ref a]) rfl hr e0 (hbind s1 (.ref a)) (.cons rfl .nil) (hsp H trk hS)) fun r s' h => ?_
  match r, h with
  | .error e, h => exact (show False from h).elim
  | .ok (.ret u), h =>
    obtain ⟨v, H', os, bare, un, hok', r', q⟩ := h
    obtain rfl : v = .bl true := q
    obtain rfl : u = Value.bool true := r'
    have stays : ∀ {b : Addr} {o : Obj}, b ∉ ts → s1.heap.get? b = some o → s'.heap.get? b = some o := fun {b o} hb e => by
      cases q : H b with
      | none => exact un.keep b o e q (fun z => absurd (show b ∈ ([] : List Addr) from z) List.not_mem_nil) (fun z => absurd (show b ∈ ([] : List Addr) from z) List.not_mem_nil)
      | some u =>
        rcases at' q with ⟨z, _⟩ | ⟨_, rfl, _, rfl⟩
        · exact absurd z hb
        · have z1 := (hok b _ q).1
          have z2 := (hok' b _ (un.frzs b _ _ q)).1
          rw [e] at z1
          cases z1
          exact z2
    have grew : ∀ p ∈ cs, ∃ us : Array Value, s'.heap.get? p.2 = some { cls := .none, data := .fields us } := fun p hp => by
      obtain ⟨us, z⟩ := un.tbls p.2 #[] (trk p hp)
      exact ⟨_, hok' p.2 _ z⟩
    refine ⟨rfl, ⟨fun b o e => ?_, fun b o e => ?_⟩, os, bare⟩
    · by_cases hb : b ∈ ts
      · obtain ⟨p, hp, rfl⟩ := ofT b hb
        obtain ⟨us, z⟩ := grew p hp
        rw [ht0 p hp] at e
        cases e
        exact .inr (.inl ⟨((hcd p hp).tab (ht0 p hp)).isCodeTable, rfl, #[], us, rfl, by rw [Array.empty_append]; exact z⟩)
      · exact .inl (stays hb e)
    · by_cases hb : b ∈ ts
      · obtain ⟨p, hp, rfl⟩ := ofT b hb
        obtain ⟨us, z⟩ := grew p hp
        exact ⟨_, z⟩
      · exact ⟨o, stays hb e⟩
def DefTab (mg : Str → Option Value) (h : Heap) (y : Str) : Prop := ∃ a o fd c T, mg y = some (.ref a) ∧ h.get? a = some o ∧ o.data = .func fd ∧ fd.code = .ref c ∧ h.IsCode c T #[] ∧ h.TableAt c T #[]
def noTab (K : PySem.W.Frag) : Bool := K.all fun p => match p.2.data with
  | .fields vs => !vs.isEmpty
  | _ => true
theorem noTab_at {h : Heap} {T : Addr} (hn : noTab K = true) (hin : K.In h) (g : h.get? T = some tab0) : K.lookup T = none := by
  cases q : K.lookup T with
  | none => rfl
  | some o =>
    have e := hin T o q
    rw [g] at e
    cases e
    have hm : ∃ x, (x, tab0) ∈ K := by
      clear hn hin g
      induction K with
      | nil => cases q
      | cons p K ih =>
        obtain ⟨k0, o0⟩ := p
        rw [List.lookup_cons] at q
        cases z : (T == k0) with
        | true =>
          rw [z] at q
          cases q
          exact ⟨k0, List.mem_cons_self⟩
        | false =>
          rw [z] at q
          obtain ⟨x, hx⟩ := ih q
          exact ⟨x, List.mem_cons_of_mem _ hx⟩
    obtain ⟨x, hx⟩ := hm
    unfold noTab at hn
    rw [List.all_eq_true] at hn
    exact absurd (hn _ hx) Bool.false_ne_true
def at11 (us : Array Value) : Option Addr := match us[11]? with
  | some (Value.ref T) => some T
  | _ => none
def tabIn (K : PySem.W.Frag) (cd : Value) : Option Addr := match cd with
  | .ref c => (match K.lookup c with
    | some ⟨_, _, .fields us, _⟩ => at11 us
    | _ => none)
  | _ => none
theorem tab_of {h : Heap} {y z : Str} {f : Addr} {oc : Value} {od : Option Addr} {fd : FuncData} {sl : Array (Option Value)} (D : DefTab mg h y) (hin : K.In h) (hm : mg y = some (.ref f)) (l : K.lookup f = some ⟨oc, od, .func fd, sl⟩) (cc : PySem.W.codeIn K fd.code z = true) :
    ∃ c T, fd.code = .ref c ∧ PySem.W.CodeHd h c T ∧ h.get? T = some tab0 ∧ tabIn K fd.code = some T := by
  obtain ⟨a, o, fd', c, T, h1, h2, h3, h4, h5, h6⟩ := D
  rw [hm] at h1
  cases h1
  rw [hin _ _ l] at h2
  cases h2
  cases h3
  have hd := PySem.W.CodeHd.of h5 h6
  refine ⟨c, T, h4, hd, h6.2, ?_⟩
  obtain ⟨o, us, file, tf, flags, tg, inF, text, tt, g, gc, gd, g11, more⟩ := hd
  rw [h4] at cc ⊢
  unfold PySem.W.codeIn at cc
  unfold tabIn
  simp only at cc ⊢
  cases q : K.lookup c with
  | none => rw [q] at cc; cases cc
  | some o2 =>
    have e := hin c o2 q
    rw [g] at e
    cases e
    obtain ⟨cl, dd, da, sl⟩ := o
    simp only at gd
    subst gd
    show at11 us = some T
    unfold at11
    rw [g11]
def tbsOf (cs : List (Addr × Addr)) (qs : List Str) : Tbs := (cs.zip qs).map fun p => (p.1.2, p.2)
theorem tbsOf_mem {cs : List (Addr × Addr)} {qs : List Str} {H : Hp} (h : ∀ p ∈ cs, H p.2 = some (.tbl #[])) : ∀ p ∈ tbsOf cs qs, H p.1 = some (.tbl #[]) := fun p hp => by
  obtain ⟨z, hz, rfl⟩ := List.mem_map.mp hp
  exact h z.1 (List.of_mem_zip (show (z.1, z.2) ∈ cs.zip qs from hz)).1
theorem walk_ofGT {l : PySem.W.OpenLaw} {n : Nat} {q : Program} {loose : List Str} {XP : (Str → Option Value) → Heap → Prop} {YP : World → Heap → Prop} {d : DefRec} {KK : Params → PySem.W.Frag}
    {spw : World → List (Addr × Addr) → Sp} (ys : List Str) (hn : l.most = some n) (hn2 : n ≤ sizeLine) (hdf : d.params.defaults = []) (hr : Room k callerA) (hys : (ys.all fun y => (recsOf q).any fun e => e.name == y) = true)
    (hY : ∀ (w : World) (h : Heap), YP w h → (KK w.params).In h)
    (F : ∀ (w : World) (mg : Str → Option Value) (fa : Addr) (h : Heap), (KK w.params).In h → h.Ns mainGlobals mg → mg d.name = some (.ref fa) → (∀ y ∈ ys, DefTab mg h y) →
      ∃ (fd : FuncData) (cs : List (Addr × Addr)), (∀ p ∈ cs, h.get? p.2 = some tab0) ∧ (∀ p ∈ cs, (KK w.params).lookup p.2 = none) ∧ (∀ p ∈ cs, PySem.W.CodeHd h p.1 p.2) ∧ (∀ (s : Shared) (u : Value), BindsTo s fd ⟨[u], []⟩ [(x, u)]) ∧
        ∀ base : Heap, (KK w.params).In base → base.Ns mainGlobals mg → (∀ p ∈ cs, LamX.TabB base mg p.1 p.2) → GnOk l.prog w (KK w.params) mg base CX0 k fa fd [x] (spw w cs))
    (hsp : ∀ (w : World) (cs : List (Addr × Addr)) (H : Hp) (a : Addr) (ns : List Int), ns.length ≤ n → (∀ p ∈ cs, H p.2 = some (.tbl #[])) → SqL (KK w.params) H a (ns.map V.int) → spw w cs [.ref a] H (fun v _ => v = .bl true) fun _ _ _ => False) :
    PySem.W.WalkO q loose XP YP l.row.toRowW d [] (fun f vs => PySem.call f vs) := by
  refine Att.attach_call hn hdf fun w s0 s1 mg mb fa o pm cd doc a vs ns G Y ho hd hcd hmg hobj hints hlen hg => ?_
  have tabs : ∀ y ∈ ys, DefTab mg s1.heap y := fun y hy => by
    rw [List.all_eq_true] at hys
    obtain ⟨r, hm, hn⟩ := List.any_eq_true.mp (hys y hy)
    have hn : r.name = y := beq_iff_eq.mp hn
    rw [← hn]
    exact G.T.tab r hm
  obtain ⟨fd, cs, h1, h2, h3, hb, hF⟩ := F w mg fa _ (hY w _ Y) G.T.g hmg tabs
  exact law_callGT (hY w _ Y) G.T.g G.T.b G.T.builtins G.T.nolimit hg h1 h2 h3 G.T.bmain hobj hints (Nat.le_trans hlen hn2) hr hF hb fun H hH hS => hsp w cs H a ns hlen hH hS
end
end Sk
set_option Elab.async false
set_option linter.all false
set_option maxRecDepth 100000
set_option maxHeartbeats 2000000
namespace Sk
open PySem PySem.Spec PyProof.Rows L2
open Evl (Ex)
def ClsN (K : PySem.W.Frag) (x : Str) (C : Addr) : Prop := PySem.W.nsIn K mainGlobals x = some (some (.ref C))
theorem ClsN.inj {K : PySem.W.Frag} {x : Str} {C D : Addr} (h : ClsN K x C) (g : ClsN K x D) : C = D := by
  unfold ClsN at h g
  rw [h] at g
  cases g
  rfl
abbrev HX := Str → Sg → Prop
abbrev HSpX := List PV → Nat → (PV → Nat → Prop) → (Str → Nat → Prop) → Prop
def SpHX (K : PySem.W.Frag) (w : World) (T : Tbs) (k : Nat) (sp : HSpX) : Sp := fun vs H Q E => ∃ (f : Fr) (G : Hp) (n : Nat) (ps : List PV) (C : PV → Nat → Prop) (Z : Str → Nat → Prop), f.w = w ∧ f.T = T ∧ f.e = none ∧ f.F = H ∧ (∀ a, f.M a → (f.on = true ∧ (a = f.m ∨ a = f.l)) ∨ f.tab a) ∧ Rel K f G ⟨ps.map some, n⟩ (vs.map some) H ∧ (∀ p ∈ ps, p.mut = false) ∧ ps.length = k ∧ sp ps n C Z ∧
  (∀ p n' G' H' v, C p n' → Ex G G' → Rel K f G' ⟨[], n'⟩ [] H' → VR K f G' H' p v → Q v H') ∧
  (∀ x a n' G' H', Z x n' → ClsN K x a → Ex G G' → Rel K f G' ⟨[], n'⟩ [] H' → E (.ref a) none H')
def Lk (K : PySem.W.Frag) (W : WX) (w : World) (T : Tbs) (en : Ent) (Z : HX) : Prop := ∀ (x : Str) (a : Addr) (s : Sg) (σ : L2.St) (G H : Hp) (F : Fr) (O : Addr → Prop), ClsN K x a → Rel K (fo (f1 w T (some en)) F O) G s σ H → Z x s → W (.ref a) none σ H
def Ent.fr (en : Ent) (w : World) (T : Tbs) : Fr := ⟨en.on, en.m, en.l, en.c, en.F, en.O, en.M, en.r, w, T, none⟩
theorem Rel.ent {K : PySem.W.Frag} {w : World} {T : Tbs} {en : Ent} {F : Fr} {O : Addr → Prop} {G H : Hp} {s : Sg} {σ : L2.St} (R : Rel K (fo (f1 w T (some en)) F O) G s σ H) : Rel K (en.fr w T) G ⟨[], s.n⟩ [] H ∧ Ex en.G G := by
  have p := R.pk en rfl
  have eM : F.M = en.M := p.M
  have eO : ∀ a, en.O a → O a := p.O
  have eF : Ex en.F F.F := p.F
  have eon : F.on = en.on := p.on
  have em : F.m = en.m := p.m
  have el : F.l = en.l := p.l
  have ec : F.c = en.c := p.c
  refine ⟨?_, p.G⟩
  exact {
    gh := R.gh
    fh := fun a o m h => R.fh a o (fun z => m (by have z : F.M a := z; rw [eM] at z; exact z)) (eF a o h)
    go := fun a h => R.go a (eO a h)
    oh := fun a h => R.oh a (eO a h)
    mh := fun a h => R.mh a (by show F.M a; rw [eM]; exact h)
    mo := p.mo
    tm := p.tm
    tb := fun q hq => R.tb q hq
    pk := fun _ h => by cases h
    dr := fun h => by
      have := R.dr (by show F.on = true; rw [eon]; exact h)
      have e2 : DrwOk F.m F.l F.c s.n H := this
      rw [em, el, ec] at e2
      exact e2
    ln := rfl
    sl := fun i p h => by simp at h
    ds := fun i j p q v _ h => by simp at h }
def entOf (f : Fr) (G : Hp) : Ent := ⟨f.on, f.m, f.l, f.c, f.F, f.O, f.M, f.r, G⟩
theorem entOf_ok {K : PySem.W.Frag} {f : Fr} {G H : Hp} {s : Sg} {σ : L2.St} (R : Rel K f G s σ H) : EntOk (entOf f G) f G := ⟨rfl, rfl, rfl, rfl, Ex.refl _, fun _ h => h, rfl, rfl, Ex.refl _, R.mo, R.tm⟩
theorem Rel.re {K : PySem.W.Frag} {f : Fr} {G H : Hp} {s : Sg} {σ : L2.St} (R : Rel K f G s σ H) (e : Option Ent) (h : ∀ en, e = some en → EntOk en f G) : Rel K { f with e := e } G s σ H := {
  gh := R.gh
  fh := R.fh
  go := R.go
  oh := R.oh
  mh := R.mh
  mo := R.mo
  tm := R.tm
  tb := R.tb
  pk := fun en q => { (h en q) with }
  dr := R.dr
  ln := R.ln
  sl := fun i p q => by
    obtain ⟨v, h1, h2⟩ := R.sl i p q
    exact ⟨v, h1, by cases p <;> exact h2⟩
  ds := R.ds }
section
variable {P : Program} {w : World} {K : PySem.W.Frag} {mg : Str → Option Value} {base : Heap} {CX : CXT} {k : Nat} {f : Addr} {fd : FuncData} {ps : List Str} {sp : Sp}
theorem gn_okX {x qual : Str} {st : Stmt} {N : List Str} (F : Fun K x qual st f fd) (S : FnScope N ps (defScope st)) (len : ∀ vs H Q E, sp vs H Q E → vs.length = ps.length)
    (body : ∀ (cdv : Value), fd.code = cdv → ∀ (A : Around) (outer : List Env) (s : Shared) (H : Hp) (vs : List V) (Q : VK) (E : XK),
      (A.deeper (envOfC qual (defScope st) s.heap.objs.size f cdv)).guards = some [] → Room k (A.deeper (envOfC qual (defScope st) s.heap.objs.size f cdv)) → sp vs H Q E →
      ∃ t, PSs (cxOf CX P w K mg base N qual (defScope st) f cdv A outer s H E) (defBody st) t ∧ t { nx := fun _ H' => Q .non H', rt := Q } (start N vs) H) :
    GnOk P w K mg base CX (k + 1) f fd ps sp := by
  obtain ⟨oc, od, kV, doc, pm, an, cdv, ct, osl, efd, lk, hcd⟩ := F.ex
  subst efd
  refine ⟨len, fun {A outer s H args us vs Q E} hgd hr e0 hb r hsp => ?_⟩
  have hl := len _ _ _ _ hsp
  have hin : K.In s.heap := e0.mod.kin.keeps fun b o e => (e0.bs b o e).1
  have hlim : s.heap.NoLimit := e0.mod.nolimit.keeps fun b o e => (e0.bs b o e).1
  refine codeAny_call_function hr.depth (hin _ _ lk) rfl S.co S.gen rfl (PySem.W.codeRec_of hin hcd) (hb _ _ _ _ ?_)
  refine wpAny_newFunctionEnv_cells S.kind (fun y hy => ?_) fun env he s1 hx => ?_
  · rcases S.par y.1 (List.of_mem_zip (show (y.1, y.2) ∈ ps.zip us from hy)).1 with q | q
    · exact Or.inl q
    · exact Or.inr ⟨q, PySem.W.cellsFrom_some _ _ _ (Or.inl q)⟩
  subst he
  refine ⟨hlim.keeps hx.toInCall.keep, codeAny_func ?_⟩
  obtain ⟨t, ht, hq⟩ := body cdv rfl A outer s H vs Q E (guards_deeper A _ hgd) (hr.deeper _) hsp
  have I := inv_start (CX := CX) (E := E) (qual := qual) (f := f) (cd := cdv) S hr.hd e0 hl r hx
  have ret : ∀ {σ' : L2.St} {H' : Hp} {v : V} {u : Value} {s' : Shared}, Inv (cxOf CX P w K mg base N qual (defScope st) f cdv A outer s H E) [] σ' H' s' → RelV v u → Q v H' → CE outer P w H s Q u s' :=
    fun J rv q => ⟨_, _, J.os, J.bare, J.base, J.hok, rv, q⟩
  refine wpAny_mono (ht.run [] s1 (start N vs) H _ I hq) (fun fl s' hs => ?_) fun e s' hs => hs
  cases fl with
  | ret u => obtain ⟨v, σ', H', J, rv, q⟩ := hs; exact ret J rv q
  | next => obtain ⟨σ', H', J, q⟩ := hs; exact ret (v := V.non) (u := Value.none) J rfl q
  | brk => obtain ⟨_, _, _, q⟩ := hs; exact q.elim
  | cont => obtain ⟨_, _, _, q⟩ := hs; exact q.elim
end
section
variable {X : Cx} {CX : CXT} {k : Nat} {f : Addr} {fd : FuncData} {ps : List Str} {sp : Sp} {E : L2.St → XK} {x : Str} {p pos : Pos} {e : Expr} {es : List Expr} {t : TA}
theorem run_gnS {pins : List (Addr × Obj)} {σ : L2.St} {H : Hp} {s : Shared} {Q : VK} {us : List Value} {vs : List V} (F : GnOk X.prog X.w X.K X.mg X.base CX k f fd ps sp) (hgd : X.A.guards = some []) (hr : Room k X.A) (hb : Binds X.K fd ps [])
    (hx : PassesAt CX X σ (E σ)) (I : Inv X pins σ H s) (r : Vals vs us) (h : sp vs H Q (E σ)) : wpAny (model X.prog X.w) X.A (call (.ref f) us) (EP X pins σ Q) X.xe s := by
  have hlu : (us ++ []).length = ps.length := by
    rw [List.append_nil, ← r.length]
    exact F.len _ _ _ _ h
  have bb := hb s us I.kIn hlu
  rw [List.append_nil] at bb
  refine wpAny_call (codeAny_mono (F.go hgd hr I.env0 bb r h) fun res s' hq => ?_)
  match res, hq with
  | .error e, hq => exact hx pins H s e s' I hq
  | .ok (.ret u), hq => exact I.after hq
theorem pe_callGS (F : GnOk X.prog X.w X.K X.mg X.base CX k f fd ps sp) (hgd : X.A.guards = some []) (hr : Room k X.A) (hg : Gl X x) (hm : X.mg x = some (.ref f)) (hk : PySem.W.keepIn X.K (.ref f) = true) (hb : Binds X.K fd ps []) (hx : ∀ σ, PassesAt CX X σ (E σ))
    (ha : PA X (e :: es) t) (hdb : (x == ("__debug__" : Str)) = false := by decide) (he : starEach (e :: es) X.env = (false, eval e X.env) :: starEach es X.env := by rfl) (hpl : (backTo pos (starEach es X.env)).any (·.1) = false := by rfl) :
    PE X (.Call (.Name x p) (e :: es) [] pos) (tCallS sp E t) := ⟨fun pins s σ H Q I h =>
  wpAny_Call_Name_kw (ld_glob I hg hm (PySem.W.callWith_K (h₀ := X.base) I.ok.mod.kin hk (thn (ha.run pos pins s σ H _ I h) fun us s1 hz => by
    obtain ⟨vs, H1, I1, r, q⟩ := hz
    exact ⟨I1.kIn, run_gnS F hgd hr hb (hx σ) I1 r q⟩) he hpl) hdb)⟩
end
@[simp] def hCallX (sp : HSpX) (k : Nat) (Z : HX) (ta : HA) : HE := fun s C => ta s fun ps s' => ps.length = k ∧ (∀ p ∈ ps, p.isD = false) ∧ sp (ps.map PV.arg) s'.n (fun p n' => (ps.any PV.mut = true → p.imm = true) ∧ C p ⟨s'.sl, n'⟩) (fun x n' => Z x ⟨s'.sl, n'⟩)
@[simp] def hRaise (x : Str) (Z : HX) : HS := fun _ s => Z x s
section
variable {X : Cx} {T : Tbs} {en : Ent} {W : WX} {Z : HX} {e : Expr} {es : List Expr} {ta : HA} {sp : HSpX} {x : Str} {p pos : Pos} {k n : Nat}
theorem hp_callX {k : Nat} (lk : Lk X.K W X.w T en Z) (h : ∀ {t : TA}, PA X es t → PE X e (tCallS (SpHX X.K X.w T k sp) (WE W) t)) (ha : PA X es (lfA X.K (f1 X.w T (some en)) ta)) : PE X e (lf X.K (f1 X.w T (some en)) (hCallX sp k Z ta)) := (h ha).mono fun σ H Q q => by
  obtain ⟨F, O, G, s, C, R, ht, kk⟩ := q
  refine ⟨F, O, G, s, _, R, ht, fun ps s1 G1 H1 vs c1 e1 R1 V1 => ?_⟩
  obtain ⟨c2, c3, c4⟩ := c1
  obtain ⟨f', Gc, x1, x2, x3, x4, x5, R', x6, x7, _, back⟩ := spH_core (k := k) R1 V1 c2 c3
  refine ⟨f', Gc, s1.n, ps.map PV.arg, _, _, x1, x2, x3, x4, x5, R', x6, x7, c4, fun p n' G' H' v c e R2 V2 => ?_, fun x a n' G' H' z hc e R2 => ?_⟩
  · obtain ⟨G2, e2, R3, V3⟩ := back p n' G' H' v c.1 e R2 V2
    exact kk p ⟨s1.sl, n'⟩ G2 H' v c.2 (e1.trans e2) R3 V3
  · obtain ⟨G2, e2, R3, _⟩ := back (.dat .none) n' G' H' .non (fun _ => rfl) e R2 .non
    exact lk x a _ σ G2 H' F O hc R3 z
theorem hs_raise {a : Addr} (tk : Takes X W) (lk : Lk X.K W X.w T en Z) (hc : X.calm = true) (hn : ClsN X.K x a) (pm : PMk X e (fun _ H Q => Q (.ref a) none H)) : PS X (.Raise (some e) none pos) (lfS X.K (f1 X.w T (some en)) (hRaise x Z)) := (ps_raise hc tk pm).mono fun D σ H q => by
  obtain ⟨F, O, G, s, D', R, ht, _⟩ := q
  exact lk x a s σ G H F O hn R ht
end
structure HasX (P : Program) (w : World) (T : Tbs) (K : PySem.W.Frag) (mg : Str → Option Value) (base : Heap) (k : Nat) (x : Str) (n : Nat) (sp : HSpX) : Prop where
  ex : ∃ fa fd ps, ps.length = n ∧ GnOk P w K mg base (L2.CX P w) k fa fd ps (SpHX K w T n sp) ∧ mg x = some (.ref fa) ∧ PySem.W.keepIn K (.ref fa) = true ∧ Binds K fd ps []
section
variable {X : Cx} {T : Tbs} {en : Ent} {W : WX} {Z : HX} {e : Expr} {es : List Expr} {ta : HA} {sp : HSpX} {x : Str} {p pos : Pos} {k n : Nat}
theorem hp_callHX (h : HasX X.prog X.w T X.K X.mg X.base k x n sp) (tk : Takes X W) (lk : Lk X.K W X.w T en Z) (hgd : X.A.guards = some []) (hr : Room k X.A) (hg : Gl X x) (ha : PA X (e :: es) (lfA X.K (f1 X.w T (some en)) ta))
    (hdb : (x == ("__debug__" : Str)) = false := by decide) (he : starEach (e :: es) X.env = (false, eval e X.env) :: starEach es X.env := by rfl) (hpl : (backTo pos (starEach es X.env)).any (·.1) = false := by rfl) : PE X (.Call (.Name x p) (e :: es) [] pos) (lf X.K (f1 X.w T (some en)) (hCallX sp n Z ta)) := by
  obtain ⟨fa, fd, ps, _, G, hm, kp, b⟩ := h.ex
  exact hp_callX lk (fun z => pe_callGS (E := WE W) G hgd hr hg hm kp b (fun σ => passAt tk σ) z hdb he hpl) ha
end
theorem valsX_len {k : Nat} {K : PySem.W.Frag} {w : World} {T : Tbs} {sp : HSpX} : ∀ vs H Q E, SpHX K w T k sp vs H Q E → vs.length = k := fun vs H Q E h => by
  obtain ⟨f, G, n, ps, C, Z, _, _, _, _, _, R, _, hk, _⟩ := h
  have := R.ln
  simp at this
  omega
theorem start_at {α : Type} (xs : List α) (m i : Nat) (y : α) (h : (xs.map some ++ List.replicate m none)[i]? = some (some y)) : (xs.map some)[i]? = some (some y) := by
  by_cases hi : i < xs.length
  · rw [List.getElem?_append_left (by simpa using hi)] at h; exact h
  · rw [List.getElem?_append_right (by simpa using hi), List.getElem?_replicate] at h
    split at h <;> cases h
theorem start_up {α : Type} (xs : List α) (m i : Nat) (y : α) (h : (xs.map some)[i]? = some (some y)) : (xs.map some ++ List.replicate m none)[i]? = some (some y) := by
  have hi : i < (xs.map some).length := (List.getElem?_eq_some_iff.mp h).1
  rw [List.getElem?_append_left hi]
  exact h
theorem HasX.mk' {P : Program} {w : World} {T : Tbs} {K : PySem.W.Frag} {mg : Str → Option Value} {base : Heap} {k : Nat} {fa : Addr} {fd : FuncData} {x : Str} {st : Stmt} {N ps : List Str} {hs : HX → HS} {sp : HSpX} (Fn : Fun K x x st fa fd) (hm : mg x = some (.ref fa)) (b : Binds K fd ps []) (S : FnScope N ps (defScope st))
    (body : ∀ (cdv : Value), fd.code = cdv → ∀ (A : Around) (outer : List Env) (s : Shared) (H : Hp) (E : XK) (en : Ent) (Z : HX), (A.deeper (envOfC x (defScope st) s.heap.objs.size fa cdv)).guards = some [] → Room k (A.deeper (envOfC x (defScope st) s.heap.objs.size fa cdv)) →
      Takes (cxOf (L2.CX P w) P w K mg base N x (defScope st) fa cdv A outer s H E) (fun cls d _ H => E cls d H) → Lk K (fun cls d _ H => E cls d H) w T en Z → PSs (cxOf (L2.CX P w) P w K mg base N x (defScope st) fa cdv A outer s H E) (defBody st) (lfS K (f1 w T (some en)) (hs Z)))
    (rd : ∀ pvs n C Z, pvs.length = ps.length → sp pvs n C Z → hs (fun x s => Z x s.n) ⟨fun s => C (.dat .none) s.n, fun p s => C p s.n, fun _ => False, fun _ => False⟩ ⟨pvs.map some ++ List.replicate (N.length - pvs.length) none, n⟩) : HasX P w T K mg base (k + 1) x ps.length sp := by
  refine ⟨fa, fd, ps, rfl, gn_okX Fn S valsX_len fun cdv ecd A outer s H vs Q E hgd hr h => ?_, hm, Fn.kp, b⟩
  obtain ⟨⟨on, m, l, c, fF, fO, fM, r, fw, fT, fe⟩, G, n, pvs, C, Z, hw, hT, he, hF, hM, R, hmu, hk, hsp, kn, kx⟩ := h
  have hw : fw = w := hw
  have hT : fT = T := hT
  have he : fe = none := he
  subst hw hT he
  let f : Fr := ⟨on, m, l, c, fF, fO, fM, r, fw, fT, none⟩
  have R : Rel K f G ⟨pvs.map some, n⟩ (vs.map some) H := R
  have lnv : vs.length = pvs.length := by
    have := R.ln
    simpa using this
  have lk : Lk K (fun cls d _ H => E cls d H) fw fT (entOf f G) (fun x s => Z x s.n) := fun x a s1 σ1 G1 H1 F O hc R1 z => by
    obtain ⟨R2, e2⟩ := R1.ent
    exact kx x a _ G1 H1 z hc e2 R2
  refine ⟨_, body cdv ecd A outer s H E (entOf f G) (fun x s => Z x s.n) hgd hr (takes_of rfl rfl rfl rfl) lk, f, fO, G, ⟨pvs.map some ++ List.replicate (N.length - pvs.length) none, n⟩, _, ?_, rd pvs n C Z hk hsp, ⟨fun G1 s1 σ1 H1 e1 R1 c => ?_, fun p G1 s1 σ1 H1 v e1 R1 V1 c => ?_, fun _ _ _ _ _ _ z => z.elim, fun _ _ _ _ _ _ z => z.elim⟩⟩
  · have R5 := R.re (some (entOf f G)) fun en q => by
      cases q
      exact entOf_ok R
    show Rel K { f with e := some (entOf f G) } G ⟨_, n⟩ (L2.start N vs) H
    exact { R5 with
      ln := by simp [L2.start, lnv]
      sl := fun i p h => by
        obtain ⟨v, h1, h2⟩ := R5.sl i p (start_at _ _ _ _ h)
        exact ⟨v, start_up _ _ _ _ h1, h2⟩
      ds := fun i j p q v ne hi _ mp => by
        have h1 := start_at _ _ _ _ hi
        rw [List.getElem?_map] at h1
        obtain ⟨p0, h2, e⟩ := Option.map_eq_some_iff.mp h1
        cases e
        have := hmu _ (List.mem_of_getElem? h2)
        rw [this] at mp
        cases mp }
  · exact kn _ _ _ _ _ c e1 R1.ent.1 .non
  · exact kn _ _ _ _ _ c e1 R1.ent.1 (by cases p <;> exact V1.1)
end Sk
set_option Elab.async false
set_option linter.all false
set_option maxRecDepth 100000
set_option maxHeartbeats 2000000
namespace Sk
open PySem PySem.Spec PyProof.Rows L2
open Evl (Ex)
def ExH (cls : Value) (a : Addr) : HO := .ext fun h => ∃ (o : Obj) (fs : Array Value), h.get? a = some o ∧ Zc cls none o ∧ o.data = .fields fs
section
variable {X : Cx} {pins : List (Addr × Obj)} {σ : L2.St} {H : Hp} {s : Shared} {a : Addr} {o : Obj} {fs : Array Value} {cls : Value}
end
section
variable {X : Cx} {x n : Str} {c : Value} {i : Nat} {body suite : List Stmt} {b₀ : Stmt} {np pos pos' : Pos} {tb : WX → TS} {ts : Addr → Value → TS} {Wout : WX}
end
end Sk
set_option Elab.async false
set_option linter.all false
set_option maxRecDepth 100000
set_option maxHeartbeats 2000000
namespace Sk
open PySem PySem.Spec PyProof.Rows L2
open Evl (Ex)
def exNames : List Str := ["BadDeeds", "BadHand", "BadHouse", "BadMachine", "BadNode", "BadRow", "BadWay", "BadPaper", "NoName", "TooGreat"]
def exAll : List Str := "HandError" :: "BadText" :: exNames
def exSub (x y : Str) : Bool := decide (x = y) || decide (y = ("HandError" : Str))
def exAt (K : PySem.W.Frag) (x : Str) : Option Addr := match PySem.W.nsIn K mainGlobals x with
  | some (some (.ref C)) => some C
  | _ => none
theorem exAt_of {K : PySem.W.Frag} {x : Str} {C : Addr} (h : ClsN K x C) : exAt K x = some C := by
  unfold ClsN at h
  unfold exAt
  rw [h]
def exOne (K : PySem.W.Frag) (C : Addr) : Bool :=
  (PySem.W.findIn K (.ref C) "__getattribute__" == some (some (.builtin "BaseException.__getattribute__"))) && ((PySem.W.findIn K (.ref C) "__getattr__" == some none) && ((PySem.W.subIn K (.ref C) (.type "BaseException") == some true) && ((PySem.W.hasDictIn K C) &&
  ((PySem.W.findIn K (.ref C) "__class__" == some (some (.builtin "object.__class__"))) && ((PySem.W.specialIn K (.builtin "object.__class__") "__get__" == some (some (.builtin "getset_descriptor.__get__"))) && ((PySem.W.takesIn K (.builtin "object.__class__") == some true) && ((PySem.W.mroIn K C (.type "object") == some true) &&
  ((PySem.W.excIn K C [.type "ValueError", .type "Exception", .type "BaseException", .type "object"] "ValueError.__new__") && ((PySem.W.keepIn K (.ref C)) && ((PySem.W.typeIn K (.ref C) == some (.type "type")) && (PySem.W.kitOne K (.ref C) (.type "ValueError") == some true)))))))))))
def exPair (K : PySem.W.Frag) (x : Str) (C : Addr) (y : Str) : Bool := match exAt K y with
  | none => true
  | some D => (PySem.W.kitOne K (.ref C) (.ref D) == some (exSub x y)) && (PySem.W.exmOne K (.ref C) (.ref D) == some (exSub x y))
def exOk (K : PySem.W.Frag) (x : Str) : Bool := match exAt K x with
  | none => true
  | some C => exOne K C && exAll.all (exPair K x C)
def exNon (K : PySem.W.Frag) : Bool := exAll.all fun y => match exAt K y with
  | none => true
  | some D => PySem.W.kitOne K (.type "NoneType") (.ref D) == some false
structure ExF (K : PySem.W.Frag) (C : Addr) : Prop where
  e : ExcC K C
  x : PySem.W.excIn K C [.type "ValueError", .type "Exception", .type "BaseException", .type "object"] "ValueError.__new__" = true
  k : PySem.W.keepIn K (.ref C) = true
  t : PySem.W.typeIn K (.ref C) = some (.type "type")
  v : PySem.W.kitOne K (.ref C) (.type "ValueError") = some true
structure ExT (K : PySem.W.Frag) : Prop where
  ok : ∀ x ∈ exNames, exOk K x = true
  no : exNon K = true
section
variable {K : PySem.W.Frag} {x y : Str} {C D : Addr}
theorem exOne_of (h : exOne K C = true) : ExF K C := by
  unfold exOne at h
  simp only [Bool.and_eq_true, beq_iff_eq] at h
  obtain ⟨h1, h2, h3, h4, h5, h6, h7, h8, h9, ha, hb, hc⟩ := h
  exact ⟨⟨h1, h2, h3, h4, h5, h6, h7, h8⟩, h9, ha, hb, hc⟩
theorem ExT.one (T : ExT K) (hx : x ∈ exNames) (h : ClsN K x C) : ExF K C := by
  have := T.ok x hx
  unfold exOk at this
  rw [exAt_of h] at this
  simp only [Bool.and_eq_true] at this
  exact exOne_of this.1
theorem ExT.two (T : ExT K) (hx : x ∈ exNames) (hy : y ∈ exAll) (h : ClsN K x C) (g : ClsN K y D) : PySem.W.kitOne K (.ref C) (.ref D) = some (exSub x y) ∧ PySem.W.exmOne K (.ref C) (.ref D) = some (exSub x y) := by
  have := T.ok x hx
  unfold exOk at this
  rw [exAt_of h] at this
  simp only [Bool.and_eq_true, List.all_eq_true] at this
  have := this.2 y hy
  unfold exPair at this
  rw [exAt_of g] at this
  simp only [Bool.and_eq_true, beq_iff_eq] at this
  exact this
theorem ExT.non (T : ExT K) (hy : y ∈ exAll) (g : ClsN K y D) : PySem.W.kitOne K (.type "NoneType") (.ref D) = some false := by
  have := T.no
  unfold exNon at this
  rw [List.all_eq_true] at this
  have := this y hy
  rw [exAt_of g] at this
  exact eq_of_beq this
end
def excR (x : Str) : PySem.W.Frag → Hp → V → Prop := fun K G v => ∃ a C, v = .ref a ∧ ClsN K x C ∧ G a = some (ExH (.ref C) a)
abbrev excPV (x : Str) : PV := .abs (excR x)
def TyE (K : PySem.W.Frag) (H : Hp) (x : V) (t : Value) : Prop := (∃ a C, x = .ref a ∧ H a = some (ExH (.ref C) a) ∧ ExcC K C ∧ t = .ref C) ∨ (x = .non ∧ t = .type "NoneType")
theorem TyE.ex {K : PySem.W.Frag} {H H' : Hp} {x : V} {t : Value} (e : Ex H H') (h : TyE K H x t) : TyE K H' x t := h.imp (fun ⟨a, C, h1, h2, h3⟩ => ⟨a, C, h1, e _ _ h2, h3⟩) id
section
variable {X : Cx}
end
structure NmC (X : Cx) (e : Expr) (y : Str) : Prop where
  ex : ∃ C, ClsN X.K y C ∧ PE X e (tC (.ref C))
  al : y ∈ exAll
section
variable {X : Cx} {f : Fr} {a : Expr} {oa : HA → HA} {p q pos : Pos} {e1 : Expr} {es : List Expr} {y1 : Str} {ys : List Str}
inductive NmL (X : Cx) : List Expr → List Str → Prop
  | nil : NmL X [] []
  | cons {x y : Str} {q : Pos} {es : List Expr} {ys : List Str} (h : NmC X (.Name x q) y) (t : NmL X es ys) : NmL X (.Name x q :: es) (y :: ys)
theorem NmL.pa {es : List Expr} {ys : List Str} (h : NmL X es ys) : ∃ Cs : List Addr, PA X es (fun σ H Q => Q (Cs.map V.ref) H) ∧ Paired (fun y C => y ∈ exAll ∧ ClsN X.K y C) ys Cs := by
  induction h with
  | nil => exact ⟨[], pa_nil.mono fun σ H Q q => q, .nil⟩
  | @cons x y q es ys h t ih =>
    obtain ⟨Cs, h1, h3⟩ := ih
    obtain ⟨D, hD, pD⟩ := h.ex
    exact ⟨D :: Cs, (pa_cons pD h1 rfl).mono fun σ H Q q => q, .cons ⟨h.al, hD⟩ h3⟩
end
end Sk
set_option Elab.async false
set_option linter.all false
set_option maxRecDepth 100000
set_option maxHeartbeats 2000000
namespace Sk
open PySem PySem.Spec PyProof.Rows L2
open PySem.W (Datum DatumOrd Tup T3 T4)
open Evl (Ex)
theorem lcs_map {α : Type} {vs : List Nat} {g : HG} {t : HE} {s : Sg} {xs : List α} (e f : α → PyData)
    (h : ∀ a ∈ xs, ∀ K : PV → Sg → Prop, (∀ s3, s3.wipe vs = s → K (.dat (f a)) s3) → g (e a) s fun s1 => t s1 K) :
    ∀ (acc : List PyData) (C : PV → Sg → Prop), acc.length + xs.length ≤ 100000 → C (.own (acc ++ xs.map f)) s → lcs vs g hYes t (xs.map e) acc s C := by
  induction xs with
  | nil => intro acc C _ c; simpa using c
  | cons a xs ih =>
    intro acc C hl c
    have hl' : acc.length + (xs.length + 1) ≤ 100000 := by simpa using hl
    show g (e a) s fun s1 => hYes s1 fun b s2 => if b = true then t s2 fun p s3 => ∃ x, p.frz = some x ∧ acc.length < 100000 ∧ lcs vs g hYes t (xs.map e) (acc ++ [x]) (s3.wipe vs) C else lcs vs g hYes t (xs.map e) acc (s2.wipe vs) C
    refine h a List.mem_cons_self _ fun s3 hs3 => ⟨f a, rfl, by omega, ?_⟩
    rw [hs3]
    refine ih (fun b hb => h b (List.mem_cons_of_mem _ hb)) _ C (by simp; omega) ?_
    simpa using c
theorem lcs_filter {α : Type} {vs : List Nat} {g : HG} {tt : HT} {t : HE} {s : Sg} {xs : List α} (e f : α → PyData) (p : α → Bool)
    (h : ∀ a ∈ xs, ∀ K : Bool → Sg → Prop, (∀ s2, (p a = false → s2.wipe vs = s) → (p a = true → ∀ K2 : PV → Sg → Prop, (∀ s3, s3.wipe vs = s → K2 (.dat (f a)) s3) → t s2 K2) → K (p a) s2) → g (e a) s fun s1 => tt s1 K) :
    ∀ (acc : List PyData) (C : PV → Sg → Prop), acc.length + xs.length ≤ 100000 → C (.own (acc ++ (xs.filter p).map f)) s → lcs vs g tt t (xs.map e) acc s C := by
  induction xs with
  | nil => intro acc C _ c; simpa using c
  | cons a xs ih =>
    intro acc C hl c
    have hl' : acc.length + (xs.length + 1) ≤ 100000 := by simpa using hl
    show g (e a) s fun s1 => tt s1 fun b s2 => if b = true then t s2 fun p s3 => ∃ x, p.frz = some x ∧ acc.length < 100000 ∧ lcs vs g tt t (xs.map e) (acc ++ [x]) (s3.wipe vs) C else lcs vs g tt t (xs.map e) acc (s2.wipe vs) C
    refine h a List.mem_cons_self _ fun s2 hs hk => ?_
    cases hp : p a with
    | false =>
      rw [if_neg Bool.false_ne_true, hs hp]
      refine ih (fun b hb => h b (List.mem_cons_of_mem _ hb)) _ C (by omega) ?_
      simpa [List.filter_cons, hp] using c
    | true =>
      rw [if_pos rfl]
      refine hk hp _ fun s3 hs3 => ⟨f a, rfl, by omega, ?_⟩
      rw [hs3]
      refine ih (fun b hb => h b (List.mem_cons_of_mem _ hb)) _ C (by simp; omega) ?_
      simpa [List.filter_cons, hp] using c
theorem allW_b {g : List Bool → Bool} {bs : List Bool} {p : PV} {C : PV → Prop} (h : p.lst = some (bs.map .bool)) (c : C (.dat (.bool (g bs)))) : allW g [p] C := ⟨bs, h, c⟩
theorem inP_D {α : Type} [DecidableEq α] [Datum α] {neg : Bool} {p q : PV} {C : PV → Prop} (a : α) (xs : List α) (hp : p.frz = some (Datum.toD a)) (hq : q.seq = some (xs.map Datum.toD)) (hd : Datum.depth α ≤ 60) (c : C (.dat (.bool (if neg then !decide (a ∈ xs) else decide (a ∈ xs))))) : inP neg [p, q] C := by
  refine ⟨_, _, hp, hq, Datum.plain a, plainAll_D xs, ?_, ?_⟩
  · have := Datum.depth_le a
    omega
  · rw [any_D]; exact c
theorem eqP_D {α : Type} [DecidableEq α] [Datum α] {neg : Bool} {p q : PV} {C : PV → Prop} (a b : α) (hp : p.frz = some (Datum.toD a)) (hq : q.frz = some (Datum.toD b)) (hd : Datum.depth α ≤ 60) (c : C (.dat (.bool (if neg then !decide (a = b) else decide (a = b))))) : eqP neg [p, q] C := by
  refine ⟨_, _, hp, hq, Datum.plain a, Datum.plain b, ?_, ?_⟩
  · have := Datum.depth_le a
    omega
  · rw [Datum.eqv]; exact c
@[simp] def ty_str : PyData → Bool
  | .none => false
  | .bool _ => false
  | .int _ => false
  | .str _ => true
  | .list _ => false
  | .tuple _ => false
  | .dict _ => false
theorem kit_str (d : PyData) : kitB (tyD d) "str" = some (ty_str d) := by cases d <;> rfl
@[simp] def ty_int : PyData → Bool
  | .none => false
  | .bool _ => true
  | .int _ => true
  | .str _ => false
  | .list _ => false
  | .tuple _ => false
  | .dict _ => false
theorem kit_int (d : PyData) : kitB (tyD d) "int" = some (ty_int d) := by cases d <;> rfl
@[simp] def ty_bool : PyData → Bool
  | .none => false
  | .bool _ => true
  | .int _ => false
  | .str _ => false
  | .list _ => false
  | .tuple _ => false
  | .dict _ => false
theorem kit_bool (d : PyData) : kitB (tyD d) "bool" = some (ty_bool d) := by cases d <;> rfl
@[simp] def ty_tuple : PyData → Bool
  | .none => false
  | .bool _ => false
  | .int _ => false
  | .str _ => false
  | .list _ => false
  | .tuple _ => true
  | .dict _ => false
theorem kit_tuple (d : PyData) : kitB (tyD d) "tuple" = some (ty_tuple d) := by cases d <;> rfl
@[simp] def ty_list : PyData → Bool
  | .none => false
  | .bool _ => false
  | .int _ => false
  | .str _ => false
  | .list _ => true
  | .tuple _ => false
  | .dict _ => false
theorem kit_list (d : PyData) : kitB (tyD d) "list" = some (ty_list d) := by cases d <;> rfl
@[simp] theorem frz_dat {d : PyData} : (PV.dat d).frz = some d := rfl
@[simp] theorem frz_own {d : List PyData} : (PV.own d).frz = some (.list d) := rfl
@[simp] theorem lst_dat {d : List PyData} : (PV.dat (.list d)).lst = some d := rfl
@[simp] theorem lst_own' {d : List PyData} : (PV.own d).lst = some d := rfl
@[simp] theorem seq_lst {d : List PyData} : (PV.dat (.list d)).seq = some d := rfl
@[simp] theorem seq_tup {d : List PyData} : (PV.dat (.tuple d)).seq = some d := rfl
@[simp] theorem seq_str {z : Str} : (PV.dat (.str z)).seq = none := rfl
@[simp] theorem lst_str {z : Str} : (PV.dat (.str z)).lst = none := rfl
@[simp] theorem lst_tp {d : List PyData} : (PV.dat (.tuple d)).lst = none := rfl
@[simp] theorem seq_own {d : List PyData} : (PV.own d).seq = some d := rfl
@[simp] theorem arg_dat {d : PyData} : (PV.dat d).arg = .dat d := rfl
@[simp] theorem arg_own {d : List PyData} : (PV.own d).arg = .dat (.list d) := rfl
@[simp] theorem arg_drw : PV.drw.arg = .drw := rfl
@[simp] theorem mut_dat {d : PyData} : (PV.dat d).mut = false := rfl
@[simp] theorem mut_own {d : List PyData} : (PV.own d).mut = true := rfl
@[simp] theorem mut_drw : PV.drw.mut = false := rfl
@[simp] theorem isD_dat {d : PyData} : (PV.dat d).isD = false := rfl
@[simp] theorem isD_own {d : List PyData} : (PV.own d).isD = false := rfl
@[simp] theorem isD_drw : PV.drw.isD = false := rfl
@[simp] theorem isi_str {d : PyData} {C : PV → Prop} : isiW [.dat d, .val (.ty "str")] C ↔ C (.dat (.bool (ty_str d))) := by simp [isiW, kit_str]
@[simp] theorem isi_int {d : PyData} {C : PV → Prop} : isiW [.dat d, .val (.ty "int")] C ↔ C (.dat (.bool (ty_int d))) := by simp [isiW, kit_int]
@[simp] theorem isi_bool {d : PyData} {C : PV → Prop} : isiW [.dat d, .val (.ty "bool")] C ↔ C (.dat (.bool (ty_bool d))) := by simp [isiW, kit_bool]
@[simp] theorem isi_tuple {d : PyData} {C : PV → Prop} : isiW [.dat d, .val (.ty "tuple")] C ↔ C (.dat (.bool (ty_tuple d))) := by simp [isiW, kit_tuple]
@[simp] theorem isi_list {d : PyData} {C : PV → Prop} : isiW [.dat d, .val (.ty "list")] C ↔ C (.dat (.bool (ty_list d))) := by simp [isiW, kit_list]
@[simp] theorem isi_own {ds : List PyData} {C : PV → Prop} : isiW [.own ds, .val (.ty "list")] C ↔ C (.dat (.bool true)) := by simp [isiW, kit_list]
@[simp] theorem len_str {z : Str} {C : PV → Prop} : lenW [.dat (.str z)] C ↔ z.length ≤ sizeLine ∧ C (.dat (.int z.length)) := by simp [lenW]
@[simp] theorem len_tup {ds : List PyData} {C : PV → Prop} : lenW [.dat (.tuple ds)] C ↔ C (.dat (.int ds.length)) := by simp [lenW]
@[simp] theorem len_lst {ds : List PyData} {C : PV → Prop} : lenW [.dat (.list ds)] C ↔ C (.dat (.int ds.length)) := by simp [lenW]
@[simp] theorem len_own {ds : List PyData} {C : PV → Prop} : lenW [.own ds] C ↔ C (.dat (.int ds.length)) := by simp [lenW]
@[simp] theorem ix_tup {ds : List PyData} {i : Int} {C : PV → Prop} : ixW [.dat (.tuple ds), .dat (.int i)] C ↔ ∃ d, atI ds i = some d ∧ C (.dat d) := by simp [ixW]
@[simp] theorem ix_lst {ds : List PyData} {i : Int} {C : PV → Prop} : ixW [.dat (.list ds), .dat (.int i)] C ↔ ∃ d, atI ds i = some d ∧ C (.dat d) := by simp [ixW]
@[simp] theorem ix_own {ds : List PyData} {i : Int} {C : PV → Prop} : ixW [.own ds, .dat (.int i)] C ↔ ∃ d, atI ds i = some d ∧ C (.dat d) := by simp [ixW]
@[simp] theorem ix_st {z : Str} {i : Int} {C : PV → Prop} : ixW [.dat (.str z), .dat (.int i)] C ↔ z.length ≤ 100000 ∧ ∃ c, atI z.cps.toList i = some c ∧ C (.dat (.str ⟨#[c]⟩)) := by simp [ixW]
@[simp] theorem add_ii {i j : Int} {C : PV → Prop} : addW [.dat (.int i), .dat (.int j)] C ↔ C (.dat (.int (i + j))) := Iff.rfl
@[simp] theorem add_ss {i j : Str} {C : PV → Prop} : addW [.dat (.str i), .dat (.str j)] C ↔ i.length + j.length ≤ 100000 ∧ C (.dat (.str (i ++ j))) := Iff.rfl
@[simp] theorem mul_ii {i j : Int} {C : PV → Prop} : mulW' [.dat (.int i), .dat (.int j)] C ↔ CMulW i j ∧ C (.dat (.int (i * j))) := Iff.rfl
@[simp] theorem lst_own {ds : List PyData} {C : PV → Prop} : listW [.own ds] C ↔ C (.own ds) := by simp [listW]
@[simp] theorem lst_lst {ds : List PyData} {C : PV → Prop} : listW [.dat (.list ds)] C ↔ C (.own ds) := by simp [listW]
@[simp] theorem lst_tup {ds : List PyData} {C : PV → Prop} : listW [.dat (.tuple ds)] C ↔ C (.own ds) := by simp [listW]
@[simp] theorem tup_own {ds : List PyData} {C : PV → Prop} : tupW [.own ds] C ↔ C (.dat (.tuple ds)) := by simp [tupW]
@[simp] theorem tup_lst {ds : List PyData} {C : PV → Prop} : tupW [.dat (.list ds)] C ↔ C (.dat (.tuple ds)) := by simp [tupW]
@[simp] theorem in_sign {c : Nat} {z : Str} {C : PV → Prop} : inS [.dat (.str ⟨#[c]⟩), .dat (.str z)] C ↔ C (.dat (.bool (decide (c ∈ z.cps.toList)))) := by
  simp [inS]
def isNoneD : PyData → Bool
  | .none => true
  | _ => false
@[simp] theorem is_none {d : PyData} {C : PV → Prop} : isN false [.dat d, .dat .none] C ↔ C (.dat (.bool (isNoneD d))) := by cases d <;> simp [isN, isNoneD]
@[simp] theorem not_none {d : PyData} {C : PV → Prop} : isN true [.dat d, .dat .none] C ↔ C (.dat (.bool (!isNoneD d))) := by cases d <;> simp [isN, isNoneD]
@[simp] theorem eq_int {i j : Int} {neg : Bool} {C : PV → Prop} : eqP neg [.dat (.int i), .dat (.int j)] C ↔ C (.dat (.bool (if neg then !decide (i = j) else decide (i = j)))) := by
  have h : PyData.eqv (.int i) (.int j) = decide (i = j) := Datum.eqv i j
  simp [eqP, h, PyData.plain, PyData.depth]
@[simp] theorem eq_str {i j : Str} {neg : Bool} {C : PV → Prop} : eqP neg [.dat (.str i), .dat (.str j)] C ↔ C (.dat (.bool (if neg then !decide (i = j) else decide (i = j)))) := by
  have h : PyData.eqv (.str i) (.str j) = decide (i = j) := Datum.eqv i j
  simp [eqP, h, PyData.plain, PyData.depth]
end Sk
set_option Elab.async false
set_option linter.all false
set_option maxRecDepth 100000
set_option maxHeartbeats 2000000
namespace Sk
open PySem PySem.Spec PyProof.Rows L2
open Evl (Ex)
theorem _root_.L2.DpAll.erase {K : PySem.W.Frag} {H : Hp} {vs : List V} {ds : List PyData} (a : DpAll K H vs ds) (n : Nat) : DpAll K H (vs.eraseIdx n) (ds.eraseIdx n) := by
  rw [List.eraseIdx_eq_take_drop_succ, List.eraseIdx_eq_take_drop_succ]
  exact (a.take n).append (a.drop (n + 1))
theorem _root_.L2.DpAll.rev {K : PySem.W.Frag} {H : Hp} : ∀ {vs : List V} {ds : List PyData}, DpAll K H vs ds → DpAll K H vs.reverse ds.reverse
  | _, _, .nil => .nil
  | _, _, .cons h t => by
    rw [List.reverse_cons, List.reverse_cons]
    exact t.rev.append (.cons h .nil)
@[simp] def hPopAt (j : Nat) (t : HE) : HE := fun s C => (∃ ds, s.sl[j]? = some (some (.own ds))) ∧ t s fun p s1 => ∃ ds i k d, p = .dat (.int i) ∧ s1.sl[j]? = some (some (.own ds)) ∧ ixN ds.length i = some k ∧ i.natAbs ≤ 1000000 ∧ ds[k]? = some d ∧ C (.dat d) (s1.put j (.own (ds.eraseIdx k)))
@[simp] def hRev (j : Nat) : HE := fun s C => ∃ ds, s.sl[j]? = some (some (.own ds)) ∧ C (.dat .none) (s.put j (.own ds.reverse))
@[simp] def hExt (j : Nat) (t : HE) : HE := fun s C => (∃ ds, s.sl[j]? = some (some (.own ds))) ∧ t s fun p s1 => ∃ ds es, p = .own es ∧ s1.sl[j]? = some (some (.own ds)) ∧ ds.length + es.length ≤ 100000 ∧ C (.dat .none) (s1.put j (.own (ds ++ es)))
@[simp] def hIdx (j : Nat) (t : HE) : HE := fun s C => (∃ p ns, s.sl[j]? = some (some p) ∧ p.lst = some ((ns : List Int).map .int)) ∧ t s fun q s1 => ∃ p ns, ∃ a : Int, ∃ k, s1.sl[j]? = some (some p) ∧ p.lst = some ((ns : List Int).map .int) ∧ q = .dat (.int a) ∧ ns[k]? = some a ∧ (∀ m, m < k → ns[m]? ≠ some a) ∧ C (.dat (.int (k : Nat))) s1
@[simp] def hAug (op : Int → Int → Int) (i : Nat) (t : HE) : HS := fun D s => ∃ a, s.sl[i]? = some (some (.dat (.int a))) ∧ t s fun p s1 => ∃ b, p = .dat (.int b) ∧ D.nx (s1.put i (.dat (.int (op a b))))
@[simp] def hAugL (op : Int → Int → Int) (j : Nat) (ti t : HE) : HS := fun D s => (∃ ds, s.sl[j]? = some (some (.own ds))) ∧ ti s fun q s1 => ∃ k n ds a, q = .dat (.int k) ∧ s1.sl[j]? = some (some (.own ds)) ∧ ixN ds.length k = some n ∧ ds[n]? = some (.int a) ∧ t s1 fun p s2 => ∃ b es m, p = .dat (.int b) ∧ s2.sl[j]? = some (some (.own es)) ∧ ixN es.length k = some m ∧ D.nx (s2.put j (.own (es.set m (.int (op a b)))))
def rgD (a b : Int) : List PyData := (List.range (b - a).toNat).map fun i => PyData.int (a + (i : Nat))
@[simp] def hLR1 (ta : HA) : HE := hC (fun ps C => match ps with
  | [.dat (.int n)] => (-1000000 ≤ n ∧ n ≤ 1000000) ∧ C (.own (rgD 0 n))
  | _ => False) ta
@[simp] def hTR1 (ta : HA) : HE := hC (fun ps C => match ps with
  | [.dat (.int n)] => (-1000000 ≤ n ∧ n ≤ 1000000) ∧ C (.dat (.tuple (rgD 0 n)))
  | _ => False) ta
@[simp] def hLR2 (ta : HA) : HE := hC (fun ps C => match ps with
  | [.dat (.int a), .dat (.int b)] => (-1000000 ≤ a ∧ a ≤ 1000000 ∧ -1000000 ≤ b ∧ b ≤ 1000000) ∧ C (.own (rgD a b))
  | _ => False) ta
@[simp] def max2W : List PV → (PV → Prop) → Prop := i2' fun i j => .int (if j > i then j else i)
@[simp] def min2W : List PV → (PV → Prop) → Prop := i2' fun i j => .int (if j < i then j else i)
@[simp] def hSlE (t : HE) (tl th : HOp) : HE := fun s C => t s fun p s1 => ∃ d, p.frz = some d ∧ tl s1 fun lo s2 => th s2 fun hi s3 => slW (.dat d) lo hi fun q => C q s3
section
variable {X : Cx} {f : Fr} {e o a b : Expr} {es : List Expr} {t ti tt : HE} {r : HA} {x : Str} {apos cpos pos p : Pos} {oa ob : HA → HA}
theorem hp_ext {j : Nat} (he : PE X e (lf X.K f t)) (h : ∀ {ta : TA}, PA X [e] ta → PE X a (tBM X.K "list" rExtend (tVar j) ta)) (hs : starEach [e] X.env = (false, eval e X.env) :: starEach [] X.env := by rfl) : PE X a (lf X.K f (hExt j t)) := (h (pa_cons he pa_nil hs)).mono fun σ H Q q => by
  obtain ⟨F, O, G, s, C, R, ⟨⟨ds0, hj⟩, ht⟩, k⟩ := q
  obtain ⟨v, hv, V⟩ := R.sl j _ hj
  obtain ⟨b, ws, rfl, k1, k2, k3, k4, k5⟩ := V
  refine ⟨_, hv, Or.inl ⟨rfl, ws, Or.inl (Or.inl k1)⟩, F, O, G, s, _, R, ht, fun p s1 G1 H1 y c1 e1 R1 V1 => ?_⟩
  obtain ⟨ds, es, rfl, hj1, hl, c2⟩ := c1
  obtain ⟨v', hv', V'⟩ := R1.sl j _ hj1
  rw [hv] at hv'
  cases hv'
  obtain ⟨b', ws', eb, m1, m2, m3, m4, m5⟩ := V'
  cases eb
  obtain ⟨⟨c, us, rfl, n1, n2, n3, n4, n5⟩, nf⟩ := V1
  refine ⟨b, c, ws', us, rfl, rfl, m1, n1, by rw [m5.len, n5.len]; exact Evl.sz_of hl, k _ _ _ _ _ c2 e1 ?_ (vrf_dat .non)⟩
  exact R1.poke hj1 rfl hv m1 m2 m3 m4 ⟨_, _, rfl, upd_same, m2, m3, m4, m5.append n5⟩
end
theorem hWhile_by {c : HT} {t : HS} {D : HD} {s : Sg} (J : Nat → Sg → Prop) (m : Nat) (h : J m s) (step : ∀ m s, J m s → c s fun b s1 => if b = true then t { D with nx := fun s' => ∃ m', m' < m ∧ J m' s', ct := fun s' => ∃ m', m' < m ∧ J m' s', bk := D.nx } s1 else D.nx s1) : hWhile c t D s := by
  classical
  have least : ∀ (n : Nat) (s : Sg), J n s → ∃ k, J k s ∧ ∀ j, J j s → k ≤ j := fun n => by
    induction n using Nat.strongRecOn with
    | ind n ih =>
      intro s hn
      by_cases q : ∃ j, j < n ∧ J j s
      · obtain ⟨j, hj, hJ⟩ := q
        exact ih j hj s hJ
      · refine ⟨n, hn, fun j hj => ?_⟩
        rcases Nat.lt_or_ge j n with z | z
        · exact absurd ⟨j, z, hj⟩ q
        · exact z
  let μ : Sg → Nat := fun s => if h : ∃ m, J m s then Classical.choose (least _ s h.choose_spec) else 0
  have hμ : ∀ s, (∃ m, J m s) → J (μ s) s ∧ ∀ j, J j s → μ s ≤ j := fun s hs => by
    have : μ s = Classical.choose (least _ s hs.choose_spec) := dif_pos hs
    rw [this]
    exact Classical.choose_spec (least _ s hs.choose_spec)
  refine ⟨fun s => ∃ m, J m s, μ, ⟨m, h⟩, fun s hs => ?_⟩
  obtain ⟨h1, h2⟩ := hμ s hs
  have := step (μ s) s h1
  have e : (fun s' => ∃ m', m' < μ s ∧ J m' s') = fun s' => (∃ m, J m s') ∧ μ s' < μ s := by
    funext s'
    apply propext
    constructor
    · rintro ⟨m', a, b⟩
      exact ⟨⟨m', b⟩, Nat.lt_of_le_of_lt ((hμ s' ⟨m', b⟩).2 m' b) a⟩
    · rintro ⟨a, b⟩
      exact ⟨μ s', b, (hμ s' a).1⟩
  rw [e] at this
  exact this
end Sk
set_option Elab.async false
set_option linter.all false
set_option maxRecDepth 100000
set_option maxHeartbeats 2000000
namespace Sk
open PySem PySem.Spec PyProof.Rows L2
open Evl (Ex)
def Fr.ups (F : Fr) (B : Hp) : Fr := ⟨F.on, F.m, F.l, F.c, fun a => (B a).or (F.F a), F.O, F.M, F.r, F.w, F.T, F.e⟩
structure RelB (K : PySem.W.Frag) (f F : Fr) (O : Addr → Prop) (B G : Hp) (s : Sg) (σ : L2.St) (H : Hp) : Prop where
  r : Rel K (fo f (F.ups B) fun a => O a ∨ B a ≠ none) G s σ H
  b : ∀ a, B a ≠ none → ¬ F.M a ∧ ¬ O a ∧ F.F a = none ∧ (F.on = true → a ≠ F.m ∧ a ≠ F.l ∧ a ≠ F.c)
  pk : ∀ en, f.e = some en → EntOk en (fo f F O) G
theorem EntOk.ups {f F : Fr} {O : Addr → Prop} {B G : Hp} {en : Ent} (h : EntOk en (fo f F O) G) (b : ∀ a, B a ≠ none → F.F a = none) : EntOk en (fo f (F.ups B) fun a => O a ∨ B a ≠ none) G := { h with
  F := fun a u e => by
    have e2 : F.F a = some u := h.F a u e
    have e3 : B a = none := by
      cases q : B a with
      | none => rfl
      | some w => rw [b a (by rw [q]; intro z; cases z)] at e2; cases e2
    show (B a).or (F.F a) = some u
    rw [e3, e2]; rfl
  O := fun a e => Or.inl (h.O a e) }
section
variable {K : PySem.W.Frag} {f F : Fr} {O : Addr → Prop} {B G G' H H' : Hp} {s : Sg} {σ : L2.St} {a p : Addr} {o o' : HO}
theorem RelB.start (R : Rel K (fo f F O) G s σ H) : RelB K f F O (fun _ => none) G s σ H := by
  refine ⟨?_, fun a h => absurd rfl h, R.pk⟩
  have e : (fo f (F.ups fun _ => none) fun a => O a ∨ (none : Option HO) ≠ none) = fo f F O := by
    have e1 : (fun a => O a ∨ (none : Option HO) ≠ none) = O := by
      funext a
      exact propext ⟨fun h => h.elim id fun z => absurd rfl z, Or.inl⟩
    rw [e1]; rfl
  rw [e]; exact R
theorem RelB.at (R : RelB K f F O B G s σ H) (h : B a = some o) : H a = some o := by
  have hb := R.b a (by rw [h]; intro z; cases z)
  exact R.r.fh a o hb.1 (show (B a).or (F.F a) = some o by rw [h]; rfl)
theorem RelB.gn (R : RelB K f F O B G s σ H) (h : B a = some o) : G a = none := R.r.go a (Or.inr (by rw [h]; intro z; cases z))
theorem VR.upB {f1 f2 : Fr} {q : PV} {v : V} (h : VR K f1 G H q v) (on : f2.on = f1.on) (hm : f2.m = f1.m) (hr : f2.r = f1.r) (hw : f2.w = f1.w) (e : ∀ b u, H b = some u → ¬ f1.O b → H' b = some u ∧ ¬ f2.O b ∧ ((f1.F b = none ∨ f1.M b) → (f2.F b = none ∨ f2.M b))) : VR K f2 G H' q v := by
  cases q with
  | dat d => exact h
  | drw => exact ⟨on ▸ h.1, by rw [hm]; exact h.2⟩
  | val _ => exact h
  | dgf _ => obtain ⟨p0, xs0, z1, z2, z3⟩ := h; exact ⟨p0, xs0, z1, by rw [hw]; exact z2, z3⟩
  | abs _ => exact h
  | own ds =>
    obtain ⟨b, vs, rfl, k1, k2, k3, k4, k5⟩ := h
    obtain ⟨z1, z2, z3⟩ := e b _ k1 k3
    exact ⟨b, vs, rfl, z1, k2, z2, z3 k4, k5⟩
  | byr ds =>
    obtain ⟨b, vs, rfl, k1, k2, k3, k4, k5, k6⟩ := h
    obtain ⟨z1, z2, z3⟩ := e b _ k1 k3
    exact ⟨b, vs, rfl, z1, k2, z2, z3 k4, k5, by rw [hr]; exact k6⟩
  | dct ds =>
    obtain ⟨b, vs, rfl, k1, k2, k3, k4, k5⟩ := h
    obtain ⟨z1, z2, z3⟩ := e b _ k1 k3
    exact ⟨b, vs, rfl, z1, k2, z2, z3 k4, k5⟩
  | dcg ds =>
    obtain ⟨b, vs, rfl, k1, k2, k3, k4, k5⟩ := h
    obtain ⟨z1, z2, z3⟩ := e b _ k1 k3
    exact ⟨b, vs, rfl, by rw [hw]; exact z1, k2, z2, z3 k4, k5⟩
theorem RelB.new (R : RelB K f F O B G s σ H) (h : H a = none) : RelB K f F O (upd B a o) G s σ (upd H a o) := by
  have ne : ∀ {b : Addr} {u : HO}, H b = some u → b ≠ a := fun h1 z => by rw [z, h] at h1; cases h1
  have no : ∀ {b : Addr}, H b ≠ none → b ≠ a := fun h1 z => h1 (by rw [z]; exact h)
  have hM : ¬ F.M a := fun z => R.r.mh a z h
  have hB : B a = none := by
    cases q : B a with
    | none => rfl
    | some u => have := R.at q; rw [h] at this; cases this
  have hO : ¬ O a := fun z => R.r.oh a (Or.inl z) h
  have hF : F.F a = none := by
    cases q : F.F a with
    | none => rfl
    | some u =>
      have := R.r.fh a u hM (show (B a).or (F.F a) = some u by rw [hB, q]; rfl)
      rw [h] at this; cases this
  refine ⟨?_, fun b hb => ?_, R.pk⟩
  · exact {
      gh := R.r.gh.trans (Evl.Ex.new h)
      fh := fun b u m hb => by
        have hb : ((upd B a o) b).or (F.F b) = some u := hb
        by_cases q : b = a
        · subst q; rw [upd_same] at hb ⊢; exact hb
        · rw [upd_ne q] at hb ⊢; exact R.r.fh b u m hb
      go := fun b hb => by
        by_cases q : b = a
        · subst q; exact R.r.gn h
        · refine R.r.go b (hb.imp id fun z => ?_)
          rw [upd_ne q] at z; exact z
      oh := fun b hb => by
        by_cases q : b = a
        · subst q; rw [upd_same]; intro z; cases z
        · rw [upd_ne q]
          refine R.r.oh b (hb.imp id fun z => ?_)
          rw [upd_ne q] at z; exact z
      mh := fun b hb => by rw [upd_ne (no (R.r.mh b hb))]; exact R.r.mh b hb
      mo := fun hb => by
        obtain ⟨x, y, z, d, e⟩ := R.r.mo hb
        have up : ∀ {b : Addr}, (O b ∨ B b ≠ none) → (O b ∨ upd B a o b ≠ none) := fun {b} w => w.imp id fun z => by
          by_cases q : b = a
          · subst q; rw [upd_same]; intro z; cases z
          · rw [upd_ne q]; exact z
        exact ⟨up x, up y, up z, d, e⟩
      tm := fun p hp => ⟨(R.r.tm p hp).1.imp id fun z => by
          by_cases q : p.1 = a
          · rw [q, upd_same]; intro z; cases z
          · rw [upd_ne q]; exact z, (R.r.tm p hp).2⟩
      tb := fun p hp => (R.r.tb p hp).keep (fun _ _ _ z => z) (upd_ne (no (R.r.oh _ (R.r.tm p hp).1)))
      pk := fun en he => (R.pk en he).ups fun b hb => by
        by_cases q : b = a
        · rw [q]; exact hF
        · rw [upd_ne q] at hb; exact (R.b b hb).2.2.1
      dr := fun hb => by
        obtain ⟨x, y, z, d, e⟩ := R.r.mo hb
        exact (R.r.dr hb).keep (upd_ne (no (R.r.oh _ x))) (upd_ne (no (R.r.oh _ y))) (upd_ne (no (R.r.oh _ z)))
      ln := R.r.ln
      sl := fun i q hq => by
        obtain ⟨v, h1, h2⟩ := R.r.sl i q hq
        refine ⟨v, h1, h2.upB rfl rfl rfl rfl fun b u hb hn => ?_⟩
        have z := ne hb
        refine ⟨by rw [upd_ne z]; exact hb, fun w => hn (w.imp id fun y => by rw [upd_ne z] at y; exact y), fun w => w.imp (fun y => ?_) id⟩
        show ((upd B a o) b).or (F.F b) = none
        rw [upd_ne z]; exact y
      ds := R.r.ds }
  · by_cases q : b = a
    · subst q
      refine ⟨hM, hO, hF, fun on => ?_⟩
      obtain ⟨x, y, z, _⟩ := R.r.mo on
      exact ⟨fun e => R.r.oh _ x (e ▸ h), fun e => R.r.oh _ y (e ▸ h), fun e => R.r.oh _ z (e ▸ h)⟩
    · rw [upd_ne q] at hb; exact R.b b hb
theorem RelB.set (R : RelB K f F O B G s σ H) (h : B a = some o) : RelB K f F O (upd B a o') G s σ (upd H a o') := by
  have hb0 : B a ≠ none := by rw [h]; intro z; cases z
  have gD := R.gn h
  have up : ∀ {b : Addr}, (O b ∨ upd B a o' b ≠ none) → (O b ∨ B b ≠ none) := fun {b} w => w.imp id fun z => by
    by_cases q : b = a
    · subst q; exact hb0
    · rw [upd_ne q] at z; exact z
  have dn : ∀ {b : Addr}, (O b ∨ B b ≠ none) → (O b ∨ upd B a o' b ≠ none) := fun {b} w => w.imp id fun z => by
    by_cases q : b = a
    · subst q; rw [upd_same]; intro z; cases z
    · rw [upd_ne q]; exact z
  refine ⟨?_, fun b hb => ?_, R.pk⟩
  · exact {
      gh := fun b u hb => by rw [upd_ne (fun z => by rw [z, gD] at hb; cases hb)]; exact R.r.gh b u hb
      fh := fun b u m hb => by
        have hb : ((upd B a o') b).or (F.F b) = some u := hb
        by_cases q : b = a
        · subst q; rw [upd_same] at hb ⊢; exact hb
        · rw [upd_ne q] at hb ⊢; exact R.r.fh b u m hb
      go := fun b hb => R.r.go b (up hb)
      oh := fun b hb => by
        by_cases q : b = a
        · subst q; rw [upd_same]; intro z; cases z
        · rw [upd_ne q]; exact R.r.oh b (up hb)
      mh := fun b hb => by
        by_cases q : b = a
        · subst q; rw [upd_same]; intro z; cases z
        · rw [upd_ne q]; exact R.r.mh b hb
      mo := fun hb => by
        obtain ⟨x, y, z, d, e⟩ := R.r.mo hb
        exact ⟨dn x, dn y, dn z, d, e⟩
      tm := fun p hp => ⟨dn (R.r.tm p hp).1, (R.r.tm p hp).2⟩
      tb := fun p hp => (R.r.tb p hp).keep (fun _ _ _ z => z) (upd_ne fun e => (R.b a hb0).1 (e ▸ (R.r.tm p hp).2))
      pk := fun en he => (R.pk en he).ups fun b hb => by
        by_cases q : b = a
        · rw [q]; exact (R.b a hb0).2.2.1
        · rw [upd_ne q] at hb; exact (R.b b hb).2.2.1
      dr := fun hb => by
        obtain ⟨x, y, z⟩ := (R.b a hb0).2.2.2 hb
        exact (R.r.dr hb).keep (upd_ne x.symm) (upd_ne y.symm) (upd_ne z.symm)
      ln := R.r.ln
      sl := fun i q hq => by
        obtain ⟨v, h1, h2⟩ := R.r.sl i q hq
        refine ⟨v, h1, h2.upB rfl rfl rfl rfl fun b u hb hn => ?_⟩
        have z : b ≠ a := fun e => hn (Or.inr (e ▸ hb0))
        refine ⟨by rw [upd_ne z]; exact hb, fun w => hn (up w), fun w => w.imp (fun y => ?_) id⟩
        show ((upd B a o') b).or (F.F b) = none
        rw [upd_ne z]; exact y
      ds := R.r.ds }
  · by_cases q : b = a
    · subst q; exact R.b b hb0
    · rw [upd_ne q] at hb; exact R.b b hb
theorem RelB.done {vs : List V} {ds : List PyData} (R : RelB K f F O B G s σ H) (hp : B p = some (.lst vs)) (hds : ∀ G', Ex G G' → (∀ a o, a ≠ p → B a = some o → G' a = some o) → DpAll K G' vs ds) : ∃ G', Ex G G' ∧ Rel K (fo f F O) G' s σ H ∧ VRf K (fo f F O) G' H s σ (.own ds) (.ref p) := by
  have hpn : B p ≠ none := by rw [hp]; intro z; cases z
  let G1 : Hp := fun a => if a = p then G a else (B a).or (G a)
  have e1 : Ex G G1 := fun a o h => by
    show (if a = p then G a else (B a).or (G a)) = some o
    by_cases q : a = p
    · rw [if_pos q]; exact h
    · rw [if_neg q]
      cases w : B a with
      | none => exact h
      | some u => rw [R.gn w] at h; cases h
  have g1 : ∀ a o, a ≠ p → B a = some o → G1 a = some o := fun a o ne h => by
    show (if a = p then G a else (B a).or (G a)) = some o
    rw [if_neg ne, h]; rfl
  have nB : ∀ {a : Addr}, B a = none → G1 a = G a := fun {a} h => by
    show (if a = p then G a else (B a).or (G a)) = G a
    rw [h]; split <;> rfl
  have gp : G1 p = none := by
    show (if p = p then G p else (B p).or (G p)) = none
    rw [if_pos rfl]; exact R.gn hp
  have bO : ∀ {a : Addr}, ¬ (O a ∨ B a ≠ none) → B a = none := fun {a} h => by
    cases q : B a with
    | none => rfl
    | some u => exact absurd (Or.inr (by rw [q]; intro z; cases z)) h
  have R1 : Rel K (fo f F O) G1 s σ H := {
    gh := fun a o h => by
      have h : (if a = p then G a else (B a).or (G a)) = some o := h
      by_cases q : a = p
      · rw [if_pos q] at h; exact R.r.gh a o h
      · rw [if_neg q] at h
        cases w : B a with
        | none => rw [w] at h; exact R.r.gh a o h
        | some u => rw [w] at h; cases h; exact R.at w
    fh := fun a o m h => R.r.fh a o m (by
      show (B a).or (F.F a) = some o
      cases w : B a with
      | none => exact h
      | some u => have := (R.b a (by rw [w]; intro z; cases z)).2.2.1; rw [show F.F a = some o from h] at this; cases this)
    go := fun a h => by
      have : B a = none := by
        cases w : B a with
        | none => rfl
        | some u => exact absurd h (R.b a (by rw [w]; intro z; cases z)).2.1
      rw [nB this]; exact R.r.go a (Or.inl h)
    oh := fun a h => R.r.oh a (Or.inl h)
    mh := R.r.mh
    mo := fun h => by
      obtain ⟨x, y, z, d, e⟩ := R.r.mo h
      have c : ∀ {a : Addr}, (a = F.m ∨ a = F.l ∨ a = F.c) → (O a ∨ B a ≠ none) → O a := fun {a} w h2 => h2.elim id fun n => by
        obtain ⟨n1, n2, n3⟩ := (R.b a n).2.2.2 h
        rcases w with w | w | w
        · exact absurd w n1
        · exact absurd w n2
        · exact absurd w n3
      exact ⟨c (Or.inl rfl) x, c (Or.inr (Or.inl rfl)) y, c (Or.inr (Or.inr rfl)) z, d, e⟩
    tm := fun p hp => ⟨(R.r.tm p hp).1.elim id fun z => absurd (R.r.tm p hp).2 (R.b _ z).1, (R.r.tm p hp).2⟩
    tb := fun p hp => (R.r.tb p hp).keep (fun _ _ _ z => e1 _ _ z) rfl
    pk := fun en he => (R.pk en he).ex e1
    dr := R.r.dr
    ln := R.r.ln
    sl := fun i q hq => by
      obtain ⟨v, h1, h2⟩ := R.r.sl i q hq
      refine ⟨v, h1, ?_⟩
      have h3 : VR K (fo f (F.ups B) fun a => O a ∨ B a ≠ none) G1 H q v := by
        cases q with
        | dat d => exact Dp.ex e1 _ h2
        | drw => exact h2
        | val _ => exact h2
        | dgf _ => obtain ⟨p0, xs0, z1, z2, z3⟩ := h2; exact ⟨p0, xs0, z1, e1 _ _ z2, z3.ex e1⟩
        | abs _ => exact fun G9 e9 => h2 G9 (e1.trans e9)
        | own ds =>
          obtain ⟨b, vs, rfl, k1, k2, k3, k4, k5⟩ := h2
          exact ⟨b, vs, rfl, k1, by rw [nB (bO k3)]; exact k2, k3, k4, Dp.exAll e1 _ k5⟩
        | byr ds =>
          obtain ⟨b, vs, rfl, k1, k2, k3, k4, k5, k6⟩ := h2
          exact ⟨b, vs, rfl, k1, by rw [nB (bO k3)]; exact k2, k3, k4, Dp.exAll e1 _ k5, k6⟩
        | dct ds =>
          obtain ⟨b, vs, rfl, k1, k2, k3, k4, k5, k6⟩ := h2
          exact ⟨b, vs, rfl, k1, by rw [nB (bO k3)]; exact k2, k3, k4, k5, Dp.exAll e1 _ k6⟩
        | dcg ds =>
          obtain ⟨b, vs, rfl, k1, k2, k3, k4, k5⟩ := h2
          exact ⟨b, vs, rfl, k1, by rw [nB (bO k3)]; exact k2, k3, k4, k5.ex e1⟩
      refine h3.upB rfl rfl rfl rfl fun b u hb hn => ⟨hb, fun z => hn (Or.inl z), fun w => w.imp (fun y => ?_) id⟩
      have y : (B b).or (F.F b) = none := y
      rw [bO hn] at y; exact y
    ds := R.r.ds }
  obtain ⟨n1, n2, n3, n4⟩ := R.b p hpn
  refine ⟨G1, e1, R1, ⟨p, vs, rfl, R.at hp, gp, n2, Or.inl n3, hds G1 e1 g1⟩, fun _ i q h1 h2 h3 => ?_⟩
  obtain ⟨v, h4, h5⟩ := R.r.sl i q h1
  rw [h3] at h4
  cases h4
  cases q with
  | dat d => cases h2
  | drw => cases h2
  | val _ => cases h2
  | dgf _ => cases h2
  | abs _ => cases h2
  | own ds => obtain ⟨p, _, e, _, _, h6, _⟩ := h5; cases e; exact h6 (Or.inr hpn)
  | byr ds => obtain ⟨p, _, e, _, _, h6, _⟩ := h5; cases e; exact h6 (Or.inr hpn)
  | dct ds => obtain ⟨p, _, e, _, _, h6, _⟩ := h5; cases e; exact h6 (Or.inr hpn)
  | dcg ds => obtain ⟨p, _, e, _, _, h6, _⟩ := h5; cases e; exact h6 (Or.inr hpn)
end
end Sk
set_option Elab.async false
set_option linter.all false
set_option maxRecDepth 100000
set_option maxHeartbeats 2000000
namespace Sk
open PySem PySem.Spec PyProof.Rows L2
open Evl (Ex)
abbrev HN := (Sg → List (List PyData) → Prop) → Sg → List (List PyData) → Prop
def NstOk (K : PySem.W.Frag) (G B : Hp) (p : Addr) (L : List (List PyData)) : Prop := ∃ ps : List Addr, B p = some (.lst (ps.map V.ref)) ∧ (p :: ps).Nodup ∧ Paired (fun a ds => ∃ vs, B a = some (.lst vs) ∧ DpAll K G vs ds) ps L
theorem paired_mono {α β : Type} {R R' : α → β → Prop} {xs : List α} {ys : List β} (h : Paired R xs ys) (m : ∀ a b, R a b → R' a b) : Paired R' xs ys := by
  induction h with
  | nil => exact .nil
  | cons r _ ih => exact .cons (m _ _ r) ih
section
variable {K : PySem.W.Frag} {f F : Fr} {O : Addr → Prop} {B G G' H H' : Hp} {s : Sg} {σ : L2.St} {a p : Addr} {o o' : HO} {L : List (List PyData)}
theorem NstOk.ex (h : NstOk K G B p L) (e : Ex G G') : NstOk K G' B p L := by
  obtain ⟨ps, h1, h2, h3⟩ := h
  exact ⟨ps, h1, h2, paired_mono h3 fun a ds ⟨vs, b1, b2⟩ => ⟨vs, b1, Dp.exAll e _ b2⟩⟩
theorem NstOk.done (R : RelB K f F O B G s σ H) (h : NstOk K G B p L) : ∃ G', Ex G G' ∧ Rel K (fo f F O) G' s σ H ∧ VRf K (fo f F O) G' H s σ (.own (L.map PyData.list)) (.ref p) := by
  obtain ⟨ps, h1, h2, h3⟩ := h
  obtain ⟨n1, n2⟩ := List.nodup_cons.mp h2
  refine R.done h1 fun G' e g => ?_
  have go : ∀ {us : List Addr} {ws : List (List PyData)}, (∀ u ∈ us, u ≠ p) → Paired (fun a ds => ∃ vs, B a = some (.lst vs) ∧ DpAll K G vs ds) us ws → DpAll K G' (us.map V.ref) (ws.map PyData.list) := fun {us ws} n t => by
    induction t with
    | nil => exact .nil
    | cons r _ ih =>
      obtain ⟨vs, b1, b2⟩ := r
      exact .cons (.lst (Or.inl (Or.inl (g _ _ (n _ List.mem_cons_self) b1))) (Dp.exAll e _ b2)) (ih fun u hu => n u (List.mem_cons_of_mem _ hu))
  exact go (fun u hu e => n1 (e ▸ hu)) h3
end
@[simp] def neach (g : HG) (t : HN) (Q : Sg → List (List PyData) → Prop) : List PyData → Sg → List (List PyData) → Prop
  | [], s, L => Q s L
  | d :: ds, s, L => g d s fun s1 => t (neach g t Q ds) s1 L
@[simp] def nFor (it : HI) (g : HG) (t : HN) : HN := fun Q s L => it s fun ds s1 => neach g t Q ds s1 L
@[simp] def nIf (c : HT) (t : HN) : HN := fun Q s L => c s fun b s1 => if b = true then t Q s1 L else Q s1 L
@[simp] def nApp (tk tv : HE) : HN := fun Q s L => tk s fun q s1 => ∃ k n l, q = .dat (.int k) ∧ ixN L.length k = some n ∧ L[n]? = some l ∧ l.length < 100000 ∧ tv s1 fun p s2 => ∃ x, p.frz = some x ∧ Q s2 (L.set n (l ++ [x]))
section
variable {X : Cx} {f : Fr} {e a b c : Expr} {es : List Expr} {st : Stmt} {sts rest : List Stmt} {tk tv : HE} {tt : HT} {tn : HN} {g : HG} {ws : List Nat} {it : HI} {j : Nat} {pos : Pos}
end
end Sk
set_option Elab.async false
set_option linter.all false
set_option maxRecDepth 100000
set_option maxHeartbeats 2000000
namespace Sk
open PySem PySem.Spec PyProof.Rows L2
open Evl (Ex)
theorem Rel.free {K : PySem.W.Frag} {f : Fr} {G H : Hp} {s : Sg} {σ : L2.St} {j : Nat} {x : Option V} (R : Rel K f G s σ H) : Rel K f G (s.off j) (σ.set j x) H where
  gh := R.gh
  fh := R.fh
  go := R.go
  oh := R.oh
  mh := R.mh
  mo := R.mo
  tm := R.tm
  tb := R.tb
  pk := R.pk
  dr := R.dr
  ln := by simp only [Sg.off, List.length_set]; exact R.ln
  sl := fun i q hq => by
    rcases set_get hq with ⟨_, e2, _⟩ | ⟨e, h2⟩
    · cases e2
    · obtain ⟨v, h3, h4⟩ := R.sl i q h2
      exact ⟨v, by rw [List.getElem?_set_ne e]; exact h3, h4⟩
  ds := fun a b pa pb w ne ha hb ma mb wa wb => by
    rcases set_get ha with ⟨_, e2, _⟩ | ⟨e, h2⟩
    · cases e2
    rcases set_get hb with ⟨_, e2', _⟩ | ⟨e', h2'⟩
    · cases e2'
    rw [List.getElem?_set_ne e] at wa
    rw [List.getElem?_set_ne e'] at wb
    exact R.ds a b pa pb w ne h2 h2' ma mb wa wb
section
variable {X : Cx} {f : Fr} {st1 st2 : Stmt} {rest : List Stmt} {tn : HN} {tu : HS} {it : HI} {vs : List Nat} {i j : Nat}
end
end Sk
set_option Elab.async false
set_option linter.all false
set_option maxRecDepth 100000
set_option maxHeartbeats 2000000
namespace Sk
open PySem PySem.Spec PyProof.Rows L2
open PySem.W (Datum DatumOrd Tup T3 T4)
open Evl (Ex)
section
variable {K : PySem.W.Frag} {f F : Fr} {O : Addr → Prop} {B G G1 H H1 : Hp} {s s1 : Sg} {σ σ1 : L2.St} {cs : List Addr}
end
@[simp] def npick (jk : Nat) (tt : HT) : List (List PyData) → Sg → (List Bool → Prop) → Prop
  | [], _, C => C []
  | l :: ls, s, C => tt (s.put jk (.dat (.list l))) fun b s1 => s1 = s.put jk (.dat (.list l)) ∧ npick jk tt ls s fun bs => C (b :: bs)
section
variable {X : Cx} {f : Fr} {st1 st2 : Stmt} {jk ji jv j : Nat} {vs : List Nat} {tt : HT}
end
end Sk
set_option Elab.async false
set_option linter.all false
set_option maxRecDepth 100000
set_option maxHeartbeats 2000000
namespace Sk
open PySem
abbrev RE := NestedKey × Value × Value
def reE (w : World) (x : RE) : DictEntry := ⟨x.1.hash w, x.2.1, x.2.2⟩
def hitAt (xs : List RE) (k : NestedKey) (i : Nat) : Bool := match xs[i]? with
  | some x => decide (x.1 = k)
  | none => false
theorem hitAt_some {xs : List RE} {k : NestedKey} {i : Nat} (h : hitAt xs k i = true) : ∃ x, xs[i]? = some x ∧ x.1 = k := by
  unfold hitAt at h
  split at h
  · rename_i x e
    exact ⟨x, e, of_decide_eq_true h⟩
  · cases h
theorem hitAt_of {xs : List RE} {k : NestedKey} {i : Nat} {x : RE} (h : xs[i]? = some x) : hitAt xs k i = decide (x.1 = k) := by
  unfold hitAt
  rw [h]
theorem hitAt_one {xs : List RE} {k : NestedKey} (nd : (xs.map (·.1)).Nodup) {i j : Nat} (hi : hitAt xs k i = true) (hj : hitAt xs k j = true) : i = j := by
  obtain ⟨x, a, a'⟩ := hitAt_some hi
  obtain ⟨y, b, b'⟩ := hitAt_some hj
  have e1 : (xs.map (·.1))[i]? = some k := by rw [List.getElem?_map, a, Option.map_some, a']
  have e2 : (xs.map (·.1))[j]? = some k := by rw [List.getElem?_map, b, Option.map_some, b']
  exact (List.getElem?_inj (List.getElem?_eq_some_iff.mp e1).1 nd).mp (e1.trans e2.symm)
section
variable {prog : Program} {w : World} {A : Around} {E : Value → Shared → Prop} {s : Shared} {d : Addr} {o : Obj} {es : Array DictEntry} {ep : Nat} {xs : List RE} {k : NestedKey} {key v : Value}
theorem re_at (he : es.toList = xs.map (reE w)) (i : Nat) : es[i]? = (xs[i]?).map (reE w) := by
  have e : es[i]? = es.toList[i]? := by simp
  rw [e, he, List.getElem?_map]
theorem re_size (he : es.toList = xs.map (reE w)) : es.size = xs.length := by
  have e : es.size = es.toList.length := by simp
  rw [e, he, List.length_map]
theorem re_mem (he : es.toList = xs.map (reE w)) {e : DictEntry} (h : e ∈ es) : ∃ x ∈ xs, e = reE w x := by
  have z : e ∈ xs.map (reE w) := by rw [← he]; simpa using h
  obtain ⟨x, hx, q⟩ := List.mem_map.mp z
  exact ⟨x, hx, q.symm⟩
theorem pl_iff (he : es.toList = xs.map (reE w)) (i : Nat) : i ∈ placesWithHash es.size (fun i => es[i]?.map (·.hash)) (k.hash w) ↔ ∃ x, xs[i]? = some x ∧ x.1.hash w = k.hash w := by
  unfold placesWithHash
  rw [List.mem_filter, List.mem_range, re_size he]
  constructor
  · rintro ⟨h1, h2⟩
    refine ⟨xs[i], List.getElem?_eq_getElem h1, ?_⟩
    have e := re_at he i
    rw [List.getElem?_eq_getElem h1] at e
    simpa [e, reE] using h2
  · rintro ⟨x, h1, h2⟩
    refine ⟨(List.getElem?_eq_some_iff.mp h1).1, ?_⟩
    have e := re_at he i
    rw [h1] at e
    simp [e, reE, h2]
theorem quiet_any {Q : Bool → Shared → Prop} (hk : NestedIs s.heap k key) (hd : k.depth ≤ 8) (h : Q true s) : wpAny (model prog w) A (eqIsQuiet 8 key) Q E s := quiet_key k key 8 s hk hd A E Q h
theorem tells_quiet {stored : List Value} {Q : Bool → Shared → Prop} (hk : NestedIs s.heap k key) (hd : k.depth ≤ 8) (hs : ∀ u ∈ stored, ∃ k' : NestedKey, NestedIs s.heap k' u ∧ k'.depth ≤ 8) (h : Q false s) : wpAny (model prog w) A (tableMayTell key stored) Q E s := by
  unfold tableMayTell
  by_cases hn : stored.isEmpty = true
  · rw [if_pos hn]
    exact wpAny_pure h
  rw [if_neg hn]
  refine wpAny_bind (quiet_any hk hd ?_)
  simp only [Bool.not_true, Bool.false_eq_true, if_false]
  refine wpAny_bind (wpAny_forIn_list _ (fun l b t => (∀ u ∈ l, u ∈ stored) ∧ t = s ∧ b = (none, ())) _ ?_ ?_ _ _ ⟨fun _ hu => hu, rfl, rfl⟩)
  · intro u l b t ⟨h1, h2, h3⟩
    subst h2 h3
    obtain ⟨k', q1, q2⟩ := hs u (h1 u List.mem_cons_self)
    refine wpAny_bind (quiet_any q1 q2 ?_)
    simp only [Bool.not_true, Bool.false_eq_true, if_false]
    exact wpAny_pure ⟨fun z hz => h1 z (List.mem_cons_of_mem _ hz), rfl, rfl⟩
  · intro b t ⟨_, h2, h3⟩
    subst h2 h3
    exact wpAny_pure h
theorem eqb {x : RE} {Q : Bool → Shared → Prop} (hu : A.units + 8 < cLine) (hx : NestedIs s.heap x.1 x.2.1 ∧ x.1.depth ≤ 8) (hk : NestedIs s.heap k key) (h : Q (decide (x.1 = k)) s) : wpAny (model prog w) A (eqBool x.2.1 key) Q E s :=
  eqAt_key x.1 k A s _ _ hx.1 hk (by have := hx.2; omega) _ _ _ _ (by rw [← NestedKey.decide_eq]; exact h)
theorem gfind {Q : Option Nat → Shared → Prop} (hu : A.units + 8 < cLine) (hk : NestedIs s.heap k key) (hd8 : k.depth ≤ 8) (ho : s.heap.get? d = some o) (hdat : o.data = .dict es ep) (he : es.toList = xs.map (reE w))
    (his : ∀ x ∈ xs, NestedIs s.heap x.1 x.2.1 ∧ x.1.depth ≤ 8) (nd : (xs.map (·.1)).Nodup) (hno : (∀ i, hitAt xs k i = false) → Q none s) (hso : ∀ i, hitAt xs k i = true → Q (some i) s) : wpAny (model prog w) A (dictFind d key (k.hash w)) Q E s := by
  have at_ : ∀ {i : Nat} {x : RE}, xs[i]? = some x → NestedIs s.heap x.1 x.2.1 ∧ x.1.depth ≤ 8 := fun h => his _ (List.mem_of_getElem? h)
  unfold dictFind
  try with_reducible refine wpAny_holding ?_
  refine wpAny_bind (wpAny_dictEntries ho hdat ?_)
  dsimp only
  generalize hpl : placesWithHash es.size (fun i => es[i]?.map (·.hash)) (k.hash w) = pl
  have pl1 : ∀ i ∈ pl, ∃ x, xs[i]? = some x ∧ x.1.hash w = k.hash w := fun i hi => (pl_iff he i).mp (by rw [hpl]; exact hi)
  have pl2 : ∀ i, hitAt xs k i = true → i ∈ pl := fun i hi => by
    obtain ⟨x, h1, h2⟩ := hitAt_some hi
    rw [← hpl]
    exact (pl_iff he i).mpr ⟨x, h1, by rw [h2]⟩
  have pln : pl.Nodup := by
    rw [← hpl]
    unfold placesWithHash
    exact List.nodup_range.sublist List.filter_sublist
  have none_of : (∀ i ∈ pl, hitAt xs k i = true → False) → Q none s := fun h => hno fun i => by
    cases q : hitAt xs k i with
    | false => rfl
    | true => exact (h i (pl2 i q) q).elim
  have walk : wpAny (model prog w) A (dictWalkPlain d key (k.hash w) es pl) Q E s := by
    unfold dictWalkPlain
    refine wpAny_bind (wpAny_forIn_list _ (fun l b t => t = s ∧ b = (none, ()) ∧ (∀ i ∈ l, i ∈ pl) ∧ ∀ i ∈ pl, hitAt xs k i = true → i ∈ l) _ ?_ ?_ _ _ ⟨rfl, rfl, fun _ h => h, fun _ h _ => h⟩)
    · intro i l b t ⟨h1, h2, h3, h4⟩
      subst h1 h2
      obtain ⟨x, e1, e2⟩ := pl1 i (h3 i List.mem_cons_self)
      have e3 : es[i]? = some (reE w x) := by rw [re_at he i, e1]; rfl
      simp only [e3]
      rw [if_pos (by simp [reE, e2])]
      refine wpAny_bind (wpAny_dictEpoch ho hdat (wpAny_bind (eqb hu (at_ e1) hk (wpAny_bind (wpAny_dictEpoch ho hdat ?_)))))
      show wpAny _ _ (if (ep != ep) = true then _ else _) _ _ _
      rw [if_neg (by simp)]
      cases q : decide (x.1 = k) with
      | true => exact wpAny_bind (wpAny_rule (wpAny_pure (wpAny_pure (hso i (by rw [hitAt_of e1]; exact q)))))
      | false =>
        refine wpAny_bind (wpAny_rule (wpAny_pure ⟨rfl, rfl, fun j hj => h3 j (List.mem_cons_of_mem _ hj), fun j hj z => ?_⟩))
        rcases List.mem_cons.mp (h4 j hj z) with e | e
        · rw [e, hitAt_of e1, q] at z
          cases z
        · exact e
    · intro b t ⟨h1, h2, h3, h4⟩
      subst h1 h2
      exact wpAny_pure (none_of fun i hi z => by cases h4 i hi z)
  have hany : ¬ (es.any fun e => e.key == key && e.hash != k.hash w) = true := by
    intro z
    obtain ⟨i, hi, z⟩ := Array.any_eq_true.mp z
    obtain ⟨x, hx, e⟩ := re_mem he (Array.getElem_mem hi)
    rw [e] at z
    simp only [reE, Bool.and_eq_true, beq_iff_eq, bne_iff_ne, ne_eq] at z
    obtain ⟨z1, z2⟩ := z
    have q := (his x hx).1
    rw [z1] at q
    exact z2 (by rw [NestedIs.inj _ _ _ q hk])
  have hst : ∀ u ∈ pl.filterMap fun i => es[i]?.map (·.key), ∃ k' : NestedKey, NestedIs s.heap k' u ∧ k'.depth ≤ 8 := fun u hu => by
    obtain ⟨i, hi, e⟩ := List.mem_filterMap.mp hu
    obtain ⟨x, e1, e2⟩ := pl1 i hi
    rw [re_at he i, e1] at e
    cases e
    exact ⟨x.1, at_ e1⟩
  generalize hsd : (pl.filterMap fun i => es[i]?.map (·.key)) = sd
  rw [hsd] at hst
  have byText : ∀ (x : Str) (t : Tok), key = .str x t → (es.all fun e => isExactStrKey e.key) = true → wpAny (model prog w) A (foundByValue d key es x) Q E s := by
    intro x t ek hall
    subst ek
    cases hk
    have same : ∀ (i : Nat) (y : RE), xs[i]? = some y → y.2.1.isStr x = decide (y.1 = .text x) := fun i y hy => by
      have hin : reE w y ∈ es := by
        have z : reE w y ∈ es.toList := by rw [he]; exact List.mem_map.mpr ⟨y, List.mem_of_getElem? hy, rfl⟩
        simpa using z
      have q : isExactStrKey y.2.1 = true := by
        have z := Array.all_eq_true.mp hall
        obtain ⟨j, hj, e⟩ := Array.mem_iff_getElem.mp hin
        have z := z j hj
        rw [e] at z
        exact z
      have r := (at_ hy).1
      obtain ⟨y1, y2, y3⟩ := y
      cases y2 with
      | str u tt =>
        cases r
        show decide (u = x) = decide (NestedKey.text u = NestedKey.text x)
        exact decide_eq_decide.mpr ⟨fun z => by rw [z], fun z => by cases z; rfl⟩
      | _ => cases q
    unfold foundByValue
    cases hf : es.findIdx? (fun e => e.key.isStr x) with
    | none =>
      refine wpAny_pure (hno fun i => ?_)
      cases q : hitAt xs (.text x) i with
      | false => rfl
      | true =>
        obtain ⟨y, e1, e2⟩ := hitAt_some q
        have z := Array.findIdx?_eq_none_iff.mp hf (reE w y) (by
          have z : reE w y ∈ es.toList := by rw [he]; exact List.mem_map.mpr ⟨y, List.mem_of_getElem? e1, rfl⟩
          simpa using z)
        have z : y.2.1.isStr x = false := z
        rw [same i y e1, e2] at z
        simp at z
    | some i =>
      obtain ⟨hlt, hi, _⟩ := Array.findIdx?_eq_some_iff_getElem.mp hf
      have e0 : es[i]? = some es[i] := Array.getElem?_eq_getElem hlt
      have e1 := re_at he i
      rw [e0] at e1
      cases e2 : xs[i]? with
      | none => rw [e2] at e1; cases e1
      | some y =>
        rw [e2] at e1
        have e1 : es[i] = reE w y := Option.some.inj e1
        rw [e1] at e0 hi
        have hi : y.2.1.isStr x = true := hi
        rw [same i y e2] at hi
        simp only [e0]
        refine wpAny_bind (wpAny_dictEpoch ho hdat (wpAny_bind (eqb (x := y) hu (at_ e2) (.text x t) (wpAny_bind (wpAny_dictEpoch ho hdat ?_)))))
        show wpAny _ _ (if (ep != ep) = true then _ else _) _ _ _
        rw [if_neg (by simp), hi]
        exact wpAny_bind (wpAny_rule (wpAny_pure (hso i (by rw [hitAt_of e2]; exact hi))))
  have pick : (∀ (x : Str) (t : Tok), key ≠ .str x t) ∨ ∃ (x : Str) (t : Tok), key = .str x t := by
    cases key <;> first | exact .inr ⟨_, _, rfl⟩ | exact .inl fun _ _ z => by cases z
  cases key with
  | str x t =>
    dsimp only
    by_cases h1 : (es.all fun e => isExactStrKey e.key) = true
    · rw [if_pos h1]
      exact byText x t rfl h1
    rw [if_neg h1]
    by_cases h2 : ((Value.str x t :: sd).all carriedByValue) = true
    · rw [if_pos h2]
      exact walk
    rw [if_neg h2]
    by_cases h3 : (sd == [Value.str x t]) = true <;> (first | rw [if_pos h3] | rw [if_neg h3]) <;> (first | refine wpAny_bind (wpAny_pure ?_) | refine wpAny_bind (tells_quiet hk hd8 hst ?_)) <;> (
      rw [if_neg (by simp)]
      refine wpAny_bind (wpAny_forIn_list _ (fun l b t => t = s ∧ ∃ hit, b = (none, hit) ∧ (∀ i ∈ l, i ∈ pl) ∧ l.Nodup ∧ ((hit = none ∧ ∀ i ∈ pl, hitAt xs k i = true → i ∈ l) ∨ ∃ j, hit = some j ∧ hitAt xs k j = true ∧ ∀ i ∈ l, hitAt xs k i = false)) _ ?_ ?_ _ _ ⟨rfl, none, rfl, fun _ h => h, pln, .inl ⟨rfl, fun _ h _ => h⟩⟩)
      · intro i l b t ⟨h1, hit, h2, h4, h5, h6⟩
        subst h1 h2
        obtain ⟨x, e1, e2⟩ := pl1 i (h4 i List.mem_cons_self)
        have e3 : es[i]? = some (reE w x) := by rw [re_at he i, e1]; rfl
        simp only [e3]
        rw [if_pos (by simp [reE, e2])]
        refine wpAny_bind (wpAny_dictEpoch ho hdat (wpAny_bind (eqb hu (at_ e1) hk (wpAny_bind (wpAny_dictEpoch ho hdat ?_)))))
        show wpAny _ _ (if (ep != ep) = true then _ else _) _ _ _
        rw [if_neg (by simp)]
        obtain ⟨n1, n2⟩ := List.nodup_cons.mp h5
        cases q : decide (x.1 = k) with
        | true =>
          have hi : hitAt xs k i = true := by rw [hitAt_of e1]; exact q
          rcases h6 with ⟨rfl, h7⟩ | ⟨j, rfl, _, h7⟩
          · simp only [if_true, Option.isSome_none, Bool.false_eq_true, if_false]
            refine wpAny_bind (wpAny_rule ?_)
            split
            · exact wpAny_pure (wpAny_pure (hso i hi))
            · refine wpAny_pure ⟨rfl, some i, rfl, fun z hz => h4 z (List.mem_cons_of_mem _ hz), n2, .inr ⟨i, rfl, hi, fun z hz => ?_⟩⟩
              cases r : hitAt xs k z with
              | false => rfl
              | true => exact absurd (hitAt_one nd r hi ▸ hz) n1
          · have z := h7 i List.mem_cons_self
            rw [hi] at z
            cases z
        | false =>
          have hi : hitAt xs k i = false := by rw [hitAt_of e1]; exact q
          simp only [Bool.false_eq_true, if_false, Bool.false_and]
          refine wpAny_bind (wpAny_rule (wpAny_pure ⟨rfl, hit, rfl, fun z hz => h4 z (List.mem_cons_of_mem _ hz), n2, ?_⟩))
          rcases h6 with ⟨rfl, h7⟩ | ⟨j, rfl, h8, h7⟩
          · refine .inl ⟨rfl, fun z hz hq => ?_⟩
            rcases List.mem_cons.mp (h7 z hz hq) with e | e
            · rw [e, hi] at hq
              cases hq
            · exact e
          · exact .inr ⟨j, rfl, h8, fun z hz => h7 z (List.mem_cons_of_mem _ hz)⟩
      · intro b t ⟨h1, hit, h2, _, _, h6⟩
        subst h1 h2
        rcases h6 with ⟨rfl, h7⟩ | ⟨j, rfl, h8, _⟩
        · exact wpAny_pure (none_of fun i hi z => by cases h7 i hi z)
        · exact wpAny_pure (hso j h8))
  | ref a =>
    dsimp only
    by_cases h2 : ((Value.ref a :: sd).all carriedByValue) = true
    · rw [if_pos h2]
      exact walk
    rw [if_neg h2]
    rw [if_neg hany]
    by_cases h3 : (sd == [Value.ref a]) = true <;> (first | rw [if_pos h3] | rw [if_neg h3]) <;> (first | refine wpAny_bind (wpAny_pure ?_) | refine wpAny_bind (tells_quiet hk hd8 hst ?_)) <;> (
      rw [if_neg (by simp)]
      refine wpAny_bind (wpAny_forIn_list _ (fun l b t => t = s ∧ ∃ hit, b = (none, hit) ∧ (∀ i ∈ l, i ∈ pl) ∧ l.Nodup ∧ ((hit = none ∧ ∀ i ∈ pl, hitAt xs k i = true → i ∈ l) ∨ ∃ j, hit = some j ∧ hitAt xs k j = true ∧ ∀ i ∈ l, hitAt xs k i = false)) _ ?_ ?_ _ _ ⟨rfl, none, rfl, fun _ h => h, pln, .inl ⟨rfl, fun _ h _ => h⟩⟩)
      · intro i l b t ⟨h1, hit, h2, h4, h5, h6⟩
        subst h1 h2
        obtain ⟨x, e1, e2⟩ := pl1 i (h4 i List.mem_cons_self)
        have e3 : es[i]? = some (reE w x) := by rw [re_at he i, e1]; rfl
        simp only [e3]
        rw [if_pos (by simp [reE, e2])]
        refine wpAny_bind (wpAny_dictEpoch ho hdat (wpAny_bind (eqb hu (at_ e1) hk (wpAny_bind (wpAny_dictEpoch ho hdat ?_)))))
        show wpAny _ _ (if (ep != ep) = true then _ else _) _ _ _
        rw [if_neg (by simp)]
        obtain ⟨n1, n2⟩ := List.nodup_cons.mp h5
        cases q : decide (x.1 = k) with
        | true =>
          have hi : hitAt xs k i = true := by rw [hitAt_of e1]; exact q
          rcases h6 with ⟨rfl, h7⟩ | ⟨j, rfl, _, h7⟩
          · simp only [if_true, Option.isSome_none, Bool.false_eq_true, if_false]
            refine wpAny_bind (wpAny_rule ?_)
            split
            · exact wpAny_pure (wpAny_pure (hso i hi))
            · refine wpAny_pure ⟨rfl, some i, rfl, fun z hz => h4 z (List.mem_cons_of_mem _ hz), n2, .inr ⟨i, rfl, hi, fun z hz => ?_⟩⟩
              cases r : hitAt xs k z with
              | false => rfl
              | true => exact absurd (hitAt_one nd r hi ▸ hz) n1
          · have z := h7 i List.mem_cons_self
            rw [hi] at z
            cases z
        | false =>
          have hi : hitAt xs k i = false := by rw [hitAt_of e1]; exact q
          simp only [Bool.false_eq_true, if_false, Bool.false_and]
          refine wpAny_bind (wpAny_rule (wpAny_pure ⟨rfl, hit, rfl, fun z hz => h4 z (List.mem_cons_of_mem _ hz), n2, ?_⟩))
          rcases h6 with ⟨rfl, h7⟩ | ⟨j, rfl, h8, h7⟩
          · refine .inl ⟨rfl, fun z hz hq => ?_⟩
            rcases List.mem_cons.mp (h7 z hz hq) with e | e
            · rw [e, hi] at hq
              cases hq
            · exact e
          · exact .inr ⟨j, rfl, h8, fun z hz => h7 z (List.mem_cons_of_mem _ hz)⟩
      · intro b t ⟨h1, hit, h2, _, _, h6⟩
        subst h1 h2
        rcases h6 with ⟨rfl, h7⟩ | ⟨j, rfl, h8, _⟩
        · exact wpAny_pure (none_of fun i hi z => by cases h7 i hi z)
        · exact wpAny_pure (hso j h8))
  | int n t =>
    dsimp only
    by_cases h2 : ((Value.int n t :: sd).all carriedByValue) = true
    · rw [if_pos h2]
      exact walk
    rw [if_neg h2]
    by_cases h3 : (sd == [Value.int n t]) = true <;> (first | rw [if_pos h3] | rw [if_neg h3]) <;> (first | refine wpAny_bind (wpAny_pure ?_) | refine wpAny_bind (tells_quiet hk hd8 hst ?_)) <;> (
      rw [if_neg (by simp)]
      refine wpAny_bind (wpAny_forIn_list _ (fun l b t => t = s ∧ ∃ hit, b = (none, hit) ∧ (∀ i ∈ l, i ∈ pl) ∧ l.Nodup ∧ ((hit = none ∧ ∀ i ∈ pl, hitAt xs k i = true → i ∈ l) ∨ ∃ j, hit = some j ∧ hitAt xs k j = true ∧ ∀ i ∈ l, hitAt xs k i = false)) _ ?_ ?_ _ _ ⟨rfl, none, rfl, fun _ h => h, pln, .inl ⟨rfl, fun _ h _ => h⟩⟩)
      · intro i l b t ⟨h1, hit, h2, h4, h5, h6⟩
        subst h1 h2
        obtain ⟨x, e1, e2⟩ := pl1 i (h4 i List.mem_cons_self)
        have e3 : es[i]? = some (reE w x) := by rw [re_at he i, e1]; rfl
        simp only [e3]
        rw [if_pos (by simp [reE, e2])]
        refine wpAny_bind (wpAny_dictEpoch ho hdat (wpAny_bind (eqb hu (at_ e1) hk (wpAny_bind (wpAny_dictEpoch ho hdat ?_)))))
        show wpAny _ _ (if (ep != ep) = true then _ else _) _ _ _
        rw [if_neg (by simp)]
        obtain ⟨n1, n2⟩ := List.nodup_cons.mp h5
        cases q : decide (x.1 = k) with
        | true =>
          have hi : hitAt xs k i = true := by rw [hitAt_of e1]; exact q
          rcases h6 with ⟨rfl, h7⟩ | ⟨j, rfl, _, h7⟩
          · simp only [if_true, Option.isSome_none, Bool.false_eq_true, if_false]
            refine wpAny_bind (wpAny_rule ?_)
            split
            · exact wpAny_pure (wpAny_pure (hso i hi))
            · refine wpAny_pure ⟨rfl, some i, rfl, fun z hz => h4 z (List.mem_cons_of_mem _ hz), n2, .inr ⟨i, rfl, hi, fun z hz => ?_⟩⟩
              cases r : hitAt xs k z with
              | false => rfl
              | true => exact absurd (hitAt_one nd r hi ▸ hz) n1
          · have z := h7 i List.mem_cons_self
            rw [hi] at z
            cases z
        | false =>
          have hi : hitAt xs k i = false := by rw [hitAt_of e1]; exact q
          simp only [Bool.false_eq_true, if_false, Bool.false_and]
          refine wpAny_bind (wpAny_rule (wpAny_pure ⟨rfl, hit, rfl, fun z hz => h4 z (List.mem_cons_of_mem _ hz), n2, ?_⟩))
          rcases h6 with ⟨rfl, h7⟩ | ⟨j, rfl, h8, h7⟩
          · refine .inl ⟨rfl, fun z hz hq => ?_⟩
            rcases List.mem_cons.mp (h7 z hz hq) with e | e
            · rw [e, hi] at hq
              cases hq
            · exact e
          · exact .inr ⟨j, rfl, h8, fun z hz => h7 z (List.mem_cons_of_mem _ hz)⟩
      · intro b t ⟨h1, hit, h2, _, _, h6⟩
        subst h1 h2
        rcases h6 with ⟨rfl, h7⟩ | ⟨j, rfl, h8, _⟩
        · exact wpAny_pure (none_of fun i hi z => by cases h7 i hi z)
        · exact wpAny_pure (hso j h8))
  | bool n =>
    dsimp only
    by_cases h2 : ((Value.bool n :: sd).all carriedByValue) = true
    · rw [if_pos h2]
      exact walk
    rw [if_neg h2]
    by_cases h3 : (sd == [Value.bool n]) = true <;> (first | rw [if_pos h3] | rw [if_neg h3]) <;> (first | refine wpAny_bind (wpAny_pure ?_) | refine wpAny_bind (tells_quiet hk hd8 hst ?_)) <;> (
      rw [if_neg (by simp)]
      refine wpAny_bind (wpAny_forIn_list _ (fun l b t => t = s ∧ ∃ hit, b = (none, hit) ∧ (∀ i ∈ l, i ∈ pl) ∧ l.Nodup ∧ ((hit = none ∧ ∀ i ∈ pl, hitAt xs k i = true → i ∈ l) ∨ ∃ j, hit = some j ∧ hitAt xs k j = true ∧ ∀ i ∈ l, hitAt xs k i = false)) _ ?_ ?_ _ _ ⟨rfl, none, rfl, fun _ h => h, pln, .inl ⟨rfl, fun _ h _ => h⟩⟩)
      · intro i l b t ⟨h1, hit, h2, h4, h5, h6⟩
        subst h1 h2
        obtain ⟨x, e1, e2⟩ := pl1 i (h4 i List.mem_cons_self)
        have e3 : es[i]? = some (reE w x) := by rw [re_at he i, e1]; rfl
        simp only [e3]
        rw [if_pos (by simp [reE, e2])]
        refine wpAny_bind (wpAny_dictEpoch ho hdat (wpAny_bind (eqb hu (at_ e1) hk (wpAny_bind (wpAny_dictEpoch ho hdat ?_)))))
        show wpAny _ _ (if (ep != ep) = true then _ else _) _ _ _
        rw [if_neg (by simp)]
        obtain ⟨n1, n2⟩ := List.nodup_cons.mp h5
        cases q : decide (x.1 = k) with
        | true =>
          have hi : hitAt xs k i = true := by rw [hitAt_of e1]; exact q
          rcases h6 with ⟨rfl, h7⟩ | ⟨j, rfl, _, h7⟩
          · simp only [if_true, Option.isSome_none, Bool.false_eq_true, if_false]
            refine wpAny_bind (wpAny_rule ?_)
            split
            · exact wpAny_pure (wpAny_pure (hso i hi))
            · refine wpAny_pure ⟨rfl, some i, rfl, fun z hz => h4 z (List.mem_cons_of_mem _ hz), n2, .inr ⟨i, rfl, hi, fun z hz => ?_⟩⟩
              cases r : hitAt xs k z with
              | false => rfl
              | true => exact absurd (hitAt_one nd r hi ▸ hz) n1
          · have z := h7 i List.mem_cons_self
            rw [hi] at z
            cases z
        | false =>
          have hi : hitAt xs k i = false := by rw [hitAt_of e1]; exact q
          simp only [Bool.false_eq_true, if_false, Bool.false_and]
          refine wpAny_bind (wpAny_rule (wpAny_pure ⟨rfl, hit, rfl, fun z hz => h4 z (List.mem_cons_of_mem _ hz), n2, ?_⟩))
          rcases h6 with ⟨rfl, h7⟩ | ⟨j, rfl, h8, h7⟩
          · refine .inl ⟨rfl, fun z hz hq => ?_⟩
            rcases List.mem_cons.mp (h7 z hz hq) with e | e
            · rw [e, hi] at hq
              cases hq
            · exact e
          · exact .inr ⟨j, rfl, h8, fun z hz => h7 z (List.mem_cons_of_mem _ hz)⟩
      · intro b t ⟨h1, hit, h2, _, _, h6⟩
        subst h1 h2
        rcases h6 with ⟨rfl, h7⟩ | ⟨j, rfl, h8, _⟩
        · exact wpAny_pure (none_of fun i hi z => by cases h7 i hi z)
        · exact wpAny_pure (hso j h8))
  | none =>
    dsimp only
    by_cases h2 : ((Value.none :: sd).all carriedByValue) = true
    · rw [if_pos h2]
      exact walk
    rw [if_neg h2]
    by_cases h3 : (sd == [Value.none]) = true <;> (first | rw [if_pos h3] | rw [if_neg h3]) <;> (first | refine wpAny_bind (wpAny_pure ?_) | refine wpAny_bind (tells_quiet hk hd8 hst ?_)) <;> (
      rw [if_neg (by simp)]
      refine wpAny_bind (wpAny_forIn_list _ (fun l b t => t = s ∧ ∃ hit, b = (none, hit) ∧ (∀ i ∈ l, i ∈ pl) ∧ l.Nodup ∧ ((hit = none ∧ ∀ i ∈ pl, hitAt xs k i = true → i ∈ l) ∨ ∃ j, hit = some j ∧ hitAt xs k j = true ∧ ∀ i ∈ l, hitAt xs k i = false)) _ ?_ ?_ _ _ ⟨rfl, none, rfl, fun _ h => h, pln, .inl ⟨rfl, fun _ h _ => h⟩⟩)
      · intro i l b t ⟨h1, hit, h2, h4, h5, h6⟩
        subst h1 h2
        obtain ⟨x, e1, e2⟩ := pl1 i (h4 i List.mem_cons_self)
        have e3 : es[i]? = some (reE w x) := by rw [re_at he i, e1]; rfl
        simp only [e3]
        rw [if_pos (by simp [reE, e2])]
        refine wpAny_bind (wpAny_dictEpoch ho hdat (wpAny_bind (eqb hu (at_ e1) hk (wpAny_bind (wpAny_dictEpoch ho hdat ?_)))))
        show wpAny _ _ (if (ep != ep) = true then _ else _) _ _ _
        rw [if_neg (by simp)]
        obtain ⟨n1, n2⟩ := List.nodup_cons.mp h5
        cases q : decide (x.1 = k) with
        | true =>
          have hi : hitAt xs k i = true := by rw [hitAt_of e1]; exact q
          rcases h6 with ⟨rfl, h7⟩ | ⟨j, rfl, _, h7⟩
          · simp only [if_true, Option.isSome_none, Bool.false_eq_true, if_false]
            refine wpAny_bind (wpAny_rule ?_)
            split
            · exact wpAny_pure (wpAny_pure (hso i hi))
            · refine wpAny_pure ⟨rfl, some i, rfl, fun z hz => h4 z (List.mem_cons_of_mem _ hz), n2, .inr ⟨i, rfl, hi, fun z hz => ?_⟩⟩
              cases r : hitAt xs k z with
              | false => rfl
              | true => exact absurd (hitAt_one nd r hi ▸ hz) n1
          · have z := h7 i List.mem_cons_self
            rw [hi] at z
            cases z
        | false =>
          have hi : hitAt xs k i = false := by rw [hitAt_of e1]; exact q
          simp only [Bool.false_eq_true, if_false, Bool.false_and]
          refine wpAny_bind (wpAny_rule (wpAny_pure ⟨rfl, hit, rfl, fun z hz => h4 z (List.mem_cons_of_mem _ hz), n2, ?_⟩))
          rcases h6 with ⟨rfl, h7⟩ | ⟨j, rfl, h8, h7⟩
          · refine .inl ⟨rfl, fun z hz hq => ?_⟩
            rcases List.mem_cons.mp (h7 z hz hq) with e | e
            · rw [e, hi] at hq
              cases hq
            · exact e
          · exact .inr ⟨j, rfl, h8, fun z hz => h7 z (List.mem_cons_of_mem _ hz)⟩
      · intro b t ⟨h1, hit, h2, _, _, h6⟩
        subst h1 h2
        rcases h6 with ⟨rfl, h7⟩ | ⟨j, rfl, h8, _⟩
        · exact wpAny_pure (none_of fun i hi z => by cases h7 i hi z)
        · exact wpAny_pure (hso j h8))
  | _ => cases hk
end
end Sk
set_option Elab.async false
set_option linter.all false
set_option maxRecDepth 100000
set_option maxHeartbeats 2000000
namespace Sk
open PySem PySem.Calls
def GAt (w : World) (h : Heap) (d : Addr) (xs : List RE) : Prop :=
  (∀ x ∈ xs, NestedIs h x.1 x.2.1 ∧ x.1.depth ≤ 8) ∧ (xs.map (·.1)).Nodup ∧ ∃ o es ep, h.get? d = some o ∧ o.ExactDict ∧ o.data = .dict es ep ∧ es.toList = xs.map (reE w)
def gval (xs : List RE) (k : NestedKey) : Option Value := (xs.find? fun x => decide (x.1 = k)).map (·.2.2)
def gput (xs : List RE) (k : NestedKey) (key v : Value) : List RE := if (xs.any fun x => decide (x.1 = k)) = true then xs.map (fun x => if x.1 = k then (x.1, x.2.1, v) else x) else xs ++ [(k, key, v)]
section
variable {xs : List RE} {k : NestedKey} {key v : Value}
theorem hit_val : ∀ {xs : List RE}, (xs.map (·.1)).Nodup → ∀ {i : Nat}, hitAt xs k i = true → ∃ x, xs[i]? = some x ∧ gval xs k = some x.2.2 ∧ (xs.any fun x => decide (x.1 = k)) = true
  | [], _, i, h => by
    obtain ⟨x, e, _⟩ := hitAt_some h
    simp at e
  | x :: xs, nd, i, h => by
    obtain ⟨y, e1, e2⟩ := hitAt_some h
    by_cases q : x.1 = k
    · have z : i = 0 := hitAt_one nd h (by rw [hitAt_of (x := x) rfl]; exact decide_eq_true q)
      subst z
      cases (show x = y from by simpa using e1)
      exact ⟨x, rfl, by simp [gval, q], by simp [q]⟩
    · cases i with
      | zero =>
        cases (show x = y from by simpa using e1)
        exact absurd e2 q
      | succ i =>
        have h' : hitAt xs k i = true := by
          rw [hitAt_of (x := y) (by simpa using e1)]
          exact decide_eq_true e2
        obtain ⟨z, a, b, c⟩ := hit_val (xs := xs) (by rw [List.map_cons, List.nodup_cons] at nd; exact nd.2) h'
        refine ⟨z, by simpa using a, ?_, by simp [c]⟩
        rw [← b]
        simp [gval, q]
theorem miss_val (h : ∀ i, hitAt xs k i = false) : gval xs k = none ∧ (xs.any fun x => decide (x.1 = k)) = false ∧ k ∉ xs.map (·.1) := by
  have no : ∀ x ∈ xs, x.1 ≠ k := fun x hx e => by
    obtain ⟨i, hi⟩ := List.mem_iff_getElem?.mp hx
    have z := h i
    rw [hitAt_of hi, decide_eq_true e] at z
    cases z
  refine ⟨?_, ?_, fun hm => ?_⟩
  · unfold gval
    rw [List.find?_eq_none.mpr fun x hx => by simp [no x hx]]
    rfl
  · rw [List.any_eq_false]
    exact fun x hx => by simp [no x hx]
  · obtain ⟨x, hx, e⟩ := List.mem_map.mp hm
    exact no x hx e
theorem map_put_keys (f : RE → RE) (hf : ∀ x, (f x).1 = x.1) (xs : List RE) : (xs.map f).map (·.1) = xs.map (·.1) := by
  rw [List.map_map]
  exact List.map_congr_left fun x _ => hf x
theorem modify_map {β : Type} (g : RE → β) (q : β → β) (hq : ∀ x : RE, x.1 = k → q (g x) = g (x.1, x.2.1, v)) : ∀ {xs : List RE} {i : Nat}, (xs.map (·.1)).Nodup → hitAt xs k i = true → (xs.map g).modify i q = (xs.map fun x => if x.1 = k then (x.1, x.2.1, v) else x).map g
  | [], i, _, h => by
    obtain ⟨x, e, _⟩ := hitAt_some h
    simp at e
  | x :: xs, i, nd, h => by
    have nd' := nd
    rw [List.map_cons, List.nodup_cons] at nd
    obtain ⟨y, e1, e2⟩ := hitAt_some h
    by_cases z : x.1 = k
    · have i0 : i = 0 := hitAt_one nd' h (by rw [hitAt_of (x := x) rfl]; exact decide_eq_true z)
      subst i0
      have rest : xs.map (fun x => if x.1 = k then (x.1, x.2.1, v) else x) = xs := by
        refine (List.map_congr_left fun u hu => ?_).trans (List.map_id xs)
        rw [if_neg fun e => nd.1 (by rw [z, ← e]; exact List.mem_map.mpr ⟨u, hu, rfl⟩)]
        rfl
      rw [List.map_cons, List.map_cons, rest, if_pos z, List.map_cons]
      show q (g x) :: xs.map g = _
      rw [hq x z]
    · cases i with
      | zero =>
        cases (show x = y from by simpa using e1)
        exact absurd e2 z
      | succ i =>
        have h' : hitAt xs k i = true := by
          rw [hitAt_of (x := y) (by simpa using e1)]
          exact decide_eq_true e2
        rw [List.map_cons, List.map_cons, if_neg z, List.map_cons]
        show g x :: (xs.map g).modify i q = _
        rw [modify_map g q hq nd.2 h']
end
section
variable {prog : Program} {w : World} {A : Around} {E : Value → Shared → Prop} {s : Shared} {d : Addr} {xs : List RE} {k : NestedKey} {key v : Value}
theorem GAt.typeIs (m : GAt w s.heap d xs) : s.TypeIs (.ref d) "dict" := let ⟨_, _, o, _, _, h1, h2, _⟩ := m; ⟨o, h1, h2.1⟩
theorem GAt.lt {h : Heap} (m : GAt w h d xs) : d < h.objs.size := let ⟨_, _, _, _, _, h1, _⟩ := m; Heap.lt_size h1
theorem GAt.keep {h h' : Heap} (m : GAt w h d xs) (hd : ∀ o, h.get? d = some o → h'.get? d = some o) (hk : ∀ b o vs n, h.get? b = some o → o.data = .seq vs n → h'.get? b = some o) : GAt w h' d xs := by
  obtain ⟨a, b, o, es, ep, h1, h2⟩ := m
  exact ⟨fun x hx => ⟨NestedIs.at hk _ _ (a x hx).1, (a x hx).2⟩, b, o, es, ep, hd o h1, h2⟩
theorem gnew (h : Heap) : GAt w (h.push { cls := .type "dict", data := .dict #[] }) h.objs.size [] := ⟨(fun _ hx => by cases hx), List.nodup_nil, _, #[], 0, Heap.get?_push_size _ rfl, ⟨rfl, rfl, rfl⟩, rfl, rfl⟩
theorem same_seq {h h' : Heap} {o : Obj} {es : Array DictEntry} {ep : Nat} (ho : h.get? d = some o) (hd : o.data = .dict es ep) (sb : Heap.SameBut d h h') : ∀ b o vs n, h.get? b = some o → o.data = .seq vs n → h'.get? b = some o := fun b u vs n hb hs => by
  refine (sb.2 b fun e => ?_).trans hb
  rw [e, ho] at hb
  cases hb
  rw [hd] at hs
  cases hs
theorem gget {Q : Option Value → Shared → Prop} (hu : A.units + 8 < cLine) (hk : NestedIs s.heap k key) (hd : k.depth ≤ 8) (m : GAt w s.heap d xs) (h : Q (gval xs k) { s with toks := s.toks + k.draws }) : wpAny (model prog w) A (dictGet d key) Q E s := by
  obtain ⟨his, nd, o, es, ep, ho, hx, hdat, he⟩ := m
  unfold dictGet
  try with_reducible refine wpAny_holding ?_
  refine wpAny_bind (pyHash_key k key A s _ hk (by omega) (wpAny_bind (gfind (s := { s with toks := s.toks + k.draws }) hu hk hd ho hdat he his nd (fun hno => ?_) fun i hi => ?_)))
  · rw [(miss_val hno).1] at h
    exact wpAny_pure h
  · obtain ⟨x, e1, e2, _⟩ := hit_val nd hi
    rw [e2] at h
    refine wpAny_bind (wpAny_dictEntries (s := { s with toks := s.toks + k.draws }) ho hdat ?_)
    rw [re_at he i, e1]
    exact wpAny_pure h
theorem gput_at {h' : Heap} {o o' : Obj} {es es' : Array DictEntry} {ep ep' : Nat} (hk : NestedIs s.heap k key) (hd : k.depth ≤ 8) (his : ∀ x ∈ xs, NestedIs s.heap x.1 x.2.1 ∧ x.1.depth ≤ 8) (nd : (xs.map (·.1)).Nodup) (ho : s.heap.get? d = some o) (hdat : o.data = .dict es ep)
    (sb : Heap.SameBut d s.heap h') (ho' : h'.get? d = some o') (hx : o'.ExactDict) (hdat' : o'.data = .dict es' ep') (he : es'.toList = (gput xs k key v).map (reE w)) : GAt w h' d (gput xs k key v) := by
  have st := same_seq ho hdat sb
  have up : ∀ {k' : NestedKey} {u : Value}, NestedIs s.heap k' u → NestedIs h' k' u := fun z => NestedIs.at st _ _ z
  refine ⟨fun x hx' => ?_, ?_, o', es', ep', ho', hx, hdat', he⟩
  · unfold gput at hx'
    split at hx'
    · obtain ⟨y, hy, e⟩ := List.mem_map.mp hx'
      have z := his y hy
      rw [← e]
      split
      · exact ⟨up z.1, z.2⟩
      · exact ⟨up z.1, z.2⟩
    · rcases List.mem_append.mp hx' with hx' | hx'
      · have z := his x hx'
        exact ⟨up z.1, z.2⟩
      · rw [List.mem_singleton.mp hx']
        exact ⟨up hk, hd⟩
  · unfold gput
    split
    · rw [map_put_keys _ (fun x => by split <;> rfl)]
      exact nd
    · rename_i hn
      rw [List.map_append]
      refine List.nodup_append.mpr ⟨nd, by simp, fun a ha b hb e => ?_⟩
      simp only [List.map_cons, List.map_nil, List.mem_singleton] at hb
      obtain ⟨x, hx', e'⟩ := List.mem_map.mp ha
      exact hn (List.any_eq_true.mpr ⟨x, hx', decide_eq_true (by rw [e', e, hb])⟩)
theorem gset_entries {es : Array DictEntry} (nd : (xs.map (·.1)).Nodup) (he : es.toList = xs.map (reE w)) {i : Nat} (hi : hitAt xs k i = true) : (es.modify i fun e => { e with val := v }).toList = (gput xs k key v).map (reE w) := by
  obtain ⟨_, _, _, ha⟩ := hit_val nd hi
  unfold gput
  rw [if_pos ha, ← modify_map (reE w) (fun e : DictEntry => { e with val := v }) (fun x _ => rfl) nd hi, ← he]
  obtain ⟨l⟩ := es
  simp
theorem gpush_entries {es : Array DictEntry} (he : es.toList = xs.map (reE w)) (hno : ∀ i, hitAt xs k i = false) : (es.push ⟨k.hash w, key, v⟩).toList = (gput xs k key v).map (reE w) := by
  unfold gput
  rw [if_neg (by rw [(miss_val hno).2.1]; exact Bool.false_ne_true), List.map_append, ← he]
  simp [reE]
theorem gset {Q : Unit → Shared → Prop} (hu : A.units + 8 < cLine) (hk : NestedIs s.heap k key) (hd : k.depth ≤ 8) (m : GAt w s.heap d xs) (hz : xs.length ≤ sizeLine) (h : ∀ h', GAt w h' d (gput xs k key v) → Heap.SameBut d s.heap h' → Q () { s with heap := h', toks := s.toks + k.draws }) : wpAny (model prog w) A (dictSet d key v) Q E s := by
  obtain ⟨his, nd, o, es, ep, ho, hx, hdat, he⟩ := m
  unfold dictSet
  try with_reducible refine wpAny_holding ?_
  refine wpAny_bind (pyHash_key k key A s _ hk (by omega) ?_)
  unfold dictSetHashed
  try with_reducible refine wpAny_holding ?_
  refine wpAny_bind (gfind (s := { s with toks := s.toks + k.draws }) hu hk hd ho hdat he his nd (fun hno => ?_) fun i hi => ?_)
  · refine wpAny_bind (wpAny_rule (wpAny_updateDictKeys (hz := by have e := re_size he; omega) (s := { s with toks := s.toks + k.draws }) ho hdat ?_))
    have sb : Heap.SameBut d s.heap (s.heap.update d (Obj.mapDictKeys (·.push ⟨k.hash w, key, v⟩))) := Heap.SameBut.update ..
    exact h _ (gput_at hk hd his nd ho hdat sb (Heap.get?_update_self _ ho (Obj.isFreed_of_dict (Obj.data_mapDictKeys hdat _))) (hx.mapDictKeys _) (Obj.data_mapDictKeys hdat _) (gpush_entries he hno)) sb
  · refine wpAny_bind (wpAny_rule (wpAny_bind (wpAny_updateDict (s := { s with toks := s.toks + k.draws }) ho hdat (wpAny_point ?_))))
    have sb : Heap.SameBut d s.heap (s.heap.update d (Obj.mapDict (·.modify i fun e => { e with val := v }))) := Heap.SameBut.update ..
    exact h _ (gput_at hk hd his nd ho hdat sb (Heap.get?_update_self _ ho (Obj.isFreed_of_dict (Obj.data_mapDict hdat _))) (hx.mapDict _) (Obj.data_mapDict hdat _) (gset_entries nd he hi)) sb
theorem gcontains {Q : Bool → Shared → Prop} (hu : A.units + 9 < cLine) (hk : NestedIs s.heap k key) (hd : k.depth ≤ 8) (hs : (d == sysModules) = false) (m : GAt w s.heap d xs) (h : Q (gval xs k).isSome { s with toks := s.toks + k.draws }) : wpAny (model prog w) A (contains (.ref d) key) Q E s := by
  refine wpAny_contains_slot m.typeIs F.slot_dict_contains ?_
  refine call_meetsIn F.slot_dict_contains m.typeIs F.entry_dict_contains (F.args_dict_contains_2 _ _) (S := fun A' R s' => A' = A ∧ s' = s ∧ R (.ok (.ret (.bool (gval xs k).isSome))) { s with toks := s.toks + k.draws }) (fun A' R s' hS => ?_) ⟨rfl, rfl, wpAny_truthy_bool h⟩
  obtain ⟨rfl, rfl, hq⟩ := hS
  show wpAny _ _ (dictGet d key >>= _) _ _ _
  refine wpAny_bind (gget (by rw [Around.in1_units]; omega) hk hd m ?_)
  cases hf : gval xs k with
  | some p =>
    rw [hf] at hq
    show wpAny _ _ (ret (.bool true)) _ _ _
    exact wpAny_pure hq
  | none =>
    rw [hf] at hq
    show wpAny _ _ (Builtin.Dict.pendingKey? d key >>= _) _ _ _
    exact wpAny_bind (wpAny_pendingKey_other hs (wpAny_pure hq))
theorem gnin {Q : Value → Shared → Prop} (hu : A.units + 9 < cLine) (hk : NestedIs s.heap k key) (hd : k.depth ≤ 8) (hs : (d == sysModules) = false) (m : GAt w s.heap d xs) (h : Q (.bool (!(gval xs k).isSome)) { s with toks := s.toks + k.draws }) : wpAny (model prog w) A (compareOp .NotIn key (.ref d)) Q E s := by
  show wpAny _ _ (do return .bool (!(← contains (.ref d) key))) Q E s
  exact wpAny_bind (gcontains hu hk hd hs m (wpAny_pure h))
theorem ggetItem {Q : Value → Shared → Prop} (hu : A.units + 9 < cLine) (hk : NestedIs s.heap k key) (hd : k.depth ≤ 8) (m : GAt w s.heap d xs) (hv : gval xs k = some v) (h : Q v { s with toks := s.toks + k.draws }) : wpAny (model prog w) A (getItem (.ref d) key) Q E s := by
  unfold getItem
  try with_reducible refine wpAny_holding ?_
  refine wpAny_bind (wpAny_sequenceKey m.typeIs (by decide) (wpAny_bind (wpAny_callSpecial?_slot (name := Str.ofString "__getitem__") m.typeIs slot_dict_getitem (wpAny_call_entry slot_dict_getitem m.typeIs entry_dict_getitem ?_ (args_dict_getitem _ _)))))
  show wpAny _ _ (dictGet d key >>= _) _ _ s
  refine wpAny_bind (gget (by rw [Around.in1_units]; omega) hk hd m ?_)
  rw [hv]
  exact wpAny_pure ⟨v, rfl, wpAny_pure h⟩
theorem gsetItem {Q : Unit → Shared → Prop} (hu : A.units + 9 < cLine) (hk : NestedIs s.heap k key) (hd : k.depth ≤ 8) (m : GAt w s.heap d xs) (hz : xs.length ≤ sizeLine) (h : ∀ h', GAt w h' d (gput xs k key v) → Heap.SameBut d s.heap h' → Q () { s with heap := h', toks := s.toks + k.draws }) : wpAny (model prog w) A (setItem (.ref d) key v) Q E s := by
  unfold setItem
  try with_reducible refine wpAny_holding ?_
  refine wpAny_bind (wpAny_sequenceKey m.typeIs (by decide) (wpAny_bind (wpAny_callSpecial?_slot (name := Str.ofString "__setitem__") m.typeIs slot_dict_setitem (wpAny_call_entry slot_dict_setitem m.typeIs entry_dict_setitem ?_ (args_dict_setitem _ _ _)))))
  show wpAny _ _ (Builtin.Dict.notOrdered "__setitem__" ⟨[.ref d, key, v], []⟩ >>= _) _ _ s
  refine wpAny_bind (wpAny_notOrdered_dict m.typeIs ?_)
  show wpAny _ _ (dictSet d key v >>= _) _ _ s
  exact wpAny_bind (gset (by rw [Around.in1_units]; omega) hk hd m hz fun h' a b => wpAny_pure ⟨.none, rfl, wpAny_pure (h h' a b)⟩)
def gputs (xs ps : List RE) : List RE := ps.foldl (fun acc p => gput acc p.1 p.2.1 p.2.2) xs
theorem gput_len (xs : List RE) (k : NestedKey) (key v : Value) : (gput xs k key v).length ≤ xs.length + 1 := by
  unfold gput
  split <;> simp
variable {T : String} {arg : Addr} {fp wr : List Addr} {n : Nat} {Rl : Nat → Value → Value → Prop} {OK : Heap → Prop} {ps : List RE}
end
end Sk
set_option Elab.async false
set_option linter.all false
set_option maxRecDepth 100000
set_option maxHeartbeats 2000000
namespace Sk
open PySem PySem.Spec PyProof.Rows L2
open Evl (Ex)
def valG (xs : List GEnt) (k : NestedKey) : Option V := (xs.find? fun x => decide (x.1 = k)).map (·.2.2)
def putG (xs : List GEnt) (k : NestedKey) (y v : V) : List GEnt := if (xs.any fun x => decide (x.1 = k)) = true then xs.map (fun x => if x.1 = k then (x.1, x.2.1, v) else x) else xs ++ [(k, y, v)]
def KeysIn (K : PySem.W.Frag) (H : Hp) (xs : List GEnt) : Prop := ∀ x ∈ xs, ∃ d, Dp K H x.2.1 d ∧ KeyOk d ∧ x.1 = keyN d
abbrev GP : GEnt → RE → Prop := fun x r => x.1 = r.1 ∧ RelV x.2.1 r.2.1 ∧ RelV x.2.2 r.2.2
def RdG (w : World) (H : Hp) (a : Addr) (xs : List GEnt) : Prop := ∃ o, H a = some (GDo w a (o, xs))
section
variable {X : Cx} {pins : List (Addr × Obj)} {σ : L2.St} {H : Hp} {s : Shared} {a : Addr} {xs : List GEnt} {rs : List RE} {k : NestedKey} {y v : V} {u r : Value} {d : PyData}
mutual
theorem dp_nested (I : Inv X pins σ H s) : ∀ (d : PyData) {v : V} {u : Value}, imm d = true → Dp X.K H v d → RelV v u → NestedIs s.heap (keyN d) u
  | .none, _, _, _, h, r => by
    cases h
    cases r
    exact .none
  | .bool b, _, _, _, h, r => by
    cases h
    cases r
    exact .bool rfl
  | .int i, _, _, _, h, r => by
    cases h
    obtain ⟨t, rfl⟩ := r
    exact .int i t
  | .str x, _, _, _, h, r => by
    cases h
    obtain ⟨t, rfl⟩ := r
    exact .text x t
  | .list _, _, _, i, _, _ => by simp [imm] at i
  | .dict _, _, _, i, _, _ => by simp [imm] at i
  | .tuple ds, _, _, i, h, r => by
    cases h with
    | tup hs ha =>
      cases r
      obtain ⟨its, rv, ⟨o, h1, h2, n, h3⟩, _⟩ := I.tuple hs
      exact .tup h1 h2 h3 (by simpa using dp_nesteds I ds (by simpa [imm] using i) ha rv)
theorem dp_nesteds (I : Inv X pins σ H s) : ∀ (ds : List PyData) {vs : List V} {us : List Value}, immAll ds = true → DpAll X.K H vs ds → Vals vs us → NestedAll s.heap (keyNs ds) us
  | [], _, _, _, h, r => by
    cases h
    cases r
    exact .nil
  | d :: ds, _, _, i, h, r => by
    cases h with
    | cons h1 h2 =>
      cases r with
      | cons r1 r2 =>
        have i' : imm d = true ∧ immAll ds = true := by simpa [immAll] using i
        exact .cons (dp_nested I d i'.1 h1 r1) (dp_nesteds I ds i'.2 h2 r2)
end
theorem gp_keys : ∀ {xs : List GEnt} {rs : List RE}, Paired GP xs rs → rs.map (·.1) = xs.map (·.1)
  | _, _, .nil => rfl
  | _, _, .cons h t => by rw [List.map_cons, List.map_cons, gp_keys t, h.1]
theorem gp_any : ∀ {xs : List GEnt} {rs : List RE}, Paired GP xs rs → (xs.any fun x => decide (x.1 = k)) = (rs.any fun x => decide (x.1 = k))
  | _, _, .nil => rfl
  | _, _, .cons h t => by rw [List.any_cons, List.any_cons, gp_any t, h.1]
theorem gp_val : ∀ {xs : List GEnt} {rs : List RE}, Paired GP xs rs → RelO (valG xs k) (gval rs k)
  | _, _, .nil => trivial
  | _, _, .cons (a := x) (b := r) (l₁ := l) (l₂ := l') h t => by
    have ih := gp_val t
    unfold valG gval at ih ⊢
    by_cases e : x.1 = k
    · have e' : r.1 = k := h.1 ▸ e
      simp only [List.find?_cons, e, e', decide_true, Option.map_some]
      exact h.2.2
    · have e' : ¬ r.1 = k := h.1 ▸ e
      simp only [List.find?_cons, e, e', decide_false]
      exact ih
theorem gp_map (hv : RelV v r) : ∀ {xs : List GEnt} {rs : List RE}, Paired GP xs rs → Paired GP (xs.map fun x => if x.1 = k then (x.1, x.2.1, v) else x) (rs.map fun x => if x.1 = k then (x.1, x.2.1, r) else x)
  | _, _, .nil => .nil
  | _, _, .cons (a := x) (b := q) h t => by
    rw [List.map_cons, List.map_cons]
    refine .cons ?_ (gp_map hv t)
    by_cases e : x.1 = k
    · have e' : q.1 = k := h.1 ▸ e
      rw [if_pos e, if_pos e']
      exact ⟨h.1, h.2.1, hv⟩
    · have e' : ¬ q.1 = k := h.1 ▸ e
      rw [if_neg e, if_neg e']
      exact h
theorem gp_snoc {x : GEnt} {q : RE} (h : GP x q) : ∀ {xs : List GEnt} {rs : List RE}, Paired GP xs rs → Paired GP (xs ++ [x]) (rs ++ [q])
  | _, _, .nil => .cons h .nil
  | _, _, .cons h1 t => .cons h1 (gp_snoc h t)
theorem gp_put (hy : RelV y u) (hv : RelV v r) (h : Paired GP xs rs) : Paired GP (putG xs k y v) (gput rs k u r) := by
  unfold putG gput
  rw [gp_any h]
  split
  · exact gp_map hv h
  · exact gp_snoc ⟨rfl, hy, hv⟩ h
theorem putG_len : (putG xs k y v).length ≤ xs.length + 1 := by
  unfold putG
  split <;> simp
theorem gdo_at {h : Heap} {w : World} {o : Obj} (e : h.get? a = some o ∧ (a == sysModules) = false ∧ xs.length ≤ sizeLine ∧ (xs.map (·.1)).Nodup ∧ ∃ es ep, o.ExactDict ∧ o.data = .dict es ep ∧ Paired (fun (x : GEnt) (e : DictEntry) => e.hash = x.1.hash w ∧ RelV x.2.1 e.key ∧ RelV x.2.2 e.val) xs es.toList)
    (ki : ∀ x ∈ xs, ∀ u, RelV x.2.1 u → NestedIs h x.1 u ∧ x.1.depth ≤ 8) : ∃ rs, Paired GP xs rs ∧ GAt w h a rs ∧ (a == sysModules) = false ∧ xs.length ≤ sizeLine := by
  obtain ⟨ho, h1, h2, h3, es, ep, hx, hd, pr⟩ := e
  have key : ∀ (xs : List GEnt) (l : List DictEntry), Paired (fun (x : GEnt) (e : DictEntry) => e.hash = x.1.hash w ∧ RelV x.2.1 e.key ∧ RelV x.2.2 e.val) xs l → (∀ x ∈ xs, ∀ u, RelV x.2.1 u → NestedIs h x.1 u ∧ x.1.depth ≤ 8) →
      ∃ rs : List RE, Paired GP xs rs ∧ l = rs.map (reE w) ∧ ∀ x ∈ rs, NestedIs h x.1 x.2.1 ∧ x.1.depth ≤ 8 := by
    intro xs l pr
    induction pr with
    | nil => exact fun _ => ⟨[], .nil, rfl, fun _ z => by cases z⟩
    | @cons x e xs l h t ih =>
      intro ki
      obtain ⟨rs, a1, a2, a3⟩ := ih fun x hx => ki x (List.mem_cons_of_mem _ hx)
      obtain ⟨e1, e2, e3⟩ := h
      refine ⟨(x.1, e.key, e.val) :: rs, .cons ⟨rfl, e2, e3⟩ a1, ?_, fun z hz => ?_⟩
      · rw [List.map_cons, ← a2]
        congr 1
        obtain ⟨eh, ek, ev⟩ := e
        cases e1
        rfl
      · rcases List.mem_cons.mp hz with rfl | hz
        · exact ki x List.mem_cons_self _ e2
        · exact a3 z hz
  obtain ⟨rs, p1, p2, p3⟩ := key xs _ pr ki
  exact ⟨rs, p1, ⟨p3, by rw [gp_keys p1]; exact h3, o, es, ep, ho, hx, hd, p2⟩, h1, h2⟩
theorem keys_at (I : Inv X pins σ H s) (ki : KeysIn X.K H xs) : ∀ x ∈ xs, ∀ u, RelV x.2.1 u → NestedIs s.heap x.1 u ∧ x.1.depth ≤ 8 := fun x hx u r => by
  obtain ⟨d, h1, h2, h3⟩ := ki x hx
  rw [h3]
  exact ⟨dp_nested I d h2.1 h1 r, h2.2⟩
theorem gat_of (I : Inv X pins σ H s) (e : RdG X.w H a xs) (ki : KeysIn X.K H xs) : ∃ rs, Paired GP xs rs ∧ GAt X.w s.heap a rs ∧ (a == sysModules) = false ∧ xs.length ≤ sizeLine := by
  obtain ⟨o, e⟩ := e
  exact gdo_at (I.hok a _ e).1 (keys_at I ki)
theorem gd_new {P : Program} {w : World} {H' : Hp} {h' : Heap} (m : GAt w h' a rs) (p : Paired GP xs rs) (hs : (a == sysModules) = false) (hz : xs.length ≤ sizeLine) : ∃ o, ObjOk P w H' h' a (GDo w a (o, xs)) := by
  obtain ⟨_, nd, o, es, ep, ho, hx, hd, he⟩ := m
  have key : ∀ {xs : List GEnt} {rs : List RE}, Paired GP xs rs → Paired (fun (x : GEnt) (e : DictEntry) => e.hash = x.1.hash w ∧ RelV x.2.1 e.key ∧ RelV x.2.2 e.val) xs (rs.map (reE w)) := by
    intro xs rs p
    induction p with
    | nil => exact .nil
    | cons h t ih => exact .cons ⟨by rw [h.1]; rfl, h.2.1, h.2.2⟩ ih
  refine ⟨o, ⟨ho, hs, hz, by rw [← gp_keys p]; exact nd, es, ep, hx, hd, by rw [he]; exact key p⟩, ⟨o, ho⟩, fun h1 h2 z st => ?_⟩
  exact ⟨st _ z.1, z.2⟩
def GGet (K : PySem.W.Frag) (w : World) (H : Hp) (a : Addr) (y : V) (o : Option V) : Prop := ∃ xs d, RdG w H a xs ∧ KeysIn K H xs ∧ Dp K H y d ∧ KeyOk d ∧ o = valG xs (keyN d)
theorem g_typeIs {y : V} {o : Option V} (I : Inv X pins σ H s) (g : GGet X.K X.w H a y o) : s.TypeIs (.ref a) "dict" := by
  obtain ⟨xs, d, h1, h2, _⟩ := g
  obtain ⟨rs, _, m, _⟩ := gat_of I h1 h2
  exact m.typeIs
theorem g_write {rs' : List RE} {xs' : List GEnt} {h' : Heap} {tk : Nat} (I : Inv X pins σ H s) (e : RdG X.w H a xs) (m : GAt X.w h' a rs') (p : Paired GP xs' rs') (hs : (a == sysModules) = false) (hz : xs'.length ≤ sizeLine) (sb : Heap.SameBut a s.heap h') : ∃ o, Inv X pins σ (upd H a (GDo X.w a (o, xs'))) { s with heap := h', toks := tk } := by
  have mu : Mut (H a) := by
    obtain ⟨o, e⟩ := e
    rw [e]
    exact True.intro
  have ex : ∃ q, h'.get? a = some q := by
    obtain ⟨_, _, q, _, _, hq, _⟩ := id m
    exact ⟨q, hq⟩
  obtain ⟨o, ok⟩ := gd_new (P := X.prog) (H' := H) m p hs hz
  exact ⟨o, d_write I mu sb ex ok⟩
variable {A : Around} {E : Value → Shared → Prop}
theorem in9 {X : Cx} (hu : X.A.units + 64 < cLine) : X.A.units + 9 < cLine := by omega
theorem g_getItem {o : V} {Q : Value → Shared → Prop} (hu : A.units + 9 < cLine) (I : Inv X pins σ H s) (g : GGet X.K X.w H a y (some o)) (ry : RelV y u) (h : ∀ w' s', Inv X pins σ H s' → RelV o w' → Q w' s') : wpAny (model X.prog X.w) A (getItem (.ref a) u) Q E s := by
  obtain ⟨xs, d, h1, h2, h3, h4, h5⟩ := g
  obtain ⟨rs, p, m, _, _⟩ := gat_of I h1 h2
  have z := gp_val (k := keyN d) p
  rw [← h5] at z
  cases hv : gval rs (keyN d) with
  | none => rw [hv] at z; exact z.elim
  | some x =>
    rw [hv] at z
    exact ggetItem hu (dp_nested I d h4.1 h3 ry) h4.2 m hv (h _ _ (I.tok _) z)
theorem relO_some {o : Option V} {q : Option Value} (h : RelO o q) : o.isSome = q.isSome := by
  cases o <;> cases q <;> first | rfl | exact h.elim
theorem g_nin {o : Option V} {Q : Value → Shared → Prop} (hu : A.units + 9 < cLine) (I : Inv X pins σ H s) (g : GGet X.K X.w H a y o) (ry : RelV y u) (h : ∀ s', Inv X pins σ H s' → Q (.bool (!o.isSome)) s') : wpAny (model X.prog X.w) A (compareOp .NotIn u (.ref a)) Q E s := by
  obtain ⟨xs, d, h1, h2, h3, h4, h5⟩ := g
  obtain ⟨rs, p, m, hs, _⟩ := gat_of I h1 h2
  have z := relO_some (gp_val (k := keyN d) p)
  rw [← h5] at z
  exact gnin hu (dp_nested I d h4.1 h3 ry) h4.2 hs m (by rw [← z]; exact h _ (I.tok _))
theorem g_setItem {Q : Unit → Shared → Prop} (hu : A.units + 9 < cLine) (I : Inv X pins σ H s) (e : RdG X.w H a xs) (ki : KeysIn X.K H xs) (hd : Dp X.K H y d) (ok : KeyOk d) (hl : xs.length < sizeLine) (ry : RelV y u) (rv : RelV v r) (h : ∀ o s', Inv X pins σ (upd H a (GDo X.w a (o, putG xs (keyN d) y v))) s' → Q () s') : wpAny (model X.prog X.w) A (setItem (.ref a) u r) Q E s := by
  obtain ⟨rs, p, m, hs, hz⟩ := gat_of I e ki
  have hlr : rs.length = xs.length := (Paired.length p).symm
  refine gsetItem hu (dp_nested I d ok.1 hd ry) ok.2 m (by omega) fun h' m' sb => ?_
  obtain ⟨o, I'⟩ := g_write (tk := s.toks + (keyN d).draws) I e m' (gp_put ry rv p) hs (Nat.le_trans putG_len hl) sb
  exact h o _ I'
end
section
variable {X : Cx} {a b c o e i value : Expr} {td ty tv : TE} {pos pos' : Pos}
theorem pe_dnewG : PE X (.Dict [] [] pos) (fun _ H Q => ∀ p o, H p = none → Q (.ref p) (upd H p (GDo X.w p (o, [])))) := ⟨fun pins s σ H Q I h => by
  obtain ⟨o, ok⟩ := gd_new (P := X.prog) (H' := upd H s.heap.objs.size (GDo X.w s.heap.objs.size ({ cls := .type "dict", data := .dict #[] }, []))) (gnew (w := X.w) s.heap) .nil (beq_eq_false_iff_ne.mpr (Nat.ne_of_gt I.big)) (Nat.zero_le _)
  have I' := I.laid (a := s.heap.objs.size) (o := GDo X.w s.heap.objs.size (o, [])) (t' := s.toks) (h' := s.heap.push { cls := .type "dict", data := .dict #[] }) (fun _ _ q => Heap.get?_push_of_some _ q) (Nat.le_refl _) ok
  exact wpAny_Dict_empty ⟨.ref s.heap.objs.size, _, I', rfl, h _ o (I.hok.fresh (Nat.le_refl _))⟩⟩
def tGGet (K : PySem.W.Frag) (w : World) (td ty : TE) : TE := fun σ H Q => td σ H fun x H1 => ty σ H1 fun y H2 => ∃ a v, x = .ref a ∧ GGet K w H2 a y (some v) ∧ Q v H2
def tGIn (K : PySem.W.Frag) (w : World) (neg : Bool) (ty td : TE) : TE := fun σ H Q => ty σ H fun y H1 => td σ H1 fun x H2 => ∃ a o, x = .ref a ∧ GGet K w H2 a y o ∧ Q (.bl (if neg then !o.isSome else o.isSome)) H2
def sGPut (K : PySem.W.Frag) (w : World) (td ty tv : TE) : TS := fun D σ H => tv σ H fun v H1 => td σ H1 fun x H2 => ty σ H2 fun y H3 => ∃ a xs d, x = .ref a ∧ RdG w H3 a xs ∧ KeysIn K H3 xs ∧ Dp K H3 y d ∧ KeyOk d ∧ xs.length < sizeLine ∧ ∀ o, D.nx σ (upd H3 a (GDo w a (o, putG xs (keyN d) y v)))
theorem pe_gget (hu : X.A.units + 64 < cLine) (ho : PE X o td) (hi : PE X i ty) (hs : NoSl i) : PE X (.Subscript o i pos) (tGGet X.K X.w td ty) := by
  refine ⟨fun pins s σ H Q I h => ?_⟩
  refine subD_of PySem.F.slot_dict_getitem.lookup hs (thn (ho.run pins s σ H _ I h) fun u s1 ⟨x, H1, I1, rx, q1⟩ => thn (hi.run pins s1 σ H1 _ I1 q1) fun iv s2 ⟨y, H2, I2, ry, a, v, ex, g, q2⟩ => ?_)
  subst ex
  obtain rfl : u = Value.ref a := rx
  exact ⟨g_typeIs I2 g, g_getItem (in9 hu) I2 g ry fun w' s3 I3 rw' => ⟨v, H2, I3, rw', q2⟩⟩
theorem pc_gnin (hu : X.A.units + 64 < cLine) (hi : PE X i ty) (ho : PE X o td) : PC X .NotIn i o (tGIn X.K X.w true ty td) := by
  refine ⟨fun pins s σ H Q I h => ?_⟩
  refine thn (hi.run pins s σ H _ I h) fun iv s1 ⟨y, H1, I1, ry, q1⟩ => thn (ho.run pins s1 σ H1 _ I1 q1) fun u s2 ⟨x, H2, I2, rx, a, ov, ex, g, q2⟩ => ?_
  subst ex
  obtain rfl : u = Value.ref a := rx
  exact g_nin (in9 hu) I2 g ry fun s3 I3 => ⟨.bl (!ov.isSome), H2, I3, rfl, q2⟩
theorem ps_gput (hu : X.A.units + 64 < cLine) (ho : PE X o td) (hi : PE X i ty) (hv : PE X value tv) (hs : swapsWith value (some (.Subscript o i pos')) pos.line X.env = pure false) : PS X (.Assign [.Subscript o i pos'] value pos) (sGPut X.K X.w td ty tv) := by
  refine ⟨fun pins s σ H D I h => ?_⟩
  refine wpAny_Assign_Subscript (thn (hv.run pins s σ H _ I h) fun r s1 ⟨v, H1, I1, rv, q1⟩ => thn (ho.run pins s1 σ H1 _ I1 q1) fun u s2 ⟨x, H2, I2, rx, q2⟩ => thn (hi.run pins s2 σ H2 _ I2 q2) fun iv s3 ⟨y, H3, I3, ry, a, xs, d, ex, g1, g2, g3, g4, g5, q3⟩ => ?_) hs
  subst ex
  obtain rfl : u = Value.ref a := rx
  exact g_setItem (in9 hu) I3 g1 g2 g3 g4 g5 ry rv fun o s4 I4 => ⟨σ, _, I4, q3 o⟩
end
end Sk
set_option Elab.async false
set_option linter.all false
set_option maxRecDepth 100000
set_option maxHeartbeats 2000000
namespace Sk
open PySem PySem.Spec PyProof.Rows L2
open Evl (Ex)
def getG (kvs : List (PyData × PyData)) (d : PyData) : Option PyData := (kvs.find? fun kv => decide (keyN kv.1 = keyN d)).map (·.2)
def putDG (kvs : List (PyData × PyData)) (d x : PyData) : List (PyData × PyData) := if (kvs.any fun kv => decide (keyN kv.1 = keyN d)) = true then kvs.map (fun kv => if keyN kv.1 = keyN d then (kv.1, x) else kv) else kvs ++ [(d, x)]
def PV.dg : PV → Option (List (PyData × PyData))
  | .dcg kvs => some kvs
  | .dgf kvs => some kvs
  | _ => none
section
variable {K : PySem.W.Frag} {G H : Hp} {f : Fr} {xs : List GEnt} {kvs : List (PyData × PyData)} {y v : V} {d x : PyData} {p : PV}
abbrev GQ (K : PySem.W.Frag) (G : Hp) : GEnt → PyData × PyData → Prop := fun x kv => x.1 = keyN kv.1 ∧ KeyOk kv.1 ∧ Dp K G x.2.1 kv.1 ∧ Dp K G x.2.2 kv.2
theorem GRel.nil : GRel K G [] [] := ⟨rfl, (fun _ h => by cases h), .nil, .nil⟩
theorem GRel.pairs : ∀ {kvs : List (PyData × PyData)} {xs : List GEnt}, GRel K G xs kvs → Paired (GQ K G) xs kvs
  | [], xs, h => by
    have : xs = [] := by simpa using congrArg List.length h.ks
    subst this
    exact .nil
  | kv :: kvs, xs, h => by
    obtain ⟨h1, h2, h3, h4⟩ := h
    match xs, h1, h3, h4 with
    | x :: xs, h1, h3, h4 =>
      simp only [List.map_cons, List.cons.injEq] at h1
      cases h3 with
      | cons a1 a2 =>
        cases h4 with
        | cons b1 b2 => exact .cons ⟨h1.1, h2 kv List.mem_cons_self, a1, b1⟩ (GRel.pairs ⟨h1.2, fun z hz => h2 z (List.mem_cons_of_mem _ hz), a2, b2⟩)
theorem GRel.of : ∀ {xs : List GEnt} {kvs : List (PyData × PyData)}, Paired (GQ K G) xs kvs → GRel K G xs kvs
  | _, _, .nil => GRel.nil
  | _, _, .cons h t => by
    obtain ⟨h1, h2, h3, h4⟩ := GRel.of t
    refine ⟨by rw [List.map_cons, List.map_cons, h1, h.1], fun kv hk => ?_, .cons h.2.2.1 h3, .cons h.2.2.2 h4⟩
    rcases List.mem_cons.mp hk with rfl | hk
    · exact h.2.1
    · exact h2 kv hk
theorem GRel.keysIn (h : GRel K G xs kvs) : KeysIn K G xs := by
  have key : ∀ {xs : List GEnt} {kvs : List (PyData × PyData)}, Paired (GQ K G) xs kvs → KeysIn K G xs := by
    intro xs kvs p
    induction p with
    | nil => exact fun _ z => by cases z
    | cons h t ih =>
      intro z hz
      rcases List.mem_cons.mp hz with rfl | hz
      · exact ⟨_, h.2.2.1, h.2.1, h.1⟩
      · exact ih z hz
  exact key h.pairs
theorem gq_any : ∀ {xs : List GEnt} {kvs : List (PyData × PyData)}, Paired (GQ K G) xs kvs → (xs.any fun z => decide (z.1 = keyN d)) = (kvs.any fun kv => decide (keyN kv.1 = keyN d))
  | _, _, .nil => rfl
  | _, _, .cons h t => by rw [List.any_cons, List.any_cons, gq_any t, h.1]
theorem gq_get : ∀ {xs : List GEnt} {kvs : List (PyData × PyData)}, Paired (GQ K G) xs kvs → (valG xs (keyN d) = none ∧ getG kvs d = none) ∨ ∃ v x, valG xs (keyN d) = some v ∧ getG kvs d = some x ∧ Dp K G v x
  | _, _, .nil => .inl ⟨rfl, rfl⟩
  | _, _, .cons (a := z) (b := kv) h t => by
    have ih := gq_get t
    unfold valG getG at ih ⊢
    by_cases e : keyN kv.1 = keyN d
    · have e' : z.1 = keyN d := h.1.trans e
      simp only [List.find?_cons, e, e', decide_true, Option.map_some]
      exact .inr ⟨_, _, rfl, rfl, h.2.2.2⟩
    · have e' : ¬ z.1 = keyN d := fun q => e (h.1.symm.trans q)
      simp only [List.find?_cons, e, e', decide_false]
      exact ih
theorem gq_map (hx : Dp K G v x) : ∀ {xs : List GEnt} {kvs : List (PyData × PyData)}, Paired (GQ K G) xs kvs → Paired (GQ K G) (xs.map fun z => if z.1 = keyN d then (z.1, z.2.1, v) else z) (kvs.map fun kv => if keyN kv.1 = keyN d then (kv.1, x) else kv)
  | _, _, .nil => .nil
  | _, _, .cons (a := z) (b := kv) h t => by
    rw [List.map_cons, List.map_cons]
    refine .cons ?_ (gq_map hx t)
    by_cases e : keyN kv.1 = keyN d
    · rw [if_pos (h.1.trans e), if_pos e]
      exact ⟨h.1, h.2.1, h.2.2.1, hx⟩
    · rw [if_neg (fun q => e (h.1.symm.trans q)), if_neg e]
      exact h
theorem gq_snoc {z : GEnt} {kv : PyData × PyData} (h : GQ K G z kv) : ∀ {xs : List GEnt} {kvs : List (PyData × PyData)}, Paired (GQ K G) xs kvs → Paired (GQ K G) (xs ++ [z]) (kvs ++ [kv])
  | _, _, .nil => .cons h .nil
  | _, _, .cons h1 t => .cons h1 (gq_snoc h t)
theorem GRel.put (h : GRel K G xs kvs) (hd : Dp K G y d) (ok : KeyOk d) (hx : Dp K G v x) : GRel K G (putG xs (keyN d) y v) (putDG kvs d x) := by
  refine GRel.of ?_
  unfold putG putDG
  rw [gq_any h.pairs]
  split
  · exact gq_map hx h.pairs
  · exact gq_snoc ⟨rfl, ok, hd, hx⟩ h.pairs
theorem GRel.len (h : GRel K G xs kvs) : xs.length = kvs.length := by simpa using congrArg List.length h.ks
theorem VR.dg (h : VR K f G H p v) (g : Ex G H) (e : p.dg = some kvs) : ∃ a xs, v = .ref a ∧ RdG f.w H a xs ∧ GRel K G xs kvs := by
  cases p with
  | dcg k2 =>
    cases e
    obtain ⟨a, q, rfl, h1, _, _, _, h2⟩ := h
    exact ⟨a, q.2, rfl, ⟨q.1, h1⟩, h2⟩
  | dgf k2 =>
    cases e
    obtain ⟨a, q, rfl, h1, h2⟩ := h
    exact ⟨a, q.2, rfl, ⟨q.1, g _ _ h1⟩, h2⟩
  | _ => cases e
end
@[simp] def hDnewG : HE := fun s C => C (.dcg []) s
def dgetGW : List PV → (PV → Prop) → Prop := fun ps C => match ps with
  | [p, .dat d] => ∃ kvs x, p.dg = some kvs ∧ KeyOk d ∧ getG kvs d = some x ∧ C (.dat x)
  | _ => False
def dinGW (neg : Bool) : List PV → (PV → Prop) → Prop := fun ps C => match ps with
  | [.dat d, p] => ∃ kvs, p.dg = some kvs ∧ KeyOk d ∧ C (.dat (.bool (if neg then !(getG kvs d).isSome else (getG kvs d).isSome)))
  | _ => False
@[simp] def hDputG (j : Nat) (t ti : HE) : HS := fun D s => t s fun p s1 => ∃ x, p.frz = some x ∧ (∃ kvs, s1.sl[j]? = some (some (.dcg kvs))) ∧ ti s1 fun q s2 => ∃ d kvs, q = .dat d ∧ KeyOk d ∧ s2.sl[j]? = some (some (.dcg kvs)) ∧ kvs.length < 100000 ∧ D.nx (s2.put j (.dcg (putDG kvs d x)))
@[simp] def hGet3 (j : Nat) (ta : HA) : HE := fun s C => (∃ p kvs, s.sl[j]? = some (some p) ∧ p.dg = some kvs) ∧ ta s fun ps s1 => ∃ d x p kvs, ps = [.dat d, .dat x] ∧ s1.sl[j]? = some (some p) ∧ p.dg = some kvs ∧ KeyOk d ∧ C (.dat ((getG kvs d).getD x)) s1
@[simp] def hSetd (j : Nat) (ta : HA) : HE := fun s C => (∃ kvs, s.sl[j]? = some (some (.dcg kvs))) ∧ ta s fun ps s1 => ∃ d x kvs, ps = [.dat d, .dat x] ∧ s1.sl[j]? = some (some (.dcg kvs)) ∧ KeyOk d ∧ kvs.length < 100000 ∧ (∀ y, getG kvs d = some y → C (.dat y) s1) ∧ (getG kvs d = none → C (.dat x) (s1.put j (.dcg (putDG kvs d x))))
section
variable {X : Cx} {f : Fr} {a b c o e i value : Expr} {t ti : HE} {ta : HA} {oa ob : HA → HA} {pos pos' apos cpos : Pos}
theorem hp_dnewG (hw : f.w = X.w) : PE X (.Dict [] [] pos) (lf X.K f hDnewG) := pe_dnewG.mono fun σ H Q q => by
  obtain ⟨F, O, G, s, C, R, ht, k⟩ := q
  intro p o hp
  rw [← hw]
  exact k _ _ _ _ _ ht (Ex.refl G) (R.new hp) (R.ownG (xs := (o, [])) hp GRel.nil)
theorem g_of {K : PySem.W.Frag} {F : Fr} {O : Addr → Prop} {G H : Hp} {s : Sg} {σ : L2.St} {p : PV} {u v : V} {d : PyData} {kvs : List (PyData × PyData)} (R : Rel K (fo f F O) G s σ H) (V1 : VR K (fo f F O) G H p u) (e : p.dg = some kvs) (hd : Dp K G v d) (ok : KeyOk d) :
    ∃ a o, u = .ref a ∧ GGet K f.w H a v o ∧ ((o = none ∧ getG kvs d = none) ∨ ∃ w x, o = some w ∧ getG kvs d = some x ∧ Dp K G w x) := by
  obtain ⟨a, xs, rfl, h1, h2⟩ := V1.dg R.gh e
  exact ⟨a, _, rfl, ⟨xs, d, h1, (h2.ex R.gh).keysIn, Dp.ex R.gh _ hd, ok, rfl⟩, gq_get h2.pairs⟩
def rGGet (K : PySem.W.Frag) (w : World) : R2 := fun x y H Q => ∃ a v, x = .ref a ∧ GGet K w H a y (some v) ∧ Q v H
theorem op_dgetG (hw : f.w = X.w) : Op X.K f (op2 (rGGet X.K X.w)) dgetGW := fun F O G s σ H ps vs C Q R V w k => by
  unfold dgetGW at w
  split at w
  · rename_i p d
    obtain ⟨kvs, x, h1, h2, h3, h4⟩ := w
    cases V with
    | cons v1 V =>
      cases V with
      | cons v2 V =>
        cases V
        obtain ⟨a, o, rfl, g, hz⟩ := g_of R v1 h1 (show Dp X.K G _ d from v2) h2
        rcases hz with ⟨_, z⟩ | ⟨z, x', rfl, z2, z3⟩
        · rw [h3] at z
          cases z
        · rw [h3] at z2
          cases z2
          exact ⟨a, z, rfl, hw ▸ g, k _ _ _ _ h4 (Ex.refl G) R (vrf_dat z3)⟩
  · exact w.elim
theorem hp_dgetG (hw : f.w = X.w) (hu : X.A.units + 64 < cLine) (A : Opd X f a oa) (B : Opd X f b ob) (hs : NoSl b) : PE X (.Subscript a b pos) (lf X.K f (hC dgetGW (oa (ob hNil)))) := by
  obtain ⟨ta, tb, h1, h2, h3⟩ := A.two B (op_dgetG hw)
  exact (pe_gget hu h1 h2 hs).mono h3
def rGIn (K : PySem.W.Frag) (w : World) (neg : Bool) : R2 := fun y x H Q => ∃ a o, x = .ref a ∧ GGet K w H a y o ∧ Q (.bl (if neg then !o.isSome else o.isSome)) H
theorem op_dinG {neg : Bool} (hw : f.w = X.w) : Op X.K f (op2 (rGIn X.K X.w neg)) (dinGW neg) := fun F O G s σ H ps vs C Q R V w k => by
  unfold dinGW at w
  split at w
  · rename_i d p
    obtain ⟨kvs, h1, h2, h3⟩ := w
    cases V with
    | cons v1 V =>
      cases V with
      | cons v2 V =>
        cases V
        obtain ⟨a, o, rfl, g, hz⟩ := g_of R v2 h1 (show Dp X.K G _ d from v1) h2
        refine ⟨a, o, rfl, hw ▸ g, ?_⟩
        have e : o.isSome = (getG kvs d).isSome := by
          rcases hz with ⟨z1, z2⟩ | ⟨_, _, z1, z2, _⟩ <;> rw [z1, z2] <;> rfl
        rw [e]
        exact k _ _ _ _ h3 (Ex.refl G) R (vrf_dat (.bl _))
  · exact w.elim
theorem ht_dninG (hw : f.w = X.w) (hu : X.A.units + 64 < cLine) (A : Opd X f a oa) (B : Opd X f o ob) (h1 : behindInMarks .NotIn o = false := by first | exact nobehind _ (by decide) (by decide) | rfl) : PT X (.Compare a [.NotIn] [o] pos) (lfT X.K f (hB (hC (dinGW true) (oa (ob hNil))))) := by
  obtain ⟨ta, tb, q1, q2, q3⟩ := A.two B (op_dinG (neg := true) hw)
  exact (pt_cmp (pc_gnin hu q1 q2) h1).mono fun σ H Q q => q3 _ _ _ (lfT_B _ _ _ q)
theorem Rel.pokeG {K : PySem.W.Frag} {F : Fr} {O : Addr → Prop} {G H : Hp} {s : Sg} {σ : L2.St} {j : Nat} {kvs : List (PyData × PyData)} {u y v : V} {d x : PyData} (R : Rel K (fo f F O) G s σ H) (hj : s.sl[j]? = some (some (.dcg kvs))) (hv : σ[j]? = some (some u)) (hd : Dp K G y d) (ok : KeyOk d) (hx : Dp K G v x) :
    ∃ a xs, u = .ref a ∧ RdG f.w H a xs ∧ GRel K G xs kvs ∧ ∀ o, Rel K (fo f F O) G (s.put j (.dcg (putDG kvs d x))) σ (upd H a (GDo f.w a (o, putG xs (keyN d) y v))) := by
  obtain ⟨u', hv', V'⟩ := R.sl j _ hj
  rw [hv] at hv'
  cases hv'
  obtain ⟨b, q, eb, m1, m2, m3, m4, m5⟩ := V'
  exact ⟨b, q.2, eb, ⟨q.1, m1⟩, m5, fun o => R.poke hj rfl (by rw [hv, eb]) m1 m2 m3 m4 ⟨_, (o, _), rfl, upd_same, m2, m3, m4, m5.put hd ok hx⟩⟩
theorem hs_dputG {j : Nat} {st : Stmt} (hw : f.w = X.w) (h : PS X st (sGPut X.K X.w (tVar j) (lf X.K f ti) (lf X.K f t))) : PS X st (lfS X.K f (hDputG j t ti)) := h.mono fun D σ H q => by
  obtain ⟨F, O, G, s, D', R, ht, k⟩ := q
  refine ⟨F, O, G, s, _, R, ht, fun p s1 G1 H1 y c1 e1 R1 V1 => ?_⟩
  obtain ⟨x, hx, ⟨kv0, hj0⟩, c2⟩ := c1
  obtain ⟨G2, e2, R2, V2⟩ := R1.frz V1 hx
  obtain ⟨v, hv, _⟩ := R2.sl j _ hj0
  refine ⟨v, hv, F, O, G2, s1, _, R2, c2, fun q s3 G3 H3 z c3 e3 R3 V3 => ?_⟩
  obtain ⟨d, kvs, rfl, ok, hj1, hl, c4⟩ := c3
  have V3 : Dp X.K G3 z d := V3.1
  obtain ⟨a, xs, rfl, g1, g2, g3⟩ := R3.pokeG hj1 hv V3 ok (Dp.ex e3 _ V2)
  rw [hw] at g1
  refine ⟨a, xs, d, rfl, g1, (g2.ex R3.gh).keysIn, Dp.ex R3.gh _ V3, ok, by rw [g2.len]; exact Evl.sz_lt hl, fun o => ?_⟩
  have z := g3 o
  rw [hw] at z
  exact k.nx _ _ _ _ ((e1.trans e2).trans e3) z c4
def mergeDG (kvs more : List (PyData × PyData)) : List (PyData × PyData) := more.foldl (fun acc kv => putDG acc kv.1 kv.2) kvs
def mergeG (xs : List GEnt) (more : List GEnt) : List GEnt := more.foldl (fun acc z => putG acc z.1 z.2.1 z.2.2) xs
theorem putG_len' (xs : List GEnt) (k : NestedKey) (y v : V) : (putG xs k y v).length ≤ xs.length + 1 := putG_len
theorem mergeG_len : ∀ (more xs : List GEnt), (mergeG xs more).length ≤ xs.length + more.length
  | [], xs => Nat.le_refl _
  | z :: more, xs => by
    have a := mergeG_len more (putG xs z.1 z.2.1 z.2.2)
    have b := putG_len' xs z.1 z.2.1 z.2.2
    show (mergeG (putG xs z.1 z.2.1 z.2.2) more).length ≤ xs.length + (more.length + 1)
    omega
theorem gp_merge : ∀ {more : List GEnt} {ms : List RE}, Paired GP more ms → ∀ {xs : List GEnt} {rs : List RE}, Paired GP xs rs → Paired GP (mergeG xs more) (gputs rs ms)
  | _, _, .nil, _, _, h => h
  | _, _, .cons (a := z) (b := r) (l₁ := l) (l₂ := l') h1 t, xs, rs, h => by
    have e : r = (z.1, r.2.1, r.2.2) := by
      obtain ⟨r1, r2, r3⟩ := r
      cases h1.1
      rfl
    have p : Paired GP (putG xs z.1 z.2.1 z.2.2) (gput rs r.1 r.2.1 r.2.2) := by
      rw [← h1.1]
      exact gp_put h1.2.1 h1.2.2 h
    exact (show Paired GP (mergeG (putG xs z.1 z.2.1 z.2.2) l) (gputs (gput rs r.1 r.2.1 r.2.2) l') from gp_merge t p)
theorem GRel.merge {K : PySem.W.Frag} {G : Hp} : ∀ {ms : List GEnt} {more : List (PyData × PyData)}, Paired (GQ K G) ms more → ∀ {xs : List GEnt} {kvs : List (PyData × PyData)}, GRel K G xs kvs → GRel K G (mergeG xs ms) (mergeDG kvs more)
  | _, _, .nil, _, _, h => h
  | _, _, .cons (a := z) (b := kv) (l₁ := l) (l₂ := l') h1 t, xs, kvs, h => by
    have p : GRel K G (putG xs z.1 z.2.1 z.2.2) (putDG kvs kv.1 kv.2) := by
      rw [h1.1]
      exact h.put h1.2.2.1 h1.2.1 h1.2.2.2
    exact (show GRel K G (mergeG (putG xs z.1 z.2.1 z.2.2) l) (mergeDG (putDG kvs kv.1 kv.2) l') from GRel.merge t p)
end
end Sk
set_option Elab.async false
set_option linter.all false
set_option maxRecDepth 100000
set_option maxHeartbeats 2000000
namespace Sk
open PySem PySem.Spec PyProof.Rows L2
open Evl (Ex)
theorem gdo_raw {X : Cx} {pins : List (Addr × Obj)} {σ : L2.St} {H : Hp} {s : Shared} {d : Addr} {q : GOb} (I : Inv X pins σ H s) (e : H d = some (GDo X.w d q)) {es : Array DictEntry} {ep : Nat} (hq : q.1.data = .dict es ep) :
    s.heap.DictRaw d es ep ∧ es.size = q.2.length ∧ (d == sysModules) = false ∧ ∀ i (hi : i < es.size), ∃ z, q.2[i]? = some z ∧ RelV z.2.1 es[i].key ∧ RelV z.2.2 es[i].val := by
  obtain ⟨ho, hs, _, _, es', ep', hx, hd, pr⟩ := (I.hok d _ e).1
  rw [hq] at hd
  cases hd
  have hl : q.2.length = es.size := by simpa using Paired.length pr
  refine ⟨⟨_, ho, hx, hq⟩, hl.symm, hs, fun i hi => ?_⟩
  have key : ∀ {xs : List GEnt} {l : List DictEntry}, Paired (fun (x : GEnt) (e : DictEntry) => e.hash = x.1.hash X.w ∧ RelV x.2.1 e.key ∧ RelV x.2.2 e.val) xs l → ∀ (i : Nat) (hi : i < l.length), ∃ z, xs[i]? = some z ∧ RelV z.2.1 l[i].key ∧ RelV z.2.2 l[i].val := by
    intro xs l p
    induction p with
    | nil => exact fun i hi => absurd hi (Nat.not_lt_zero _)
    | cons h t ih =>
      intro i hi
      cases i with
      | zero => exact ⟨_, rfl, h.2⟩
      | succ i => exact ih i (Nat.lt_of_succ_lt_succ hi)
  have z := key pr i (by simpa using hi)
  simpa using z
@[simp] def hVG (j : Nat) : HE := fun s C => ∃ p kvs, s.sl[j]? = some (some p) ∧ p.dg = some kvs ∧ C (.dgf kvs) (s.put j (.dgf kvs))
@[simp] def hiG (t : HE) : HI := fun s C => t s fun p s1 => ∃ kvs, p.dg = some kvs ∧ C (kvs.map (·.1)) s1
section
variable {X : Cx} {f : Fr} {a e : Expr} {t : HE}
end
end Sk
set_option Elab.async false
set_option linter.all false
set_option maxRecDepth 100000
set_option maxHeartbeats 2000000
namespace Sk
open PySem PySem.Spec PyProof.Rows L2
open Evl (Ex)
@[simp] def hFz (t : HE) : HE := fun s C => t s fun p s1 => ∃ kvs, p.dg = some kvs ∧ C (.dgf kvs) s1
@[simp] def hEF (t : HE) (r : HA) : HA := fun s C => t s fun p s1 => ∃ kvs, p.dg = some kvs ∧ r s1 fun ps s2 => C (.dgf kvs :: ps) s2
section
variable {X : Cx} {f : Fr} {e : Expr} {es : List Expr} {t : HE} {ta : HA}
end
end Sk
set_option Elab.async false
set_option linter.all false
set_option maxRecDepth 100000
set_option maxHeartbeats 2000000
namespace Sk
open PySem PySem.Spec PyProof.Rows L2
open Evl (Ex)
section
variable {X : Cx} {f : Fr}
end
section
variable {X : Cx} {f : Fr} {a : Expr} {oa : HA → HA} {p q pos : Pos}
end
@[simp] def hOff (i : Nat) (D : HD) : HD := ⟨fun s => D.nx (s.off i), D.rt, fun s => D.bk (s.off i), fun s => D.ct (s.off i)⟩
@[simp] def hTry (y : Str) (i : Nat) (tb : HX → HS) (ts : HS) (Zo : HX) : HS := fun D s => tb (fun x s1 => x ∈ exNames ∧ i < s1.sl.length ∧ ((exSub x y = true ∧ ts (hOff i D) (s1.put i (excPV x))) ∨ (exSub x y = false ∧ Zo x s1))) D s
section
variable {K : PySem.W.Frag} {f : Fr} {G H : Hp} {s : Sg} {σ : L2.St} {i : Nat}
end
section
variable {X : Cx} {T : Tbs} {eo : Option Ent} {y n : Str} {i : Nat} {body suite : List Stmt} {b₀ : Stmt} {np pos pos' : Pos} {tb : HX → HS} {ts : HS} {Wout : WX} {Zo : HX} {CY : Addr}
end
end Sk
set_option Elab.async false
set_option linter.all false
set_option maxRecDepth 100000
set_option maxHeartbeats 2000000
namespace Sk
open PySem PySem.Spec PyProof.Rows L2
open Evl (Ex)
def EC (K : PySem.W.Frag) (mg : Str → Option Value) (y : Str) : Prop := ∃ C, ClsN K y C ∧ mg y = some (.ref C)
section
variable {X : Cx} {T : Tbs} {eo : Option Ent} {en : Ent} {W : WX} {Z : HX} {x y n : Str} {i j : Nat} {body suite : List Stmt} {b₀ : Stmt} {p q p2 np pos pos' : Pos} {tb : HX → HS} {ts : HS} {Wout : WX} {Zo : HX}
theorem hs_raiseT {m : Str} (TT : ExT X.K) (e : EC X.K X.mg x) (hx : x ∈ exNames) (tk : Takes X W) (lk : Lk X.K W X.w T en Z) (hc : X.calm = true) (hg : Gl X x) (hdb : (x == ("__debug__" : Str)) = false := by decide) :
    PS X (.Raise (some (.Call (.Name x p) [.Constant (.str m) j p2] [] pos')) none pos) (lfS X.K (f1 X.w T (some en)) (hRaise x Z)) := by
  obtain ⟨C, c1, c2⟩ := e
  have f := TT.one hx c1
  exact hs_raise tk lk hc c1 (pmk_own PySem.F.excBase_ValueError f.x c2 f.k (raises_own f.e.hs f.t) hg hdb)
end
theorem HasX.has {P : Program} {w : World} {T : Tbs} {K : PySem.W.Frag} {mg : Str → Option Value} {base : Heap} {k : Nat} {x : Str} {n : Nat} {sp : HSpX} (h : HasX P w T K mg base k x n sp) : Has P w T K mg base k x n (fun ps m C => sp ps m C fun _ _ => False) := by
  obtain ⟨fa, fd, ps, hl, G, hm, hk, hb⟩ := h.ex
  refine ⟨fa, fd, ps, hl, ⟨fun vs H Q E q => ?_, fun {A outer s H args us vs Q E} hgd hr e0 bb r q => ?_⟩, hm, hk, hb⟩
  · have := vals_len _ _ _ _ q
    rw [this, hl]
  · obtain ⟨f, G1, n1, ps1, C, x1, x2, x3, x4, x5, R, x6, x7, x8, x9⟩ := q
    have q2 : SpHX K w T n sp vs H Q (fun _ _ _ => False) := ⟨f, G1, n1, ps1, C, fun _ _ => False, x1, x2, x3, x4, x5, R, x6, x7, x8, x9, fun _ _ _ _ _ z => z.elim⟩
    refine codeAny_mono (G.go hgd hr e0 bb r q2) fun res s1 w1 => ?_
    match res, w1 with
    | .ok (.ret u), w1 => exact w1
    | .error e, w1 =>
      obtain ⟨_, _, _, _, _, _, _, _, _, _, _, _, z⟩ := w1
      exact z.elim
end Sk
set_option Elab.async false
set_option linter.all false
set_option maxRecDepth 100000
set_option maxHeartbeats 2000000
namespace Sk
open PySem PySem.Spec PyProof.Rows L2
open NdefX (NF CellsAt NScope ncx envF startF)
open Evl (Ex)
def PinO (a : Addr) (o : Obj) : HO := .ext fun h => h.get? a = some o
theorem pinO_at {P : Program} {w : World} {H : Hp} {h : Heap} {a : Addr} {o : Obj} (hok : HOk P w H h) (e : H a = some (PinO a o)) : h.get? a = some o := (hok a _ e).1
structure Lam where
  fa : Addr
  c : Addr
  q : Str
  params : Arguments
  body : Expr
  scope : Scope
  cl : List (Str × Addr)
  pm : Value
  ctv : Value
  cvs : List V
  cds : List PyData
abbrev Lam.obj (L : Lam) : Obj := PySem.W.kla_obj "<lambda>" L.q L.params L.body L.scope L.cl L.pm L.c L.ctv
abbrev Lam.nf (L : Lam) : NF := ⟨"<lambda>", L.q, L.params, [], L.scope, L.cl, L.c⟩
def lamR (L : Lam) : PySem.W.Frag → Hp → V → Prop := fun K G v => v = .ref L.fa ∧ G L.fa = some (PinO L.fa L.obj) ∧ G L.c = some (LamX.CodeO L.c L.q) ∧ DpAll K G L.cvs L.cds
section
variable {P : Program} {w : World} {K : PySem.W.Frag} {mg : Str → Option Value} {base : Heap} {CX : CXT} {k : Nat} {N ps fr : List Str} {L : Lam}
theorem lam_run {A : Around} {outer : List Env} {s : Shared} {H : Hp} {us : List Value} {vs : List V} {ws : List (Option V)} {Q : VK} {E : XK} {tb : TE} (S : NScope N ps fr L.scope) (hr : Room (k + 1) A) (e0 : Env0 P w K mg base A outer s H) (hf : H L.fa = some (PinO L.fa L.obj)) (hc : H L.c = some (LamX.CodeO L.c L.q))
    (C : CellsAt L.cl fr ws s.heap H) (r : Vals vs us) (hl : vs.length = ps.length) (hb : bindArgs (PySem.W.kla_fn "<lambda>" L.q L.params L.body L.scope L.cl L.pm (.ref L.c) L.ctv) ⟨us, []⟩ = pure (ps.zip us))
    (body : PE (ncx CX P w K mg base N L.nf L.fa A outer s H E) L.body tb) (ht : tb (startF N vs ws) H Q) : codeAny (model P w) A (.call (.ref L.fa) ⟨us, []⟩) (CR CX outer P w H s Q E) s := by
  have lim : s.heap.NoLimit := e0.mod.nolimit.keeps fun b o e => (e0.bs b o e).1
  have ho := pinO_at e0.hok hf
  refine PySem.W.kla_callFunE hr.depth ho rfl S.co S.gen rfl (NdefX.codeO_at e0.hok hc) ?_
  rw [hb]
  refine wpAny_pure (wpAny_newFunctionEnv S.nocell (fun y hy => S.par y.1 (List.of_mem_zip (show (y.1, y.2) ∈ ps.zip us from hy)).1) (fun h₁ hns hsb => ⟨lim.fresh _ hsb, ?_⟩) S.kind)
  have kp : ∀ b o, s.heap.get? b = some o → h₁.get? b = some o := fun b o e => hsb.extBut b o (Nat.ne_of_lt (Heap.lt_size e)) (Heap.get?_push_of_some _ e)
  have I : Inv (ncx CX P w K mg base N L.nf L.fa A outer s H E) [] (startF N vs ws) H { s with heap := h₁, toks := s.toks + (ps.zip us).length } := NdefX.inv_startN S hr.hd e0 hl r C hns kp
  refine PySem.W.kla_codeExpr (wpAny_mono (body.run [] _ (startF N vs ws) H Q I ht) (fun u s1 z => ?_) fun e s1 z => z)
  obtain ⟨v, H1, J, rv, q⟩ := z
  exact ⟨v, H1, J.os, J.bare, J.base, J.hok, rv, q⟩
end
theorem Rel.withData {K : PySem.W.Frag} {f : Fr} {G H : Hp} {ps : List PV} {n : Nat} {vs cvs : List V} {cds : List PyData} (R : Rel K f G ⟨ps.map some, n⟩ (vs.map some) H) (hm : ∀ p ∈ ps, p.mut = false) (h : DpAll K G cvs cds) (m : Nat) :
    Rel K f G ⟨(ps ++ cds.map PV.dat).map some ++ List.replicate m none, n⟩ (vs.map some ++ (cvs.map some ++ List.replicate m none)) H := by
  have lv : vs.length = ps.length := by simpa using R.ln
  have lc : cvs.length = cds.length := h.len
  have sl : ∀ (i : Nat) (p : PV), ((ps ++ cds.map PV.dat).map some ++ List.replicate m none)[i]? = some (some p) → p.mut = false ∧ ∃ v : V, (vs.map some ++ (cvs.map some ++ List.replicate m none))[i]? = some (some v) ∧ VR K f G H p v := fun i p hi => by
    have h1 := start_at _ _ _ _ hi
    rw [List.getElem?_map] at h1
    obtain ⟨p0, h2, e⟩ := Option.map_eq_some_iff.mp h1
    cases e
    by_cases q : i < ps.length
    · rw [List.getElem?_append_left q] at h2
      obtain ⟨v, h3, h4⟩ := R.sl i p (by show (ps.map some)[i]? = _; rw [List.getElem?_map, h2]; rfl)
      exact ⟨hm p (List.mem_of_getElem? h2), v, by rw [List.getElem?_append_left (by simp; omega)]; exact h3, h4⟩
    · rw [List.getElem?_append_right (by omega), List.getElem?_map] at h2
      obtain ⟨d, h5, e⟩ := Option.map_eq_some_iff.mp h2
      cases e
      obtain ⟨v, h6, h7⟩ := DpAll.at h h5
      refine ⟨rfl, v, ?_, h7⟩
      rw [List.getElem?_append_right (by simp; omega), List.length_map, lv, List.getElem?_append_left (by rw [List.length_map]; exact (List.getElem?_eq_some_iff.mp h6).1), List.getElem?_map, h6]
      rfl
  exact { R with
    ln := by simp [lv, lc]
    sl := fun i p hi => (sl i p hi).2
    ds := fun i j p q v ne hi hj mp => by rw [(sl i p hi).1] at mp; cases mp }
def Lko (K : PySem.W.Frag) (W : WX) (w : World) (T : Tbs) (eo : Option Ent) (Z : HX) : Prop := ∀ (x : Str) (a : Addr) (s : Sg) (σ : L2.St) (G H : Hp) (F : Fr) (O : Addr → Prop), ClsN K x a → Rel K (fo (f1 w T eo) F O) G s σ H → Z x s → W (.ref a) none σ H
@[simp] def hCallV (i : Nat) (R : PySem.W.Frag → Hp → V → Prop) (np : Nat) (spc : HSpX) (Z : HX) (ta : HA) : HE := fun s C => s.sl[i]? = some (some (.abs R)) ∧ ta s fun ps s' => ps.length = np ∧ (∀ p ∈ ps, p.isD = false) ∧ spc (ps.map PV.arg) s'.n (fun p n' => (ps.any PV.mut = true → p.imm = true) ∧ C p ⟨s'.sl, n'⟩) (fun x n' => Z x ⟨s'.sl, n'⟩)
structure CloRule (X : Cx) (a : Str) (i : Nat) (T : Tbs) (R : PySem.W.Frag → Hp → V → Prop) (np : Nat) (spc : HSpX) : Prop where
  c1 : ∀ {pn : List (Addr × Obj)} {xe : Value → Shared → Prop} {W : WX} {eo : Option Ent} {Z : HX} {e : Expr} {es : List Expr} {ta : HA} {p pos : Pos}, Takes (X.tr pn xe) W → Lko X.K W X.w T eo Z → PA (X.tr pn xe) (e :: es) (lfA X.K (f1 X.w T eo) ta) →
    starEach (e :: es) X.env = (false, eval e X.env) :: starEach es X.env → (backTo pos (starEach es X.env)).any (·.1) = false → PE (X.tr pn xe) (.Call (.Name a p) (e :: es) [] pos) (lf X.K (f1 X.w T eo) (hCallV i R np spc Z ta))
  c0 : ∀ {pn : List (Addr × Obj)} {xe : Value → Shared → Prop} {W : WX} {eo : Option Ent} {Z : HX} {p pos : Pos}, Takes (X.tr pn xe) W → Lko X.K W X.w T eo Z → PE (X.tr pn xe) (.Call (.Name a p) [] [] pos) (lf X.K (f1 X.w T eo) (hCallV i R np spc Z hNil))
def spLam (m : Nat) (hb : HX → HE) (cds : List PyData) : HSpX := fun ps n C Z => hb (fun x s => Z x s.n) ⟨(ps ++ cds.map PV.dat).map some ++ List.replicate m none, n⟩ fun p s => C p s.n
section
variable {X : Cx} {T : Tbs} {L : Lam} {N ps fr : List Str} {k : Nat} {hb : HX → HE}
theorem lam_call {pn : List (Addr × Obj)} {xe : Value → Shared → Prop} {W : WX} {eo : Option Ent} {Z : HX} (hgd : X.A.guards = some []) (hr : Room (k + 1) X.A) (S : NScope N ps fr L.scope) (hbind : ∀ us : List Value, us.length = ps.length → bindArgs (PySem.W.kla_fn "<lambda>" L.q L.params L.body L.scope L.cl L.pm (.ref L.c) L.ctv) ⟨us, []⟩ = pure (ps.zip us))
    (C0 : CellsAt L.cl fr (L.cvs.map some) X.s_0.heap X.H_0) (nf : ∀ y c, L.cl.lookup y = some c → c ∉ X.fs) (nx : ∀ y c, L.cl.lookup y = some c → c ∉ X.ex)
    (body : ∀ (A : Around) (outer : List Env) (s : Shared) (H : Hp) (E : XK) (en : Ent) (Z : HX), (A.deeper (envF L.nf L.fa s.heap.objs.size)).guards = some [] → Room k (A.deeper (envF L.nf L.fa s.heap.objs.size)) → Takes (ncx (L2.CX X.prog X.w) X.prog X.w X.K X.mg X.base N L.nf L.fa A outer s H E) (fun cls d _ H => E cls d H) → Lk X.K (fun cls d _ H => E cls d H) X.w T en Z → PE (ncx (L2.CX X.prog X.w) X.prog X.w X.K X.mg X.base N L.nf L.fa A outer s H E) L.body (lf X.K (f1 X.w T (some en)) (hb Z)))
    (tk : Takes (X.tr pn xe) W) (lk : Lko X.K W X.w T eo Z) {pins : List (Addr × Obj)} {s : Shared} {σ : L2.St} {H : Hp} {us : List Value} {vs : List V} {pvs : List PV} {G : Hp} {sg : Sg} {F : Fr} {O : Addr → Prop} {Q : VK} {C : PV → Sg → Prop} (I : Inv (X.tr pn xe) pins σ H s) (r : Vals vs us)
    (R : Rel X.K (fo (f1 X.w T eo) F O) G sg σ H) (V1 : VRs X.K (fo (f1 X.w T eo) F O) G H pvs vs) (hL : lamR L X.K G (.ref L.fa)) (hk : pvs.length = ps.length) (hD : ∀ p ∈ pvs, p.isD = false)
    (hsp : spLam (N.length - ps.length - fr.length) hb L.cds (pvs.map PV.arg) sg.n (fun p n' => (pvs.any PV.mut = true → p.imm = true) ∧ C p ⟨sg.sl, n'⟩) (fun x n' => Z x ⟨sg.sl, n'⟩))
    (kk : ∀ p s' G' H' v, C p s' → Ex G G' → Rel X.K (fo (f1 X.w T eo) F O) G' s' σ H' → VRf X.K (fo (f1 X.w T eo) F O) G' H' s' σ p v → Q v H') :
    wpAny (model X.prog X.w) X.A (call (.ref L.fa) us) (EP (X.tr pn xe) pins σ Q) xe s := by
  obtain ⟨_, h1, h2, h3⟩ := hL
  have C2 : CellsAt L.cl fr (L.cvs.map some) s.heap H := NdefX.CellsAt.later (X := X.tr pn xe) C0 nf nx I
  obtain ⟨⟨on, m, l, c, fF, fO, fM, fr', fw, fT, fe⟩, Gc, x1, x2, x3, x4, x5, R', x6, x7, x8, back⟩ := spH_core (k := ps.length) R V1 hk hD
  have x1 : fw = X.w := x1
  have x2 : fT = T := x2
  have x3 : fe = none := x3
  subst x1 x2 x3
  let f' : Fr := ⟨on, m, l, c, fF, fO, fM, fr', X.w, fT, none⟩
  have hl : vs.length = ps.length := by
    have := Paired.length V1
    omega
  have hu : us.length = ps.length := by rw [← r.length]; exact hl
  have lc : L.cvs.length = fr.length := by
    have := C2.len
    simpa using this
  let en : Ent := entOf f' Gc
  have RL := R'.withData x6 (Dp.exAll x8 _ h3) (N.length - ps.length - fr.length)
  have RE := RL.re (some en) fun en2 q => by cases q; exact { (entOf_ok RL) with }
  have lkL : Lk X.K (fun cls d _ H => W cls d σ H) X.w fT en (fun x s1 => Z x ⟨sg.sl, s1.n⟩) := fun x a s1 σ1 G1 H1 F1 O1 hc R1 z => by
    obtain ⟨R2, e2⟩ := R1.ent
    obtain ⟨G2, e3, R3, _⟩ := back (.dat .none) s1.n G1 H1 .non (fun _ => rfl) e2 R2 .non
    exact lk x a _ σ G2 H1 F O hc R3 z
  have hgd2 : (X.A.deeper (envF L.nf L.fa s.heap.objs.size)).guards = some [] := guards_deeper X.A _ hgd
  have run := lam_run (CX := L2.CX X.prog X.w) (E := WE W σ) (Q := Q) (us := us) (vs := vs) S hr I.env0 (R.gh _ _ h1) (R.gh _ _ h2) C2 r hl (hbind us hu)
    (body X.A X.stack s H (WE W σ) en _ hgd2 (hr.deeper _) (takes_of rfl rfl rfl rfl) lkL)
  refine wpAny_call (codeAny_mono (run ?_) fun res s' hq => ?_)
  · refine ⟨f', f'.O, Gc, _, _, ?_, hsp, fun p s' G' H' v c e R2 V2 => ?_⟩
    · have es : startF N vs (L.cvs.map some) = vs.map some ++ (L.cvs.map some ++ List.replicate (N.length - ps.length - fr.length) none) := by
        unfold startF
        rw [hl, List.length_map, lc]
      rw [es]
      exact RE
    · have R3 : Rel X.K (en.fr X.w fT) G' ⟨[], s'.n⟩ [] H' := R2.ent.1
      obtain ⟨G2, e3, R4, V4⟩ := back p s'.n G' H' v c.1 e R3 (by cases p <;> exact V2.1)
      exact kk p _ G2 H' v c.2 e3 R4 V4
  · match res, hq with
    | .error e, hq => exact passAt tk σ pins H s e s' I hq
    | .ok (.ret u), hq => exact I.after hq
theorem fnAt_lam {σ : L2.St} {H : Hp} {pins : List (Addr × Obj)} {s : Shared} {Y : Cx} (I : Inv Y pins σ H s) (h : H L.fa = some (PinO L.fa L.obj)) : PySem.W.FnAt L.fa s.heap := ⟨_, _, _, _, pinO_at I.hok h⟩
theorem clo_rule {a : Str} {i : Nat} (hN : X.N[i]? = some a) (hv : Vis X.env.scope a) (hgd : X.A.guards = some []) (hr : Room (k + 1) X.A) (S : NScope N ps fr L.scope) (hbind : ∀ us : List Value, us.length = ps.length → bindArgs (PySem.W.kla_fn "<lambda>" L.q L.params L.body L.scope L.cl L.pm (.ref L.c) L.ctv) ⟨us, []⟩ = pure (ps.zip us))
    (C0 : CellsAt L.cl fr (L.cvs.map some) X.s_0.heap X.H_0) (nf : ∀ y c, L.cl.lookup y = some c → c ∉ X.fs) (nx : ∀ y c, L.cl.lookup y = some c → c ∉ X.ex)
    (body : ∀ (A : Around) (outer : List Env) (s : Shared) (H : Hp) (E : XK) (en : Ent) (Z : HX), (A.deeper (envF L.nf L.fa s.heap.objs.size)).guards = some [] → Room k (A.deeper (envF L.nf L.fa s.heap.objs.size)) → Takes (ncx (L2.CX X.prog X.w) X.prog X.w X.K X.mg X.base N L.nf L.fa A outer s H E) (fun cls d _ H => E cls d H) → Lk X.K (fun cls d _ H => E cls d H) X.w T en Z → PE (ncx (L2.CX X.prog X.w) X.prog X.w X.K X.mg X.base N L.nf L.fa A outer s H E) L.body (lf X.K (f1 X.w T (some en)) (hb Z)))
    (hd : (a == ("__debug__" : Str)) = false := by decide) (hcd : (a == ("__classdict__" : Str)) = false := by decide) : CloRule X a i T (lamR L) ps.length (spLam (N.length - ps.length - fr.length) hb L.cds) where
  c1 := fun {pn xe W eo Z e es ta p pos} tk lk ha he hpl => ⟨fun pins s σ H Q I q => by
    obtain ⟨F, O, G, sg, C, R, ⟨hi, hta⟩, kk⟩ := q
    obtain ⟨v0, hσ, V0⟩ := R.sl i _ hi
    have e0 : v0 = .ref L.fa := (V0 G (Ex.refl G)).1
    subst e0
    have nm := (pe_var (X := X.tr pn xe) (pos := p) (i := i) hN hv hd hcd).run pins s σ H (fun v H1 => v = .ref L.fa ∧ H1 = H) I ⟨.ref L.fa, hσ, rfl, rfl⟩
    refine wpAny_Call_Name_kw (thn nm fun u s1 w => ?_)
    obtain ⟨v1, H1, I1, r1, ev, eH⟩ := w
    subst ev eH
    obtain rfl : u = Value.ref L.fa := r1
    refine PySem.W.callWith_F (first := []) (fnAt_lam I1 (R.gh _ _ (V0 G (Ex.refl G)).2.1)) (thn (ha.run pos pins s1 σ _ (fun vs H2 => ∃ pvs sg2 G2, (pvs.length = ps.length ∧ (∀ p ∈ pvs, p.isD = false) ∧ spLam (N.length - ps.length - fr.length) hb L.cds (pvs.map PV.arg) sg2.n (fun p n' => (pvs.any PV.mut = true → p.imm = true) ∧ C p ⟨sg2.sl, n'⟩) (fun x n' => Z x ⟨sg2.sl, n'⟩)) ∧ Ex G G2 ∧ Rel X.K (fo (f1 X.w T eo) F O) G2 sg2 σ H2 ∧ VRs X.K (fo (f1 X.w T eo) F O) G2 H2 pvs vs) I1 ⟨F, O, G, sg, _, R, hta, fun pvs sg2 G2 H2 vs c2 e2 R2 V2 => ⟨pvs, sg2, G2, c2, e2, R2, V2⟩⟩) fun us s2 w => ?_) he hpl
    obtain ⟨vs, H2, I2, r, pvs, sg2, G2, ⟨c1, c2, c3⟩, e2, R2, V2⟩ := w
    have hL := V0 G2 e2
    exact ⟨fnAt_lam I2 (R2.gh _ _ hL.2.1), lam_call hgd hr S hbind C0 nf nx body tk lk I2 r R2 V2 hL c1 c2 c3 fun p s' G' H' v c e R3 V3 => kk p s' G' H' v c (e2.trans e) R3 V3⟩⟩
  c0 := fun {pn xe W eo Z p pos} tk lk => ⟨fun pins s σ H Q I q => by
    obtain ⟨F, O, G, sg, C, R, ⟨hi, hta⟩, kk⟩ := q
    obtain ⟨v0, hσ, V0⟩ := R.sl i _ hi
    have e0 : v0 = .ref L.fa := (V0 G (Ex.refl G)).1
    subst e0
    have nm := (pe_var (X := X.tr pn xe) (pos := p) (i := i) hN hv hd hcd).run pins s σ H (fun v H1 => v = .ref L.fa ∧ H1 = H) I ⟨.ref L.fa, hσ, rfl, rfl⟩
    refine wpAny_Call_Name_kw (thn nm fun u s1 w => ?_)
    obtain ⟨v1, H1, I1, r1, ev, eH⟩ := w
    subst ev eH
    obtain rfl : u = Value.ref L.fa := r1
    obtain ⟨c1, c2, c3⟩ := hta
    have hL := V0 G (Ex.refl G)
    refine PySem.W.callWith_F0 (first := []) (fnAt_lam I1 (R.gh _ _ hL.2.1)) ?_
    exact lam_call (pvs := []) (vs := []) (us := []) hgd hr S hbind C0 nf nx body tk lk I1 .nil R .nil hL c1 c2 c3 fun p s' G' H' v c e R3 V3 => kk p s' G' H' v c e R3 V3⟩
end
end Sk
set_option Elab.async false
set_option linter.all false
set_option maxRecDepth 100000
set_option maxHeartbeats 2000000
namespace Sk
open PySem PySem.Spec PyProof.Rows L2
open NdefX (NF CellsAt NScope ncx envF startF Caps slotAt)
open Evl (Ex)
section
variable {X : Cx} {pins : List (Addr × Obj)} {σ : L2.St} {H G : Hp} {s : Shared}
theorem Inv.track {a : Addr} {o : Obj} {h : HO} (I : Inv X pins σ H s) (ha : s.heap.get? a = some o) (na : H a = none) (nc : ∀ v, o.data ≠ .cell v) (nL : a ≠ X.env.locals) (n0 : X.s_0.heap.get? a = none) (np : ∀ p ∈ X.pn ++ pins, p.1 ≠ a) (ok : ObjOk X.prog X.w (upd H a h) s.heap a h) :
    Inv X pins σ (upd H a h) s where
  ok := I.ok
  os := I.os
  bare := I.bare
  base := {
    keep := I.base.keep
    slot := I.base.slot
    free := fun b u e n hx => by
      have ne : b ≠ a := fun z => by rw [z, n0] at e; cases e
      rw [upd_ne ne]
      exact I.base.free b u e n hx
    there := I.base.there
    tups := fun b xs e => by
      have e2 := I.base.tups b xs e
      rw [upd_ne (ne_of_none e2 na)]; exact e2
    frzs := fun b u v e => by
      have e2 := I.base.frzs b u v e
      rw [upd_ne (ne_of_none e2 na)]; exact e2
    tbls := fun b ps e => by
      obtain ⟨more, e2⟩ := I.base.tbls b ps e
      exact ⟨more, by rw [upd_ne (ne_of_none e2 na)]; exact e2⟩ }
  loc := I.loc
  cell := I.cell
  free := by rw [upd_ne nL.symm]; exact I.free
  freeC := fun y c e => by
    obtain ⟨v, ob, e1, e2⟩ := I.cell y c e
    have ne : c ≠ a := fun z => by
      rw [z, ha] at e1
      cases e1
      exact nc _ e2
    rw [upd_ne ne]
    exact I.freeC y c e
  pin := fun p hp => by
    obtain ⟨q1, q2, q3⟩ := I.pin p hp
    exact ⟨q1, by rw [upd_ne (np p hp)]; exact q2, q3⟩
  hok := fun b u e => by
    by_cases z : b = a
    · subst z
      rw [upd_same] at e
      cases e
      exact ok
    · rw [upd_ne z] at e
      exact (I.hok b u e).stay (fun c v _ q => q) (fun c q => by rw [upd_ne (ne_of_none q na)]; exact q) fun c xs q => by rw [upd_ne (ne_of_none q na)]; exact q
  len := I.len
theorem lam_make4 {P : Addr} {q : Str} {params : Arguments} {body : Expr} {scope : Scope} {pos : Pos} {E : Value → Shared → Prop} {Q : Value → Shared → Prop} (I : Inv X pins σ H s) (M : Mkr X P q) (hex : X.ex = []) (gh : Ex G H) (hT : TabOk G H P q) (hdef : defaultsOf params X.env = ([], [])) (fr : ∀ y ∈ scope.names, y.2 = .free → ∃ c, X.env.cells.lookup y.1 = some c)
    (h : ∀ (fa c' : Addr) (pm ctv : Value) (G1 H1 : Hp) (s' : Shared), LamStep P q G H G1 H1 → H1 fa = none → G1 c' = some (LamX.CodeO c' q) → Inv X pins σ (upd H1 fa (PinO fa (PySem.W.kla_obj "<lambda>" q params body scope (cloFrom X.env.cells scope.names []) pm c' ctv))) s' → Q (.ref fa) s') :
    wpAny (model X.prog X.w) X.A (eval (.Lambda params body scope pos) X.env) Q E s := by
  obtain ⟨c, TB, hcode⟩ := M.ex
  obtain rfl := M.qu
  obtain ⟨ps, hP, ht, ha⟩ := hT
  refine PySem.W.kla_eval hdef ?_
  have bP : s.heap.BuiltinsAt X.mg P := TB.bm.keeps I.bk
  have hP' : s.heap.get? P = some { cls := .none, data := .fields ps } := I.hok P _ hP
  -- the object made is new
  have fin : ∀ {fa c' : Addr} {pm ctv : Value} {G1 H1 : Hp} {s' : Shared}, Inv X pins σ H1 s' → LamStep P (X.env.qual ++ "<lambda>") G H G1 H1 → s.heap.get? fa = none → H1 fa = none → G1 c' = some (LamX.CodeO c' (X.env.qual ++ "<lambda>")) → s'.heap.get? fa = some (PySem.W.kla_obj "<lambda>" (X.env.qual ++ "<lambda>") params body scope (cloFrom X.env.cells scope.names []) pm c' ctv) → Q (.ref fa) s' := fun {fa c' pm ctv G1 H1 s'} I1 st n1 n2 hc hf => by
    refine h fa c' pm ctv G1 H1 s' st n2 hc (Inv.track I1 hf n2 (fun v z => by cases z) (fun z => ?_) ?_ (fun p hp z => ?_) ⟨hf, ⟨_, hf⟩, fun h1 h2 w k => k _ w⟩)
    · obtain ⟨m, ⟨o, es, ep, ho, _⟩, _⟩ := I.loc
      rw [z, ho] at n1; cases n1
    · cases e : X.s_0.heap.get? fa with
      | none => rfl
      | some o =>
        obtain ⟨o2, e2⟩ := I.base.there fa o e (by rw [hex]; exact List.not_mem_nil)
        rw [n1] at e2; cases e2
    · have := (I.pin p hp).1
      rw [z, n1] at this; cases this
  cases hc : codeAmong pos ps.toList with
  | none =>
    refine PySem.W.kla_makeFunction (mg := X.mg) (c := c) (P := P) (ps := ps) (closure_ok fr) I.ok.glob (I.mod.glob.keeps I.bk) hcode (TB.code.keeps I.bk) hP' ht hc TB.gP bP fun c' ctv h' tk hx hge hlt hrec htb => ?_
    obtain ⟨c2, oc, vs, t, e2, hoc, hd, hv⟩ := hrec
    cases e2
    have nC : H c' = none := I.hok.fresh hge
    have I1 := LamX.inv_table (t' := tk) (more := #[rawInt pos.line, rawInt pos.col, .ref c']) (h' := h'.push (PySem.W.kla_obj "<lambda>" (X.env.qual ++ "<lambda>") params body scope (cloFrom X.env.cells scope.names []) ((X.mg "__name__").getD .none) c' ctv)) I hP
      (fun b o hb e => Heap.get?_push_of_some _ (hx b o hb e)) (Heap.get?_push_of_some _ htb) hge ⟨oc, vs, t, Heap.get?_push_of_some _ hoc, hd, hv⟩
    have eL : (ps ++ #[rawInt pos.line, rawInt pos.col, .ref c']).toList = ps.toList ++ [rawInt pos.line, rawInt pos.col, .ref c'] := by simp
    have gc : G c' = none := Evl.fresh_back gh nC
    have nf : s.heap.get? h'.objs.size = none := Heap.get?_none_of_le (Nat.le_trans hge (Nat.le_of_lt hlt))
    refine fin I1 (.inr ⟨ps, _, c', hP, nC, rfl, rfl, _, by rw [upd_ne (ne_of_none hP nC), upd_same], by rw [eL]; exact PySem.TriplesOk_snoc _ _ _ _ ht, fun p' cv hcv => ?_⟩) nf ?_ upd_same (Heap.get?_push_size _ rfl)
    · rw [eL] at hcv
      rcases LamX.among_app _ ht hcv with z | z
      · obtain ⟨c0, e1, e2⟩ := ha p' cv z
        exact ⟨c0, e1, by rw [upd_ne (ne_of_none e2 gc)]; exact e2⟩
      · exact ⟨c', z, upd_same⟩
    · have n1 : H h'.objs.size = none := I.hok.fresh (Nat.le_trans hge (Nat.le_of_lt hlt))
      rw [upd_ne (Nat.ne_of_gt hlt), upd_ne (fun z => by rw [z, hP] at n1; cases n1)]
      exact n1
  | some cv =>
    obtain ⟨c', e, hco⟩ := ha pos cv hc
    subst e
    refine PySem.W.kla_makeFunctionHit (mg := X.mg) (c := c) (P := P) (ps := ps) (closure_ok fr) I.ok.glob (I.mod.glob.keeps I.bk) hcode (TB.code.keeps I.bk) hP' ht hc bP fun ctv h' tk hx hsz => ?_
    exact fin (I.kept fun b o e => Heap.get?_push_of_some _ (hx b o e)) (.inl ⟨rfl, rfl⟩) (Heap.get?_none_of_le hsz) (I.hok.fresh hsz) hco (Heap.get?_push_size _ rfl)
end
structure HasC (P : Program) (w : World) (T : Tbs) (K : PySem.W.Frag) (mg : Str → Option Value) (base : Heap) (k : Nat) (x : Str) (n np : Nat) (spC : (PySem.W.Frag → Hp → V → Prop) → HSpX → HSpX) : Prop where
  ex : ∃ (ga : Addr) (fd : FuncData) (ps N : List Str) (sc : Scope) (cdv : Value) (a : Str) (i : Nat), ps.length = n ∧ mg x = some (.ref ga) ∧ PySem.W.keepIn K (.ref ga) = true ∧ Binds K fd ps [] ∧ N[i]? = some a ∧ Vis sc a ∧ (a == ("__debug__" : Str)) = false ∧ (a == ("__classdict__" : Str)) = false ∧
    ∀ {A : Around} {outer : List Env} {s : Shared} {H : Hp} {args : Args} {us : List Value} {vs : List V} {R : PySem.W.Frag → Hp → V → Prop} {spc : HSpX} {Q : VK} {E : XK}, A.guards = some [] → Room k A → Env0 P w K mg base A outer s H → BindsTo s fd args (ps.zip us) → Vals vs us →
      CloRule (cxOf (L2.CX P w) P w K mg base N x sc ga cdv A outer s H E) a i T R np spc → SpHX K w T n (spC R spc) vs H Q E → codeAny (model P w) A (.call (.ref ga) args) (CR (L2.CX P w) outer P w H s Q E) s
theorem HasC.mk' {P : Program} {w : World} {T : Tbs} {K : PySem.W.Frag} {mg : Str → Option Value} {base : Heap} {k i np : Nat} {fa : Addr} {fd : FuncData} {x a : Str} {st : Stmt} {N ps : List Str} {hs : (PySem.W.Frag → Hp → V → Prop) → HSpX → HX → HS} {spC : (PySem.W.Frag → Hp → V → Prop) → HSpX → HSpX} (Fn : Fun K x x st fa fd) (hm : mg x = some (.ref fa)) (b : Binds K fd ps []) (S : FnScope N ps (defScope st)) (hN : N[i]? = some a) (hv : Vis (defScope st) a)
    (body : ∀ (cdv : Value), fd.code = cdv → ∀ (A : Around) (outer : List Env) (s : Shared) (H : Hp) (E : XK) (en : Ent) (Z : HX) (R : PySem.W.Frag → Hp → V → Prop) (spc : HSpX), (A.deeper (envOfC x (defScope st) s.heap.objs.size fa cdv)).guards = some [] → Room k (A.deeper (envOfC x (defScope st) s.heap.objs.size fa cdv)) →
      Takes (cxOf (L2.CX P w) P w K mg base N x (defScope st) fa cdv A outer s H E) (fun cls d _ H => E cls d H) → Lk K (fun cls d _ H => E cls d H) w T en Z → CloRule (cxOf (L2.CX P w) P w K mg base N x (defScope st) fa cdv A outer s H E) a i T R np spc → PSs (cxOf (L2.CX P w) P w K mg base N x (defScope st) fa cdv A outer s H E) (defBody st) (lfS K (f1 w T (some en)) (hs R spc Z)))
    (rd : ∀ R spc pvs n C Z, pvs.length = ps.length → spC R spc pvs n C Z → hs R spc (fun x s => Z x s.n) ⟨fun s => C (.dat .none) s.n, fun p s => C p s.n, fun _ => False, fun _ => False⟩ ⟨pvs.map some ++ List.replicate (N.length - pvs.length) none, n⟩)
    (hd : (a == ("__debug__" : Str)) = false := by decide) (hcd : (a == ("__classdict__" : Str)) = false := by decide) : HasC P w T K mg base (k + 1) x ps.length np spC := by
  obtain ⟨oc, od, kV, doc, pm, an, cdv, ct, osl, efd, lk, hcd0⟩ := Fn.ex
  subst efd
  refine ⟨fa, _, ps, N, defScope st, cdv, a, i, rfl, hm, Fn.kp, b, hN, hv, hd, hcd, fun {A outer s H args us vs R spc Q E} hgd hr e0 hb r rule hsp => ?_⟩
  have hl := valsX_len _ _ _ _ hsp
  have hin : K.In s.heap := e0.mod.kin.keeps fun b o e => (e0.bs b o e).1
  have hlim : s.heap.NoLimit := e0.mod.nolimit.keeps fun b o e => (e0.bs b o e).1
  refine codeAny_call_function hr.depth (hin _ _ lk) rfl S.co S.gen rfl (PySem.W.codeRec_of hin hcd0) (hb _ _ _ _ ?_)
  refine wpAny_newFunctionEnv_cells S.kind (fun y hy => ?_) fun env he s1 hx => ?_
  · rcases S.par y.1 (List.of_mem_zip (show (y.1, y.2) ∈ ps.zip us from hy)).1 with q | q
    · exact Or.inl q
    · exact Or.inr ⟨q, PySem.W.cellsFrom_some _ _ _ (Or.inl q)⟩
  subst he
  refine ⟨hlim.keeps hx.toInCall.keep, codeAny_func ?_⟩
  obtain ⟨⟨on, m, l, c, fF, fO, fM, fr, fw, fT, fe⟩, G, n, pvs, C, Z, hw, hT, he, hF, hM, Rl, hmu, hk, hsp2, kn, kx⟩ := hsp
  have hw : fw = w := hw
  have hT : fT = T := hT
  have he : fe = none := he
  subst hw hT he
  let f : Fr := ⟨on, m, l, c, fF, fO, fM, fr, fw, fT, none⟩
  have Rl : Rel K f G ⟨pvs.map some, n⟩ (vs.map some) H := Rl
  have lnv : vs.length = pvs.length := by
    have := Rl.ln
    simpa using this
  have lkx : Lk K (fun cls d _ H => E cls d H) fw fT (entOf f G) (fun x s => Z x s.n) := fun x a s1 σ1 G1 H1 F O hc R1 z => by
    obtain ⟨R2, e2⟩ := R1.ent
    exact kx x a _ G1 H1 z hc e2 R2
  have ht := body cdv rfl A outer s H E (entOf f G) (fun x s => Z x s.n) R spc (guards_deeper A _ hgd) (hr.deeper _) (takes_of rfl rfl rfl rfl) lkx rule
  have I := inv_start (CX := L2.CX P fw) (E := E) (qual := x) (f := fa) (cd := cdv) S hr.hd e0 hl r hx
  have R5 := Rl.re (some (entOf f G)) fun en q => by
    cases q
    exact entOf_ok Rl
  have q0 : (lfS K (f1 fw fT (some (entOf f G))) (hs R spc fun x s => Z x s.n)) { nx := fun _ H' => Q .non H', rt := Q } (start N vs) H := by
    refine ⟨f, fO, G, ⟨pvs.map some ++ List.replicate (N.length - pvs.length) none, n⟩, _, ?_, rd R spc pvs n C Z hk hsp2, ⟨fun G1 s1 σ1 H1 e1 R1 c => ?_, fun p G1 s1 σ1 H1 v e1 R1 V1 c => ?_, fun _ _ _ _ _ _ z => z.elim, fun _ _ _ _ _ _ z => z.elim⟩⟩
    · show Rel K { f with e := some (entOf f G) } G ⟨_, n⟩ (L2.start N vs) H
      exact { R5 with
        ln := by simp [L2.start, lnv]
        sl := fun i p h => by
          obtain ⟨v, h1, h2⟩ := R5.sl i p (start_at _ _ _ _ h)
          exact ⟨v, start_up _ _ _ _ h1, h2⟩
        ds := fun i j p q v ne hi _ mp => by
          have h1 := start_at _ _ _ _ hi
          rw [List.getElem?_map] at h1
          obtain ⟨p0, h2, e⟩ := Option.map_eq_some_iff.mp h1
          cases e
          have := hmu _ (List.mem_of_getElem? h2)
          rw [this] at mp
          cases mp }
    · exact kn _ _ _ _ _ c e1 R1.ent.1 .non
    · exact kn _ _ _ _ _ c e1 R1.ent.1 (by cases p <;> exact V1.1)
  have ret : ∀ {σ' : L2.St} {H' : Hp} {v : V} {u : Value} {s' : Shared}, Inv (cxOf (L2.CX P fw) P fw K mg base N x (defScope st) fa cdv A outer s H E) [] σ' H' s' → RelV v u → Q v H' → CE outer P fw H s Q u s' :=
    fun J rv q => ⟨_, _, J.os, J.bare, J.base, J.hok, rv, q⟩
  refine wpAny_mono (ht.run [] s1 (start N vs) H _ I q0) (fun fl s' w => ?_) fun e s' w => w
  match fl, w with
  | .ret u, ⟨v, σ', H', J, rv, q⟩ => exact ret J rv q
  | .next, ⟨σ', H', J, q⟩ => exact ret (v := V.non) (u := Value.none) J rfl q
  | .brk, ⟨_, _, _, q⟩ => exact q.elim
  | .cont, ⟨_, _, _, q⟩ => exact q.elim
end Sk
set_option Elab.async false
set_option linter.all false
set_option maxRecDepth 100000
set_option maxHeartbeats 2000000
namespace Sk
open PySem PySem.Spec PyProof.Rows L2
open NdefX (NF CellsAt NScope ncx envF startF Caps slotAt)
open Evl (Ex)
@[simp] def caps : List Nat → List (Option PV) → Option (List PyData)
  | [], _ => some []
  | j :: js, sl => match sl[j]? with
    | some (some (.dat d)) => (caps js sl).map (d :: ·)
    | _ => none
theorem caps_vals {K : PySem.W.Frag} {f : Fr} {G H : Hp} {s : Sg} {σ : L2.St} (R : Rel K f G s σ H) : ∀ {js : List Nat} {cds : List PyData}, caps js s.sl = some cds → ∃ cvs : List V, js.map (slotAt σ) = cvs.map some ∧ DpAll K G cvs cds
  | [], cds, h => by
    cases h
    exact ⟨[], rfl, .nil⟩
  | j :: js, cds, h => by
    unfold caps at h
    split at h
    · rename_i d hd
      obtain ⟨ds, h1, rfl⟩ := Option.map_eq_some_iff.mp h
      obtain ⟨cvs, h2, h3⟩ := caps_vals R h1
      obtain ⟨v, h4, h5⟩ := R.sl j _ hd
      exact ⟨v :: cvs, by rw [List.map_cons, List.map_cons, h2, NdefX.slotAt_of h4], .cons h5 h3⟩
    · cases h
section
variable {X : Cx} {T : Tbs} {eo : Option Ent} {W : WX} {Z : HX} {k kc n np : Nat} {x q : Str} {P : Addr} {spC : (PySem.W.Frag → Hp → V → Prop) → HSpX → HSpX} {N ps fr : List Str} {js : List Nat} {params : Arguments} {body : Expr} {scope : Scope} {hb : HX → HE}
structure LamOk (X : Cx) (T : Tbs) (P : Addr) (q : Str) (kc : Nat) (N ps fr : List Str) (js : List Nat) (params : Arguments) (body : Expr) (scope : Scope) (hb : HX → HE) : Prop where
  mkr : Mkr X P q
  mT : (P, q) ∈ T
  uT : ∀ p ∈ T, p.1 = P → p.2 = q
  df : defaultsOf params X.env = ([], [])
  S : NScope N ps fr scope
  fk : ∀ y ∈ scope.names, y.2 = .free → X.env.scope.names.lookup y.1 = some .cell ∨ X.env.scope.names.lookup y.1 = some .free
  ff : ∀ y ∈ fr, (y, NameKind.free) ∈ scope.names
  at_ : js.map (fun j => X.N[j]?) = fr.map some
  bind : ∀ (cl : List (Str × Addr)) (pm : Value) (c : Addr) (ctv : Value) (us : List Value), us.length = ps.length → bindArgs (PySem.W.kla_fn "<lambda>" q params body scope cl pm (.ref c) ctv) ⟨us, []⟩ = pure (ps.zip us)
  body : ∀ (fa c : Addr) (cl : List (Str × Addr)) (pm ctv : Value) (cvs : List V) (cds : List PyData) (A : Around) (outer : List Env) (s : Shared) (H : Hp) (E : XK) (en : Ent) (Z : HX), (A.deeper (envF (Lam.nf ⟨fa, c, q, params, body, scope, cl, pm, ctv, cvs, cds⟩) fa s.heap.objs.size)).guards = some [] → Room kc (A.deeper (envF (Lam.nf ⟨fa, c, q, params, body, scope, cl, pm, ctv, cvs, cds⟩) fa s.heap.objs.size)) →
    Takes (ncx (L2.CX X.prog X.w) X.prog X.w X.K X.mg X.base N (Lam.nf ⟨fa, c, q, params, body, scope, cl, pm, ctv, cvs, cds⟩) fa A outer s H E) (fun cls d _ H => E cls d H) → Lk X.K (fun cls d _ H => E cls d H) X.w T en Z → PE (ncx (L2.CX X.prog X.w) X.prog X.w X.K X.mg X.base N (Lam.nf ⟨fa, c, q, params, body, scope, cl, pm, ctv, cvs, cds⟩) fa A outer s H E) body (lf X.K (f1 X.w T (some en)) (hb Z))
def tLamMk (X : Cx) (P : Addr) (q : Str) (params : Arguments) (body : Expr) (scope : Scope) : TE := fun σ H Q => ∃ G, Ex G H ∧ TabOk G H P q ∧ ∀ (fa c : Addr) (pm ctv : Value) (G1 H1 : Hp), LamStep P q G H G1 H1 → H1 fa = none → G1 c = some (LamX.CodeO c q) → Q (.ref fa) (upd H1 fa (PinO fa (PySem.W.kla_obj "<lambda>" q params body scope (cloFrom X.env.cells scope.names []) pm c ctv)))
theorem pe_lamMk {pos : Pos} (hex : X.ex = []) (L : LamOk X T P q kc N ps fr js params body scope hb) : PE X (.Lambda params body scope pos) (tLamMk X P q params body scope) := ⟨fun pins s σ H Q I w => by
  obtain ⟨G, gh, hT, w⟩ := w
  refine lam_make4 I L.mkr hex gh hT L.df (fun y hy e => (L.fk y hy e).elim (fun z => I.ok.has _ (.inl z)) fun z => I.ok.has _ (.inr z)) fun fa c pm ctv G1 H1 s1 st n1 hc I1 => ?_
  exact ⟨.ref fa, _, I1, rfl, w fa c pm ctv G1 H1 st n1 hc⟩⟩
theorem cells_nf {pins : List (Addr × Obj)} {σ : L2.St} {H : Hp} {s : Shared} (I : Inv X pins σ H s) (hfn : X.fn = fun _ => true) (hst : X.stack = X.env :: X.outer) (hfr : X.env.frame = some X.env.locals) {y : Str} {c : Addr} (e : X.env.cells.lookup y = some c) : c ∉ frs X.stack := fun hm => by
  rw [hst] at hm
  obtain ⟨en, he, q⟩ := List.mem_filterMap.mp hm
  rcases List.mem_cons.mp he with rfl | he
  · rw [hfr] at q
    cases q
    exact I.cne y _ e rfl
  · obtain ⟨_, o, ho, _⟩ := I.ok.funs.mem (List.mem_filterMap.mpr ⟨en, he, q⟩)
    have h1 := Heap.lt_size ho
    have h2 := I.ok.cab y c (by rw [hfn]) e
    exact absurd h2 (Nat.not_le.mpr h1)
theorem callC_run {pn : List (Addr × Obj)} (h : HasC X.prog X.w T X.K X.mg X.base k x n ps.length spC) (L : LamOk X T P q kc N ps fr js params body scope hb) (tk : Takes X W) (lk : Lko X.K W X.w T eo Z) (hgd : X.A.guards = some []) (hr : Room k X.A) (hkc : kc + 2 ≤ k) (hex : X.ex = []) (hfn : X.fn = fun _ => true) (hst : X.stack = X.env :: X.outer) (hfr : X.env.frame = some X.env.locals)
    {pins : List (Addr × Obj)} {s : Shared} {σ : L2.St} {H : Hp} {us : List Value} {vs : List V} {pvs : List PV} {G : Hp} {sg : Sg} {F : Fr} {O : Addr → Prop} {Q : VK} {C : PV → Sg → Prop} {fa c ga : Addr} {pm ctv u : Value} {cds : List PyData} (hga : X.mg x = some (.ref ga))
    (I : Inv X pins σ H s) (r : Vals (vs ++ [.ref fa]) us) (R : Rel X.K (fo (f1 X.w T eo) F O) G sg σ H) (V1 : VRs X.K (fo (f1 X.w T eo) F O) G H pvs vs) (hm : ∀ p ∈ pvs, p.mut = false ∧ p.isD = false) (hl : pvs.length + 1 = n)
    (h1 : G fa = some (PinO fa (PySem.W.kla_obj "<lambda>" q params body scope (cloFrom X.env.cells scope.names []) pm c ctv))) (h2 : G c = some (LamX.CodeO c q)) (hcap : caps js sg.sl = some cds)
    (hsp : ∀ R, spC R (spLam (N.length - ps.length - fr.length) hb cds) (pvs.map PV.arg ++ [.abs R]) sg.n (fun p n' => C p ⟨sg.sl, n'⟩) (fun x n' => Z x ⟨sg.sl, n'⟩))
    (kk : ∀ p s' G' H' v, C p s' → Ex G G' → Rel X.K (fo (f1 X.w T eo) F O) G' s' σ H' → VRf X.K (fo (f1 X.w T eo) F O) G' H' s' σ p v → Q v H') :
    wpAny (model X.prog X.w) X.A (call (.ref ga) us) (EP X pins σ Q) X.xe s := by
  obtain ⟨ga2, fd, gps, gN, sc, cdv, a, i, hgl, hm2, _, hbi, hN, hv, hd1, hd2, go⟩ := h.ex
  rw [hga] at hm2
  cases hm2
  obtain ⟨cvs, hcv, hdp⟩ := caps_vals R hcap
  let Lm : Lam := ⟨fa, c, q, params, body, scope, cloFrom X.env.cells scope.names [], pm, ctv, cvs, cds⟩
  have cap : Caps X (cloFrom X.env.cells scope.names []) fr js := Caps.made I.ok L.fk L.ff L.at_
  have C0 : CellsAt (cloFrom X.env.cells scope.names []) fr (cvs.map some) s.heap H := by
    rw [← hcv]
    exact NdefX.cells_of I cap
  have hr2 : Room (kc + 2) X.A := hr.mono hkc
  have rule : CloRule (cxOf (L2.CX X.prog X.w) X.prog X.w X.K X.mg X.base gN x sc ga cdv X.A X.stack s H (WE W σ)) a i T (lamR Lm) ps.length (spLam (N.length - ps.length - fr.length) hb cds) :=
    clo_rule (X := cxOf (L2.CX X.prog X.w) X.prog X.w X.K X.mg X.base gN x sc ga cdv X.A X.stack s H (WE W σ)) (L := Lm) (k := kc) hN hv (guards_deeper X.A _ hgd) (hr2.deeper _) L.S (fun us h => L.bind _ _ _ _ us h) C0 (fun y c e => cells_nf I hfn hst hfr (cap.sub y c e)) (fun y c e z => by cases z)
      (fun A outer s H E en Z g1 g2 g3 g4 => L.body fa c _ pm ctv cvs cds A outer s H E en Z g1 g2 g3 g4) hd1 hd2
  have VA : VR X.K (fo (f1 X.w T eo) F O) G H (.abs (lamR Lm)) (.ref fa) := fun G2 e => ⟨rfl, e _ _ h1, e _ _ h2, Dp.exAll e _ hdp⟩
  have VS : VRs X.K (fo (f1 X.w T eo) F O) G H (pvs ++ [.abs (lamR Lm)]) (vs ++ [.ref fa]) := by
    have key : ∀ {pvs : List PV} {vs : List V}, VRs X.K (fo (f1 X.w T eo) F O) G H pvs vs → VRs X.K (fo (f1 X.w T eo) F O) G H (pvs ++ [.abs (lamR Lm)]) (vs ++ [.ref fa]) := fun {pvs vs} h => by
      unfold VRs at *
      induction h with
      | nil => exact .cons VA .nil
      | cons a _ ih => exact .cons a ih
    exact key V1
  have hnm : (pvs ++ [PV.abs (lamR Lm)]).any PV.mut = false := by
    rw [List.any_eq_false]
    intro p hp
    rcases List.mem_append.mp hp with hp | hp
    · rw [(hm p hp).1]; simp
    · rw [List.mem_singleton.mp hp]
      show ¬ (false = true)
      simp
  obtain ⟨f', Gc, x1, x2, x3, x4, x5, R', x6, x7, _, back⟩ := spH_core (k := n) R VS (by rw [List.length_append, List.length_singleton]; exact hl) (fun p hp => by
    rcases List.mem_append.mp hp with hp | hp
    · exact (hm p hp).2
    · rw [List.mem_singleton.mp hp]; rfl)
  have sp : SpHX X.K X.w T n (spC (lamR Lm) (spLam (N.length - ps.length - fr.length) hb cds)) (vs ++ [.ref fa]) H Q (WE W σ) := by
    refine ⟨f', Gc, sg.n, _, (fun p n' => C p ⟨sg.sl, n'⟩), (fun y n' => Z y ⟨sg.sl, n'⟩), x1, x2, x3, x4, x5, R', x6, x7, ?_, fun p n' G' H' v c e R2 V2 => ?_, fun y a n' G' H' z hc e R2 => ?_⟩
    · rw [List.map_append]
      exact hsp (lamR Lm)
    · obtain ⟨G2, e2, R3, V3⟩ := back p n' G' H' v (fun z => by rw [hnm] at z; cases z) e R2 V2
      exact kk p _ G2 H' v c e2 R3 V3
    · obtain ⟨G2, e2, R3, _⟩ := back (.dat .none) n' G' H' .non (fun _ => rfl) e R2 .non
      exact lk y a _ σ G2 H' F O hc R3 z
  have hlu : (us ++ []).length = gps.length := by
    have l1 : vs.length = pvs.length := (Paired.length V1).symm
    rw [List.append_nil, ← r.length, List.length_append, List.length_singleton, hgl]
    omega
  have bb := hbi s us I.kIn hlu
  rw [List.append_nil] at bb
  refine wpAny_call (codeAny_mono (go hgd hr I.env0 bb r rule sp) fun res s' hq => ?_)
  match res, hq with
  | .error e, hq => exact passAt tk σ pins H s e s' I hq
  | .ok (.ret u), hq => exact I.after hq
@[simp] def hCallC0 (spC : (PySem.W.Frag → Hp → V → Prop) → HSpX → HSpX) (m : Nat) (js : List Nat) (hb : HX → HE) (Z : HX) : HE := fun s C => ∃ cds, caps js s.sl = some cds ∧ ∀ R, spC R (spLam m hb cds) [.abs R] s.n (fun p n' => C p ⟨s.sl, n'⟩) (fun x n' => Z x ⟨s.sl, n'⟩)
@[simp] def hCallC1 (spC : (PySem.W.Frag → Hp → V → Prop) → HSpX → HSpX) (m : Nat) (js : List Nat) (hb : HX → HE) (Z : HX) (te : HE) : HE := fun s C => te s fun p s1 => ∃ d, p.frz = some d ∧ ∃ cds, caps js s1.sl = some cds ∧ ∀ R, spC R (spLam m hb cds) [.dat d, .abs R] s1.n (fun p n' => C p ⟨s1.sl, n'⟩) (fun x n' => Z x ⟨s1.sl, n'⟩)
@[simp] def hFrzJ (j : Nat) (t : HE) : HE := fun s C => match s.sl[j]? with
  | some (some (.own ds)) => t (s.put j (.dat (.list ds))) C
  | _ => t s C
theorem lam_step {F : Fr} {O : Addr → Prop} {G H G1 H1 : Hp} {s : Sg} {σ : L2.St} {fa : Addr} {o : Obj} (hmT : (P, q) ∈ T) (huT : ∀ p ∈ T, p.1 = P → p.2 = q) (R : Rel X.K (fo (f1 X.w T eo) F O) G s σ H) (st : LamStep P q G H G1 H1) (n1 : H1 fa = none) :
    Rel X.K (fo (f1 X.w T eo) F O) (upd G1 fa (PinO fa o)) s σ (upd H1 fa (PinO fa o)) ∧ Ex G (upd G1 fa (PinO fa o)) ∧ Ex G1 (upd G1 fa (PinO fa o)) := by
  have g := st.g R.gh
  have R1 := R.lam hmT huT st
  exact ⟨R1.newG n1, g.trans (Evl.Ex.new (R1.gn n1)), Evl.Ex.new (R1.gn n1)⟩
theorem hp_callC0 {p lpos pos : Pos} (h : HasC X.prog X.w T X.K X.mg X.base k x 1 ps.length spC) (L : LamOk X T P q kc N ps fr js params body scope hb) (tk : Takes X W) (lk : Lko X.K W X.w T eo Z) (hgd : X.A.guards = some []) (hr : Room k X.A) (hkc : kc + 2 ≤ k) (hex : X.ex = []) (hfn : X.fn = fun _ => true) (hst : X.stack = X.env :: X.outer) (hfr : X.env.frame = some X.env.locals) (hg : Gl X x)
    (hdb : (x == ("__debug__" : Str)) = false := by decide) : PE X (.Call (.Name x p) [.Lambda params body scope lpos] [] pos) (lf X.K (f1 X.w T eo) (hCallC0 spC (N.length - ps.length - fr.length) js hb Z)) := ⟨fun pins s σ H Q I w => by
  obtain ⟨F, O, G, sg, C, R, ⟨cds, hcap, hsp⟩, kk⟩ := w
  obtain ⟨ga, _, _, _, _, _, _, _, _, hga, hkp, _⟩ := h.ex
  refine wpAny_Call_Name_kw (ld_glob I hg hga ?_ hdb)
  have ha := pa_cons (pe_lamMk (pos := lpos) hex L) pa_nil rfl
  refine PySem.W.callWith_K (h₀ := X.base) I.ok.mod.kin hkp (thn (ha.run pos pins s σ H (fun vs H2 => ∃ (fa c : Addr) (pm ctv : Value) (G2 : Hp), vs = [.ref fa] ∧ Ex G G2 ∧ Rel X.K (fo (f1 X.w T eo) F O) G2 sg σ H2 ∧ G2 fa = some (PinO fa (PySem.W.kla_obj "<lambda>" q params body scope (cloFrom X.env.cells scope.names []) pm c ctv)) ∧ G2 c = some (LamX.CodeO c q)) I ?_) fun us s2 w => ?_) rfl rfl
  · exact ⟨G, R.gh, R.tb _ L.mT, fun fa c pm ctv G1 H1 st n1 hc => by
      obtain ⟨R2, e1, e2⟩ := lam_step (o := PySem.W.kla_obj "<lambda>" q params body scope (cloFrom X.env.cells scope.names []) pm c ctv) L.mT L.uT R st n1
      exact ⟨fa, c, pm, ctv, _, rfl, e1, R2, upd_same, e2 _ _ hc⟩⟩
  · obtain ⟨vs, H2, I2, r, fa, c, pm, ctv, G2, rfl, e2, R2, g1, g2⟩ := w
    rw [List.nil_append]
    exact ⟨I2.kIn, callC_run (vs := []) (pvs := []) (u := .none) (pn := []) h L tk lk hgd hr hkc hex hfn hst hfr hga I2 r R2 .nil (fun _ h => by cases h) rfl g1 g2 hcap hsp fun p s' G' H' v c e R3 V3 => kk p s' G' H' v c (e2.trans e) R3 V3⟩⟩
theorem hp_callC1 {e : Expr} {te : HE} {p lpos pos : Pos} (h : HasC X.prog X.w T X.K X.mg X.base k x 2 ps.length spC) (L : LamOk X T P q kc N ps fr js params body scope hb) (tk : Takes X W) (lk : Lko X.K W X.w T eo Z) (hgd : X.A.guards = some []) (hr : Room k X.A) (hkc : kc + 2 ≤ k) (hex : X.ex = []) (hfn : X.fn = fun _ => true) (hst : X.stack = X.env :: X.outer) (hfr : X.env.frame = some X.env.locals) (hg : Gl X x) (he : PE X e (lf X.K (f1 X.w T eo) te))
    (hs : starEach [e, .Lambda params body scope lpos] X.env = (false, eval e X.env) :: starEach [.Lambda params body scope lpos] X.env := by rfl) (hdb : (x == ("__debug__" : Str)) = false := by decide) : PE X (.Call (.Name x p) [e, .Lambda params body scope lpos] [] pos) (lf X.K (f1 X.w T eo) (hCallC1 spC (N.length - ps.length - fr.length) js hb Z te)) := ⟨fun pins s σ H Q I w => by
  obtain ⟨F, O, G, sg, C, R, ht, kk⟩ := w
  obtain ⟨ga, _, _, _, _, _, _, _, _, hga, hkp, _⟩ := h.ex
  refine wpAny_Call_Name_kw (ld_glob I hg hga ?_ hdb)
  have ha := pa_cons he (pa_cons (pe_lamMk (pos := lpos) hex L) pa_nil rfl) hs
  refine PySem.W.callWith_K (h₀ := X.base) I.ok.mod.kin hkp (thn (ha.run pos pins s σ H (fun vs H2 => ∃ (fa c : Addr) (pm ctv : Value) (G2 : Hp) (v0 : V) (d : PyData) (sg2 : Sg) (cds : List PyData), vs = [v0, .ref fa] ∧ Ex G G2 ∧ Rel X.K (fo (f1 X.w T eo) F O) G2 sg2 σ H2 ∧ Dp X.K G2 v0 d ∧ G2 fa = some (PinO fa (PySem.W.kla_obj "<lambda>" q params body scope (cloFrom X.env.cells scope.names []) pm c ctv)) ∧ G2 c = some (LamX.CodeO c q) ∧ caps js sg2.sl = some cds ∧ ∀ R, spC R (spLam (N.length - ps.length - fr.length) hb cds) [.dat d, .abs R] sg2.n (fun p n' => C p ⟨sg2.sl, n'⟩) (fun x n' => Z x ⟨sg2.sl, n'⟩)) I ?_) fun us s2 w => ?_) hs rfl
  · refine ⟨F, O, G, sg, _, R, ht, fun p0 sg1 G1 H1 v1 c1 e1 R1 V1 => ?_⟩
    obtain ⟨d, hd, cds, hcap, hsp⟩ := c1
    obtain ⟨G3, e3, R3, V3⟩ := R1.frz V1 hd
    refine ⟨G3, R3.gh, R3.tb _ L.mT, fun fa c pm ctv G4 H4 st n1 hc => ?_⟩
    obtain ⟨R5, e5, e6⟩ := lam_step (o := PySem.W.kla_obj "<lambda>" q params body scope (cloFrom X.env.cells scope.names []) pm c ctv) L.mT L.uT R3 st n1
    exact ⟨fa, c, pm, ctv, _, v1, d, sg1, cds, rfl, (e1.trans e3).trans e5, R5, Dp.ex e5 _ V3, upd_same, e6 _ _ hc, hcap, hsp⟩
  · obtain ⟨vs, H2, I2, r, fa, c, pm, ctv, G2, v0, d, sg2, cds, rfl, e2, R2, hd, g1, g2, hcap, hsp⟩ := w
    rw [List.nil_append]
    refine ⟨I2.kIn, callC_run (vs := [v0]) (pvs := [.dat d]) (u := .none) (pn := []) h L tk lk hgd hr hkc hex hfn hst hfr hga I2 r R2 (.cons hd .nil) (fun p h => ?_) rfl g1 g2 hcap hsp fun p s' G' H' v c e R3 V3 => kk p s' G' H' v c (e2.trans e) R3 V3⟩
    rw [List.mem_singleton.mp h]
    exact ⟨rfl, rfl⟩⟩
end
end Sk
set_option Elab.async false
set_option linter.all false
set_option maxRecDepth 100000
set_option maxHeartbeats 2000000
namespace Sk
open PySem PySem.Spec PyProof.Rows L2
open NdefX (NF CellsAt NScope ncx envF startF Caps slotAt)
theorem mkr_any {X : Cx} {cdv : Value} {c T : Addr} {q : Str} (hc : cdv = .ref c) (TB : LamX.TabB X.base X.mg c T) (hq : X.env.qual ++ "<lambda>" = q) (he : X.env.code = cdv := by rfl) : Mkr X T q := ⟨⟨c, TB, he.trans hc⟩, hq⟩
theorem lko0 {K : PySem.W.Frag} {W : WX} {w : World} {T : Tbs} {eo : Option Ent} : Lko K W w T eo (fun _ _ => False) := fun _ _ _ _ _ _ _ _ _ _ z => z.elim
def lamFk (sc scope : Scope) : Bool := scope.names.all fun y => y.2 != .free || (sc.names.lookup y.1 == some .cell || sc.names.lookup y.1 == some .free)
theorem lamFk_of {sc scope : Scope} (h : lamFk sc scope = true) : ∀ y ∈ scope.names, y.2 = .free → sc.names.lookup y.1 = some .cell ∨ sc.names.lookup y.1 = some .free := fun y hy e => by
  unfold lamFk at h
  rw [List.all_eq_true] at h
  have := h y hy
  rw [e] at this
  simp only [Bool.or_eq_true, beq_iff_eq] at this
  rcases this with z | z
  · exact absurd z (by decide)
  · exact z
theorem lamOk_mk {X : Cx} {T : Tbs} {P : Addr} {q : Str} {kc : Nat} {N ps fr : List Str} {js : List Nat} {params : Arguments} {body : Expr} {scope sc : Scope} {hb : HX → HE} (mkr : Mkr X P q) (mT : (P, q) ∈ T) (uT : ∀ p ∈ T, p.1 = P → p.2 = q) (df : defaultsOf params X.env = ([], [])) (S : NScope N ps fr scope) (hsc : X.env.scope = sc) (fk : lamFk sc scope = true) (ff : ∀ y ∈ fr, (y, NameKind.free) ∈ scope.names) (at_ : js.map (fun j => X.N[j]?) = fr.map some)
    (bind : ∀ (cl : List (Str × Addr)) (pm : Value) (c : Addr) (ctv : Value) (us : List Value), us.length = ps.length → bindArgs (PySem.W.kla_fn "<lambda>" q params body scope cl pm (.ref c) ctv) ⟨us, []⟩ = pure (ps.zip us))
    (bd : ∀ (fa c : Addr) (cl : List (Str × Addr)) (pm ctv : Value) (cvs : List V) (cds : List PyData) (A : Around) (outer : List Env) (s : Shared) (H : Hp) (E : XK) (en : Ent) (Z : HX), (A.deeper (envF (Lam.nf ⟨fa, c, q, params, body, scope, cl, pm, ctv, cvs, cds⟩) fa s.heap.objs.size)).guards = some [] → Room kc (A.deeper (envF (Lam.nf ⟨fa, c, q, params, body, scope, cl, pm, ctv, cvs, cds⟩) fa s.heap.objs.size)) →
      Takes (ncx (L2.CX X.prog X.w) X.prog X.w X.K X.mg X.base N (Lam.nf ⟨fa, c, q, params, body, scope, cl, pm, ctv, cvs, cds⟩) fa A outer s H E) (fun cls d _ H => E cls d H) → Lk X.K (fun cls d _ H => E cls d H) X.w T en Z → PE (ncx (L2.CX X.prog X.w) X.prog X.w X.K X.mg X.base N (Lam.nf ⟨fa, c, q, params, body, scope, cl, pm, ctv, cvs, cds⟩) fa A outer s H E) body (lf X.K (f1 X.w T (some en)) (hb Z))) : LamOk X T P q kc N ps fr js params body scope hb :=
  ⟨mkr, mT, uT, df, S, by rw [hsc]; exact lamFk_of fk, ff, at_, bind, bd⟩
section
variable {X : Cx} {T : Tbs} {eo : Option Ent} {W : WX} {Z : HX} {k kc n np m : Nat} {x q : Str} {P : Addr} {spC : (PySem.W.Frag → Hp → V → Prop) → HSpX → HSpX} {N ps fr : List Str} {js : List Nat} {params : Arguments} {body : Expr} {scope : Scope} {hb : HX → HE}
theorem hc0 {p lpos pos : Pos} (tk : Takes X W) (lk : Lko X.K W X.w T eo Z) (hgd : X.A.guards = some []) (hr : Room k X.A) (hex : X.ex = []) (hfn : X.fn = fun _ => true) (hst : X.stack = X.env :: X.outer) (hfr : X.env.frame = some X.env.locals) (hg : Gl X x) (h : HasC X.prog X.w T X.K X.mg X.base k x 1 np spC) (hnp : ps.length = np) (hm : N.length - ps.length - fr.length = m) (hkc : kc + 2 ≤ k) (L : LamOk X T P q kc N ps fr js params body scope hb) 
    (hdb : (x == ("__debug__" : Str)) = false := by decide) : PE X (.Call (.Name x p) [.Lambda params body scope lpos] [] pos) (lf X.K (f1 X.w T eo) (hCallC0 spC m js hb Z)) := by
  subst hnp hm
  exact hp_callC0 h L tk lk hgd hr hkc hex hfn hst hfr hg hdb
theorem hc1 {e : Expr} {te : HE} {p lpos pos : Pos} (tk : Takes X W) (lk : Lko X.K W X.w T eo Z) (hgd : X.A.guards = some []) (hr : Room k X.A) (hex : X.ex = []) (hfn : X.fn = fun _ => true) (hst : X.stack = X.env :: X.outer) (hfr : X.env.frame = some X.env.locals) (hg : Gl X x) (he : PE X e (lf X.K (f1 X.w T eo) te)) (h : HasC X.prog X.w T X.K X.mg X.base k x 2 np spC) (hnp : ps.length = np) (hm : N.length - ps.length - fr.length = m) (hkc : kc + 2 ≤ k) (L : LamOk X T P q kc N ps fr js params body scope hb)
    (hs : starEach [e, .Lambda params body scope lpos] X.env = (false, eval e X.env) :: starEach [.Lambda params body scope lpos] X.env := by rfl) (hdb : (x == ("__debug__" : Str)) = false := by decide) : PE X (.Call (.Name x p) [e, .Lambda params body scope lpos] [] pos) (lf X.K (f1 X.w T eo) (hCallC1 spC m js hb Z te)) := by
  subst hnp hm
  exact hp_callC1 h L tk lk hgd hr hkc hex hfn hst hfr hg he hs hdb
end
theorem hp_callH0 {X : Cx} {T : Tbs} {eo : Option Ent} {x : Str} {p pos : Pos} {k : Nat} {sp : HSp} (h : Has X.prog X.w T X.K X.mg X.base k x 0 sp) (hgd : X.A.guards = some []) (hr : Room k X.A) (hg : Gl X x) (hdb : (x == ("__debug__" : Str)) = false := by decide) : PE X (.Call (.Name x p) [] [] pos) (lf X.K (f1 X.w T eo) (hCall sp 0 hNil)) := by
  obtain ⟨fa, fd, ps, _, G, hm, kp, b⟩ := h.ex
  refine (pe_callG0 (E := E0) G hgd hr hg hm kp b pass0 hdb).mono fun σ H Q q => ?_
  obtain ⟨F, O, G, s, C, R, ht, kk⟩ := q
  obtain ⟨c2, c3, c4⟩ := ht
  show SpH X.K X.w T 0 sp ([] ++ []) H Q E0
  exact spH_call (f := f1 X.w T eo) R .nil c2 c3 c4 fun p n' G' H' v c e2 R2 V2 => kk p ⟨s.sl, n'⟩ G' H' v c e2 R2 V2
end Sk
set_option Elab.async false
set_option linter.all false
set_option maxRecDepth 100000
set_option maxHeartbeats 2000000
namespace Sk
open PySem PySem.Spec PyProof.Rows L2
open PySem.W (Datum DatumOrd Tup T3 T4)
class KD (α : Type) [DecidableEq α] [Datum α] where
  inj : ∀ a b : α, keyN (Datum.toD a) = keyN (Datum.toD b) → a = b
  imm : ∀ a : α, imm (Datum.toD a) = true
  dep : Nat
  dle : ∀ a : α, (keyN (Datum.toD a)).depth ≤ dep
theorem keyNs_inj {α : Type} [DecidableEq α] [Datum α] [KD α] : ∀ {xs ys : List α}, keyNs (xs.map Datum.toD) = keyNs (ys.map Datum.toD) → xs = ys
  | [], [], _ => rfl
  | [], _ :: _, h => by simp [keyNs] at h
  | _ :: _, [], h => by simp [keyNs] at h
  | x :: xs, y :: ys, h => by
    simp only [List.map_cons, keyNs, List.cons.injEq] at h
    rw [KD.inj x y h.1, keyNs_inj h.2]
theorem immAll_D {α : Type} [DecidableEq α] [Datum α] [KD α] : ∀ xs : List α, immAll (xs.map Datum.toD) = true
  | [] => rfl
  | x :: xs => by rw [List.map_cons, immAll, KD.imm, immAll_D xs]; rfl
theorem depAll_D {α : Type} [DecidableEq α] [Datum α] [KD α] : ∀ xs : List α, NestedKey.depthAll (keyNs (xs.map Datum.toD)) ≤ KD.dep α
  | [] => Nat.zero_le _
  | x :: xs => by
    simp only [List.map_cons, keyNs, NestedKey.depthAll]
    exact Nat.max_le.mpr ⟨KD.dle x, depAll_D xs⟩
instance : KD Int where
  inj a b h := by cases h; rfl
  imm _ := rfl
  dep := 0
  dle _ := Nat.le_refl _
instance : KD Str where
  inj a b h := by cases h; rfl
  imm _ := rfl
  dep := 0
  dle _ := Nat.le_refl _
instance : KD Bool where
  inj a b h := by cases a <;> cases b <;> first | rfl | (simp [keyN, Datum.toD] at h)
  imm _ := rfl
  dep := 0
  dle a := by cases a <;> exact Nat.le_refl _
instance {α β : Type} [DecidableEq α] [Datum α] [DecidableEq β] [Datum β] [KD α] [KD β] : KD (α × β) where
  inj a b h := by
    have h : NestedKey.tup [keyN (Datum.toD a.1), keyN (Datum.toD a.2)] = NestedKey.tup [keyN (Datum.toD b.1), keyN (Datum.toD b.2)] := h
    injection h with h
    simp only [List.cons.injEq, and_true] at h
    exact Prod.ext (KD.inj _ _ h.1) (KD.inj _ _ h.2)
  imm a := by
    show (Sk.imm (Datum.toD a.1) && (Sk.imm (Datum.toD a.2) && true)) = true
    rw [KD.imm, KD.imm]; rfl
  dep := max (KD.dep α) (KD.dep β) + 1
  dle a := by
    show max (keyN (Datum.toD a.1)).depth (max (keyN (Datum.toD a.2)).depth 0) + 1 ≤ _
    have h1 := KD.dle a.1
    have h2 := KD.dle a.2
    omega
instance {α : Type} [DecidableEq α] [Datum α] [KD α] : KD (Tup α) where
  inj a b h := by
    have h : NestedKey.tup (keyNs (a.items.map Datum.toD)) = NestedKey.tup (keyNs (b.items.map Datum.toD)) := h
    injection h with h
    have := keyNs_inj h
    cases a; cases b
    simp at this
    rw [this]
  imm a := immAll_D a.items
  dep := KD.dep α + 1
  dle a := by
    show NestedKey.depthAll (keyNs (a.items.map Datum.toD)) + 1 ≤ _
    exact Nat.succ_le_succ (depAll_D a.items)
instance {α β γ : Type} [DecidableEq α] [Datum α] [DecidableEq β] [Datum β] [DecidableEq γ] [Datum γ] [KD α] [KD β] [KD γ] : KD (T3 α β γ) where
  inj a b h := by
    have h : NestedKey.tup [keyN (Datum.toD a.a), keyN (Datum.toD a.b), keyN (Datum.toD a.c)] = NestedKey.tup [keyN (Datum.toD b.a), keyN (Datum.toD b.b), keyN (Datum.toD b.c)] := h
    injection h with h
    simp only [List.cons.injEq, and_true] at h
    cases a; cases b
    simp only at h
    rw [KD.inj _ _ h.1, KD.inj _ _ h.2.1, KD.inj _ _ h.2.2]
  imm a := by
    show (Sk.imm (Datum.toD a.a) && (Sk.imm (Datum.toD a.b) && (Sk.imm (Datum.toD a.c) && true))) = true
    rw [KD.imm, KD.imm, KD.imm]; rfl
  dep := max (KD.dep α) (max (KD.dep β) (KD.dep γ)) + 1
  dle a := by
    show max (keyN (Datum.toD a.a)).depth (max (keyN (Datum.toD a.b)).depth (max (keyN (Datum.toD a.c)).depth 0)) + 1 ≤ _
    have h1 := KD.dle a.a
    have h2 := KD.dle a.b
    have h3 := KD.dle a.c
    omega
section
variable {α : Type} [DecidableEq α] [Datum α] [KD α]
theorem keyOk_D (h : KD.dep α ≤ 8) (a : α) : KeyOk (Datum.toD a) := ⟨KD.imm a, Nat.le_trans (KD.dle a) h⟩
theorem keyN_D (a b : α) : decide (keyN (Datum.toD a) = keyN (Datum.toD b)) = decide (a = b) := decide_eq_decide.mpr ⟨KD.inj a b, fun h => by rw [h]⟩
def kvD (ms : List (α × PyData)) : List (PyData × PyData) := ms.map fun m => (Datum.toD m.1, m.2)
theorem getG_D (ms : List (α × PyData)) (a : α) : getG (kvD ms) (Datum.toD a) = (ms.find? fun m => decide (m.1 = a)).map (·.2) := by
  induction ms with
  | nil => rfl
  | cons m ms ih =>
    unfold getG kvD at ih ⊢
    simp only [List.map_cons, List.find?_cons, keyN_D]
    by_cases h : m.1 = a
    · simp [h]
    · simp only [h, decide_false]
      exact ih
theorem getG_none {ms : List (α × PyData)} {a : α} : getG (kvD ms) (Datum.toD a) = none ↔ a ∉ ms.map (·.1) := by
  rw [getG_D, Option.map_eq_none_iff, List.find?_eq_none]
  constructor
  · intro h hm
    obtain ⟨m, hm, e⟩ := List.mem_map.mp hm
    have := h m hm
    simp [e] at this
  · intro h m hm
    simp only [decide_eq_true_eq]
    exact fun e => h (List.mem_map.mpr ⟨m, hm, e⟩)
theorem getG_some {ms : List (α × PyData)} {a : α} {x : PyData} (nd : (ms.map (·.1)).Nodup) (h : (a, x) ∈ ms) : getG (kvD ms) (Datum.toD a) = some x := by
  rw [getG_D]
  induction ms with
  | nil => cases h
  | cons m ms ih =>
    rw [List.map_cons, List.nodup_cons] at nd
    by_cases e : m.1 = a
    · rcases List.mem_cons.mp h with h | h
      · subst h; simp
      · exact absurd (List.mem_map.mpr ⟨_, h, e.symm⟩) nd.1
    · rcases List.mem_cons.mp h with h | h
      · subst h; exact absurd rfl e
      · simp only [List.find?_cons, e, decide_false]
        exact ih nd.2 h
theorem putDG_new {ms : List (α × PyData)} {a : α} {x : PyData} (h : a ∉ ms.map (·.1)) : putDG (kvD ms) (Datum.toD a) x = kvD (ms ++ [(a, x)]) := by
  have e : ((kvD ms).any fun kv => decide (keyN kv.1 = keyN (Datum.toD a))) = false := by
    rw [List.any_eq_false]
    intro kv hk
    obtain ⟨m, hm, rfl⟩ := List.mem_map.mp hk
    rw [keyN_D]
    simp only [decide_eq_true_eq]
    exact fun z => h (List.mem_map.mpr ⟨m, hm, z⟩)
  unfold putDG
  rw [if_neg (by rw [e]; decide)]
  simp [kvD]
theorem kvD_len (ms : List (α × PyData)) : (kvD ms).length = ms.length := List.length_map ..
def kvT (met : List α) : List (PyData × PyData) := kvD (met.map fun a => (a, PyData.bool true))
theorem kvT_map (met : List α) : (met.map fun a => (a, PyData.bool true)).map (·.1) = met := by rw [List.map_map]; exact List.map_id _
theorem kvT_len (met : List α) : (kvT met).length = met.length := by unfold kvT; rw [kvD_len, List.length_map]
theorem putDG_kvT {met : List α} {a : α} (h : a ∉ met) : putDG (kvT met) (Datum.toD a) (.bool true) = kvT (met ++ [a]) := by
  unfold kvT
  rw [putDG_new (by rw [kvT_map]; exact h), List.map_append]
  rfl
end
@[simp] theorem din_dcg {d : PyData} {kvs : List (PyData × PyData)} {neg : Bool} {C : PV → Prop} : dinGW neg [.dat d, .dcg kvs] C ↔ KeyOk d ∧ C (.dat (.bool (if neg then !(getG kvs d).isSome else (getG kvs d).isSome))) := by simp [dinGW, PV.dg]
@[simp] theorem din_dgf {d : PyData} {kvs : List (PyData × PyData)} {neg : Bool} {C : PV → Prop} : dinGW neg [.dat d, .dgf kvs] C ↔ KeyOk d ∧ C (.dat (.bool (if neg then !(getG kvs d).isSome else (getG kvs d).isSome))) := by simp [dinGW, PV.dg]
@[simp] theorem dget_dcg {d : PyData} {kvs : List (PyData × PyData)} {C : PV → Prop} : dgetGW [.dcg kvs, .dat d] C ↔ ∃ x, KeyOk d ∧ getG kvs d = some x ∧ C (.dat x) := by simp [dgetGW, PV.dg]
@[simp] theorem dget_dgf {d : PyData} {kvs : List (PyData × PyData)} {C : PV → Prop} : dgetGW [.dgf kvs, .dat d] C ↔ ∃ x, KeyOk d ∧ getG kvs d = some x ∧ C (.dat x) := by simp [dgetGW, PV.dg]
@[simp] theorem dg_dcg {kvs : List (PyData × PyData)} : PV.dg (.dcg kvs) = some kvs := rfl
@[simp] theorem dg_dgf {kvs : List (PyData × PyData)} : PV.dg (.dgf kvs) = some kvs := rfl
theorem nodup_map {α β : Type} {g : α → β} : ∀ {xs : List α}, xs.Nodup → (∀ a ∈ xs, ∀ b ∈ xs, g a = g b → a = b) → (xs.map g).Nodup
  | [], _, _ => List.nodup_nil
  | x :: xs, h, k => by
    rw [List.nodup_cons] at h
    rw [List.map_cons, List.nodup_cons]
    refine ⟨fun hm => ?_, nodup_map h.2 fun a ha b hb => k a (List.mem_cons_of_mem _ ha) b (List.mem_cons_of_mem _ hb)⟩
    obtain ⟨y, hy, e⟩ := List.mem_map.mp hm
    exact h.1 (k y (List.mem_cons_of_mem _ hy) x List.mem_cons_self e ▸ hy)
inductive Rch {α : Type} (B : α → Prop) (nx : α → List α) : α → Prop where
  | base {x : α} (h : B x) : Rch B nx x
  | step {x y : α} (h : Rch B nx x) (hy : y ∈ nx x) : Rch B nx y
structure WL {α : Type} (B : α → Prop) (nx : α → List α) (met wt : List α) : Prop where
  nd : met.Nodup
  mr : ∀ x ∈ met, Rch B nx x
  wr : ∀ x ∈ wt, Rch B nx x
  bs : ∀ x, B x → x ∈ met ∨ x ∈ wt
  cl : ∀ x ∈ met, ∀ y ∈ nx x, y ∈ met ∨ y ∈ wt
section
variable {α : Type} {B : α → Prop} {nx : α → List α} {met wt : List α} {e : α}
theorem WL.end (h : WL B nx met []) {x : α} : x ∈ met ↔ Rch B nx x := by
  constructor
  · exact h.mr x
  · intro r
    induction r with
    | base hb => exact (h.bs _ hb).resolve_right List.not_mem_nil
    | step _ hy ih => exact (h.cl _ ih _ hy).resolve_right List.not_mem_nil
theorem WL.skip (h : WL B nx met (wt ++ [e])) (he : e ∈ met) : WL B nx met wt := by
  have back : ∀ {x}, (x ∈ met ∨ x ∈ wt ++ [e]) → (x ∈ met ∨ x ∈ wt) := fun {x} q => by
    rcases q with q | q
    · exact Or.inl q
    · rcases List.mem_append.mp q with q | q
      · exact Or.inr q
      · rw [List.mem_singleton.mp q]; exact Or.inl he
  exact ⟨h.nd, h.mr, fun x hx => h.wr x (List.mem_append.mpr (Or.inl hx)), fun x hx => back (h.bs x hx), fun x hx y hy => back (h.cl x hx y hy)⟩
theorem WL.go (h : WL B nx met (wt ++ [e])) (he : e ∉ met) : WL B nx (met ++ [e]) (wt ++ nx e) := by
  have re := h.wr e (by simp)
  have up : ∀ {x}, (x ∈ met ∨ x ∈ wt ++ [e]) → (x ∈ met ++ [e] ∨ x ∈ wt ++ nx e) := fun {x} q => by
    rcases q with q | q
    · exact Or.inl (List.mem_append.mpr (Or.inl q))
    · rcases List.mem_append.mp q with q | q
      · exact Or.inr (List.mem_append.mpr (Or.inl q))
      · rw [List.mem_singleton.mp q]; exact Or.inl (by simp)
  refine ⟨List.nodup_append.mpr ⟨h.nd, by simp, fun a ha b hb q => he (by rw [← List.mem_singleton.mp hb, ← q]; exact ha)⟩, fun x hx => ?_, fun x hx => ?_, fun x hx => up (h.bs x hx), fun x hx y hy => ?_⟩
  · rcases List.mem_append.mp hx with hx | hx
    · exact h.mr x hx
    · rw [List.mem_singleton.mp hx]; exact re
  · rcases List.mem_append.mp hx with hx | hx
    · exact h.wr x (List.mem_append.mpr (Or.inl hx))
    · exact .step re hx
  · rcases List.mem_append.mp hx with hx | hx
    · exact up (h.cl x hx y hy)
    · rw [List.mem_singleton.mp hx] at hy
      exact Or.inr (List.mem_append.mpr (Or.inr hy))
end
end Sk
set_option Elab.async false
set_option linter.all false
set_option maxRecDepth 100000
set_option maxHeartbeats 2000000
namespace Sk
open PySem PySem.Spec PyProof.Rows L2
open Evl (Ex)
@[simp] def gPL (i j : Nat) : HG := fun d s C => match d with
  | .list [a, b] => C ((s.put i (.dat a)).put j (.dat b))
  | _ => False
@[simp] def gTL (i j k : Nat) : HG := fun d s C => match d with
  | .list [a, b, c] => C (((s.put i (.dat a)).put j (.dat b)).put k (.dat c))
  | _ => False
section
variable {X : Cx} {f : Fr} {a : Expr} {i j l : Nat}
end
theorem eqP_same {neg : Bool} {p q : PV} {d : PyData} {C : PV → Prop} (hp : p.frz = some d) (hq : q.frz = some d) (h1 : d.plain = true) (h2 : d.depth ≤ 60) (c : C (.dat (.bool (!neg)))) : eqP neg [p, q] C := by
  refine ⟨d, d, hp, hq, h1, h1, by omega, ?_⟩
  rw [SeqAt.eqv_refl_plain d h1]
  cases neg <;> exact c
end Sk
set_option Elab.async false
set_option linter.all false
set_option maxRecDepth 100000
set_option maxHeartbeats 2000000
namespace Sk
open PySem PySem.Spec PyProof.Rows L2
open Evl (Ex)
@[simp] def inRW (neg : Bool) : List PV → (PV → Prop) → Prop := i2' fun i n => .bool (if neg then !decide (0 ≤ i ∧ i < n) else decide (0 ≤ i ∧ i < n))
section
variable {X : Cx} {f : Fr} {a b : Expr} {oa ob : HA → HA} {p q pos : Pos}
end
end Sk
namespace Sk
open PySem PySem.Spec PyProof.Rows L2
section
variable {prog : Program} {w : World} {A : Around} {E : Value → Shared → Prop} {s : Shared}
def F0 (v : Value) : Prop := v = .none ∨ ∃ T : Addr, v = rawInt T
end
@[simp] def hiZN (ta : HA) : HI := fun s C => ta s fun ps s1 => match ps with
  | [.dat (.tuple ds), .dat (.tuple es)] => C (zipD ds es) s1
  | _ => False
section
variable {X : Cx} {f : Fr} {a b : Expr} {r : HA}
end
end Sk
set_option Elab.async false
set_option linter.all false
set_option maxRecDepth 100000
set_option maxHeartbeats 2000000
namespace Sk
open PySem PySem.Spec PyProof.Rows L2
open Evl (Ex)
section
variable {X : Cx} {f : Fr} {a : Expr} {oa : HA → HA} {p q pos q1 q2 : Pos}
end
end Sk
namespace Sk
open PySem PySem.Spec PyProof.Rows L2
open Evl (Ex)
section
variable {X : Cx} {f : Fr} {tg e : Expr} {t : HE}
@[simp] def hiA (t : HE) : HI := fun s C => t s fun p s1 => match p.frz with
  | some (.list ds) => C ds s1
  | some (.tuple ds) => C ds s1
  | _ => False
end
end Sk
set_option Elab.async false
set_option linter.all false
set_option maxRecDepth 100000
set_option maxHeartbeats 1000000
namespace Sk
open PySem PySem.Spec PyProof.Rows L2
open Evl (Ex)
section
variable {X : Cx}
variable {f : Fr}
end
end Sk
set_option maxHeartbeats 2000000
namespace Sk
open PySem PySem.Spec PyProof.Rows L2
open Evl (Ex)
section
variable {X : Cx} {f : Fr}
@[simp] def hUpdL (j : Nat) (t : HE) : HE := fun s C => (∃ kvs, s.sl[j]? = some (some (.dct kvs))) ∧ t s fun p s1 => ∃ ds more kvs, p.lst = some ds ∧ pairsD ds = some more ∧ s1.sl[j]? = some (some (.dct kvs)) ∧ kvs.length + more.length ≤ 100000 ∧ C (.dat .none) (s1.put j (.dct (mergeD kvs more)))
end
end Sk
set_option Elab.async false
set_option linter.all false
set_option maxRecDepth 100000
namespace Sk
open PySem PySem.Spec PyProof.Rows L2
open PySem.W (Datum DatumOrd Tup T3 T4)
open Evl (Ex)
section
variable {X : Cx} {f : Fr}
end
end Sk
set_option maxHeartbeats 2000000
namespace Sk
open PySem PySem.Spec PyProof.Rows L2
open Evl (Ex)
section
variable {X : Cx} {f : Fr}
def isB (neg : Bool) : List PV → (PV → Prop) → Prop := fun ps C => match ps with
  | [.dat (.bool a), .dat (.bool b)] => C (.dat (.bool (if neg then !(a == b) else a == b)))
  | _ => False
end
end Sk
set_option Elab.async false
set_option linter.all false
set_option maxRecDepth 100000
set_option maxHeartbeats 2000000
namespace Sk
open PySem PySem.Spec PyProof.Rows L2
open Evl (Ex)
open Sem (wp)
open AutoSeq1 (wpAny_loadPart')
section
variable {prog : Program} {w : World} {A : Around} {E : Value → Shared → Prop} {s : Shared}
end
section
variable {X : Cx} {f : Fr} {a : Expr} {r : HA} {pos : Pos}
@[simp] def hiET (ta : HA) : HI := fun s C => ta s fun ps s1 => match ps with
  | [.dat (.tuple ds)] => C (enumD 0 ds) s1
  | _ => False
end
end Sk
set_option Elab.async false
set_option linter.all false
set_option maxRecDepth 100000
set_option maxHeartbeats 2000000
namespace Sk
open PySem PySem.Spec PyProof.Rows L2
open PySem.W (Datum DatumOrd Tup T3 T4)
open Evl (Ex)
section
variable {w : World} {prog : Program} {A : Around} {E : Value → Shared → Prop} {d : Addr}
theorem g_storeAll (hu : A.units + 8 < cLine) : ∀ (rs acc : List RE) (s : Shared) (Q : PUnit → Shared → Prop), (∀ r ∈ rs, NestedIs s.heap r.1 r.2.1 ∧ r.1.depth ≤ 8) → GAt w s.heap d acc → acc.length + rs.length ≤ sizeLine → (∀ h' tk, GAt w h' d (gputs acc rs) → Heap.SameBut d s.heap h' → Q PUnit.unit { s with heap := h', toks := tk }) →
    wpAny (model prog w) A (forIn (rs.map fun r => (r.2.1, r.2.2)) PUnit.unit fun (x : Value × Value) (_ : PUnit) => (do dictSet d x.1 x.2; pure (ForInStep.yield PUnit.unit) : Sem (ForInStep PUnit))) Q E s
  | [], acc, s, Q, _, m, _, h => by
    rw [List.map_nil, List.forIn_nil]
    exact wpAny_pure (h s.heap s.toks m (Heap.SameBut.refl _ _))
  | r :: rs, acc, s, Q, hk, m, hz, h => by
    rw [List.length_cons] at hz
    rw [List.map_cons, List.forIn_cons]
    obtain ⟨k1, k2⟩ := hk r List.mem_cons_self
    obtain ⟨_, _, o, es, ep, ho, hx, hdat, he⟩ := id m
    refine wpAny_bind (wpAny_bind (gset hu k1 k2 m (by omega) fun h1 m1 sb => wpAny_pure ?_))
    have st := same_seq ho hdat sb
    refine g_storeAll hu rs _ _ Q (fun x hx => ?_) m1 (Nat.le_trans (Nat.add_le_add_right (gput_len acc r.1 r.2.1 r.2.2) _) (by omega)) fun h' tk m' sb' => h h' tk m' (sb.trans sb')
    obtain ⟨x1, x2⟩ := hk x (List.mem_cons_of_mem _ hx)
    exact ⟨NestedIs.at st _ _ x1, x2⟩
end
def tDispG (K : PySem.W.Frag) (w : World) (trs : List (TE × TE)) : TE := fun σ H Q => ∀ p o, H p = none → tPairs trs σ (upd H p (GDo w p (o, []))) fun ps H2 => H2 p = some (GDo w p (o, [])) ∧ ∃ ms : List GEnt, ps = ms.map (·.2) ∧ KeysIn K H2 ms ∧ ms.length ≤ 15 ∧ ∀ o', Q (.ref p) (upd H2 p (GDo w p (o', mergeG [] ms)))
theorem pe_dispG {X : Cx} {pos : Pos} {keys : List (Option Expr)} {values : List Expr} {trs : List (TE × TE)} (hu : X.A.units + 64 < cLine) (h : PPs X pos keys values trs) (hall : keys.all (·.isSome) = true) (hl : keys.length = values.length) (h0 : keys ≠ [])
    (h15 : keys.length ≤ 15) : PE X (.Dict keys values pos) (tDispG X.K X.w trs) := by
  refine ⟨fun pins s σ H Q I q => ?_⟩
  have hn := I.hok.fresh (Nat.le_refl s.heap.objs.size)
  have big := I.big
  obtain ⟨o, ok⟩ := gd_new (P := X.prog) (H' := upd H s.heap.objs.size (GDo X.w s.heap.objs.size ({ cls := .type "dict", data := .dict #[] }, []))) (gnew (w := X.w) s.heap) .nil (beq_eq_false_iff_ne.mpr (Nat.ne_of_gt I.big)) (Nat.zero_le _)
  have I' := I.laid (a := s.heap.objs.size) (o := GDo X.w s.heap.objs.size (o, [])) (t' := s.toks) (h' := s.heap.push { cls := .type "dict", data := .dict #[] }) (fun _ _ q => Heap.get?_push_of_some _ q) (Nat.le_refl _) ok
  have hpn := pairTrees_length keys values X.env pos hall hl
  have hne : pairTrees keys values X.env pos ≠ [] := fun he => h0 (List.length_eq_zero_iff.mp (by rw [he] at hpn; exact hpn.symm))
  rw [arm_eval_Dict, zip_pairTrees keys values X.env pos hall hl, dictDisplay_pairs _ hne (by omega)]
  refine wpAny_bind (wpAny_standAt (wpAny_bind ?_))
  unfold subDict
  refine wpAny_bind (wpAny_alloc ?_)
  refine wpAny_bind (wpAny_holding ?_)
  rw [if_pos (by omega)]
  refine wpAny_bind (thn (h.run pins _ σ _ _ I' (q _ o hn)) fun ws s2 ⟨ps, H2, I2, rel, e, ms, ep, ki, lk, q2⟩ => ?_)
  subst ep
  obtain ⟨rs0, g0, m0, hs, _⟩ := gat_of I2 ⟨o, e⟩ (fun _ z => by cases z)
  cases g0
  have key : ∀ (ms : List GEnt) (ws : List (Value × Value)), VV (ms.map (·.2)) ws → KeysIn X.K H2 ms → ∃ rs : List RE, Paired GP ms rs ∧ ws = rs.map (fun r => (r.2.1, r.2.2)) ∧ ∀ r ∈ rs, NestedIs s2.heap r.1 r.2.1 ∧ r.1.depth ≤ 8 := by
    intro ms
    induction ms with
    | nil => intro ws v _; cases v; exact ⟨[], .nil, rfl, fun _ z => by cases z⟩
    | cons z ms ih =>
      intro ws v ki
      rw [List.map_cons] at v
      cases v with
      | @cons _ u _ us h t =>
        obtain ⟨rs, a1, a2, a3⟩ := ih _ t fun x hx => ki x (List.mem_cons_of_mem _ hx)
        refine ⟨(z.1, u.1, u.2) :: rs, .cons ⟨rfl, h.1, h.2⟩ a1, by rw [a2]; rfl, fun r hr => ?_⟩
        rcases List.mem_cons.mp hr with rfl | hr
        · exact keys_at I2 ki z List.mem_cons_self _ h.1
        · exact a3 r hr
  obtain ⟨rs, r1, r2, r3⟩ := key ms ws rel ki
  subst r2
  have lr : ms.length = rs.length := Paired.length r1
  refine wpAny_holding ?_
  refine wpAny_bind (g_storeAll (by omega) rs [] s2 _ r3 m0 (by rw [sizeLine_eq, List.length_nil]; omega) fun h' tk m' sb => wpAny_pure (wpAny_pure (wpAny_pure ?_)))
  obtain ⟨o', I3⟩ := g_write (tk := tk) I2 ⟨o, e⟩ m' (gp_merge r1 .nil) hs (by
    have h1 := mergeG_len ms []
    rw [List.length_nil] at h1
    rw [sizeLine_eq]; omega) sb
  exact ⟨.ref s.heap.objs.size, _, I3, rfl, q2 o'⟩
def flatV : List (V × V) → List V
  | [] => []
  | p :: r => p.1 :: p.2 :: flatV r
def flatD : List (PyData × PyData) → List PV
  | [] => []
  | p :: r => .dat p.1 :: .dat p.2 :: flatD r
structure PPh (X : Cx) (f : Fr) (pos : Pos) (keys : List (Option Expr)) (values : List Expr) (r : HA) : Prop where
  ex : ∃ trs, PPs X pos keys values trs ∧ ∀ σ H (Q : List V → Hp → Prop), lfA X.K f r σ H Q → tPairs trs σ H fun ps H' => Q (flatV ps) H'
theorem Rel.beside4 {f : Fr} {K : PySem.W.Frag} {F : Fr} {O : Addr → Prop} {G H : Hp} {s : Sg} {σ : L2.St} {D : Addr} {o : HO} (R : Rel K (fo f (F.up D o) fun a => O a ∨ a = D) G s σ H) (hP : ∀ en, f.e = some en → EntOk en (fo f F O) G) (hM : ¬ F.M D) (hO : ¬ O D) (hF : F.F D = none) (hc : F.on = true → D ≠ F.c) : Rel K (fo f F O) G s σ H ∧ ∀ p, VR K (fo f F O) G H p (.ref D) → VRf K (fo f F O) G H s σ p (.ref D) := by
  have sl' : ∀ (i : Nat) (p : PV), s.sl[i]? = some (some p) → ∃ v : V, σ[i]? = some (some v) ∧ VR K (fo f F O) G H p v := fun i p h => by
    obtain ⟨v, h1, h2⟩ := R.sl i p h
    refine ⟨v, h1, ?_⟩
    cases p with
    | dat d => exact h2
    | drw => exact h2
    | val _ => exact h2
    | dgf _ => exact h2
    | abs _ => exact h2
    | own ds =>
      obtain ⟨a, vs, rfl, k1, k2, k3, k4, k5⟩ := h2
      have ne : a ≠ D := fun z => k3 (Or.inr z)
      exact ⟨a, vs, rfl, k1, k2, fun z => k3 (Or.inl z), k4.elim (fun z => Or.inl (by have z' : upd F.F D o a = none := z; rw [upd_ne ne] at z'; exact z')) Or.inr, k5⟩
    | byr ds =>
      obtain ⟨a, vs, rfl, k1, k2, k3, k4, k5, k6⟩ := h2
      have ne : a ≠ D := fun z => k3 (Or.inr z)
      exact ⟨a, vs, rfl, k1, k2, fun z => k3 (Or.inl z), k4.elim (fun z => Or.inl (by have z' : upd F.F D o a = none := z; rw [upd_ne ne] at z'; exact z')) Or.inr, k5, k6⟩
    | dct ds =>
      obtain ⟨a, vs, rfl, k1, k2, k3, k4, k5, k6⟩ := h2
      have ne : a ≠ D := fun z => k3 (Or.inr z)
      exact ⟨a, vs, rfl, k1, k2, fun z => k3 (Or.inl z), k4.elim (fun z => Or.inl (by have z' : upd F.F D o a = none := z; rw [upd_ne ne] at z'; exact z')) Or.inr, k5, k6⟩
    | dcg ds =>
      obtain ⟨a, vs, rfl, k1, k2, k3, k4, k5⟩ := h2
      have ne : a ≠ D := fun z => k3 (Or.inr z)
      exact ⟨a, vs, rfl, k1, k2, fun z => k3 (Or.inl z), k4.elim (fun z => Or.inl (by have z' : upd F.F D o a = none := z; rw [upd_ne ne] at z'; exact z')) Or.inr, k5⟩
  refine ⟨{ gh := R.gh, fh := fun a u m h => R.fh a u m (show upd F.F D o a = some u from ?_), go := fun a h => R.go a (Or.inl h), oh := fun a h => R.oh a (Or.inl h), mh := R.mh, mo := fun h => ?_, tm := fun p hp => ⟨(R.tm p hp).1.elim id fun z => absurd (z ▸ (R.tm p hp).2) hM, (R.tm p hp).2⟩, tb := R.tb, pk := hP, dr := R.dr, ln := R.ln, sl := sl', ds := R.ds }, fun p V => ⟨V, fun hm i q h1 h2 h3 => ?_⟩⟩
  · have h' : F.F a = some u := h
    rw [upd_ne (fun z => by rw [z, hF] at h'; cases h')]; exact h'
  · obtain ⟨a, b, c, d, e⟩ := R.mo h
    have nn : ∀ {x : Addr}, (O x ∨ x = D) → F.M x → O x := fun z m => z.elim id fun z => absurd (z ▸ m) hM
    exact ⟨nn a d, nn b e, c.elim id fun z => absurd z.symm (hc h), d, e⟩
  · obtain ⟨v, h4, h5⟩ := R.sl i q h1
    rw [h3] at h4
    cases h4
    cases q with
    | dat d => cases h2
    | drw => cases h2
    | val _ => cases h2
    | dgf _ => cases h2
    | abs _ => cases h2
    | own ds => obtain ⟨p, _, e, _, _, h6, _⟩ := h5; cases e; exact h6 (Or.inr rfl)
    | byr ds => obtain ⟨p, _, e, _, _, h6, _⟩ := h5; cases e; exact h6 (Or.inr rfl)
    | dct ds => obtain ⟨p, _, e, _, _, h6, _⟩ := h5; cases e; exact h6 (Or.inr rfl)
    | dcg ds => obtain ⟨p, _, e, _, _, h6, _⟩ := h5; cases e; exact h6 (Or.inr rfl)
@[simp] def hDispG (r : HA) : HE := fun s C => r s fun ps s1 => ∃ kvs, ps = flatD kvs ∧ (∀ kv ∈ kvs, KeyOk kv.1) ∧ kvs.length ≤ 15 ∧ C (.dcg (mergeDG [] kvs)) s1
theorem flatV_inj : ∀ {ps qs : List (V × V)}, flatV ps = flatV qs ↔ ps = qs
  | [], [] => by simp [flatV]
  | [], q :: qs => by simp [flatV]
  | p :: ps, [] => by simp [flatV]
  | p :: ps, q :: qs => by
    simp only [flatV, List.cons.injEq, flatV_inj (ps := ps) (qs := qs)]
    constructor
    · rintro ⟨a, b, c⟩; exact ⟨Prod.ext a b, c⟩
    · rintro ⟨rfl, c⟩; exact ⟨rfl, rfl, c⟩
theorem flat_dp {K : PySem.W.Frag} {f : Fr} {G H : Hp} : ∀ {kvs : List (PyData × PyData)} {vs : List V}, (∀ kv ∈ kvs, KeyOk kv.1) → VRs K f G H (flatD kvs) vs → ∃ ms : List GEnt, vs = flatV (ms.map (·.2)) ∧ Paired (GQ K G) ms kvs
  | [], _, _, h => by cases h; exact ⟨[], rfl, .nil⟩
  | kv :: kvs, _, ok, h => by
    cases h with
    | cons v1 h =>
      cases h with
      | cons v2 h =>
        obtain ⟨ms, e, q⟩ := flat_dp (fun x hx => ok x (List.mem_cons_of_mem _ hx)) h
        exact ⟨(keyN kv.1, _, _) :: ms, by rw [e]; rfl, .cons ⟨rfl, ok kv List.mem_cons_self, v1, v2⟩ q⟩
section
variable {X : Cx} {f : Fr} {pos : Pos}
theorem pph_nil : PPh X f pos [] [] hNil := ⟨[], pps_nil, fun σ H Q q => by
  obtain ⟨F, O, G, s, C, R, ht, k⟩ := q
  exact k _ _ _ _ _ ht (Ex.refl G) R .nil⟩
theorem pph_cons {k v : Expr} {ks : List (Option Expr)} {vs : List Expr} {ok ov : HA → HA} {r : HA} (hk : Opd X f k ok) (hv : Opd X f v ov) (hr : PPh X f pos ks vs r) : PPh X f pos (some k :: ks) (v :: vs) (ok (ov r)) := by
  obtain ⟨tk, k1, k2⟩ := hk.ex
  obtain ⟨tv, v1, v2⟩ := hv.ex
  obtain ⟨trs, r1, r2⟩ := hr.ex
  exact ⟨_, pps_cons k1 v1 r1, fun σ H Q q => k2 (tCons tv fun σ H Q' => tPairs trs σ H fun ps H3 => Q' (flatV ps) H3) (ov r) (v2 _ r fun σ H Q' q => r2 σ H Q' q) σ H Q q⟩
theorem hp_dispG {keys : List (Option Expr)} {values : List Expr} {r : HA} (hw : f.w = X.w) (hu : X.A.units + 64 < cLine) (h : PPh X f pos keys values r) (hall : keys.all (·.isSome) = true := by rfl) (hl : keys.length = values.length := by rfl) (h0 : keys ≠ [] := by decide)
    (h15 : keys.length ≤ 15 := by decide) : PE X (.Dict keys values pos) (lf X.K f (hDispG r)) := by
  obtain ⟨trs, h1, h2⟩ := h.ex
  refine (pe_dispG hu h1 hall hl h0 h15).mono fun σ H Q q => ?_
  obtain ⟨F, O, G, s, C, R, ht, k⟩ := q
  intro D o hD
  have hM : ¬ F.M D := fun z => R.mh D z hD
  have hO : ¬ O D := fun z => R.oh D z hD
  have hF : F.F D = none := (R.fr_none hD).elim id fun z => absurd z hM
  have hd : F.on = true → D ≠ F.m ∧ D ≠ F.l ∧ D ≠ F.c := fun h => by
    obtain ⟨a, b, c, _⟩ := R.mo h
    have nn : ∀ {x : Addr}, O x → D ≠ x := fun z q => hO (by rw [q]; exact z)
    exact ⟨nn a, nn b, nn c⟩
  have e : (fun (ps : List (V × V)) (H2 : Hp) => H2 D = some (GDo X.w D (o, [])) ∧ ∃ ms : List GEnt, ps = ms.map (·.2) ∧ KeysIn X.K H2 ms ∧ ms.length ≤ 15 ∧ ∀ o', Q (.ref D) (upd H2 D (GDo X.w D (o', mergeG [] ms)))) = fun ps H2 => (fun (vs : List V) (H2 : Hp) => H2 D = some (GDo X.w D (o, [])) ∧ ∃ ms : List GEnt, vs = flatV (ms.map (·.2)) ∧ KeysIn X.K H2 ms ∧ ms.length ≤ 15 ∧ ∀ o', Q (.ref D) (upd H2 D (GDo X.w D (o', mergeG [] ms)))) (flatV ps) H2 := by
    funext ps H2
    simp only [flatV_inj]
  rw [e]
  refine h2 σ (upd H D (GDo X.w D (o, []))) (fun (vs : List V) (H2 : Hp) => H2 D = some (GDo X.w D (o, [])) ∧ ∃ ms : List GEnt, vs = flatV (ms.map (·.2)) ∧ KeysIn X.K H2 ms ∧ ms.length ≤ 15 ∧ ∀ o', Q (.ref D) (upd H2 D (GDo X.w D (o', mergeG [] ms)))) ⟨_, _, G, s, _, R.beside hD, ht, fun ps s1 G1 H1 vs c1 e1 R1 V1 => ?_⟩
  obtain ⟨kvs, rfl, c2, c3, c4⟩ := c1
  obtain ⟨ms, rfl, q⟩ := flat_dp c2 V1
  refine ⟨R1.fh D _ hM (show upd F.F D _ D = _ by rw [upd_same]), ms, rfl, ((GRel.of q).ex R1.gh).keysIn, by rw [Paired.length q]; exact c3, fun o' => ?_⟩
  obtain ⟨R2, V2⟩ := (R1.beside2 (o' := GDo X.w D (o', mergeG [] ms)) hF (fun en h => (R.pk en h).ex e1) hM hO hd).beside4 (fun en h => (R.pk en h).ex e1) hM hO hF fun h => (hd h).2.2
  refine k _ _ _ _ _ c4 e1 R2 (V2 _ ⟨D, (o', mergeG [] ms), rfl, ?_, R1.go D (Or.inr rfl), hO, Or.inl hF, GRel.merge q GRel.nil⟩)
  show upd H1 D _ D = some (GDo f.w D _)
  rw [upd_same, hw]
theorem vals_of : ∀ {xs : List V} {us : List Value}, xs.length = us.length → (∀ (i : Nat) x u, xs[i]? = some x → us[i]? = some u → RelV x u) → Vals xs us
  | [], [], _, _ => .nil
  | [], _ :: _, h, _ => by cases h
  | _ :: _, [], h, _ => by cases h
  | x :: xs, u :: us, h, k => .cons (k 0 x u rfl rfl) (vals_of (by simpa using h) fun i y v h1 h2 => k (i + 1) y v (by simpa using h1) (by simpa using h2))
def rListG (pick : GEnt → V) (w : World) : List V → Hp → VK → Prop := fun xs H Q => ∃ a q, xs = [.ref a] ∧ H a = some (GDo w a q) ∧ ∀ l, H l = none → Q (.ref l) (upd H l (.lst (q.2.map pick)))
theorem call_listG (hcalm : X.calm = true) : CallR X (.type "list") (rListG (fun z => z.2.1) X.w) := by
  intro pins s σ H xs us Q I r h
  obtain ⟨a, q, rfl, e, k⟩ := h
  obtain ⟨u, rfl, rx⟩ := vals1 r
  cases rx
  obtain ⟨ho, hs, hz, _, es, ep, hx, hdat, pr⟩ := (I.hok a _ e).1
  obtain ⟨raw, hn, _, ent⟩ := gdo_raw I e hdat
  refine PySem.W.kdl_call (KdlSrc.rawDict hs) (I.ok.hd hcalm) raw (by omega) fun h' tk acc' c' kp hD hit => ?_
  have lz : (q.2.map fun z : GEnt => z.2.1).length ≤ sizeLine := by rw [List.length_map]; exact hz
  refine ⟨.ref s.heap.objs.size, _, I.laid (t' := tk) (o := .lst (q.2.map fun z => z.2.1)) kp (Nat.le_refl _) ⟨lz, acc'.toList, c', vals_of (by rw [List.length_map, Array.length_toList, hit.1, hn]) fun i x u h1 h2 => ?_, hD⟩, rfl, k _ (I.hok.fresh (Nat.le_refl _))⟩
  obtain ⟨hi, eu⟩ := hit.2 i u (by rw [← Array.getElem?_toList]; exact h2)
  obtain ⟨z, z1, z2, _⟩ := ent i hi
  rw [List.getElem?_map, z1] at h1
  cases h1
  rw [eu]
  exact z2
def listGW : List PV → (PV → Prop) → Prop := fun ps C => match ps with
  | [p] => ∃ kvs, p.dg = some kvs ∧ C (.own (kvs.map (·.1)))
  | _ => False
theorem op_listGW (hw : f.w = X.w) : Op X.K f (rListG (fun z => z.2.1) X.w) listGW := fun F O G s σ H ps vs C Q R V w k => by
  unfold listGW at w
  split at w
  · cases V with
    | cons v1 V =>
      cases V
      obtain ⟨kvs, h1, h2⟩ := w
      obtain ⟨a, xs, rfl, ⟨o, g1⟩, g2⟩ := v1.dg R.gh h1
      rw [show (fo f F O).w = X.w from hw] at g1
      exact ⟨a, (o, xs), rfl, g1, fun l hl => k _ _ _ _ h2 (Ex.refl G) (R.new hl) (R.own hl g2.kv)⟩
  · exact w.elim
@[simp] def hParG (i j : Nat) (t u : HE) : HS := fun D s => t s fun p s1 => p.mut = false ∧ u s1 fun q s2 => D.nx ((s2.put i p).put j q)
end
end Sk
set_option Elab.async false
set_option linter.all false
set_option maxRecDepth 100000
set_option maxHeartbeats 2000000
namespace Sk
open PySem PySem.Spec PyProof.Rows L2
open PySem.W (Datum DatumOrd Tup T3 T4)
open Evl (Ex)
section
variable {P : Program} {w : World} {A : Around} {E : Value → Shared → Prop} {s : Shared}
theorem sorted_gen {x : Value} {kw : List (Str × Value)} {Q : Value → Shared → Prop} (ha1 : argsOk "sorted" ⟨[x], kw⟩) (ha2 : ∀ y, argsOk "list.sort" ⟨[.ref y], kw⟩)
    (hc : ∀ {R : List Value → Shared → Prop}, (∀ (s1 : Shared) (vs : List Value), vs.length ≤ sizeLine →
      (∀ E' : Value → Shared → Prop, wpAny (model P w) A.in1.in1 (Builtin.«list.sort» ⟨[.ref s1.heap.objs.size], kw⟩) (fun f s' => f = .done (.ret .none) ∧ Q (.ref s1.heap.objs.size) s') E' { s1 with heap := s1.heap.push (seqObj "list" vs.toArray 0) }) → R vs s1) → wpAny (model P w) A.in1 (collect x) R E s) :
    wpAny (model P w) A (call (.builtin "sorted") [x] kw) Q E s := by
  refine call_function_entry_kw kind_sorted plain_sorted entry_sorted ha1 ?_
  unfold Builtin.«sorted»
  refine wpAny_bind (m := checkCount "sorted" 1 1 _) (wpAny_pure ?_)
  refine wpAny_bind (hc fun s1 vs hz body => ?_)
  refine wpAny_bind (wpAny_newList ?_ hz)
  have ho : (s1.heap.push (seqObj "list" vs.toArray 0)).get? s1.heap.objs.size = some (seqObj "list" vs.toArray 0) := Heap.get?_push_size _ rfl
  refine wpAny_bind (wpAny_holding (wpAny_call_entry_kw slot_list_sort ⟨_, ho, rfl⟩ entry_list_sort ?_ (ha2 _)))
  show wpAny (model P w) A.in1.in1 (Builtin.«list.sort» ⟨[.ref s1.heap.objs.size], kw⟩) _ _ _
  refine wpAny_mono (body _) (fun f s' z => ?_) fun _ _ e => e
  obtain ⟨rfl, hq⟩ := z
  exact ⟨_, rfl, wpAny_pure ⟨_, rfl, hq⟩⟩
end
def rSortGD (α : Type) [DecidableEq α] [DatumOrd α] (K : PySem.W.Frag) (w : World) : List V → Hp → VK → Prop := fun vs H Q => ∃ (G : Hp) (a : Addr) (q : GOb) (xs : List α), Ex G H ∧ vs = [.ref a] ∧ H a = some (GDo w a q) ∧ DpAll K G (q.2.map (·.2.1)) (xs.map Datum.toD) ∧ ∀ ys p, DpAll K G ys ((sortL xs).map Datum.toD) → H p = none → Q (.ref p) (upd H p (.lst ys))
section
variable {X : Cx} {f : Fr}
theorem cr_sortGD {α : Type} [DecidableEq α] [DatumOrd α] [Srt α] (hcalm : X.calm = true) (hu : X.A.units + 64 < cLine) (hd : Datum.depth α ≤ 50) : CallR X (.builtin "sorted") (rSortGD α X.K X.w) := by
  intro pins s σ H vs us Q I r h
  obtain ⟨G, a, q, xs, gh, rfl, hg, hv, k⟩ := h
  rw [Vals.ref1 r]
  obtain ⟨ho, hs, hz, _, es, ep, hx, hdat, pr⟩ := (I.hok a _ hg).1
  obtain ⟨raw, hn, _, ent⟩ := gdo_raw I hg hdat
  have lq : (q.2.map fun z : GEnt => z.2.1).length = xs.length := by
    have := hv.len
    simpa using this
  refine sorted_gen (args_sorted1 _) (fun _ => args_list_sort _) fun {R} hR => ?_
  refine PySem.W.kdu_collect (A := X.A.in1) (KdlSrc.rawDict hs) (I.ok.hd hcalm) raw (by omega) fun h' tk acc kp hit => ?_
  have rv : Vals (q.2.map fun z : GEnt => z.2.1) acc.toList := vals_of (by rw [List.length_map, Array.length_toList, hit.1, hn]) fun i x u h1 h2 => by
    obtain ⟨hi, eu⟩ := hit.2 i u (by rw [← Array.getElem?_toList]; exact h2)
    obtain ⟨z, z1, z2, _⟩ := ent i hi
    rw [List.getElem?_map, z1] at h1
    cases h1
    rw [eu]
    exact z2
  have I2 : Inv X pins σ H { s with heap := h', toks := tk } := I.kept kp
  have e := each_of hv rv
  have lx : xs.length = acc.toList.length := by
    have := rv.length
    omega
  have big : xs.length ≤ sizeLine := by
    rw [← lq, List.length_map]; exact hz
  refine hR _ _ (by omega) fun E' => ?_
  have ol : (h'.push (seqObj "list" acc.toList.toArray 0)).get? h'.objs.size = some (seqObj "list" acc.toList.toArray 0) := Heap.get?_push_size _ rfl
  have kp2 : ∀ b o, h'.get? b = some o → (PySem.W.sortingHeap (h'.push (seqObj "list" acc.toList.toArray 0)) h'.objs.size acc.toList).get? b = some o := fun b o z =>
    PySem.W.sortingHeap_old (Nat.ne_of_lt (Heap.lt_size z)) (Heap.get?_push_of_some _ z)
  have er : PySem.W.EachIs (fun v (b : α) => ∃ as, Reads (PySem.W.sortingHeap (h'.push (seqObj "list" acc.toList.toArray 0)) h'.objs.size acc.toList) v (Datum.toD b) as) acc.toList xs := e.mono fun v b ⟨x, r1, d1⟩ => by
    obtain ⟨as, rd⟩ := Dp.reads I2 _ _ _ (Dp.ex gh _ d1) r1
    exact ⟨as, PyProof.Rows.Reads.keeps kp2 rd⟩
  have S := PySem.W.SortsAt.data (prog := X.prog) (w := X.w) (A := X.A.in1.in1) (s := { { s with heap := h', toks := tk } with heap := PySem.W.sortingHeap (h'.push (seqObj "list" acc.toList.toArray 0)) h'.objs.size acc.toList }) (PySem.W.each_map (R := fun v d => ∃ as, Reads (PySem.W.sortingHeap (h'.push (seqObj "list" acc.toList.toArray 0)) h'.objs.size acc.toList) v d as) Datum.toD er) (PySem.W.AllAlike.of fun a b => DatumOrd.alike a b) (by
      rcases (Srt.kind (α := α)) with k | k
      · exact PySem.W.Sortable.tuples k
      · exact PySem.W.Sortable.others k) (PySem.W.bound_map (A := X.A.in1.in1) fun b _ => by
      have := Datum.depth_le b
      show X.A.units + 2 + (Datum.toD b).depth < cLine
      omega)
  refine PySem.W.list_sort_vals ol S (by rw [← lx]; exact big) ⟨rfl, ?_⟩
  obtain ⟨ys, v2, d2⟩ := of_each (PySem.W.sortVals_data false e er (PySem.W.AllAlike.of fun a b => DatumOrd.alike a b))
  have same : (PySem.W.dataLe false (Datum.toD : α → PyData)) = leD := by
    funext a b
    rw [PySem.W.dataLe_eq]
    show (!PySem.W.dataLt (Datum.toD b) (Datum.toD a)) = !DatumOrd.lt b a
    rw [DatumOrd.lt_eq]
  rw [same] at d2
  have l2 : ys.length ≤ sizeLine := by
    have h1 := d2.len
    have h2 : ((sortL xs).map (Datum.toD : α → PyData)).length = xs.length := by rw [List.length_map, sortL_len]
    have h1 : ys.length = ((sortL xs).map (Datum.toD : α → PyData)).length := h1
    omega
  obtain ⟨ep2, he⟩ := PyProof.Rows.sortedHeap_at (out := (PySem.W.sortVals (PySem.W.dataKind (PySem.W.sortingHeap (h'.push (seqObj "list" acc.toList.toArray 0)) h'.objs.size acc.toList) (xs.map Datum.toD)) false acc.toList acc.toList).toArray) ol
  exact ⟨.ref _, upd H h'.objs.size (.lst ys), I2.laid (t' := tk) (fun b o z => by
    have hb := Heap.lt_size z
    rw [PyProof.Rows.sortedHeap_old (Nat.ne_of_lt hb) (by rw [size_push']; exact Nat.lt_succ_of_lt hb)]
    exact Heap.get?_push_of_some _ z) (Nat.le_refl _) ⟨l2, _, ep2, v2, he⟩, rfl, k ys _ d2 (I2.hok.fresh (Nat.le_refl _))⟩
def sortGW (α : Type) [DecidableEq α] [DatumOrd α] : List PV → (PV → Prop) → Prop := fun ps C => match ps with
  | [p] => ∃ kvs, ∃ xs : List α, p.dg = some kvs ∧ kvs.map (·.1) = xs.map Datum.toD ∧ C (.own ((sortL xs).map Datum.toD))
  | _ => False
theorem op_sortGW {α : Type} [DecidableEq α] [DatumOrd α] (hw : f.w = X.w) : Op X.K f (rSortGD α X.K X.w) (sortGW α) := fun F O G s σ H ps vs C Q R V w k => by
  unfold sortGW at w
  split at w
  · cases V with
    | cons v1 V =>
      cases V
      obtain ⟨kvs, xs, h1, h2, h3⟩ := w
      obtain ⟨a, q, rfl, ⟨o, g1⟩, g2⟩ := v1.dg R.gh h1
      rw [show (fo f F O).w = X.w from hw] at g1
      have kv := g2.kv
      rw [h2] at kv
      exact ⟨G, a, (o, q), xs, R.gh, rfl, g1, kv, fun ys p dy hp => k _ _ _ _ h3 (Ex.refl G) (R.new hp) (R.own hp dy)⟩
  · exact w.elim
end
end Sk
set_option Elab.async false
set_option linter.all false
set_option maxRecDepth 100000
set_option maxHeartbeats 2000000
namespace Sk
open PySem PySem.Spec PyProof.Rows L2
open Evl (Ex)
def lfK (K : PySem.W.Frag) (f : Fr) (d : PyData) : TE := fun σ H Q => ∃ F O G s, Rel K (fo f F O) G s σ H ∧ ∀ G' H' v, Ex G G' → Ex H H' → (∀ a, G a = none → G' a ≠ none → H a = none) → Rel K (fo f F O) G' s σ H' → Dp K G' v d → Q v H'
def lfQ (K : PySem.W.Frag) (f : Fr) (p : PV) : TE := fun σ H Q => ∃ F O G s, Rel K (fo f F O) G s σ H ∧ ∀ G' H' v, Ex G G' → Ex H H' → (∀ a, G a = none → G' a ≠ none → H a = none) → Rel K (fo f F O) G' s σ H' → VRf K (fo f F O) G' H' s σ p v → (∀ a, v = .ref a → H a = none) → Q v H'
theorem quiet_trans {G G1 G2 H H1 : Hp} (e : Ex H H1) (n1 : ∀ a, G a = none → G1 a ≠ none → H a = none) (n2 : ∀ a, G1 a = none → G2 a ≠ none → H1 a = none) : ∀ a, G a = none → G2 a ≠ none → H a = none := fun a h1 h2 => by
  by_cases q : G1 a = none
  · have := n2 a q h2
    cases w : H a with
    | none => rfl
    | some u => rw [e _ _ w] at this; cases this
  · exact n1 a h1 q
theorem quiet_new {G G1 H H1 : Hp} {p : Addr} {o : HO} (n : ∀ a, G a = none → G1 a ≠ none → H a = none) (e : Ex H H1) (h : H1 p = none) : ∀ a, G a = none → upd G1 p o a ≠ none → H a = none := fun a h1 h2 => by
  by_cases q : a = p
  · subst q
    cases w : H a with
    | none => rfl
    | some u => rw [e _ _ w] at h; cases h
  · rw [upd_ne q] at h2; exact n a h1 h2
section
variable {X : Cx} {f : Fr} {e a b c : Expr} {d d1 d2 : PyData} {pos : Pos} {k : Nat}
theorem k_of {v : V} (h : PE X e (tC v)) (hv : ∀ G, Dp X.K G v d) : PE X e (lfK X.K f d) := h.mono fun σ H Q q => by
  obtain ⟨F, O, G, s, R, kk⟩ := q
  exact kk G H v (Ex.refl G) (Ex.refl H) nomore R (hv G)
theorem k_tup2 (h1 : PE X a (lfK X.K f d1)) (h2 : PE X b (lfK X.K f d2)) (hs : starEach [a, b] X.env = (false, eval a X.env) :: starEach [b] X.env := by rfl) (hs2 : starEach [b] X.env = (false, eval b X.env) :: starEach [] X.env := by rfl) : PE X (.Tuple [a, b] k pos) (lfK X.K f (.tuple [d1, d2])) :=
  (pe_tup (pa_cons h1 (pa_cons h2 pa_nil hs2) hs)).mono fun σ H Q q => by
    obtain ⟨F, O, G, s, R, kk⟩ := q
    refine ⟨F, O, G, s, R, fun G1 H1 v1 g1 e1 n1 R1 D1 => ⟨F, O, G1, s, R1, fun G2 H2 v2 g2 e2 n2 R2 D2 => ⟨by show 2 ≤ sizeLine; decide, fun p hp => ?_⟩⟩⟩
    have gn := R2.gn hp
    have ex : Ex G2 (upd G2 p (.tup [v1, v2])) := Evl.Ex.new gn
    refine kk _ _ _ ((g1.trans g2).trans ex) ((e1.trans e2).trans (Evl.Ex.new hp)) (quiet_new (quiet_trans e1 n1 n2) (e1.trans e2) hp) (R2.newG hp) (.tup (Or.inl (Or.inl upd_same)) (.cons (Dp.ex (g2.trans ex) _ D1) (.cons (Dp.ex ex _ D2) .nil)))
theorem q_lst1 (h1 : PE X a (lfK X.K f d1)) (hs : starEach [a] X.env = (false, eval a X.env) :: starEach [] X.env := by rfl) : PE X (.List [a] pos) (lfQ X.K f (.own [d1])) :=
  (pe_lst (pa_cons h1 pa_nil hs)).mono fun σ H Q q => by
    obtain ⟨F, O, G, s, R, kk⟩ := q
    refine ⟨F, O, G, s, R, fun G1 H1 v1 g1 e1 n1 R1 D1 => ⟨by show 1 ≤ sizeLine; decide, fun p hp => ?_⟩⟩
    exact kk _ _ _ g1 (e1.trans (Evl.Ex.new hp)) n1 (R1.new hp) (R1.own hp (.cons D1 .nil)) (fun y hy => by cases hy; cases w : H p with | none => rfl | some u => rw [e1 _ _ w] at hp; cases hp)
theorem q_lst0 : PE X (.List [] pos) (lfQ X.K f (.own [])) := (pe_lst pa_nil).mono fun σ H Q q => by
  obtain ⟨F, O, G, s, R, kk⟩ := q
  exact ⟨Nat.zero_le _, fun p hp => kk _ _ _ (Ex.refl G) (Evl.Ex.new hp) nomore (R.new hp) (R.own hp .nil) (fun y hy => by cases hy; exact hp)⟩
theorem q_disp1 (hw : f.w = X.w) (hu : X.A.units + 64 < cLine) (h1 : PE X a (lfK X.K f d1)) (h2 : PE X b (lfK X.K f d2)) (ok : KeyOk d1) : PE X (.Dict [some a] [b] pos) (lfQ X.K f (.dcg [(d1, d2)])) :=
  (pe_dispG hu (pps_cons h1 h2 pps_nil) (by rfl) (by rfl) (fun z => by cases z) (by show 1 ≤ 15; decide)).mono fun σ H Q q => by
    obtain ⟨F, O, G, s, R, kk⟩ := q
    intro D o hD
    have hM : ¬ F.M D := fun z => R.mh D z hD
    have hO : ¬ O D := fun z => R.oh D z hD
    have hF : F.F D = none := (R.fr_none hD).elim id fun z => absurd z hM
    have hd : F.on = true → D ≠ F.m ∧ D ≠ F.l ∧ D ≠ F.c := fun h => by
      obtain ⟨a, b, c, _⟩ := R.mo h
      have nn : ∀ {x : Addr}, O x → D ≠ x := fun z q => hO (by rw [q]; exact z)
      exact ⟨nn a, nn b, nn c⟩
    refine ⟨_, _, G, s, R.beside hD, fun G1 H1 v1 g1 e1 n1 R1 D1 => ⟨_, _, G1, s, R1, fun G2 H2 v2 g2 e2 n2 R2 D2 => ?_⟩⟩
    have qs : Paired (GQ X.K G2) [(keyN d1, v1, v2)] [(d1, d2)] := .cons ⟨rfl, ok, Dp.ex g2 _ D1, D2⟩ .nil
    have hHD : H2 D = some (GDo X.w D (o, [])) := by
      have := R2.fh D _ hM (show upd F.F D _ D = _ by rw [upd_same])
      exact this
    refine ⟨hHD, [(keyN d1, v1, v2)], rfl, ((GRel.of qs).ex R2.gh).keysIn, (by show 1 ≤ 15; decide), fun o' => ?_⟩
    obtain ⟨R3, V3⟩ := (R2.beside2 (o' := GDo X.w D (o', mergeG [] [(keyN d1, v1, v2)])) hF (fun en h => (R.pk en h).ex (g1.trans g2)) hM hO hd).beside4 (fun en h => (R.pk en h).ex (g1.trans g2)) hM hO hF fun h => (hd h).2.2
    have eH : Ex H (upd H2 D (GDo X.w D (o', mergeG [] [(keyN d1, v1, v2)]))) := fun y u hy => by
      have ne : y ≠ D := fun z => by rw [z, hD] at hy; cases hy
      rw [upd_ne ne]
      exact e2 _ _ (e1 _ _ (by rw [upd_ne ne]; exact hy))
    refine kk _ _ _ (g1.trans g2) eH (fun y hy hn => ?_) R3 (V3 _ ⟨D, (o', mergeG [] [(keyN d1, v1, v2)]), rfl, ?_, R2.go D (Or.inr rfl), hO, Or.inl hF, GRel.merge qs GRel.nil⟩) (fun y hy => by cases hy; exact hD)
    · have := quiet_trans e1 n1 n2 y hy hn
      by_cases z : y = D
      · rw [z]; exact hD
      · rw [upd_ne z] at this; exact this
    · show upd H2 D _ D = some (GDo f.w D _)
      rw [upd_same, hw]
@[simp] def hPar3 (i j l : Nat) (p q r : PV) : HS := fun D s => i < s.sl.length ∧ j < s.sl.length ∧ l < s.sl.length ∧ D.nx (((s.put i p).put j q).put l r)
theorem vrf_quiet {K : PySem.W.Frag} {f : Fr} {G G' H H' : Hp} {s : Sg} {σ : L2.St} {p : PV} {v : V} (V : VRf K f G H s σ p v) (g : Ex G G') (e : Ex H H') (n : ∀ a, G a = none → G' a ≠ none → H a = none) : VRf K f G' H' s σ p v := ⟨V.1.mono g n e, V.2⟩
theorem vrf_put {K : PySem.W.Frag} {f : Fr} {G H : Hp} {s : Sg} {σ : L2.St} {i : Nat} {p q : PV} {u v : V} (V : VRf K f G H s σ q v) (ne : ∀ a b, u = .ref a → v = .ref b → a ≠ b) (rq : q.mut = true → ∃ b, v = .ref b) : VRf K f G H (s.put i p) (σ.set i (some u)) q v := ⟨V.1, fun mq l r hr hm hv => by
  rcases set_get hr with ⟨e, er, _⟩ | ⟨e, h2⟩
  · subst e
    by_cases hl : i < σ.length
    · rw [List.getElem?_set_self hl] at hv
      have hv : u = v := Option.some.inj (Option.some.inj hv)
      obtain ⟨b, hb⟩ := rq mq
      exact ne b b (hv.trans hb) hb rfl
    · rw [List.getElem?_eq_none (by rw [List.length_set]; omega)] at hv
      cases hv
  · rw [List.getElem?_set_ne e] at hv
    exact V.2 mq l r h2 hm hv⟩
theorem vr_there {K : PySem.W.Frag} {f : Fr} {G H : Hp} {p : PV} {v : V} (h : VR K f G H p v) (hq : ∃ ds, p = .own ds ∨ ∃ kvs, p = .dcg kvs) : ∃ b, v = .ref b ∧ H b ≠ none := by
  obtain ⟨ds, rfl | ⟨kvs, rfl⟩⟩ := hq
  · obtain ⟨b, vs, rfl, h1, _⟩ := h
    exact ⟨b, rfl, by rw [h1]; intro z; cases z⟩
  · obtain ⟨b, vs, rfl, h1, _⟩ := h
    exact ⟨b, rfl, by rw [h1]; intro z; cases z⟩
theorem hs_par3 {i j l : Nat} {st : Stmt} {ds es : List PyData} {kvs : List (PyData × PyData)} (hij : i ≠ j) (hil : i ≠ l) (hjl : j ≠ l) (ha : PE X a (lfQ X.K f (.own ds))) (hb : PE X b (lfQ X.K f (.dcg kvs))) (hc : PE X c (lfQ X.K f (.own es))) (h : ∀ {ta : TA}, PA X [a, b, c] ta → PS X st (tPar3 i j l ta))
    (hs1 : starEach [a, b, c] X.env = (false, eval a X.env) :: starEach [b, c] X.env := by rfl) (hs2 : starEach [b, c] X.env = (false, eval b X.env) :: starEach [c] X.env := by rfl) (hs3 : starEach [c] X.env = (false, eval c X.env) :: starEach [] X.env := by rfl) :
    PS X st (lfS X.K f (hPar3 i j l (.own ds) (.dcg kvs) (.own es))) := (h (pa_cons ha (pa_cons hb (pa_cons hc pa_nil hs3) hs2) hs1)).mono fun D σ H q => by
  obtain ⟨F, O, G, s, D', R, ⟨hi, hj, hl, ht⟩, k⟩ := q
  refine ⟨F, O, G, s, R, fun G1 H1 v1 g1 e1 n1 R1 V1 f1 => ⟨F, O, G1, s, R1, fun G2 H2 v2 g2 e2 n2 R2 V2 f2 => ⟨F, O, G2, s, R2, fun G3 H3 v3 g3 e3 n3 R3 V3 f3 => ⟨v1, v2, v3, rfl, ?_⟩⟩⟩⟩
  obtain ⟨b1, rfl, t1⟩ := vr_there V1.1 ⟨ds, Or.inl rfl⟩
  obtain ⟨b2, rfl, t2⟩ := vr_there V2.1 ⟨[], Or.inr ⟨kvs, rfl⟩⟩
  obtain ⟨b3, rfl, t3⟩ := vr_there V3.1 ⟨es, Or.inl rfl⟩
  have z2 := f2 b2 rfl
  have z3 := f3 b3 rfl
  have n12 : b1 ≠ b2 := fun z => t1 (by rw [z]; exact z2)
  have t1' : H2 b1 ≠ none := fun z => by
    cases w : H1 b1 with
    | none => exact t1 w
    | some u => rw [e2 _ _ w] at z; cases z
  have n13 : b1 ≠ b3 := fun z => t1' (by rw [z]; exact z3)
  have n23 : b2 ≠ b3 := fun z => t2 (by rw [z]; exact z3)
  have W1 := vrf_quiet (vrf_quiet V1 g2 e2 n2) g3 e3 n3
  have W2 := vrf_put (i := i) (p := .own ds) (u := .ref b1) (vrf_quiet V2 g3 e3 n3) (fun x y hx hy => by cases hx; cases hy; exact n12) fun _ => ⟨b2, rfl⟩
  have W3 := vrf_put (i := j) (p := .dcg kvs) (u := .ref b2) (vrf_put (i := i) (p := .own ds) (u := .ref b1) V3 (fun x y hx hy => by cases hx; cases hy; exact n13) fun _ => ⟨b3, rfl⟩) (fun x y hx hy => by cases hx; cases hy; exact n23) fun _ => ⟨b3, rfl⟩
  exact k.nx _ _ _ _ ((g1.trans g2).trans g3) (((R3.put W1).put W2).put W3) ht
end
end Sk
set_option Elab.async false
set_option linter.all false
set_option maxRecDepth 100000
set_option maxHeartbeats 4000000
namespace Sk
open PySem PySem.Spec PyProof.Rows L2
open PySem.W (Datum DatumOrd Tup T3 T4)
open Evl (Ex)
section
variable {X : Cx} {f : Fr}
def intW : List PV → (PV → Prop) → Prop := fun ps C => match ps with
  | [.dat (.bool b)] => C (.dat (.int (if b = true then 1 else 0)))
  | [.dat (.int i)] => C (.dat (.int i))
  | _ => False
@[simp] theorem int_bool {b : Bool} {C : PV → Prop} : intW [.dat (.bool b)] C ↔ C (.dat (.int (if b = true then 1 else 0))) := by simp [intW]
@[simp] theorem int_int {i : Int} {C : PV → Prop} : intW [.dat (.int i)] C ↔ C (.dat (.int i)) := by simp [intW]
@[simp] def hExtV (j i : Nat) : HE := fun s C => ∃ ds es, s.sl[j]? = some (some (.own ds)) ∧ s.sl[i]? = some (some (.own es)) ∧ ds.length + es.length ≤ 100000 ∧ C (.dat .none) (s.put j (.own (ds ++ es)))
end
end Sk
set_option Elab.async false
set_option linter.all false
set_option maxRecDepth 100000
set_option maxHeartbeats 4000000
namespace Sk
open PySem PySem.Spec PyProof.Rows L2
open PySem.W (Datum DatumOrd Tup T3 T4)
open Evl (Ex)
section
variable {X : Cx} {f : Fr}
variable {α κ : Type} [DecidableEq α] [Datum α] [Im α] [DecidableEq κ] [DatumOrd κ] [Srt κ] {k : α → κ} {P : Addr} {q : Str}
end
end Sk
set_option Elab.async false
set_option linter.all false
set_option maxRecDepth 100000
set_option maxHeartbeats 2000000
namespace Sk
open PySem PySem.Spec PyProof.Rows L2
open PySem.W (Datum DatumOrd Tup T3 T4)
open Evl (Ex)
@[simp] def c_BARS : PyData := (.tuple [(.str "stop"), (.str "spin"), (.str "out"), (.str "own"), (.str "beside"), (.str "hide"), (.str "as")])
@[simp] def c_HIDDEN : PyData := (.str "")
@[simp] def c_LETTERS : PyData := (.str "abcdefghijklmnopqrstuvwxyz")
@[simp] def c_MOST_DEEDS : PyData := (.int 8)
@[simp] def c_MOST_LETTERS : PyData := (.int 6)
@[simp] def c_MOST_NODES : PyData := (.int 300)
def letters : Str := "abcdefghijklmnopqrstuvwxyz"
def bars : List Str := ["stop", "spin", "out", "own", "beside", "hide", "as"]
def isWordS (z : Str) : Bool := decide (1 ≤ z.length) && decide (z.length ≤ 6) && !decide (z ∈ bars) && z.cps.toList.all fun c => decide (c ∈ letters.cps)
def isWordD : PyData → Bool
  | .str z => isWordS z
  | _ => false
def sp_is_word_e81331 : HSp := fun ps n C => ∃ d, ps = [.dat d] ∧ (∀ z, d = .str z → z.length ≤ sizeLine) ∧ C (.dat (.bool (isWordD d))) n
def h_is_word_e81331 : HS :=
    (hSeq (hIfS (hOr (hNot (hB (hC isiW (hL 0 (fun s C => hNil s fun ps s2 => C (.val (.ty "str") :: ps) s2))))) (hOr (hNot (hB (hChain leW leW (hE (hK (.int 1))) (hE (hC lenW (hL 0 hNil))) (hE (hK c_MOST_LETTERS))))) (hB (hC (inP false) (hL 0 (hE (hK c_BARS) hNil)))))) (hRet (hK (.bool false))) hNext)
    (hRet (hC (allW fun bs => bs.all id) (hE (hLc (hiS (hV 0)) (gN 1) hYes (hC inS (hL 1 (hE (hK c_LETTERS) hNil))) [1]) hNil))))
theorem rd_is_word_e81331 : ∀ pvs n C, pvs.length = 1 → sp_is_word_e81331 pvs n C → h_is_word_e81331 ⟨fun s => C (.dat .none) s.n, fun p s => C p s.n, fun _ => False, fun _ => False⟩ ⟨pvs.map some ++ List.replicate (2 - pvs.length) none, n⟩ := by
  intro pvs n C _ h
  obtain ⟨d, rfl, hz, c⟩ := h
  unfold h_is_word_e81331
  cases d with
  | str z =>
    simp
    refine ⟨hz z rfl, ?_⟩
    by_cases h1 : (z.length : Int) < 1
    · exact Or.inl ⟨h1, by
        have e : isWordD (.str z) = false := by
          have : ¬ 1 ≤ z.length := by omega
          simp [isWordD, isWordS, this]
        rw [e] at c; exact c⟩
    refine Or.inr ⟨by omega, ?_⟩
    by_cases h2 : (6 : Int) < z.length
    · exact Or.inl ⟨h2, by
        have e : isWordD (.str z) = false := by
          have : ¬ z.length ≤ 6 := by omega
          simp [isWordD, isWordS, this]
        rw [e] at c; exact c⟩
    refine Or.inr ⟨by omega, inP_D z bars rfl rfl (by decide) ?_⟩
    have l1 : 1 ≤ z.length := by omega
    have l2 : z.length ≤ 6 := by omega
    by_cases h3 : z ∈ bars
    · refine Or.inr ⟨by simp [h3], ?_⟩
      have e : isWordD (.str z) = false := by simp [isWordD, isWordS, h3]
      rw [e] at c; exact c
    · refine Or.inl ⟨by simp [h3], ?_⟩
      have e : isWordD (.str z) = z.cps.toList.all fun x => decide (x ∈ letters.cps) := by simp [isWordD, isWordS, h3, l1, l2]
      rw [e] at c
      refine lcs_map (fun c => PyData.str ⟨#[c]⟩) (fun x => .bool (decide (x ∈ letters.cps))) (fun a _ K hK => ?_) [] _ (by simp; show z.length ≤ 100000; omega) ?_
      · simp
        refine hK _ ?_
        simp
      · simp
        refine allW_b (bs := z.cps.toList.map fun x => decide (x ∈ letters.cps)) (by simp) ?_
        simpa [List.all_map, Function.comp] using c
  | _ => simpa [isWordD] using c
end Sk
set_option Elab.async false
set_option linter.all false
set_option maxRecDepth 100000
set_option maxHeartbeats 2000000
namespace Sk
open PySem PySem.Spec PyProof.Rows L2
open PySem.W (Datum DatumOrd Tup T3 T4)
open Evl (Ex)
def isNumD : PyData → Int → Bool
  | .int i, m => decide (0 ≤ i) && decide (i < m)
  | _, _ => false
def sp_is_number_562222 : HSp := fun ps n C => ∃ d m, ps = [.dat d, .dat (.int m)] ∧ C (.dat (.bool (isNumD d m))) n
def h_is_number_562222 : HS :=
    (hRet (hAndV (hC isiW (hL 0 (fun s C => hNil s fun ps s2 => C (.val (.ty "int") :: ps) s2))) (hAndV (hNotV (hC isiW (hL 0 (fun s C => hNil s fun ps s2 => C (.val (.ty "bool") :: ps) s2)))) (hChain leW ltW (hE (hK (.int 0))) (hL 0) (hL 1)))))
theorem rd_is_number_562222 : ∀ pvs n C, pvs.length = 2 → sp_is_number_562222 pvs n C → h_is_number_562222 ⟨fun s => C (.dat .none) s.n, fun p s => C p s.n, fun _ => False, fun _ => False⟩ ⟨pvs.map some ++ List.replicate (2 - pvs.length) none, n⟩ := by
  intro pvs n C _ h
  obtain ⟨d, m, rfl, c⟩ := h
  unfold h_is_number_562222
  cases d with
  | int i =>
    simp
    by_cases h1 : 0 ≤ i
    · exact Or.inr ⟨h1, by simpa [isNumD, h1] using c⟩
    · exact Or.inl ⟨by omega, by simpa [isNumD, h1] using c⟩
  | _ => simpa [isNumD] using c
def isEmptyD : PyData → Bool
  | .str z => decide (z = "")
  | _ => false
def isMoveD : PyData → Int → Bool
  | .tuple [a, b], m => isNumD b m && (isWordD a || isEmptyD a)
  | _, _ => false
def sp_is_move_84a0bd : HSp := fun ps n C => ∃ d m, ps = [.dat d, .dat (.int m)] ∧ (∀ z x, d = .tuple [.str z, x] → z.length ≤ sizeLine) ∧ C (.dat (.bool (isMoveD d m))) n
def h_is_move_84a0bd : HS :=
    (hSeq (hIfS (hOr (hNot (hB (hC isiW (hL 0 (fun s C => hNil s fun ps s2 => C (.val (.ty "tuple") :: ps) s2))))) (hOr (hB (hC (eqP true) (hE (hC lenW (hL 0 hNil)) (hE (hK (.int 2)) hNil)))) (hNot (hB (hCall sp_is_number_562222 2 (hE (hC ixW (hL 0 (hE (hK (.int 1)) hNil))) (hL 1 hNil))))))) (hRet (hK (.bool false))) hNext)
    (hRet (hOrV (hCall sp_is_word_e81331 1 (hE (hC ixW (hL 0 (hE (hK (.int 0)) hNil))) hNil)) (hAndV (hC isiW (hE (hC ixW (hL 0 (hE (hK (.int 0)) hNil))) (fun s C => hNil s fun ps s2 => C (.val (.ty "str") :: ps) s2))) (hC (eqP false) (hE (hC ixW (hL 0 (hE (hK (.int 0)) hNil))) (hE (hK c_HIDDEN) hNil)))))))
theorem rd_is_move_84a0bd : ∀ pvs n C, pvs.length = 2 → sp_is_move_84a0bd pvs n C → h_is_move_84a0bd ⟨fun s => C (.dat .none) s.n, fun p s => C p s.n, fun _ => False, fun _ => False⟩ ⟨pvs.map some ++ List.replicate (2 - pvs.length) none, n⟩ := by
  intro pvs n C _ h
  obtain ⟨d, m, rfl, hz, c⟩ := h
  unfold h_is_move_84a0bd
  cases d with
  | tuple ds =>
    match ds, hz, c with
    | [], hz, c => simpa [isMoveD] using c
    | [a], hz, c => simpa [isMoveD] using c
    | [a, b], hz, c =>
      have e0 : atI [a, b] 0 = some a := rfl
      have e1 : atI [a, b] 1 = some b := rfl
      simp [e0, e1, sp_is_number_562222, sp_is_word_e81331]
      refine ⟨b, m, ⟨rfl, rfl⟩, ?_⟩
      cases hn : isNumD b m with
      | false => simpa [isMoveD, hn] using c
      | true =>
        simp [isMoveD, hn] at c
        refine ⟨fun z e => hz z b (by rw [e]), ?_⟩
        cases hw : isWordD a with
        | true => simpa [hw] using c
        | false =>
          simp [hw] at c
          cases a <;> simpa [isEmptyD] using c
    | a :: b :: e :: r, hz, c =>
      have : ¬ ((r.length : Int) + 1 + 1 + 1 = 2) := by omega
      simpa [isMoveD, this] using c
  | _ => simpa [isMoveD] using c
end Sk
set_option Elab.async false
set_option linter.all false
set_option maxRecDepth 100000
set_option maxHeartbeats 2000000
namespace Sk
open PySem PySem.Spec PyProof.Rows L2
open PySem.W (Datum DatumOrd Tup T3 T4)
open Evl (Ex)
def mvOf : PyData → Str × Int
  | .tuple [.str s, .int i] => (s, i)
  | _ => ("", 0)
theorem isMove_toD {d : PyData} {m : Int} (h : isMoveD d m = true) : d = Datum.toD (mvOf d) ∧ 0 ≤ (mvOf d).2 ∧ (mvOf d).2 < m ∧ (isWordS (mvOf d).1 = true ∨ (mvOf d).1 = "") := by
  match d, h with
  | .tuple [a, b], h =>
    simp [isMoveD] at h
    obtain ⟨h1, h2⟩ := h
    match b, h1 with
    | .int i, h1 =>
      simp [isNumD] at h1
      match a, h2 with
      | .str s, h2 =>
        simp [isWordD, isEmptyD] at h2
        exact ⟨rfl, h1.1, h1.2, h2⟩
      | .none, h2 => simp [isWordD, isEmptyD] at h2
      | .bool _, h2 => simp [isWordD, isEmptyD] at h2
      | .int _, h2 => simp [isWordD, isEmptyD] at h2
      | .list _, h2 => simp [isWordD, isEmptyD] at h2
      | .tuple _, h2 => simp [isWordD, isEmptyD] at h2
      | .dict _, h2 => simp [isWordD, isEmptyD] at h2
def chainLt (xs : List (Str × Int)) : Bool := (xs.zip (xs.drop 1)).all fun p => DatumOrd.lt p.1 p.2
def isRowD : PyData → Int → Bool
  | .tuple ds, m => ds.all (isMoveD · m) && chainLt (ds.map mvOf)
  | _, _ => false
theorem cut1_none (ds : List PyData) : cutD ds (some 1) none = ds.drop 1 := by
  unfold cutD
  rw [show HT.sIx ds.length 0 (some 1) = min 1 ds.length from HT.sIx_nat ds.length 0 1, HT.sIx_none]
  cases ds with
  | nil => rfl
  | cons x r =>
    have : min 1 (x :: r).length = 1 := by rw [List.length_cons]; omega
    rw [this]
    show (List.take ((x :: r).length - 1) r) = r
    rw [List.length_cons, Nat.add_sub_cancel]
    exact List.take_length
theorem zipD_map {α β : Type} (e : α → PyData) (e' : β → PyData) : ∀ (xs : List α) (ys : List β), zipD (xs.map e) (ys.map e') = (xs.zip ys).map fun p => .tuple [e p.1, e' p.2]
  | [], _ => by simp [zipD]
  | _ :: _, [] => by simp [zipD]
  | x :: xs, y :: ys => by simp [zipD, zipD_map e e' xs ys]
theorem map_mvOf {ds : List PyData} {m : Int} (h : ds.all (isMoveD · m) = true) : ds = (ds.map mvOf).map Datum.toD := by
  induction ds with
  | nil => rfl
  | cons d ds ih =>
    rw [List.all_cons, Bool.and_eq_true] at h
    rw [List.map_cons, List.map_cons, ← (isMove_toD h.1).1, ← ih h.2]
def sp_is_node_row_5d6d4a : HSp := fun ps n C => ∃ d m, ps = [.dat d, .dat (.int m)] ∧ (∀ ds, d = .tuple ds → ds.length ≤ 90000 ∧ ∀ z x, .tuple [.str z, x] ∈ ds → z.length ≤ sizeLine) ∧ C (.dat (.bool (isRowD d m))) n
def h_is_node_row_5d6d4a : HS :=
    (hSeq (hIfS (hOr (hNot (hB (hC isiW (hL 0 (fun s C => hNil s fun ps s2 => C (.val (.ty "tuple") :: ps) s2))))) (hNot (hB (hC (allW fun bs => bs.all id) (hE (hLc (hiT (hV 0)) (gN 2) hYes (hCall sp_is_move_84a0bd 2 (hL 2 (hL 1 hNil))) [2]) hNil))))) (hRet (hK (.bool false))) hNext)
    (hRet (hC (allW fun bs => bs.all id) (hE (hLc (hiZ (hE (hV 0) (hE (hSl 0 (hPt (hK (.int 1))) hNo) hNil))) (gP 3 4) hYes (hC (ltA (Str × Int)) (hL 3 (hL 4 hNil))) [3, 4]) hNil))))
theorem rd_is_node_row_5d6d4a : ∀ pvs n C, pvs.length = 2 → sp_is_node_row_5d6d4a pvs n C → h_is_node_row_5d6d4a ⟨fun s => C (.dat .none) s.n, fun p s => C p s.n, fun _ => False, fun _ => False⟩ ⟨pvs.map some ++ List.replicate (5 - pvs.length) none, n⟩ := by
  intro pvs n C _ h
  obtain ⟨d, m, rfl, hz, c⟩ := h
  unfold h_is_node_row_5d6d4a
  cases d with
  | tuple ds =>
    obtain ⟨hl, hz⟩ := hz ds rfl
    simp
    have key : ∀ (C2 : PV → Sg → Prop), C2 (.own (ds.map fun d => .bool (isMoveD d m))) ⟨[some (.dat (.tuple ds)), some (.dat (.int m)), none, none, none], n⟩ → lcs [2] (gN 2) hYes (hCall sp_is_move_84a0bd 2 (hL 2 (hL 1 hNil))) ds [] ⟨[some (.dat (.tuple ds)), some (.dat (.int m)), none, none, none], n⟩ C2 := fun C2 c2 => by
      have e : ds = ds.map fun d => d := by simp
      have z := lcs_map (vs := [2]) (g := gN 2) (t := hCall sp_is_move_84a0bd 2 (hL 2 (hL 1 hNil))) (s := ⟨[some (.dat (.tuple ds)), some (.dat (.int m)), none, none, none], n⟩) (xs := ds) (fun d => d) (fun d => .bool (isMoveD d m)) (fun a ha K hK => by
        simp [sp_is_move_84a0bd]
        refine ⟨a, m, ⟨rfl, rfl⟩, fun z x e => hz z x (by rw [← e]; exact ha), ?_⟩
        refine hK _ ?_
        simp) [] C2 (by simp; omega) (by simpa using c2)
      rw [← e] at z
      exact z
    refine key _ ?_
    simp
    refine allW_b (bs := ds.map (isMoveD · m)) (by simp) ?_
    have ea : ((ds.map (isMoveD · m)).all id) = ds.all (isMoveD · m) := by simp [List.all_map, Function.comp]
    rw [ea]
    cases ha : ds.all (isMoveD · m) with
    | false =>
      simp
      simpa [isRowD, ha] using c
    | true =>
      simp
      generalize hxs : ds.map mvOf = xs
      have e1 : ds = xs.map Datum.toD := by rw [← hxs]; exact map_mvOf ha
      have e2 : zipD ds (cutD ds (some 1) none) = (xs.zip (xs.drop 1)).map fun p => .tuple [Datum.toD p.1, Datum.toD p.2] := by
        rw [cut1_none, e1, ← List.map_drop, zipD_map]
      have hxl : xs.length = ds.length := by rw [← hxs, List.length_map]
      rw [e2]
      refine lcs_map (fun p : (Str × Int) × (Str × Int) => PyData.tuple [Datum.toD p.1, Datum.toD p.2]) (fun p => .bool (DatumOrd.lt p.1 p.2)) (fun a _ K hK => ?_) [] _ (by simp [List.length_zip]; omega) ?_
      · simp
        refine ⟨a.1, a.2, rfl, rfl, ?_⟩
        refine hK _ ?_
        simp
      · simp
        refine allW_b (bs := (xs.zip (xs.drop 1)).map fun p => DatumOrd.lt p.1 p.2) (by simp) ?_
        have e3 : isRowD (.tuple ds) m = chainLt xs := by
          show (ds.all (isMoveD · m) && chainLt (ds.map mvOf)) = _
          rw [ha, hxs]; rfl
        rw [e3] at c
        simpa [List.all_map, Function.comp, chainLt] using c
  | _ => simpa [isRowD] using c
end Sk
set_option Elab.async false
set_option linter.all false
set_option maxRecDepth 100000
set_option maxHeartbeats 2000000
namespace Sk
open PySem PySem.Spec PyProof.Rows L2
open PySem.W (Datum DatumOrd Tup T3 T4)
open Evl (Ex)
abbrev Mch := Tup (Tup (Str × Int))
def Mch.rows (M : Mch) : List (List (Str × Int)) := M.items.map Tup.items
def rowDeeds (r : List (Str × Int)) : List Str := (r.filter fun p => decide (p.1 ≠ ("" : Str))).map (·.1)
def Mch.deeds (M : Mch) : List Str := (M.rows.map rowDeeds).flatten
def Mch.size (M : Mch) : Nat := (M.rows.map List.length).sum
theorem putD_keys {kvs : List (Key × PyData)} {k : Key} {d : PyData} : ∀ x, x ∈ (putD kvs k d).map (·.1) ↔ x ∈ kvs.map (·.1) ∨ x = k := by
  intro x
  unfold putD
  split
  · rename_i h
    have e : (kvs.map fun kv => if kv.1 = k then (kv.1, d) else kv).map (·.1) = kvs.map (·.1) := by
      rw [List.map_map]
      apply List.map_congr_left
      intro a _
      simp only [Function.comp]
      split <;> rfl
    rw [e]
    constructor
    · exact Or.inl
    · rintro (h2 | rfl)
      · exact h2
      · obtain ⟨a, ha, e⟩ := List.any_eq_true.mp h
        exact List.mem_map.mpr ⟨a, ha, of_decide_eq_true e⟩
  · simp
theorem putD_len {kvs : List (Key × PyData)} {k : Key} {d : PyData} : (putD kvs k d).length ≤ kvs.length + 1 := by
  unfold putD
  split <;> simp
theorem mergeD_keys : ∀ {more kvs : List (Key × PyData)} (x : Key), x ∈ (mergeD kvs more).map (·.1) ↔ x ∈ kvs.map (·.1) ∨ x ∈ more.map (·.1)
  | [], kvs, x => by simp [mergeD]
  | p :: more, kvs, x => by
    show x ∈ (mergeD (putD kvs p.1 p.2) more).map (·.1) ↔ _
    rw [mergeD_keys, putD_keys]
    simp only [List.map_cons, List.mem_cons]
    constructor
    · rintro ((h | h) | h)
      · exact Or.inl h
      · exact Or.inr (Or.inl h)
      · exact Or.inr (Or.inr h)
    · rintro (h | h | h)
      · exact Or.inl (Or.inl h)
      · exact Or.inl (Or.inr h)
      · exact Or.inr h
theorem mergeD_len : ∀ {more kvs : List (Key × PyData)}, (mergeD kvs more).length ≤ kvs.length + more.length
  | [], kvs => by simp [mergeD]
  | p :: more, kvs => by
    show (mergeD (putD kvs p.1 p.2) more).length ≤ _
    have := mergeD_len (more := more) (kvs := putD kvs p.1 p.2)
    have := putD_len (kvs := kvs) (k := p.1) (d := p.2)
    simp only [List.length_cons]
    omega
theorem txt_keys {kvs : List (Key × PyData)} (h : ∀ k ∈ kvs.map (·.1), ∃ x : Str, k = .inr x) : ∃ xs : List Str, kvs.map (·.1) = xs.map FK.key := by
  induction kvs with
  | nil => exact ⟨[], rfl⟩
  | cons p kvs ih =>
    obtain ⟨xs, e⟩ := ih fun k hk => h k (by simp only [List.map_cons, List.mem_cons]; exact Or.inr hk)
    obtain ⟨x, ex⟩ := h p.1 (by simp)
    exact ⟨x :: xs, by simp only [List.map_cons, e, ex]; rfl⟩
theorem pairs_txt : ∀ xs : List Str, pairsD (xs.map fun x => .tuple [.str x, .bool true]) = some (xs.map fun x => ((.inr x : Key), PyData.bool true))
  | [] => rfl
  | x :: xs => by simp [pairsD, pairs_txt xs]
def sp_deeds_by_079b22 : HSp := fun ps n C => ∃ M : Mch, ps = [.dat (Datum.toD M)] ∧ M.size ≤ 40000 ∧ (∀ r ∈ M.rows, r.length ≤ 40000) ∧ C (.own ((sortU M.deeds).map .str)) n
def h_deeds_by_079b22 : HS :=
    (hSeq (hAsg hDnew 1)
    (hSeq (hFor (hiT (hV 0)) (gN 2) (hDrop (hUpd 1 (hC dictW (hE (hLc (hiT (hV 2)) (gP 3 4) (hB (hC (eqP true) (hL 3 (hE (hK c_HIDDEN) hNil)))) (hTup (hE (hV 3) (hE (hK (.bool true)) hNil))) [3, 4]) hNil)))))
    (hRet (hC (sortDW Str) (hL 1 hNil)))))
theorem rd_deeds_by_079b22 : ∀ pvs n C, pvs.length = 1 → sp_deeds_by_079b22 pvs n C → h_deeds_by_079b22 ⟨fun s => C (.dat .none) s.n, fun p s => C p s.n, fun _ => False, fun _ => False⟩ ⟨pvs.map some ++ List.replicate (5 - pvs.length) none, n⟩ := by
  intro pvs n C _ h
  obtain ⟨M, rfl, hs, hr, c⟩ := h
  unfold h_deeds_by_079b22
  have hM : (Datum.toD M : PyData) = .tuple (M.items.map Datum.toD) := rfl
  rw [hM]
  simp only [hSeq, hAsg, hDnew, hFor, hiT, hV, Sg.put, List.map_cons, List.map_nil, List.length_cons, List.length_nil, List.cons_append, List.nil_append, List.set_cons_succ, List.set_cons_zero, List.replicate, List.getElem?_cons_zero, frz_dat]
  -- the loop, from any dict
  have loop : ∀ (rs : List (Tup (Str × Int))) (kvs : List (Key × PyData)) (o3 : Option PV), (∀ k ∈ kvs.map (·.1), ∃ x : Str, k = .inr x) → (∀ r ∈ rs, r.items.length ≤ 40000) → kvs.length + (rs.map fun r => r.items.length).sum ≤ 40000 →
      (∀ (kvs' : List (Key × PyData)) (o3' : Option PV), (∀ k ∈ kvs'.map (·.1), ∃ x : Str, k = .inr x) → (∀ x : Str, (.inr x : Key) ∈ kvs'.map (·.1) ↔ (.inr x : Key) ∈ kvs.map (·.1) ∨ ∃ r ∈ rs, x ∈ rowDeeds r.items) → C (.own ((sortU M.deeds).map .str)) n →
        (hRet (hC (sortDW Str) (hL 1 hNil))) ⟨fun s => C (.dat .none) s.n, fun p s => C p s.n, fun _ => False, fun _ => False⟩ ⟨[some (.dat (.tuple (M.items.map Datum.toD))), some (.dct kvs'), o3', none, none], n⟩) →
      each (gN 2) (hDrop (hUpd 1 (hC dictW (hE (hLc (hiT (hV 2)) (gP 3 4) (hB (hC (eqP true) (hL 3 (hE (hK c_HIDDEN) hNil)))) (hTup (hE (hV 3) (hE (hK (.bool true)) hNil))) [3, 4]) hNil))))
        ⟨(hRet (hC (sortDW Str) (hL 1 hNil))) ⟨fun s => C (.dat .none) s.n, fun p s => C p s.n, fun _ => False, fun _ => False⟩, fun p s => C p s.n, fun _ => False, fun _ => False⟩ (rs.map Datum.toD) ⟨[some (.dat (.tuple (M.items.map Datum.toD))), some (.dct kvs), o3, none, none], n⟩ := by
    intro rs
    induction rs with
    | nil =>
      intro kvs o3 hk _ _ fin
      exact fin kvs o3 hk (fun x => ⟨Or.inl, fun h => h.elim id fun ⟨r, hr, _⟩ => by cases hr⟩) c
    | cons r rs ih =>
      intro kvs o3 hk hrl hsum fin
      have hr0 := hrl r List.mem_cons_self
      have hsum' : kvs.length + (r.items.length + (rs.map fun r => r.items.length).sum) ≤ 40000 := by simpa using hsum
      have hrD : (Datum.toD r : PyData) = .tuple (r.items.map Datum.toD) := rfl
      simp only [List.map_cons, each, gN, hDrop, hUpd, hC, hE, hLc, hiT, hV, Sg.put, Sg.wipe, List.set_cons_succ, List.set_cons_zero, List.getElem?_cons_succ, List.getElem?_cons_zero, frz_dat, hrD, List.foldr]
      refine ⟨⟨_, rfl⟩, ?_⟩
      refine lcs_filter (fun p : Str × Int => (Datum.toD p : PyData)) (fun p => .tuple [.str p.1, .bool true]) (fun p => decide (p.1 ≠ ("" : Str))) (fun a ha K hK => ?_) [] _ (by simp; omega) ?_
      · show gP 3 4 (.tuple [.str a.1, .int a.2]) _ _
        simp
        by_cases he : a.1 = ("" : Str)
        · have e : decide (a.1 ≠ ("" : Str)) = false := by simp [he]
          refine Or.inl ⟨he, ?_⟩
          rw [← e]
          exact hK _ (fun _ => by simp) fun h => absurd h (by rw [e]; decide)
        · have e : decide (a.1 ≠ ("" : Str)) = true := by simp [he]
          refine Or.inr ⟨he, ?_⟩
          rw [← e]
          refine hK _ (fun h => absurd h (by rw [e]; decide)) fun _ K2 hK2 => ?_
          simp
          refine hK2 _ ?_
          simp
      · have hp := pairs_txt ((r.items.filter fun p => decide (p.1 ≠ ("" : Str))).map (·.1))
        rw [List.map_map, List.map_map] at hp
        have fl : (r.items.filter fun p => decide (p.1 ≠ ("" : Str))).length ≤ r.items.length := List.length_filter_le _ _
        have ml := mergeD_len (kvs := []) (more := (r.items.filter fun p => decide (p.1 ≠ ("" : Str))).map ((fun x : Str => ((Sum.inr x : Key), PyData.bool true)) ∘ (·.1)))
        simp only [List.length_nil, List.length_map] at ml
        refine ⟨_, rfl, _, _, rfl, hp, _, kvs, rfl, rfl, by omega, ?_⟩
        have mk := fun (x : Key) => mergeD_keys (kvs := kvs) (more := mergeD [] ((r.items.filter fun p => decide (p.1 ≠ ("" : Str))).map ((fun x : Str => ((Sum.inr x : Key), PyData.bool true)) ∘ (·.1)))) x
        have mk2 := fun (x : Key) => mergeD_keys (kvs := []) (more := (r.items.filter fun p => decide (p.1 ≠ ("" : Str))).map ((fun x : Str => ((Sum.inr x : Key), PyData.bool true)) ∘ (·.1))) x
        have mk3 : ∀ x : Key, x ∈ ((r.items.filter fun p => decide (p.1 ≠ ("" : Str))).map ((fun x : Str => ((Sum.inr x : Key), PyData.bool true)) ∘ (·.1))).map (·.1) ↔ ∃ y ∈ rowDeeds r.items, x = .inr y := fun x => by
          simp only [rowDeeds, List.mem_map, Function.comp]
          constructor
          · rintro ⟨q, ⟨a, ha, rfl⟩, rfl⟩
            exact ⟨a.1, ⟨a, ha, rfl⟩, rfl⟩
          · rintro ⟨y, ⟨a, ha, rfl⟩, rfl⟩
            exact ⟨_, ⟨a, ha, rfl⟩, rfl⟩
        have all : ∀ x : Key, x ∈ (mergeD kvs (mergeD [] ((r.items.filter fun p => decide (p.1 ≠ ("" : Str))).map ((fun x : Str => ((Sum.inr x : Key), PyData.bool true)) ∘ (·.1))))).map (·.1) ↔ x ∈ kvs.map (·.1) ∨ ∃ y ∈ rowDeeds r.items, x = .inr y := fun x => by
          rw [mk, mk2, mk3]
          simp
        refine ih _ _ (fun k hk2 => ?_) (fun q hq => hrl q (List.mem_cons_of_mem _ hq)) ?_ fun kvs' o3' hk3 hm3 c3 => ?_
        · rcases (all k).mp hk2 with h | ⟨y, _, rfl⟩
          · exact hk k h
          · exact ⟨y, rfl⟩
        · have := mergeD_len (kvs := kvs) (more := mergeD [] ((r.items.filter fun p => decide (p.1 ≠ ("" : Str))).map ((fun x : Str => ((Sum.inr x : Key), PyData.bool true)) ∘ (·.1))))
          omega
        · refine fin kvs' o3' hk3 (fun x => ?_) c3
          rw [hm3 x, all]
          constructor
          · rintro ((h | ⟨y, hy, e⟩) | ⟨q, hq, h⟩)
            · exact Or.inl h
            · exact Or.inr ⟨r, List.mem_cons_self, by rw [Sum.inr.inj e]; exact hy⟩
            · exact Or.inr ⟨q, List.mem_cons_of_mem _ hq, h⟩
          · rintro (h | ⟨q, hq, h⟩)
            · exact Or.inl (Or.inl h)
            · rcases List.mem_cons.mp hq with rfl | hq
              · exact Or.inl (Or.inr ⟨x, h, rfl⟩)
              · exact Or.inr ⟨q, hq, h⟩
  refine loop M.items [] none (fun k hk => by cases hk) (fun r hr' => hr r.items (List.mem_map.mpr ⟨r, hr', rfl⟩)) (by simpa [Mch.size, Mch.rows, Function.comp_def] using hs) fun kvs' o3' hk hm c => ?_
  obtain ⟨xs, ex⟩ := txt_keys hk
  simp
  refine ⟨xs, ex, ?_⟩
  have e : sortU xs = sortU M.deeds := sortU_eq (sortU_rising xs) fun x => by
    rw [mem_sortU]
    have z := hm x
    rw [ex] at z
    have l : (Sum.inr x : Key) ∈ xs.map FK.key ↔ x ∈ xs := by
      constructor
      · intro h
        obtain ⟨y, hy, e⟩ := List.mem_map.mp h
        rw [← Sum.inr.inj (show (Sum.inr y : Key) = Sum.inr x from e)]; exact hy
      · intro h
        exact List.mem_map.mpr ⟨x, h, rfl⟩
    rw [← l, z]
    simp only [Mch.deeds, Mch.rows, List.mem_flatten, List.mem_map, List.map_nil, List.not_mem_nil, false_or]
    constructor
    · rintro ⟨r, hr, hx⟩
      exact ⟨_, ⟨r.items, ⟨r, hr, rfl⟩, rfl⟩, hx⟩
    · rintro ⟨_, ⟨_, ⟨r, hr, rfl⟩, rfl⟩, hx⟩
      exact ⟨r, hr, hx⟩
  rw [e]
  exact c
end Sk
set_option Elab.async false
set_option linter.all false
set_option maxRecDepth 100000
set_option maxHeartbeats 2000000
namespace Sk
open PySem PySem.Spec PyProof.Rows L2
open PySem.W (Datum DatumOrd Tup T3 T4)
open Evl (Ex)
structure MOk (M : Mch) : Prop where
  lo : 1 ≤ M.items.length
  hi : M.items.length ≤ 300
  mv : ∀ r ∈ M.items, ∀ p ∈ r.items, 0 ≤ p.2 ∧ p.2 < M.items.length ∧ (isWordS p.1 = true ∨ p.1 = ("" : Str))
  up : ∀ r ∈ M.items, Rising r.items
  ds : (sortU M.deeds).length ≤ 8
  sz : M.size ≤ 40000
theorem MOk.row {M : Mch} (h : MOk M) : ∀ r ∈ M.rows, r.length ≤ 40000 := fun r hr => by
  have gen : ∀ (rs : List (List (Str × Int))), r ∈ rs → r.length ≤ (rs.map List.length).sum := fun rs => by
    induction rs with
    | nil => intro h; cases h
    | cons q rs ih =>
      intro h
      rw [List.map_cons, List.sum_cons]
      rcases List.mem_cons.mp h with rfl | h
      · omega
      · have := ih h; omega
  exact Nat.le_trans (gen _ hr) h.sz
theorem word_len {z : Str} (h : isWordS z = true ∨ z = ("" : Str)) : z.length ≤ sizeLine := by
  rcases h with h | rfl
  · unfold isWordS at h
    simp at h
    have := h.1.1.2
    rw [sizeLine_eq]; omega
  · exact Nat.zero_le _
theorem isMove_ok {p : Str × Int} {m : Int} (h0 : 0 ≤ p.2) (h1 : p.2 < m) (h2 : isWordS p.1 = true ∨ p.1 = ("" : Str)) : isMoveD (Datum.toD p) m = true := by
  show (isNumD (.int p.2) m && (isWordD (.str p.1) || isEmptyD (.str p.1))) = true
  simp [isNumD, isWordD, isEmptyD, h0, h1, h2]
theorem chain_ok : ∀ {xs : List (Str × Int)}, Rising xs → chainLt xs = true
  | [], _ => rfl
  | [x], _ => rfl
  | x :: y :: r, h => by
    have h1 : DatumOrd.lt x y = true := (List.pairwise_cons.mp h).1 y List.mem_cons_self
    have ih := chain_ok (xs := y :: r) (List.pairwise_cons.mp h).2
    unfold chainLt at ih ⊢
    simp only [List.drop_succ_cons, List.drop_zero, List.zip_cons_cons, List.all_cons, h1, Bool.true_and] at ih ⊢
    exact ih
theorem MOk.isRow {M : Mch} (h : MOk M) {r : Tup (Str × Int)} (hr : r ∈ M.items) : isRowD (Datum.toD r) M.items.length = true := by
  show ((r.items.map Datum.toD).all (isMoveD · M.items.length) && chainLt ((r.items.map Datum.toD).map mvOf)) = true
  have e : (r.items.map Datum.toD).map mvOf = r.items := by
    rw [List.map_map]
    exact List.map_id'' (fun p => rfl) _
  rw [e, chain_ok (h.up r hr), Bool.and_true, List.all_eq_true]
  intro d hd
  obtain ⟨p, hp, rfl⟩ := List.mem_map.mp hd
  obtain ⟨a, b, c⟩ := h.mv r hr p hp
  exact isMove_ok a b c
def sp_is_machine_569ab3 : HSp := fun ps n C => ∃ M : Mch, ps = [.dat (Datum.toD M)] ∧ MOk M ∧ C (.dat (.bool true)) n
def h_is_machine_569ab3 : HS :=
    (hSeq (hIfS (hOr (hNot (hB (hC isiW (hL 0 (fun s C => hNil s fun ps s2 => C (.val (.ty "tuple") :: ps) s2))))) (hNot (hB (hChain leW leW (hE (hK (.int 1))) (hE (hC lenW (hL 0 hNil))) (hE (hK c_MOST_NODES)))))) (hRet (hK (.bool false))) hNext)
    (hRet (hAndV (hC (allW fun bs => bs.all id) (hE (hLc (hiT (hV 0)) (gN 1) hYes (hCall sp_is_node_row_5d6d4a 2 (hL 1 (hE (hC lenW (hL 0 hNil)) hNil))) [1]) hNil)) (hC leW (hE (hC lenW (hE (hCall sp_deeds_by_079b22 1 (hL 0 hNil)) hNil)) (hE (hK c_MOST_DEEDS) hNil))))))
theorem rd_is_machine_569ab3 : ∀ pvs n C, pvs.length = 1 → sp_is_machine_569ab3 pvs n C → h_is_machine_569ab3 ⟨fun s => C (.dat .none) s.n, fun p s => C p s.n, fun _ => False, fun _ => False⟩ ⟨pvs.map some ++ List.replicate (2 - pvs.length) none, n⟩ := by
  intro pvs n C _ h
  obtain ⟨M, rfl, ok, c⟩ := h
  unfold h_is_machine_569ab3
  have hM : (Datum.toD M : PyData) = .tuple (M.items.map Datum.toD) := rfl
  rw [hM]
  have lo := ok.lo
  have hi := ok.hi
  have a1 : ¬ ((M.items.length : Int) < 1) := by omega
  have a2 : ¬ ((300 : Int) < M.items.length) := by omega
  have a3 : (1 : Int) ≤ M.items.length := by omega
  have a4 : (M.items.length : Int) ≤ 300 := by omega
  simp [a1, a2, a3, a4]
  refine lcs_map (fun r : Tup (Str × Int) => (Datum.toD r : PyData)) (fun _ => .bool true) (fun r hr K hK => ?_) [] _ (by simp; omega) ?_
  · simp [sp_is_node_row_5d6d4a]
    refine ⟨Datum.toD r, M.items.length, ⟨rfl, rfl⟩, fun ds hds => ?_, ?_⟩
    · have e : ds = r.items.map Datum.toD := (PyData.tuple.inj hds).symm
      subst e
      have hr' : r.items ∈ M.rows := List.mem_map.mpr ⟨r, hr, rfl⟩
      refine ⟨by have := ok.row _ hr'; simp; omega, fun z x hx => ?_⟩
      obtain ⟨p, hp, e⟩ := List.mem_map.mp hx
      have e : PyData.tuple [.str p.1, .int p.2] = .tuple [.str z, x] := e
      simp at e
      rw [← e.1]
      exact word_len (ok.mv r hr p hp).2.2
    · rw [ok.isRow hr]
      refine hK _ ?_
      simp
  · simp
    refine allW_b (bs := M.items.map fun _ => true) (by simp) ?_
    have e : ((M.items.map fun _ => true).all id) = true := by simp
    rw [e]
    simp [sp_deeds_by_079b22]
    refine ⟨M, rfl, ok.sz, ok.row, ?_⟩
    have := ok.ds
    have e2 : decide (((sortU M.deeds).length : Int) ≤ 8) = true := decide_eq_true (by omega)
    rw [e2]
    exact c
def sp_need_machine_f4028c : HSp := fun ps n C => ∃ M : Mch, ps = [.dat (Datum.toD M)] ∧ MOk M ∧ C (.dat .none) n
def h_need_machine_f4028c : HS :=
    (hIfS (hNot (hB (hCall sp_is_machine_569ab3 1 (hL 0 hNil)))) hNever hNext)
theorem rd_need_machine_f4028c : ∀ pvs n C, pvs.length = 1 → sp_need_machine_f4028c pvs n C → h_need_machine_f4028c ⟨fun s => C (.dat .none) s.n, fun p s => C p s.n, fun _ => False, fun _ => False⟩ ⟨pvs.map some ++ List.replicate (1 - pvs.length) none, n⟩ := by
  intro pvs n C _ h
  obtain ⟨M, rfl, ok, c⟩ := h
  unfold h_need_machine_f4028c
  simp [sp_is_machine_569ab3]
  exact ⟨M, rfl, ok, c⟩
inductive Reach (M : Mch) : Int → Prop
  | start : Reach M 0
  | step {x : Int} {r : List (Str × Int)} {p : Str × Int} : Reach M x → M.rows[x.toNat]? = some r → p ∈ r → Reach M p.2
end Sk
set_option Elab.async false
set_option linter.all false
set_option maxRecDepth 100000
set_option maxHeartbeats 2000000
namespace Sk
open PySem PySem.Spec PyProof.Rows L2
open PySem.W (Datum DatumOrd Tup T3 T4)
open Evl (Ex)
structure Going (M : Mch) (ex : Int → Prop) (ks ws : List Int) : Prop where
  nd : ks.Nodup
  rng : ∀ k ∈ ks, 0 ≤ k ∧ k < M.items.length
  rch : ∀ k ∈ ks, Reach M k
  sub : ∀ x ∈ ws, x ∈ ks
  zero : (0 : Int) ∈ ks
  cl : ∀ x ∈ ks, x ∉ ws → ¬ ex x → ∀ r, M.rows[x.toNat]? = some r → ∀ p ∈ r, p.2 ∈ ks
theorem Going.small {M : Mch} {ex : Int → Prop} {ks ws : List Int} (h : Going M ex ks ws) : ks.length ≤ M.items.length := by
  have := nodup_le ks ((List.range M.items.length).map fun i => ((i : Nat) : Int)) h.nd fun k hk => by
    obtain ⟨a, b⟩ := h.rng k hk
    exact List.mem_map.mpr ⟨k.toNat, List.mem_range.mpr (by omega), by omega⟩
  simpa using this
end Sk
set_option Elab.async false
set_option linter.all false
set_option maxRecDepth 100000
set_option maxHeartbeats 2000000
namespace Sk
open PySem PySem.Spec PyProof.Rows L2
open PySem.W (Datum DatumOrd Tup T3 T4)
open Evl (Ex)
theorem cmul {i j : Int} (h : i.natAbs < 2 ^ 100) (h2 : j.natAbs < 2 ^ 100) : CMulW i j := wide_mul h h2 (by decide) (by decide) (by decide)
abbrev sp__law_mixed_2d863d : HSp := spMixed
def h__law_mixed_2d863d : HS :=
    (hSeq (hAsg (hC addW (hE (hC addW (hE (hC modW (hE (hC mulW' (hE (hC mulW' (hL 0 (hE (hC addW (hE (hK (.int 1)) (hE (hC mulW' (hE (hK (.int 2)) (hL 1 hNil))) hNil))) hNil))) (hE (hK (.int 48271)) hNil))) (hE (hK (.int 2147483647)) hNil))) (hE (hC mulW' (hE (hC mulW' (hE (hK (.int 7919)) (hL 1 hNil))) (hL 1 hNil))) hNil))) (hE (hC mulW' (hE (hK (.int 104729)) (hL 1 hNil))) hNil))) 2)
    (hRet (hC fdivW (hE (hC modW (hE (hC mulW' (hL 2 (hE (hK (.int 69621)) hNil))) (hE (hK (.int 2147483629)) hNil))) (hE (hK (.int 7)) hNil)))))
theorem rd__law_mixed_2d863d : ∀ pvs n C, pvs.length = 2 → sp__law_mixed_2d863d pvs n C → h__law_mixed_2d863d ⟨fun s => C (.dat .none) s.n, fun p s => C p s.n, fun _ => False, fun _ => False⟩ ⟨pvs.map some ++ List.replicate (3 - pvs.length) none, n⟩ := by
  intro pvs n C _ h
  obtain ⟨c, k, rfl, c0, c1, k0, k1, q⟩ := h
  unfold h__law_mixed_2d863d
  have a1 : 0 ≤ c * (1 + 2 * k) := Int.mul_nonneg c0 (by omega)
  have a2 : c * (1 + 2 * k) ≤ 4294967296 * 1073741825 := Int.mul_le_mul (by omega) (by omega) (by omega) (by decide)
  have b0 : 0 ≤ 7919 * k * k := Int.mul_nonneg (by omega) k0
  have b1 : 7919 * k * k ≤ (7919 * 536870912) * 536870912 := Int.mul_le_mul (by omega) (by omega) (by omega) (by decide)
  have m0 : 0 ≤ c * (1 + 2 * k) * 48271 % 2147483647 := Int.emod_nonneg _ (by decide)
  have m1 : c * (1 + 2 * k) * 48271 % 2147483647 < 2147483647 := Int.emod_lt_of_pos _ (by decide)
  generalize hx : c * (1 + 2 * k) = x at *
  generalize hy : 7919 * k * k = y at *
  generalize hz : x * 48271 % 2147483647 = z at *
  simp [hx, hy, hz]
  have e2 : (2 : Nat) ^ 100 = 1267650600228229401496703205376 := by decide
  have n0 : 0 ≤ (z + y + 104729 * k) * 69621 % 2147483629 := Int.emod_nonneg _ (by decide)
  have n1 : (z + y + 104729 * k) * 69621 % 2147483629 < 2147483629 := Int.emod_lt_of_pos _ (by decide)
  refine ⟨cmul (by rw [e2]; omega) (by rw [e2]; omega), cmul (by rw [e2]; omega) (by rw [e2]; omega), cmul (by rw [e2]; omega) (by rw [e2]; omega), cmul (by rw [e2]; omega) (by rw [e2]; omega), cmul (by rw [e2]; omega) (by rw [e2]; omega), cmul (by rw [e2]; omega) (by rw [e2]; omega), cmul (by rw [e2]; omega) (by rw [e2]; omega), wide_div (b := 10) (by decide) (by decide) (by decide) (by decide), q _ ?_ ?_⟩
  · exact Int.ediv_nonneg n0 (by decide)
  · generalize (z + y + 104729 * k) * 69621 % 2147483629 = u at *
    omega
abbrev sp__law_folded_8cf898 : HSp := spFolded
theorem atI_int {cs : List Int} {i : Int} (h0 : 0 ≤ i) (h1 : i < cs.length) : ∃ x, atI (cs.map PyData.int) i = some (.int x) ∧ x ∈ cs ∧ ixN cs.length i = some i.toNat := by
  have hl : i.toNat < cs.length := by omega
  refine ⟨cs[i.toNat], ?_, List.getElem_mem hl, ?_⟩
  · unfold atI ixN
    rw [List.length_map, if_pos h0, if_pos (by omega)]
    show (cs.map PyData.int)[i.toNat]? = _
    rw [List.getElem?_map, List.getElem?_eq_getElem hl]; rfl
  · unfold ixN
    rw [if_pos h0, if_pos h1]
def Cells (cs : List Int) : Prop := cs.length = 64 ∧ ∀ x ∈ cs, 0 ≤ x ∧ x < 2147483647
theorem Cells.set {cs : List Int} (h : Cells cs) {j : Nat} {x : Int} (h0 : 0 ≤ x) (h1 : x < 2147483647) : Cells (cs.set j x) := ⟨by rw [List.length_set]; exact h.1, fun y hy => by
  rcases List.mem_or_eq_of_mem_set hy with hy | rfl
  · exact h.2 y hy
  · exact ⟨h0, h1⟩⟩
theorem fold1 {D : HD} {p0 : Option PV} {n : Nat} : ∀ (ns : List Int) (i : Nat) (cs : List Int) (o2 o3 : Option PV), Cells cs → i + ns.length ≤ 1000 → (∀ (cs' : List Int) (o2' o3' : Option PV), Cells cs' → D.nx ⟨[p0, some (.own (cs'.map .int)), o2', o3'], n⟩) →
    each (gP 2 3) (hSetL 1 (hC modW (hE (hC addW (hE (hC mulW' (hE (hC ixW (hL 1 (hE (hC modW (hL 2 (hE (hK (.int 64)) hNil))) hNil))) (hE (hK (.int 48271)) hNil))) (hL 3 hNil))) (hE (hK (.int 2147483647)) hNil))) (hC modW (hL 2 (hE (hK (.int 64)) hNil)))) D (enumD i (ns.map .int)) ⟨[p0, some (.own (cs.map .int)), o2, o3], n⟩ := by
  intro ns
  induction ns with
  | nil => intro i cs o2 o3 hc _ fin; exact fin cs o2 o3 hc
  | cons x ns ih =>
    intro i cs o2 o3 hc hi fin
    have m0 : 0 ≤ (i : Int) % 64 := Int.emod_nonneg _ (by decide)
    have m1 : (i : Int) % 64 < 64 := Int.emod_lt_of_pos _ (by decide)
    obtain ⟨y, h1, h2, h3⟩ := atI_int (cs := cs) m0 (by rw [hc.1]; exact m1)
    obtain ⟨y0, y1⟩ := hc.2 y h2
    have e2 : (2 : Nat) ^ 100 = 1267650600228229401496703205376 := by decide
    have r0 : 0 ≤ (y * 48271 + x) % 2147483647 := Int.emod_nonneg _ (by decide)
    have r1 : (y * 48271 + x) % 2147483647 < 2147483647 := Int.emod_lt_of_pos _ (by decide)
    simp [enumD, h1]
    refine ⟨cmul (by rw [e2]; omega) (by rw [e2]; omega), _, h3, ?_⟩
    have e : ((cs.map PyData.int).set ((i : Int) % 64).toNat (.int ((y * 48271 + x) % 2147483647))) = (cs.set ((i : Int) % 64).toNat ((y * 48271 + x) % 2147483647)).map .int := by rw [List.map_set]
    rw [e]
    have hi' : i + (ns.length + 1) ≤ 1000 := by simpa using hi
    exact ih (i + 1) _ _ _ (hc.set r0 r1) (by omega) fin
theorem fold2 {D : HD} {p0 : Option PV} {n : Nat} : ∀ (ks : List Nat) (cs : List Int) (o2 o3 : Option PV), Cells cs → (∀ k ∈ ks, k < 63) → (∀ (cs' : List Int) (o2' o3' : Option PV), Cells cs' → D.nx ⟨[p0, some (.own (cs'.map .int)), o2', o3'], n⟩) →
    each (gN 2) (hSetL 1 (hC modW (hE (hC addW (hE (hC ixW (hL 1 (hL 2 hNil))) (hE (hC mulW' (hE (hC ixW (hL 1 (hE (hC subW (hL 2 (hE (hK (.int 1)) hNil))) hNil))) (hE (hK (.int 16807)) hNil))) hNil))) (hE (hK (.int 2147483647)) hNil))) (hV 2)) D (ks.map fun i => .int (1 + (i : Nat))) ⟨[p0, some (.own (cs.map .int)), o2, o3], n⟩ := by
  intro ks
  induction ks with
  | nil => intro cs o2 o3 hc _ fin; exact fin cs o2 o3 hc
  | cons k ks ih =>
    intro cs o2 o3 hc hk fin
    have k1 := hk k List.mem_cons_self
    obtain ⟨y, h1, h2, h3⟩ := atI_int (cs := cs) (i := 1 + (k : Int)) (by omega) (by rw [hc.1]; omega)
    obtain ⟨x, g1, g2, g3⟩ := atI_int (cs := cs) (i := (k : Int)) (by omega) (by rw [hc.1]; omega)
    obtain ⟨y0, y1⟩ := hc.2 y h2
    obtain ⟨x0, x1⟩ := hc.2 x g2
    have e2 : (2 : Nat) ^ 100 = 1267650600228229401496703205376 := by decide
    have r0 : 0 ≤ (y + x * 16807) % 2147483647 := Int.emod_nonneg _ (by decide)
    have r1 : (y + x * 16807) % 2147483647 < 2147483647 := Int.emod_lt_of_pos _ (by decide)
    have ek : (1 : Int) + k - 1 = k := by omega
    simp [h1, ek, g1]
    refine ⟨cmul (by rw [e2]; omega) (by rw [e2]; omega), _, h3, ?_⟩
    have e : ((cs.map PyData.int).set (1 + (k : Int)).toNat (.int ((y + x * 16807) % 2147483647))) = (cs.set (1 + (k : Int)).toNat ((y + x * 16807) % 2147483647)).map .int := by rw [List.map_set]
    rw [e]
    exact ih _ _ _ (hc.set r0 r1) (fun q hq => hk q (List.mem_cons_of_mem _ hq)) fin
def h__law_folded_8cf898 : HS :=
    (hSeq (hAsg (hLc (hiR1 (hE (hK (.int 64)) hNil)) (gN 2) hYes (hC addW (hE (hK (.int 17)) (hL 2 hNil))) [2]) 1)
    (hSeq (hFor (hiE (hE (hV 0) hNil)) (gP 2 3) (hSetL 1 (hC modW (hE (hC addW (hE (hC mulW' (hE (hC ixW (hL 1 (hE (hC modW (hL 2 (hE (hK (.int 64)) hNil))) hNil))) (hE (hK (.int 48271)) hNil))) (hL 3 hNil))) (hE (hK (.int 2147483647)) hNil))) (hC modW (hL 2 (hE (hK (.int 64)) hNil)))))
    (hSeq (hFor (hiR2 (hE (hK (.int 1)) (hE (hK (.int 64)) hNil))) (gN 2) (hSetL 1 (hC modW (hE (hC addW (hE (hC ixW (hL 1 (hL 2 hNil))) (hE (hC mulW' (hE (hC ixW (hL 1 (hE (hC subW (hL 2 (hE (hK (.int 1)) hNil))) hNil))) (hE (hK (.int 16807)) hNil))) hNil))) (hE (hK (.int 2147483647)) hNil))) (hV 2)))
    (hRet (hM 1)))))
theorem rd__law_folded_8cf898 : ∀ pvs n C, pvs.length = 1 → sp__law_folded_8cf898 pvs n C → h__law_folded_8cf898 ⟨fun s => C (.dat .none) s.n, fun p s => C p s.n, fun _ => False, fun _ => False⟩ ⟨pvs.map some ++ List.replicate (4 - pvs.length) none, n⟩ := by
  intro pvs n C _ h
  obtain ⟨ns, rfl, hn, q⟩ := h
  unfold h__law_folded_8cf898
  simp [rngD]
  refine lcs_map (fun i : Nat => PyData.int (i : Nat)) (fun i => .int (17 + (i : Nat))) (fun a _ K hK => ?_) [] _ (by simp) ?_
  · simp
    refine hK _ ?_
    simp
  · simp only [List.nil_append]
    have e : (List.range 64).map (fun i : Nat => PyData.int (17 + (i : Nat))) = ((List.range 64).map fun i : Nat => (17 : Int) + (i : Nat)).map .int := by simp
    rw [e]
    refine fold1 ns 0 _ _ _ ⟨by simp, fun x hx => ?_⟩ (by omega) fun cs o2 o3 hc => ?_
    · obtain ⟨i, hi, rfl⟩ := List.mem_map.mp hx
      have := List.mem_range.mp hi
      omega
    · simp [rngD]
      refine fold2 (List.range 63) cs _ _ hc (fun k hk => List.mem_range.mp hk) fun cs' o2' o3' hc' => ?_
      simp
      exact q cs' hc'.1 hc'.2
end Sk
set_option Elab.async false
set_option linter.all false
set_option maxRecDepth 100000
set_option maxHeartbeats 4000000
namespace Sk
open PySem PySem.Spec PyProof.Rows L2
open PySem.W (Datum DatumOrd Tup T3 T4)
open Evl (Ex)
open TL (tl tl_append tl_join joinL)
def Lets (z : Str) : Prop := ∀ c ∈ z.cps.toList, c ∈ letters.cps
theorem letter_at (i : Int) : ∃ c, atI (letters.cps.toList) (i % 26) = some c ∧ c ∈ letters.cps := by
  have m0 : 0 ≤ i % 26 := Int.emod_nonneg _ (by decide)
  have m1 : i % 26 < 26 := Int.emod_lt_of_pos _ (by decide)
  have hl : (i % 26).toNat < letters.cps.toList.length := by
    have : letters.cps.toList.length = 26 := by decide
    omega
  refine ⟨letters.cps.toList[(i % 26).toNat], ?_, Array.mem_toList_iff.mp (List.getElem_mem hl)⟩
  unfold atI ixN
  have : letters.cps.toList.length = 26 := by decide
  rw [if_pos m0, if_pos (by omega)]
  exact List.getElem?_eq_getElem hl
theorem lets_append {a b : Str} (ha : Lets a) (hb : Lets b) : Lets (a ++ b) := fun c hc => by
  have e : (a ++ b).cps.toList = a.cps.toList ++ b.cps.toList := tl_append a b
  rw [e] at hc
  rcases List.mem_append.mp hc with h | h
  · exact ha c h
  · exact hb c h
theorem lets_one {c : Nat} (h : c ∈ letters.cps) : Lets ⟨#[c]⟩ := fun x hx => by
  simp at hx
  subst hx; exact h
theorem lets_cut {a : Str} {lo hi : Option Int} (ha : Lets a) : Lets (cutS a lo hi) := fun c hc => by
  unfold cutS at hc
  exact ha c (List.mem_of_mem_drop (List.mem_of_mem_take (by simpa using hc)))
theorem join_tl (ys : List Str) : (Txt.join ("" : Str) ys).cps.toList = (ys.map tl).flatten := by
  rw [TL.join_eq]
  show tl (Str.join ("" : Str) ys) = _
  rw [tl_join]
  have gen : ∀ ps : List (List Nat), joinL (tl ("" : Str)) ps = ps.flatten := by
    intro ps
    induction ps with
    | nil => rfl
    | cons p ps ih =>
      cases ps with
      | nil => simp [joinL]
      | cons q r =>
        show p ++ (tl ("" : Str) ++ joinL (tl ("" : Str)) (q :: r)) = _
        rw [ih]; rfl
  exact gen _
theorem join_lets : ∀ ys : List Str, (∀ y ∈ ys, Lets y ∧ y.length = 1) → Lets (Txt.join ("" : Str) ys) ∧ (Txt.join ("" : Str) ys).length = ys.length := fun ys h => by
  have e : (Txt.join ("" : Str) ys).cps.toList = (ys.map tl).flatten := by
    rw [TL.join_eq]
    show tl (Str.join ("" : Str) ys) = _
    rw [tl_join]
    have gen : ∀ ps : List (List Nat), joinL (tl ("" : Str)) ps = ps.flatten := by
      intro ps
      induction ps with
      | nil => rfl
      | cons p ps ih =>
        cases ps with
        | nil => simp [joinL]
        | cons q r =>
          show p ++ (tl ("" : Str) ++ joinL (tl ("" : Str)) (q :: r)) = _
          rw [ih]; rfl
    exact gen _
  constructor
  · intro c hc
    rw [e] at hc
    obtain ⟨l, hl, hcl⟩ := List.mem_flatten.mp hc
    obtain ⟨y, hy, rfl⟩ := List.mem_map.mp hl
    exact (h y hy).1 c hcl
  · have e2 : (Txt.join ("" : Str) ys).length = (ys.map tl).flatten.length := by rw [← e]; rfl
    rw [e2, List.length_flatten, List.map_map]
    clear e e2
    induction ys with
    | nil => rfl
    | cons y ys ih =>
      have h1 : (tl y).length = 1 := (h y List.mem_cons_self).2
      have ih := ih fun z hz => h z (List.mem_cons_of_mem _ hz)
      simp only [List.map_cons, List.sum_cons, Function.comp, List.length_cons] at ih ⊢
      omega
theorem cut_hi {a : Str} {h : Int} (h0 : 0 ≤ h) : (cutS a none (some h)).length = min h.toNat a.length := by
  unfold cutS
  have e : HT.sIx a.length a.length (some h) = min h.toNat a.length := by
    have := HT.sIx_nat a.length a.length h.toNat
    rw [← this]; congr 2; omega
  rw [HT.sIx_none, e]
  have : a.length = a.cps.toList.length := rfl
  show ((a.cps.toList.drop 0).take (min h.toNat a.length - 0)).toArray.size = _
  simp
  have : a.length = a.cps.size := rfl
  omega
theorem cut_both {a : Str} {l h : Int} (l0 : 0 ≤ l) (lh : l ≤ h) (ha : h ≤ a.length) : (cutS a (some l) (some h)).length = (h - l).toNat := by
  unfold cutS
  have e : HT.sIx a.length a.length (some h) = h.toNat := by
    have := HT.sIx_nat a.length a.length h.toNat
    rw [show ((h.toNat : Nat) : Int) = h by omega] at this
    rw [this]; omega
  have e1 : HT.sIx a.length 0 (some l) = l.toNat := by
    have := HT.sIx_nat a.length 0 l.toNat
    rw [show ((l.toNat : Nat) : Int) = l by omega] at this
    rw [this]; omega
  rw [e, e1]
  have z : a.length = a.cps.size := rfl
  show ((a.cps.toList.drop l.toNat).take (h.toNat - l.toNat)).toArray.size = _
  simp
  omega
def fixW (w : Str) : Str := if w ∈ bars then ("zz" : Str) ++ cutS w none (some 1) ++ ("z" : Str) else w
def GoodW (w : Str) : Prop := Lets w ∧ 1 ≤ w.length ∧ w.length ≤ 6
theorem len_app (a b : Str) : (a ++ b).length = a.length + b.length := by
  show (a ++ b).cps.size = a.cps.size + b.cps.size
  have : (a ++ b).cps = a.cps ++ b.cps := rfl
  rw [this, Array.size_append]
theorem word_of {w : Str} (h : GoodW w) (hb : w ∉ bars) : isWordS w = true := by
  unfold isWordS
  simp only [Bool.and_eq_true, decide_eq_true_eq, Bool.not_eq_true', decide_eq_false_iff_not, List.all_eq_true]
  exact ⟨⟨⟨h.2.1, h.2.2⟩, hb⟩, h.1⟩
theorem fix_word {w : Str} (h : GoodW w) : isWordS (fixW w) = true := by
  unfold fixW
  split
  · rename_i hb
    have lz : ∀ c, c ∈ ("z" : Str).cps.toList → c ∈ letters.cps := by decide +kernel
    have lzz : ∀ c, c ∈ ("zz" : Str).cps.toList → c ∈ letters.cps := by decide +kernel
    have c1 : (cutS w none (some 1)).length = min 1 w.length := cut_hi (by decide)
    have ln : (("zz" : Str) ++ cutS w none (some 1) ++ ("z" : Str)).length = 4 := by
      have a : ("zz" : Str).length = 2 := rfl
      have b : ("z" : Str).length = 1 := rfl
      have := h.2.1
      rw [len_app, len_app, c1, a, b]
      omega
    refine word_of ⟨lets_append (lets_append lzz (lets_cut h.1)) lz, by rw [ln]; decide, by rw [ln]; decide⟩ fun hm => ?_
    have hd : (("zz" : Str) ++ cutS w none (some 1) ++ ("z" : Str)).cps.toList.head? = some 122 := by
      show (tl _).head? = _
      rw [tl_append, tl_append]; rfl
    have hall : ∀ x ∈ bars, x.cps.toList.head? ≠ some 122 := by decide
    exact hall _ hm hd
  · rename_i hb
    exact word_of h hb
abbrev wordBody : HS := (hSeq (hAsg (hC ixW (hL 2 (hE (hC modW (hE (hC addW (hL 3 (hE (hC mulW' (hL 7 (hL 11 hNil))) hNil))) (hE (hK (.int 26)) hNil))) hNil))) 12)
    (hIfS (hB (hC (eqP false) (hL 4 (hE (hK (.int 3)) hNil)))) (hDrop (hApp 10 (hC addW (hL 12 (hE (hSl 8 hNo (hPt (hC modW (hE (hC mulW' (hL 11 (hL 7 hNil))) (hE (hK (.int 6)) hNil))))) hNil))))) (hDrop (hApp 10 (hC addW (hE (hC addW (hE (hSl 8 hNo (hPt (hV 6))) (hL 12 hNil))) (hE (hSl 8 (hPt (hC addW (hL 6 (hE (hK (.int 1)) hNil)))) (hPt (hV 5))) hNil)))))))
def lcAt (i : Int) : Nat := (atI (letters.cps.toList) (i % 26)).getD 0
def wdS (base : Str) (start way sz at' v : Int) (k : Nat) : Str := if way = 3 then (⟨#[lcAt (start + v * (k : Nat))]⟩ : Str) ++ cutS base none (some ((k : Int) * v % 6)) else cutS base none (some at') ++ (⟨#[lcAt (start + v * (k : Nat))]⟩ : Str) ++ cutS base (some (at' + 1)) (some (1 + sz))
theorem word_loop {D : HD} {n : Nat} {many start way sz at' v : Int} {base : Str} (bl : Lets base) (bn : base.length = 8) (s0 : 0 ≤ start) (s1 : start < 26) (z0 : 0 ≤ sz) (z1 : sz < 6) (t0 : 0 ≤ at') (t1 : at' < 1 + sz) (v0 : 1 ≤ v) (v1 : v ≤ 25) : ∀ (ks js : List Nat) (o11 o12 : Option PV), (∀ k ∈ ks, k < 12) → (∀ w ∈ js.map (wdS base start way sz at' v), GoodW w) → js.length + ks.length ≤ 1000 →
    (∀ (o11' o12' : Option PV), (∀ w ∈ (js ++ ks).map (wdS base start way sz at' v), GoodW w) → D.nx ⟨[some .drw, some (.dat (.int many)), some (.dat (.str "abcdefghijklmnopqrstuvwxyz")), some (.dat (.int start)), some (.dat (.int way)), some (.dat (.int (1 + sz))), some (.dat (.int at')), some (.dat (.int v)), some (.dat (.str base)), none, some (.own (((js ++ ks).map (wdS base start way sz at' v)).map .str)), o11', o12', none, none], n⟩) →
    each (gN 11) wordBody D (ks.map fun i => PyData.int ((i : Nat) : Int)) ⟨[some .drw, some (.dat (.int many)), some (.dat (.str "abcdefghijklmnopqrstuvwxyz")), some (.dat (.int start)), some (.dat (.int way)), some (.dat (.int (1 + sz))), some (.dat (.int at')), some (.dat (.int v)), some (.dat (.str base)), none, some (.own ((js.map (wdS base start way sz at' v)).map .str)), o11, o12, none, none], n⟩ := by
  intro ks
  induction ks with
  | nil => intro js o11 o12 _ hg _ fin; simpa using fin o11 o12 (by simpa using hg)
  | cons k ks ih =>
    intro js o11 o12 hk hg hl fin
    have k12 := hk k List.mem_cons_self
    have e2 : (2 : Nat) ^ 100 = 1267650600228229401496703205376 := by decide
    have kv0 : 0 ≤ v * (k : Int) := Int.mul_nonneg (by omega) (by omega)
    have kv1 : v * (k : Int) ≤ 25 * 12 := Int.mul_le_mul (by omega) (by omega) (by omega) (by omega)
    obtain ⟨c, hc, hcl⟩ := letter_at (start + v * k)
    have hl' : js.length + (ks.length + 1) ≤ 1000 := by simpa using hl
    have L26 : ("abcdefghijklmnopqrstuvwxyz" : Str).length ≤ 100000 := by decide +kernel
    have ec : lcAt (start + v * k) = c := by unfold lcAt; rw [hc]; rfl
    have next : ∀ (w : Str), w = wdS base start way sz at' v k → GoodW w → each (gN 11) wordBody D (ks.map fun i => PyData.int ((i : Nat) : Int)) ⟨[some .drw, some (.dat (.int many)), some (.dat (.str "abcdefghijklmnopqrstuvwxyz")), some (.dat (.int start)), some (.dat (.int way)), some (.dat (.int (1 + sz))), some (.dat (.int at')), some (.dat (.int v)), some (.dat (.str base)), none, some (.own ((js.map (wdS base start way sz at' v)).map .str ++ [.str w])), some (.dat (.int (k : Nat))), some (.dat (.str ⟨#[c]⟩)), none, none], n⟩ := fun w hwe hw => by
      have e : (js.map (wdS base start way sz at' v)).map PyData.str ++ [.str w] = ((js ++ [k]).map (wdS base start way sz at' v)).map .str := by rw [hwe]; simp
      rw [e]
      refine ih (js ++ [k]) _ _ (fun q hq => hk q (List.mem_cons_of_mem _ hq)) (fun y hy => ?_) (by simp; omega) fun a b h2 => ?_
      · rw [List.map_append] at hy
        rcases List.mem_append.mp hy with hy | hy
        · exact hg y hy
        · rw [List.mem_singleton.mp hy, ← hwe]; exact hw
      · have z := fin a b (by simpa using h2)
        simpa using z
    have hc' : atI ("abcdefghijklmnopqrstuvwxyz" : Str).cps.toList ((start + v * k) % 26) = some c := hc
    have bs : base.length ≤ sizeLine := by rw [bn]; decide
    have m0 : 0 ≤ (k : Int) * v % 6 := Int.emod_nonneg _ (by decide)
    have m1 : (k : Int) * v % 6 < 6 := Int.emod_lt_of_pos _ (by decide)
    have one : (⟨#[c]⟩ : Str).length = 1 := rfl
    have g1 : GoodW ((⟨#[c]⟩ : Str) ++ cutS base none (some ((k : Int) * v % 6))) := by
      refine ⟨lets_append (lets_one hcl) (lets_cut bl), ?_⟩
      rw [len_app, one, cut_hi m0, bn]
      omega
    have g2 : GoodW (cutS base none (some at') ++ (⟨#[c]⟩ : Str) ++ cutS base (some (at' + 1)) (some (1 + sz))) := by
      refine ⟨lets_append (lets_append (lets_cut bl) (lets_one hcl)) (lets_cut bl), ?_⟩
      rw [len_app, len_app, one, cut_hi t0, bn, cut_both (by omega) (by omega) (by rw [bn]; omega)]
      omega
    have l1 := g1.2.2
    have l2 := g2.2.2
    rw [len_app] at l1
    rw [len_app, len_app] at l2
    simp only [List.map_map] at next
    simp [hc']
    refine ⟨cmul (by rw [e2]; omega) (by rw [e2]; omega), L26, ?_⟩
    by_cases hw : way = 3
    · refine Or.inr ⟨hw, cmul (by rw [e2]; omega) (by rw [e2]; omega), bs, by omega, by omega, next _ (by unfold wdS; rw [if_pos hw, ec]) g1⟩
    · refine Or.inl ⟨hw, bs, by omega, bs, by rw [len_app]; omega, by omega, next _ (by unfold wdS; rw [if_neg hw, ec]) g2⟩
abbrev sp__law_draw_a6e186 : HSp := spDraw
def ltN (i : Nat) : Nat := 97 + i % 26
def wL (s sz a v k : Nat) (w3 : Bool) : List Nat :=
  let base := (List.range 8).map fun i => ltN (s + 5 * i)
  if w3 then ltN (s + v * k) :: base.take (k * v % 6) else base.take a ++ [ltN (s + v * k)] ++ (base.drop (a + 1)).take (sz - a)
def barsL : List (List Nat) := bars.map fun z => z.cps.toList
def encL (w : List Nat) : Nat := w.foldl (fun a c => a * 128 + c) 1
def barsP : List (Nat × List Nat) := [(511522800, [115, 116, 111, 112]), (511456494, [115, 112, 105, 110]), (3930868, [111, 117, 116]), (3931118, [111, 119, 110]), (7792655757925, [98, 101, 115, 105, 100, 101]), (488272485, [104, 105, 100, 101]), (28915, [97, 115])]
def isBarE (w : List Nat) : Bool := barsP.any fun p => Nat.beq p.1 (encL w) && decide (p.2 = w)
theorem isBarE_iff (w : List Nat) : isBarE w = true ↔ w ∈ barsL := by
  have h1 : barsP.map (·.2) = barsL := by decide +kernel
  have h2 : ∀ p ∈ barsP, p.1 = encL p.2 := by decide +kernel
  unfold isBarE
  rw [List.any_eq_true, ← h1, List.mem_map]
  constructor
  · rintro ⟨p, hp, e⟩
    rw [Bool.and_eq_true] at e
    exact ⟨p, hp, of_decide_eq_true e.2⟩
  · rintro ⟨p, hp, e⟩
    refine ⟨p, hp, ?_⟩
    rw [Bool.and_eq_true]
    exact ⟨by rw [h2 p hp, e]; exact Nat.beq_refl _, decide_eq_true e⟩
def fixE (w : List Nat) : Nat := if isBarE w then encL ([122, 122] ++ w.take 1 ++ [122]) else encL w
def undB : List Nat → Bool
  | [] => true
  | x :: xs => !xs.any (Nat.beq x) && undB xs
theorem undB_nodup : ∀ {xs : List Nat}, undB xs = true → xs.Nodup
  | [], _ => List.nodup_nil
  | x :: xs, h => by
    unfold undB at h
    rw [Bool.and_eq_true, Bool.not_eq_true'] at h
    refine List.nodup_cons.mpr ⟨fun hm => ?_, undB_nodup h.2⟩
    have := List.any_eq_false.mp h.1 x hm
    exact this (Nat.beq_refl x)
def chkWs (s : Nat) : Bool := (List.range 6).all fun sz => (List.range (sz + 1)).all fun a => [1, 3, 7, 11, 17, 25].all fun v => undB ((List.range 12).map fun k => fixE (wL s sz a v k false))
def chkW : Bool := (List.range 26).all chkWs
def chkW3 : Bool := (List.range 26).all fun s => [1, 3, 7, 11, 17, 25].all fun v => undB ((List.range 12).map fun k => fixE (wL s 0 0 v k true))
theorem chkW_0 : chkWs 0 = true := by decide +kernel
theorem chkW_1 : chkWs 1 = true := by decide +kernel
theorem chkW_2 : chkWs 2 = true := by decide +kernel
theorem chkW_3 : chkWs 3 = true := by decide +kernel
theorem chkW_4 : chkWs 4 = true := by decide +kernel
theorem chkW_5 : chkWs 5 = true := by decide +kernel
theorem chkW_6 : chkWs 6 = true := by decide +kernel
theorem chkW_7 : chkWs 7 = true := by decide +kernel
theorem chkW_8 : chkWs 8 = true := by decide +kernel
theorem chkW_9 : chkWs 9 = true := by decide +kernel
theorem chkW_10 : chkWs 10 = true := by decide +kernel
theorem chkW_11 : chkWs 11 = true := by decide +kernel
theorem chkW_12 : chkWs 12 = true := by decide +kernel
theorem chkW_13 : chkWs 13 = true := by decide +kernel
theorem chkW_14 : chkWs 14 = true := by decide +kernel
theorem chkW_15 : chkWs 15 = true := by decide +kernel
theorem chkW_16 : chkWs 16 = true := by decide +kernel
theorem chkW_17 : chkWs 17 = true := by decide +kernel
theorem chkW_18 : chkWs 18 = true := by decide +kernel
theorem chkW_19 : chkWs 19 = true := by decide +kernel
theorem chkW_20 : chkWs 20 = true := by decide +kernel
theorem chkW_21 : chkWs 21 = true := by decide +kernel
theorem chkW_22 : chkWs 22 = true := by decide +kernel
theorem chkW_23 : chkWs 23 = true := by decide +kernel
theorem chkW_24 : chkWs 24 = true := by decide +kernel
theorem chkW_25 : chkWs 25 = true := by decide +kernel
theorem chkW_ok : chkW = true := by
  have e : List.range 26 = [0, 1, 2, 3, 4, 5, 6, 7, 8, 9, 10, 11, 12, 13, 14, 15, 16, 17, 18, 19, 20, 21, 22, 23, 24, 25] := by decide +kernel
  unfold chkW
  rw [e]
  simp only [List.all_cons, List.all_nil, chkW_0, chkW_1, chkW_2, chkW_3, chkW_4, chkW_5, chkW_6, chkW_7, chkW_8, chkW_9, chkW_10, chkW_11, chkW_12, chkW_13, chkW_14, chkW_15, chkW_16, chkW_17, chkW_18, chkW_19, chkW_20, chkW_21, chkW_22, chkW_23, chkW_24, chkW_25, Bool.and_self]
theorem chkW3_ok : chkW3 = true := by decide +kernel
theorem lcAt_eq (n : Nat) : lcAt (n : Int) = ltN n := by
  have el : letters.cps.toList = (List.range 26).map fun i => 97 + i := by decide +kernel
  have hm : n % 26 < 26 := Nat.mod_lt _ (by decide)
  unfold lcAt ltN
  rw [el]
  have e : (n : Int) % 26 = ((n % 26 : Nat) : Int) := by omega
  rw [e]
  unfold atI ixN
  rw [List.length_map, List.length_range, if_pos (by omega), if_pos (by omega)]
  show (((List.range 26).map fun i => 97 + i)[((n % 26 : Nat) : Int).toNat]?).getD 0 = _
  rw [Int.toNat_natCast, List.getElem?_map, List.getElem?_range hm]; rfl
theorem cut_hi_l {a : Str} {h : Nat} : (cutS a none (some (h : Int))).cps.toList = a.cps.toList.take h := by
  unfold cutS
  rw [HT.sIx_none, HT.sIx_nat]
  show (((a.cps.toList.drop 0).take (min h a.length - 0)).toArray).toList = _
  have z : a.length = a.cps.toList.length := by simp [Str.length]
  simp only [List.drop_zero, Nat.sub_zero]
  rw [z]
  rcases Nat.le_total h a.cps.toList.length with q | q
  · rw [Nat.min_eq_left q]
  · rw [Nat.min_eq_right q, List.take_of_length_le q, List.take_length]
theorem cut_both_l {a : Str} {l h : Nat} (hl : l ≤ a.length) (hh : h ≤ a.length) : (cutS a (some (l : Int)) (some (h : Int))).cps.toList = (a.cps.toList.drop l).take (h - l) := by
  unfold cutS
  rw [HT.sIx_nat, HT.sIx_nat, Nat.min_eq_left hl, Nat.min_eq_left hh]
theorem words_und {base : Str} {start way sz at' v many : Int} (bt : base.cps.toList = (List.range 8).map fun i : Nat => lcAt (start + 5 * (i : Nat))) (s0 : 0 ≤ start) (s1 : start < 26) (z0 : 0 ≤ sz) (z1 : sz < 6) (t0 : 0 ≤ at') (t1 : at' < 1 + sz) (hv : v ∈ ([1, 3, 7, 11, 17, 25] : List Int)) (hm : many ≤ 12) :
    (((List.range many.toNat).map (wdS base start way sz at' v)).map fixW).Nodup := by
  obtain ⟨s, rfl⟩ : ∃ s : Nat, start = s := ⟨start.toNat, by omega⟩
  obtain ⟨z, rfl⟩ : ∃ z : Nat, sz = z := ⟨sz.toNat, by omega⟩
  obtain ⟨a, rfl⟩ : ∃ a : Nat, at' = a := ⟨at'.toNat, by omega⟩
  have v0 : 0 ≤ v := by simp at hv; omega
  obtain ⟨w, rfl⟩ : ∃ w : Nat, v = w := ⟨v.toNat, by omega⟩
  have hw : w ∈ ([1, 3, 7, 11, 17, 25] : List Nat) := by simp at hv ⊢; omega
  have bt' : base.cps.toList = (List.range 8).map fun i => ltN (s + 5 * i) := by
    rw [bt]
    apply List.map_congr_left
    intro i _
    rw [← lcAt_eq]
    congr 1
  have bn : base.length = 8 := by
    have : base.length = base.cps.toList.length := by simp [Str.length]
    rw [this, bt']; simp
  have ew : ∀ k : Nat, (wdS base s way z a w k).cps.toList = wL s z a w k (decide (way = 3)) := fun k => by
    have em : lcAt ((s : Int) + (w : Int) * (k : Nat)) = ltN (s + w * k) := by
      rw [← lcAt_eq]
      congr 1
    unfold wdS wL
    rw [em]
    by_cases h3 : way = 3
    · rw [if_pos h3, if_pos (decide_eq_true h3)]
      have e1 : ((k : Int) * (w : Int) % 6) = ((k * w % 6 : Nat) : Int) := by
        rw [Int.natCast_emod, Int.natCast_mul]; rfl
      rw [e1]
      show tl (_ ++ _) = _
      rw [tl_append]
      show [ltN (s + w * k)] ++ (cutS base none _).cps.toList = _
      rw [cut_hi_l, bt']; rfl
    · rw [if_neg h3, if_neg (by simp [h3])]
      show tl (_ ++ _ ++ _) = _
      rw [tl_append, tl_append]
      show (cutS base none _).cps.toList ++ [ltN (s + w * k)] ++ (cutS base _ _).cps.toList = _
      have e1 : (a : Int) + 1 = ((a + 1 : Nat) : Int) := by omega
      have e2 : 1 + (z : Int) = ((z + 1 : Nat) : Int) := by omega
      rw [e1, e2, cut_hi_l, cut_both_l (by omega) (by omega), bt', show z + 1 - (a + 1) = z - a by omega]
  have inj : ∀ x y : Str, x.cps.toList = y.cps.toList → x = y := fun x y h => by
    cases x; cases y
    congr 1
    exact Array.toList_inj.mp h
  have eE : ∀ x : Str, encL (fixW x).cps.toList = fixE x.cps.toList := fun x => by
    have hb : x ∈ bars ↔ isBarE x.cps.toList = true := by
      rw [isBarE_iff]
      unfold barsL
      rw [List.mem_map]
      exact ⟨fun h => ⟨x, h, rfl⟩, fun ⟨y, h, e⟩ => inj y x e ▸ h⟩
    unfold fixW fixE
    by_cases h : x ∈ bars
    · rw [if_pos h, if_pos (hb.mp h)]
      congr 1
      show tl (_ ++ _ ++ _) = _
      rw [tl_append, tl_append]
      have e1 : (1 : Int) = ((1 : Nat) : Int) := rfl
      show tl ("zz" : Str) ++ (cutS x none (some 1)).cps.toList ++ tl ("z" : Str) = _
      rw [e1, cut_hi_l]; rfl
    · rw [if_neg h, if_neg fun z => h (hb.mpr z)]
  have ends : ∀ w3 : Bool, (List.range 12).all (fun k => true) = true → undB ((List.range 12).map fun k => fixE (wL s (if w3 then 0 else z) (if w3 then 0 else a) w k w3)) = true := fun w3 _ => by
    cases w3 with
    | true =>
      have := chkW3_ok
      unfold chkW3 at this
      rw [List.all_eq_true] at this
      have := this s (List.mem_range.mpr (by omega))
      rw [List.all_eq_true] at this
      exact this w hw
    | false =>
      have := chkW_ok
      unfold chkW at this
      rw [List.all_eq_true] at this
      have := this s (List.mem_range.mpr (by omega))
      unfold chkWs at this
      rw [List.all_eq_true] at this
      have := this z (List.mem_range.mpr (by omega))
      rw [List.all_eq_true] at this
      have := this a (List.mem_range.mpr (by omega))
      rw [List.all_eq_true] at this
      exact this w hw
  have e3 : ∀ k, wL s (if decide (way = 3) then 0 else z) (if decide (way = 3) then 0 else a) w k (decide (way = 3)) = wL s z a w k (decide (way = 3)) := fun k => by
    cases decide (way = 3) <;> rfl
  have nd := undB_nodup (ends (decide (way = 3)) (by simp))
  have nd2 : ((List.range many.toNat).map fun k => fixE (wL s z a w k (decide (way = 3)))).Nodup := by
    refine List.Pairwise.sublist (List.Sublist.map _ ?_) (show List.Nodup _ by simpa only [e3] using nd)
    exact List.range_sublist.mpr (by omega)
  have nd3 : (((List.range many.toNat).map (wdS base s way z a w)).map fun x => encL (fixW x).cps.toList).Nodup := by
    rw [List.map_map]
    have : ((fun x => encL (fixW x).cps.toList) ∘ wdS base s way z a w) = fun k => fixE (wL s z a w k (decide (way = 3))) := by
      funext k
      show encL (fixW (wdS base s way z a w k)).cps.toList = _
      rw [eE, ew]
    rw [this]; exact nd2
  have nd4 : ((((List.range many.toNat).map (wdS base s way z a w)).map fixW).map fun x => encL x.cps.toList).Nodup := by rw [List.map_map]; exact nd3
  exact List.Pairwise.of_map _ (fun x y h e => h (by rw [e])) nd4
theorem words_nob {base : Str} {start way sz at' v : Int} (bt : base.cps.toList = (List.range 8).map fun i : Nat => lcAt (start + 5 * (i : Nat))) (s0 : 0 ≤ start) (s1 : start < 26) (z0 : 0 ≤ sz) (z1 : sz < 6) (t0 : 0 ≤ at') (t1 : at' < 1 + sz) (hv : v ∈ ([1, 3, 7, 11, 17, 25] : List Int)) (k : Nat) : fixW (wdS base start way sz at' v k) ≠ ("nobody" : Str) := by
  obtain ⟨s, rfl⟩ : ∃ s : Nat, start = s := ⟨start.toNat, by omega⟩
  obtain ⟨z, rfl⟩ : ∃ z : Nat, sz = z := ⟨sz.toNat, by omega⟩
  obtain ⟨a, rfl⟩ : ∃ a : Nat, at' = a := ⟨at'.toNat, by omega⟩
  have v0 : 0 ≤ v := by simp at hv; omega
  obtain ⟨w, rfl⟩ : ∃ w : Nat, v = w := ⟨v.toNat, by omega⟩
  have hw : w ∈ ([1, 3, 7, 11, 17, 25] : List Nat) := by simp at hv ⊢; omega
  have bt' : base.cps.toList = (List.range 8).map fun i => ltN (s + 5 * i) := by
    rw [bt]
    apply List.map_congr_left
    intro i _
    rw [← lcAt_eq]
    congr 1
  have bn : base.length = 8 := by
    have : base.length = base.cps.toList.length := by simp [Str.length]
    rw [this, bt']; simp
  have ew : ∀ k : Nat, (wdS base s way z a w k).cps.toList = wL s z a w k (decide (way = 3)) := fun k => by
    have em : lcAt ((s : Int) + (w : Int) * (k : Nat)) = ltN (s + w * k) := by
      rw [← lcAt_eq]
      congr 1
    unfold wdS wL
    rw [em]
    by_cases h3 : way = 3
    · rw [if_pos h3, if_pos (decide_eq_true h3)]
      have e1 : ((k : Int) * (w : Int) % 6) = ((k * w % 6 : Nat) : Int) := by
        rw [Int.natCast_emod, Int.natCast_mul]; rfl
      rw [e1]
      show tl (_ ++ _) = _
      rw [tl_append]
      show [ltN (s + w * k)] ++ (cutS base none _).cps.toList = _
      rw [cut_hi_l, bt']; rfl
    · rw [if_neg h3, if_neg (by simp [h3])]
      show tl (_ ++ _ ++ _) = _
      rw [tl_append, tl_append]
      show (cutS base none _).cps.toList ++ [ltN (s + w * k)] ++ (cutS base _ _).cps.toList = _
      have e1 : (a : Int) + 1 = ((a + 1 : Nat) : Int) := by omega
      have e2 : 1 + (z : Int) = ((z + 1 : Nat) : Int) := by omega
      rw [e1, e2, cut_hi_l, cut_both_l (by omega) (by omega), bt', show z + 1 - (a + 1) = z - a by omega]
  intro e
  unfold fixW at e
  split at e
  · have e2 : tl (("zz" : Str) ++ cutS (wdS base s way z a w k) none (some 1) ++ ("z" : Str)) = tl ("nobody" : Str) := congrArg tl e
    rw [tl_append, tl_append] at e2
    have e3 := congrArg List.head? e2
    have h1 : tl ("zz" : Str) = [122, 122] := rfl
    have h2 : tl ("nobody" : Str) = [110, 111, 98, 111, 100, 121] := rfl
    rw [h1, h2] at e3
    simp at e3
  · have e2 : wL s z a w k (decide (way = 3)) = [110, 111, 98, 111, 100, 121] := by rw [← ew, e]; rfl
    have ss : s < 26 := by omega
    have az : a ≤ z := by omega
    have z6 : z < 6 := by omega
    cases h3 : decide (way = 3) with
    | false =>
      rw [h3] at e2
      have l := congrArg List.length e2
      simp [wL] at l
      have z5 : z = 5 := by omega
      subst z5
      have ha : a = 0 ∨ a = 1 ∨ a = 2 ∨ a = 3 ∨ a = 4 ∨ a = 5 := by omega
      rcases ha with rfl | rfl | rfl | rfl | rfl | rfl <;> (simp [wL, ltN, List.range_succ] at e2; omega)
    | true =>
      rw [h3] at e2
      have l := congrArg List.length e2
      simp [wL] at l
      generalize ht : k * w % 6 = t at e2 l
      have t5 : t = 5 := by omega
      subst t5
      simp [wL, ltN, List.range_succ, ht] at e2
      omega
def sp__law_words_aaf2f6 : HSp := fun ps n C => ∃ many : Int, ps = [.drw, .dat (.int many)] ∧ 0 ≤ many ∧ many ≤ 12 ∧ n < 134217728 ∧ ∀ ws : List Str, (ws.length : Int) = many → (∀ w ∈ ws, isWordS w = true) → ws.Nodup → (∀ w ∈ ws, w ≠ ("nobody" : Str)) → C (.own (ws.map .str)) (n + 5)
def h__law_words_aaf2f6 : HS :=
    (hSeq (hAsg (hK (.str "abcdefghijklmnopqrstuvwxyz")) 2)
    (hSeq (fun D s => (hTup (hE (hCall sp__law_draw_a6e186 2 (hL 0 (hE (hK (.int 26)) hNil))) (hE (hCall sp__law_draw_a6e186 2 (hL 0 (hE (hK (.int 4)) hNil))) hNil))) s fun p s1 => ∃ d, p.frz = some d ∧ (gP 3 4) d s1 D.nx)
    (hSeq (hAsg (hC addW (hE (hK (.int 1)) (hE (hCall sp__law_draw_a6e186 2 (hL 0 (hE (hK (.int 6)) hNil))) hNil))) 5)
    (hSeq (hAsg (hCall sp__law_draw_a6e186 2 (hL 0 (hL 5 hNil))) 6)
    (hSeq (hAsg (hC ixW (hE (hLst (hE (hK (.int 1)) (hE (hK (.int 3)) (hE (hK (.int 7)) (hE (hK (.int 11)) (hE (hK (.int 17)) (hE (hK (.int 25)) hNil))))))) (hE (hCall sp__law_draw_a6e186 2 (hL 0 (hE (hK (.int 6)) hNil))) hNil))) 7)
    (hSeq (hAsg (hC (joinW "") (hE (hLc (hiR1 (hE (hK (.int 8)) hNil)) (gN 9) hYes (hC ixW (hL 2 (hE (hC modW (hE (hC addW (hL 3 (hE (hC mulW' (hE (hK (.int 5)) (hL 9 hNil))) hNil))) (hE (hK (.int 26)) hNil))) hNil))) [9]) hNil)) 8)
    (hSeq (hAsg (hLst hNil) 10)
    (hSeq (hFor (hiR1 (hL 1 hNil)) (gN 11) (hSeq (hAsg (hC ixW (hL 2 (hE (hC modW (hE (hC addW (hL 3 (hE (hC mulW' (hL 7 (hL 11 hNil))) hNil))) (hE (hK (.int 26)) hNil))) hNil))) 12)
    (hIfS (hB (hC (eqP false) (hL 4 (hE (hK (.int 3)) hNil)))) (hDrop (hApp 10 (hC addW (hL 12 (hE (hSl 8 hNo (hPt (hC modW (hE (hC mulW' (hL 11 (hL 7 hNil))) (hE (hK (.int 6)) hNil))))) hNil))))) (hDrop (hApp 10 (hC addW (hE (hC addW (hE (hSl 8 hNo (hPt (hV 6))) (hL 12 hNil))) (hE (hSl 8 (hPt (hC addW (hL 6 (hE (hK (.int 1)) hNil)))) (hPt (hV 5))) hNil))))))))
    (hSeq (hAsg (hLst (hE (hK (.str "stop")) (hE (hK (.str "spin")) (hE (hK (.str "out")) (hE (hK (.str "own")) (hE (hK (.str "beside")) (hE (hK (.str "hide")) (hE (hK (.str "as")) hNil)))))))) 13)
    (hRet (hLc (hiL (hV 10)) (gN 14) hYes (hIf (hB (hC (inP true) (hL 14 (hL 13 hNil)))) (hV 14) (hC addW (hE (hC addW (hE (hK (.str "zz")) (hE (hSl 14 hNo (hPt (hK (.int 1)))) hNil))) (hE (hK (.str "z")) hNil)))) [14])))))))))))
theorem rd__law_words_aaf2f6 : ∀ pvs n C, pvs.length = 2 → sp__law_words_aaf2f6 pvs n C → h__law_words_aaf2f6 ⟨fun s => C (.dat .none) s.n, fun p s => C p s.n, fun _ => False, fun _ => False⟩ ⟨pvs.map some ++ List.replicate (15 - pvs.length) none, n⟩ := by
  intro pvs n C _ h
  obtain ⟨many, rfl, m0, m1, hn, q⟩ := h
  unfold h__law_words_aaf2f6
  have drw : ∀ (k : Int) (n : Nat) (C : PV → Nat → Prop), 0 < k → k ≤ 1000000 → n < 268435456 → (∀ i : Int, 0 ≤ i → i < k → C (.dat (.int i)) (n + 1)) → spDraw [.drw, .dat (.int k)] n C := fun k n C a b c d => ⟨k, rfl, a, b, c, d⟩
  simp only [hSeq, hAsg, hK, Sg.put, List.map_cons, List.map_nil, List.length_cons, List.length_nil, List.cons_append, List.nil_append, List.set_cons_succ, List.set_cons_zero, List.replicate, hTup, hC, hE, hCall, hL, hNil, List.getElem?_cons_zero, List.getElem?_cons_succ]
  simp [dats]
  refine drw 26 n _ (by decide) (by decide) (by omega) fun start s0 s1 => ?_
  simp
  refine drw 4 _ _ (by decide) (by decide) (by omega) fun way w0 w1 => ?_
  simp
  refine drw 6 _ _ (by decide) (by decide) (by omega) fun sz z0 z1 => ?_
  simp
  refine drw (1 + sz) _ _ (by omega) (by omega) (by omega) fun at' t0 t1 => ?_
  refine drw 6 _ _ (by decide) (by decide) (by omega) fun st q0 q1 => ?_
  obtain ⟨v, hv, hvm, _⟩ := atI_int (cs := [1, 3, 7, 11, 17, 25]) q0 q1
  have v1 : 1 ≤ v ∧ v ≤ 25 := by
    simp at hvm
    omega
  refine ⟨_, rfl, (ix_lst (ds := [.int 1, .int 3, .int 7, .int 11, .int 17, .int 25])).mpr ⟨_, hv, ?_⟩⟩
  have e2 : (2 : Nat) ^ 100 = 1267650600228229401496703205376 := by decide
  -- the base
  let lt : Int → Str := fun i => ⟨#[(atI (letters.cps.toList) (i % 26)).getD 0]⟩
  have hlt : ∀ i, atI (letters.cps.toList) (i % 26) = some ((atI (letters.cps.toList) (i % 26)).getD 0) ∧ Lets (lt i) ∧ (lt i).length = 1 := fun i => by
    obtain ⟨c, h1, h2⟩ := letter_at i
    refine ⟨by rw [h1]; rfl, ?_, rfl⟩
    show Lets ⟨#[_]⟩
    rw [h1]; exact lets_one h2
  refine lcs_map (fun i : Nat => PyData.int (0 + (i : Nat))) (fun i => .str (lt (start + 5 * (i : Nat)))) (fun a ha K hK => ?_) [] _ (by simp) ?_
  · have ha' := List.mem_range.mp ha
    simp
    refine ⟨cmul (by decide) (by rw [e2]; omega), by show (26 : Nat) ≤ 100000; decide, _, (hlt _).1, hK _ ?_⟩
    simp
  have hys : ∀ y ∈ (List.range 8).map fun i : Nat => lt (start + 5 * (i : Nat)), Lets y ∧ y.length = 1 := fun y hy => by
    obtain ⟨i, _, rfl⟩ := List.mem_map.mp hy
    exact (hlt _).2
  obtain ⟨bl, bn⟩ := join_lets _ hys
  have bn : (Txt.join ("" : Str) ((List.range 8).map fun i : Nat => lt (start + 5 * (i : Nat)))).length = 8 := by rw [bn]; simp
  simp
  refine ⟨(List.range 8).map fun i : Nat => lt (start + 5 * (i : Nat)), by simp, ?_, ?_⟩
  · have e3 : ((List.range 8).map fun i : Nat => lt (start + 5 * (i : Nat))).map Str.length = List.replicate 8 1 := by
      rw [List.map_map, List.eq_replicate_iff]
      exact ⟨by simp, fun b hb => by
        obtain ⟨i, _, rfl⟩ := List.mem_map.mp hb
        exact (hlt _).2.2⟩
    rw [e3]
    have : ("" : Str).length = 0 := rfl
    rw [this]; simp
  have bt : (Txt.join ("" : Str) ((List.range 8).map fun i : Nat => lt (start + 5 * (i : Nat)))).cps.toList = (List.range 8).map fun i : Nat => lcAt (start + 5 * (i : Nat)) := by
    rw [join_tl, List.map_map]
    rfl
  generalize Txt.join ("" : Str) ((List.range 8).map fun i : Nat => lt (start + 5 * (i : Nat))) = base at bl bn bt
  refine ⟨⟨by omega, by omega⟩, ?_⟩
  have er : rngD 0 many.toNat = (List.range many.toNat).map fun i => PyData.int ((i : Nat) : Int) := by simp [rngD]
  rw [er]
  refine word_loop bl bn s0 s1 z0 z1 t0 t1 v1.1 v1.2 (List.range many.toNat) [] none none (fun k hk => by have := List.mem_range.mp hk; omega) (fun w hw => by cases hw) (by simp; omega) fun o11 o12 hg => ?_
  rw [List.nil_append] at hg ⊢
  have und := words_und bt s0 s1 z0 z1 t0 t1 hvm (way := way) m1
  have nob : ∀ w ∈ ((List.range many.toNat).map (wdS base start way sz at' v)).map fixW, w ≠ ("nobody" : Str) := fun w hw => by
    obtain ⟨u, hu, rfl⟩ := List.mem_map.mp hw
    obtain ⟨k, _, rfl⟩ := List.mem_map.mp hu
    exact words_nob bt s0 s1 z0 z1 t0 t1 hvm (way := way) k
  generalize hws : (List.range many.toNat).map (wdS base start way sz at' v) = ws at hg und nob ⊢
  have hl' : ws.length = many.toNat := by rw [← hws]; simp
  simp [dats]
  refine lcs_map (fun w : Str => PyData.str w) (fun w => .str (fixW w)) (fun w hw K hK => ?_) [] _ (by simp; omega) ?_
  · have gw := hg w hw
    simp
    refine inP_D w bars rfl rfl (by decide) ?_
    have wl : w.length ≤ sizeLine := by
      have := gw.2.2
      rw [sizeLine_eq]; omega
    by_cases hb : w ∈ bars
    · simp [hb]
      have c1 : (cutS w none (some 1)).length = min 1 w.length := cut_hi (by decide)
      have a : ("zz" : Str).length = 2 := rfl
      have b : ("z" : Str).length = 1 := rfl
      refine ⟨wl, by omega, by rw [len_app]; omega, ?_⟩
      have e : fixW w = ("zz" : Str) ++ cutS w none (some 1) ++ ("z" : Str) := by unfold fixW; rw [if_pos hb]
      rw [← e]
      refine hK _ ?_
      simp
    · simp [hb]
      have e : fixW w = w := by unfold fixW; rw [if_neg hb]
      rw [e] at hK
      refine hK _ ?_
      simp
  · simp
    have e : (ws.map fun w => PyData.str (fixW w)) = (ws.map fixW).map .str := by simp
    rw [e]
    refine q _ (by simp; omega) (fun w hw => ?_) und nob
    obtain ⟨u, hu, rfl⟩ := List.mem_map.mp hw
    exact fix_word (hg u hu)
end Sk
set_option Elab.async false
set_option linter.all false
set_option maxRecDepth 100000
set_option maxHeartbeats 4000000
namespace Sk
open PySem PySem.Spec PyProof.Rows L2
open PySem.W (Datum DatumOrd Tup T3 T4)
open Evl (Ex)
def VM (many : Int) (ws : List Str) (p : Str × Int) : Prop := 0 ≤ p.2 ∧ p.2 < many ∧ (p.1 ∈ ws ∨ p.1 = ("" : Str))
theorem drw' (k : Int) (n : Nat) (C : PV → Nat → Prop) : 0 < k → k ≤ 1000000 → n < 268435456 → (∀ i : Int, 0 ≤ i → i < k → C (.dat (.int i)) (n + 1)) → spDraw [.drw, .dat (.int k)] n C := fun a b c d => ⟨k, rfl, a, b, c, d⟩
abbrev moveBody : HS := (hSeq (hAsg (hOrV (hC (eqP false) (hL 2 (hE (hLst hNil) hNil))) (hC ltW (hE (hCall sp__law_draw_a6e186 2 (hL 0 (hE (hK (.int 6)) hNil))) (hL 4 hNil)))) 9)
    (hSeq (hAsg (hIf (hB (hV 9)) (hK (.str "")) (hC ixW (hL 2 (hE (hCall sp__law_draw_a6e186 2 (hL 0 (hE (hC lenW (hL 2 hNil)) hNil))) hNil)))) 10)
    (hDrop (hApp 7 (hTup (hE (hV 10) (hE (hC ixW (hE (hLst (hE (hC modW (hE (hC addW (hL 6 (hE (hK (.int 1)) hNil))) (hL 3 hNil))) (hE (hCall sp__law_draw_a6e186 2 (hL 0 (hL 3 hNil))) hNil))) (hE (hCall sp__law_draw_a6e186 2 (hL 0 (hE (hK (.int 2)) hNil))) hNil))) hNil)))))))
theorem atI_str {ws : List Str} {i : Int} (h0 : 0 ≤ i) (h1 : i < ws.length) : ∃ x, atI (ws.map PyData.str) i = some (.str x) ∧ x ∈ ws := by
  have hl : i.toNat < ws.length := by omega
  refine ⟨ws[i.toNat], ?_, List.getElem_mem hl⟩
  unfold atI ixN
  rw [List.length_map, if_pos h0, if_pos (by omega)]
  show (ws.map PyData.str)[i.toNat]? = _
  rw [List.getElem?_map, List.getElem?_eq_getElem hl]; rfl
theorem move_loop {D : HD} {most many hid : Int} {ws : List Str} {o5 : Option PV} {k : Int} (mm : 1 ≤ many) (mh : many ≤ 1000) (hk : 0 ≤ k) (hw : ws.length ≤ 1000) : ∀ (js : List Nat) (row : List (Str × Int)) (o8 o9 o10 : Option PV) (n : Nat), (∀ p ∈ row, VM many ws p) → row.length + js.length ≤ 1000 → n + 4 * js.length < 268435456 →
    (∀ (row' : List (Str × Int)) (o8' o9' o10' : Option PV) (n' : Nat), row'.length = row.length + js.length → (∀ p ∈ row', VM many ws p) → n' ≤ n + 4 * js.length → D.nx ⟨[some .drw, some (.dat (.int most)), some (.dat (.list (ws.map .str))), some (.dat (.int many)), some (.dat (.int hid)), o5, some (.dat (.int k)), some (.own (row'.map Datum.toD)), o8', o9', o10'], n'⟩) →
    each (gN 8) moveBody D (js.map fun i => PyData.int ((i : Nat) : Int)) ⟨[some .drw, some (.dat (.int most)), some (.dat (.list (ws.map .str))), some (.dat (.int many)), some (.dat (.int hid)), o5, some (.dat (.int k)), some (.own (row.map Datum.toD)), o8, o9, o10], n⟩ := by
  intro js
  induction js with
  | nil => intro row o8 o9 o10 n hv _ _ fin; exact fin row o8 o9 o10 n rfl hv (by simp)
  | cons j js ih =>
    intro row o8 o9 o10 n hv hl hn fin
    have hl' : row.length + (js.length + 1) ≤ 1000 := by simpa using hl
    have hn' : n + 4 * (js.length + 1) < 268435456 := by simpa using hn
    have next : ∀ (p : Str × Int) (a b c : Option PV) (n2 : Nat), VM many ws p → n2 ≤ n + 4 → each (gN 8) moveBody D (js.map fun i => PyData.int ((i : Nat) : Int)) ⟨[some .drw, some (.dat (.int most)), some (.dat (.list (ws.map .str))), some (.dat (.int many)), some (.dat (.int hid)), o5, some (.dat (.int k)), some (.own (row.map Datum.toD ++ [.tuple [.str p.1, .int p.2]])), a, b, c], n2⟩ := fun p a b c n2 hp h2 => by
      have e : row.map (Datum.toD : Str × Int → PyData) ++ [.tuple [.str p.1, .int p.2]] = (row ++ [p]).map Datum.toD := by rw [List.map_append]; rfl
      rw [e]
      refine ih _ _ _ _ _ (fun y hy => ?_) (by simp; omega) (by omega) fun row' x y z n' h3 h4 h5 => fin row' x y z n' (by simp at h3 ⊢; omega) h4 (by simp; omega)
      rcases List.mem_append.mp hy with hy | hy
      · exact hv y hy
      · rw [List.mem_singleton.mp hy]; exact hp
    have r0 : 0 ≤ (k + 1) % many := Int.emod_nonneg _ (by omega)
    have r1 : (k + 1) % many < many := Int.emod_lt_of_pos _ (by omega)
    -- the move's deed is there
    have last : ∀ (deed : Str) (b : Option PV) (n2 : Nat), (deed ∈ ws ∨ deed = ("" : Str)) → n2 ≤ n + 2 → 
        (hDrop (hApp 7 (hTup (hE (hV 10) (hE (hC ixW (hE (hLst (hE (hC modW (hE (hC addW (hL 6 (hE (hK (.int 1)) hNil))) (hL 3 hNil))) (hE (hCall sp__law_draw_a6e186 2 (hL 0 (hL 3 hNil))) hNil))) (hE (hCall sp__law_draw_a6e186 2 (hL 0 (hE (hK (.int 2)) hNil))) hNil))) hNil))))) { D with nx := each (gN 8) moveBody D (js.map fun i => PyData.int ((i : Nat) : Int)), ct := each (gN 8) moveBody D (js.map fun i => PyData.int ((i : Nat) : Int)), bk := D.nx }
          ⟨[some .drw, some (.dat (.int most)), some (.dat (.list (ws.map .str))), some (.dat (.int many)), some (.dat (.int hid)), o5, some (.dat (.int k)), some (.own (row.map Datum.toD)), some (.dat (.int (j : Nat))), b, some (.dat (.str deed))], n2⟩ := fun deed b n2 hd h2 => by
      simp [dats]
      refine ⟨by omega, drw' many _ _ (by omega) (by omega) (by omega) fun i i0 i1 => ?_⟩
      simp
      refine drw' 2 _ _ (by decide) (by decide) (by omega) fun c c0 c1 => ?_
      have hc : ∃ x, atI [PyData.int ((k + 1) % many), .int i] c = some (.int x) ∧ 0 ≤ x ∧ x < many := by
        obtain ⟨x, h1, h2, _⟩ := atI_int (cs := [(k + 1) % many, i]) (i := c) c0 c1
        refine ⟨x, h1, ?_⟩
        simp at h2
        rcases h2 with rfl | rfl
        · exact ⟨r0, r1⟩
        · exact ⟨i0, i1⟩
      obtain ⟨x, hx, x0, x1⟩ := hc
      simp [hx]
      exact ⟨by omega, next (deed, x) _ _ _ _ ⟨x0, x1, hd⟩ (by omega)⟩
    simp [-hDrop, dats]
    refine eqP_D (α := List Str) ws [] rfl rfl (by decide) ?_
    by_cases he : ws = []
    · subst he
      simp [-hDrop]
      refine last ("" : Str) _ _ (Or.inr rfl) ?_
      omega
    · have wl : 0 < ws.length := List.length_pos_iff.mpr he
      simp [-hDrop, he]
      refine drw' 6 _ _ (by decide) (by decide) (by omega) fun a a0 a1 => ?_
      simp [-hDrop]
      by_cases hh : a < hid
      · simp [-hDrop, hh]
        refine Or.inr (last ("" : Str) _ _ (Or.inr rfl) ?_)
        omega
      · simp [-hDrop, hh]
        refine ⟨by omega, drw' ws.length _ _ (by omega) (by omega) (by omega) fun i i0 i1 => ?_⟩
        obtain ⟨x, hx, hm⟩ := atI_str i0 i1
        simp [-hDrop, hx]
        refine last x _ _ (Or.inl hm) ?_
        omega
theorem rows_flat {ws : List Str} {many : Int} {M : Mch} (h : ∀ r ∈ M.items, ∀ p ∈ r.items, VM many ws p) : ∀ x ∈ M.deeds, x ∈ ws := fun x hx => by
  unfold Mch.deeds Mch.rows rowDeeds at hx
  obtain ⟨l, hl, hxl⟩ := List.mem_flatten.mp hx
  rw [List.map_map] at hl
  obtain ⟨r, hr, rfl⟩ := List.mem_map.mp hl
  obtain ⟨p, hp, rfl⟩ := List.mem_map.mp hxl
  obtain ⟨hp1, hp2⟩ := List.mem_filter.mp hp
  have hp2 := of_decide_eq_true hp2
  exact (h r hr p hp1).2.2.resolve_right hp2
abbrev nodeBody : HS := (hSeq (hAsg (hLst hNil) 7)
    (hSeq (hFor (hiR1 (hE (hC ixW (hE (hLst (hE (hK (.int 0)) (hE (hK (.int 1)) (hE (hK (.int 1)) (hE (hK (.int 2)) (hE (hK (.int 2)) (hE (hK (.int 3)) (hE (hK (.int 1)) (hE (hK (.int 4)) hNil))))))))) (hE (hCall sp__law_draw_a6e186 2 (hL 0 (hE (hK (.int 8)) hNil))) hNil))) hNil)) (gN 8) moveBody)
    (hDrop (hApp 5 (hC tupW (hE (hC (sortUA (Str × Int) 64) (hL 7 hNil)) hNil))))))
theorem node_loop {D : HD} {most many hid : Int} {ws : List Str} (mm : 1 ≤ many) (mh : many ≤ 1000) (hw : ws.length ≤ 1000) : ∀ (ks : List Nat) (found : List (Tup (Str × Int))) (o6 o7 o8 o9 o10 : Option PV) (n : Nat), (∀ r ∈ found, (∀ p ∈ r.items, VM many ws p) ∧ Rising r.items ∧ r.items.length ≤ 4) → found.length + ks.length ≤ 1000 → n + 17 * ks.length < 268435456 →
    (∀ (found' : List (Tup (Str × Int))) (o6' o7' o8' o9' o10' : Option PV) (n' : Nat), found'.length = found.length + ks.length → (∀ r ∈ found', (∀ p ∈ r.items, VM many ws p) ∧ Rising r.items ∧ r.items.length ≤ 4) → n' ≤ n + 17 * ks.length → D.nx ⟨[some .drw, some (.dat (.int most)), some (.dat (.list (ws.map .str))), some (.dat (.int many)), some (.dat (.int hid)), some (.own (found'.map Datum.toD)), o6', o7', o8', o9', o10'], n'⟩) →
    each (gN 6) nodeBody D (ks.map fun i => PyData.int ((i : Nat) : Int)) ⟨[some .drw, some (.dat (.int most)), some (.dat (.list (ws.map .str))), some (.dat (.int many)), some (.dat (.int hid)), some (.own (found.map Datum.toD)), o6, o7, o8, o9, o10], n⟩ := by
  intro ks
  induction ks with
  | nil => intro found o6 o7 o8 o9 o10 n hv _ _ fin; exact fin found o6 o7 o8 o9 o10 n rfl hv (by simp)
  | cons k ks ih =>
    intro found o6 o7 o8 o9 o10 n hv hl hn fin
    have hl' : found.length + (ks.length + 1) ≤ 1000 := by simpa using hl
    have hn' : n + 17 * (ks.length + 1) < 268435456 := by simpa using hn
    simp [-hDrop, dats]
    refine drw' 8 _ _ (by decide) (by decide) (by omega) fun a a0 a1 => ?_
    obtain ⟨m, hm, hmm, _⟩ := atI_int (cs := [0, 1, 1, 2, 2, 3, 1, 4]) a0 a1
    have m4 : 0 ≤ m ∧ m ≤ 4 := by
      simp at hmm
      omega
    refine ⟨_, rfl, (ix_lst (ds := [.int 0, .int 1, .int 1, .int 2, .int 2, .int 3, .int 1, .int 4])).mpr ⟨_, hm, ?_⟩⟩
    refine ⟨_, rfl, ⟨by omega, by omega⟩, ?_⟩
    have er : rngD 0 m.toNat = (List.range m.toNat).map fun i => PyData.int ((i : Nat) : Int) := by simp [rngD]
    rw [er]
    refine move_loop (ws := ws) (most := most) (many := many) (hid := hid) mm mh (by omega) hw (List.range m.toNat) [] _ _ _ _ (fun p hp => by cases hp) (by simp; omega) (by simp; omega) fun row o8' o9' o10' n' hr hv' hn2 => ?_
    have hr' : row.length = m.toNat := by simpa using hr
    simp only [List.length_range] at hn2
    have small : (sortU row).length ≤ row.length := sortU_len row
    simp
    refine ⟨row, rfl, by omega, ?_⟩
    simp only [frz_own, Option.some.injEq, exists_eq_left', tup_lst, frz_dat]
    refine ⟨by omega, ?_⟩
    have e : found.map (Datum.toD : Tup (Str × Int) → PyData) ++ [.tuple ((sortU row).map Datum.toD)] = (found ++ [Tup.mk (sortU row)]).map Datum.toD := by rw [List.map_append]; rfl
    rw [e]
    refine ih _ _ _ _ _ _ _ (fun r hr => ?_) (by simp; omega) (by omega) fun f' a b c d e2 n2 h1 h2 h3 => fin f' a b c d e2 n2 (by simp at h1 ⊢; omega) h2 (by simp; omega)
    rcases List.mem_append.mp hr with hr | hr
    · exact hv r hr
    · rw [List.mem_singleton.mp hr]
      exact ⟨fun p hp => hv' p (mem_sortU.mp hp), sortU_rising row, by show (sortU row).length ≤ 4; omega⟩
def DeedsIn (ws : List Str) (M : Mch) : Prop := ∀ r ∈ M.items, ∀ p ∈ r.items, p.1 ∈ ws ∨ p.1 = ("" : Str)
def sp__law_machine_5d3daf : HSp := fun ps n C => ∃ (most : Int) (ws : List Str), ps = [.drw, .dat (.int most), .dat (.list (ws.map .str))] ∧ 1 ≤ most ∧ most ≤ 300 ∧ ws.length ≤ 8 ∧ (∀ w ∈ ws, isWordS w = true) ∧ n < 134217728 ∧ ∀ (M : Mch) (n' : Nat), MOk M → (∀ r ∈ M.items, r.items.length ≤ 4) → (M.items.length : Int) ≤ most → (n' ≤ n + 6000 ∧ DeedsIn ws M) → C (.dat (Datum.toD M)) n'
def h__law_machine_5d3daf : HS :=
    (hSeq (hPar 3 4 (hE (hC addW (hE (hK (.int 1)) (hE (hCall sp__law_draw_a6e186 2 (hL 0 (hL 1 hNil))) hNil))) (hE (hCall sp__law_draw_a6e186 2 (hL 0 (hE (hK (.int 4)) hNil))) hNil)))
    (hSeq (hAsg (hLst hNil) 5)
    (hSeq (hFor (hiR1 (hL 3 hNil)) (gN 6) (hSeq (hAsg (hLst hNil) 7)
    (hSeq (hFor (hiR1 (hE (hC ixW (hE (hLst (hE (hK (.int 0)) (hE (hK (.int 1)) (hE (hK (.int 1)) (hE (hK (.int 2)) (hE (hK (.int 2)) (hE (hK (.int 3)) (hE (hK (.int 1)) (hE (hK (.int 4)) hNil))))))))) (hE (hCall sp__law_draw_a6e186 2 (hL 0 (hE (hK (.int 8)) hNil))) hNil))) hNil)) (gN 8) (hSeq (hAsg (hOrV (hC (eqP false) (hL 2 (hE (hLst hNil) hNil))) (hC ltW (hE (hCall sp__law_draw_a6e186 2 (hL 0 (hE (hK (.int 6)) hNil))) (hL 4 hNil)))) 9)
    (hSeq (hAsg (hIf (hB (hV 9)) (hK (.str "")) (hC ixW (hL 2 (hE (hCall sp__law_draw_a6e186 2 (hL 0 (hE (hC lenW (hL 2 hNil)) hNil))) hNil)))) 10)
    (hDrop (hApp 7 (hTup (hE (hV 10) (hE (hC ixW (hE (hLst (hE (hC modW (hE (hC addW (hL 6 (hE (hK (.int 1)) hNil))) (hL 3 hNil))) (hE (hCall sp__law_draw_a6e186 2 (hL 0 (hL 3 hNil))) hNil))) (hE (hCall sp__law_draw_a6e186 2 (hL 0 (hE (hK (.int 2)) hNil))) hNil))) hNil))))))))
    (hDrop (hApp 5 (hC tupW (hE (hC (sortUA (Str × Int) 64) (hL 7 hNil)) hNil)))))))
    (hRet (hC tupW (hL 5 hNil))))))
theorem rd__law_machine_5d3daf : ∀ pvs n C, pvs.length = 3 → sp__law_machine_5d3daf pvs n C → h__law_machine_5d3daf ⟨fun s => C (.dat .none) s.n, fun p s => C p s.n, fun _ => False, fun _ => False⟩ ⟨pvs.map some ++ List.replicate (11 - pvs.length) none, n⟩ := by
  intro pvs n C _ h
  obtain ⟨most, ws, rfl, b0, b1, hw, hws, hn, q⟩ := h
  unfold h__law_machine_5d3daf
  simp [-hDrop, dats]
  refine drw' most _ _ (by omega) (by omega) (by omega) fun i i0 i1 => ?_
  simp [-hDrop]
  refine drw' 4 _ _ (by decide) (by decide) (by omega) fun hid h0 h1 => ?_
  simp [-hDrop]
  refine ⟨_, _, ⟨rfl, rfl⟩, rfl, rfl, ⟨by omega, by omega⟩, ?_⟩
  have er : rngD 0 (1 + i).toNat = (List.range (1 + i).toNat).map fun i => PyData.int ((i : Nat) : Int) := by simp [rngD]
  rw [er]
  refine node_loop (ws := ws) (most := most) (many := 1 + i) (hid := hid) (by omega) (by omega) (by omega) (List.range (1 + i).toNat) [] _ _ _ _ _ _ (fun r hr => by cases hr) (by simp; omega) (by simp; omega) fun found a b c d e n' hl hv hn2 => ?_
  have hl' : found.length = (1 + i).toNat := by simpa using hl
  simp only [List.length_range] at hn2
  simp
  refine q (Tup.mk found) n' ⟨?_, ?_, fun r hr p hp => ?_, fun r hr => (hv r hr).2.1, ?_, ?_⟩ (fun r hr => (hv r hr).2.2) ?_ ⟨by omega, fun r hr p hp => ((hv r hr).1 p hp).2.2⟩
  · show 1 ≤ found.length; omega
  · show found.length ≤ 300; omega
  · obtain ⟨x0, x1, x2⟩ := (hv r hr).1 p hp
    refine ⟨x0, by show p.2 < ((found.length : Nat) : Int); omega, x2.imp (fun z => hws _ z) id⟩
  · have sub := rows_flat (M := Tup.mk found) fun r hr => (hv r hr).1
    have := nodup_le _ ws (sortU_rising (Mch.deeds (Tup.mk found))).nodup fun x hx => sub x (mem_sortU.mp hx)
    omega
  · have gen : ∀ fs : List (Tup (Str × Int)), (∀ r ∈ fs, r.items.length ≤ 4) → ((fs.map Tup.items).map List.length).sum ≤ 4 * fs.length := fun fs => by
      induction fs with
      | nil => intro _; simp
      | cons f fs ih =>
        intro h
        have := ih fun r hr => h r (List.mem_cons_of_mem _ hr)
        have := h f List.mem_cons_self
        simp only [List.map_cons, List.sum_cons, List.length_cons]
        omega
    have := gen found fun r hr => (hv r hr).2.2
    show ((found.map Tup.items).map List.length).sum ≤ 40000
    omega
  · show ((found.length : Nat) : Int) ≤ most
    omega
end Sk
set_option Elab.async false
set_option linter.all false
set_option maxRecDepth 100000
set_option maxHeartbeats 4000000
namespace Sk
open PySem PySem.Spec PyProof.Rows L2
open PySem.W (Datum DatumOrd Tup T3 T4)
open Evl (Ex)
theorem sortL_sortU {α : Type} [DecidableEq α] [DatumOrd α] [OrdL α] {xs ys : List α} (h : xs.Nodup) (m : ∀ x, x ∈ xs ↔ x ∈ ys) : sortL xs = sortU ys := sortU_eq (sortL_rising h) fun x => mem_sortL.trans (m x)
theorem mem_deeds {M : Mch} {x : Str} : x ∈ M.deeds ↔ ∃ r ∈ M.items, x ∈ rowDeeds r.items := by
  simp only [Mch.deeds, Mch.rows, List.mem_flatten, List.mem_map]
  constructor
  · rintro ⟨_, ⟨_, ⟨r, hr, rfl⟩, rfl⟩, hx⟩
    exact ⟨r, hr, hx⟩
  · rintro ⟨r, hr, hx⟩
    exact ⟨_, ⟨r.items, ⟨r, hr, rfl⟩, rfl⟩, hx⟩
end Sk
set_option Elab.async false
set_option linter.all false
set_option maxRecDepth 100000
set_option maxHeartbeats 4000000
namespace Sk
open PySem PySem.Spec PyProof.Rows L2
open PySem.W (Datum DatumOrd Tup T3 T4)
open Evl (Ex)
@[simp] theorem add_ol {ds es : List PyData} {C : PV → Prop} : addW [.own ds, .dat (.list es)] C ↔ ds.length + es.length ≤ 100000 ∧ C (.own (ds ++ es)) := by simp [addW]
theorem rng_len {L : Nat} {ks : List Int} (nd : ks.Nodup) (h : ∀ k ∈ ks, 0 ≤ k ∧ k < L) : ks.length ≤ L := by
  have := nodup_le ks ((List.range L).map fun i => ((i : Nat) : Int)) nd fun k hk => by
    obtain ⟨a, b⟩ := h k hk
    exact List.mem_map.mpr ⟨k.toNat, List.mem_range.mpr (by omega), by omega⟩
  simpa using this
end Sk
set_option Elab.async false
set_option linter.all false
set_option maxRecDepth 100000
set_option maxHeartbeats 4000000
namespace Sk
open PySem PySem.Spec PyProof.Rows L2
open PySem.W (Datum DatumOrd Tup T3 T4)
open Evl (Ex)
structure ShowOk (d : PyData) : Prop where
  sh : d.showable = true
  hd : d.hasDict = false
  dp : d.depth ≤ 100
  lf : d.leavesShort 13 = true
  wt : d.weight ≤ 2 ^ 20
theorem repr_ok {d : PyData} {p : PV} {C : PV → Prop} (h : ShowOk d) (e : p.frz = some d) (c : C (.dat (.str d.shown))) : reprW [p] C := ⟨d, e, h.sh, h.hd, h.dp, PyData.shown_fits (by decide) (by decide) h.lf h.wt, c⟩
structure ShowAll (ds : List PyData) (k w : Nat) : Prop where
  sh : PyData.showableAll ds = true
  hd : PyData.hasDictAll ds = false
  dp : PyData.depthAll ds ≤ k
  lf : PyData.leavesShortAll 13 ds = true
  wt : PyData.weightAll ds ≤ w
theorem ShowAll.nil {k w : Nat} : ShowAll [] k w := ⟨rfl, rfl, Nat.zero_le _, rfl, Nat.zero_le _⟩
theorem ShowAll.cons {d : PyData} {ds : List PyData} {k w v : Nat} (h1 : d.showable = true) (h2 : d.hasDict = false) (h3 : d.depth ≤ k) (h4 : d.leavesShort 13 = true) (h5 : d.weight ≤ v) (t : ShowAll ds k w) : ShowAll (d :: ds) k (v + 1 + w) where
  sh := by simp only [PyData.showableAll, h1, t.sh, Bool.and_self]
  hd := by simp only [PyData.hasDictAll, h2, t.hd, Bool.or_self]
  dp := by simp only [PyData.depthAll]; exact Nat.max_le.mpr ⟨h3, t.dp⟩
  lf := by simp only [PyData.leavesShortAll, h4, t.lf, Bool.and_self]
  wt := by
    have := t.wt
    simp only [PyData.weightAll]
    omega
theorem ShowAll.list {ds : List PyData} {k w : Nat} (h : ShowAll ds k w) (hk : k ≤ 99) (hw : w ≤ 2 ^ 20) : ShowOk (.list ds) where
  sh := by simp only [PyData.showable]; exact h.sh
  hd := by simp only [PyData.hasDict]; exact h.hd
  dp := by
    have := h.dp
    simp only [PyData.depth]
    omega
  lf := by simp only [PyData.leavesShort]; exact h.lf
  wt := by
    have := h.wt
    simp only [PyData.weight]
    omega
theorem ShowAll.tup {ds : List PyData} {k w : Nat} (h : ShowAll ds k w) (hk : k ≤ 99) (hw : w ≤ 2 ^ 20) : ShowOk (.tuple ds) where
  sh := by simp only [PyData.showable]; exact h.sh
  hd := by simp only [PyData.hasDict]; exact h.hd
  dp := by
    have := h.dp
    simp only [PyData.depth]
    omega
  lf := by simp only [PyData.leavesShort]; exact h.lf
  wt := by
    have := h.wt
    simp only [PyData.weight]
    omega
theorem int_show {i : Int} (h0 : 0 ≤ i) (h1 : i < 1000000) : PyData.showable (.int i) = true ∧ PyData.leavesShort 13 (.int i) = true ∧ PyData.weight (.int i) ≤ 20 := by
  have a : i.natAbs < 1000000 := by omega
  have l : i.natAbs.log2 < 20 := by
    by_cases z : i.natAbs = 0
    · rw [z]; decide
    · exact (Nat.log2_lt z).mpr (by have : (2 : Nat) ^ 20 = 1048576 := by decide
                                    omega)
  refine ⟨?_, ?_, ?_⟩
  · simp only [PyData.showable, decide_eq_true_eq]; omega
  · simp only [PyData.leavesShort, decide_eq_true_eq]
    exact PyData.shown_int_le (by have : (10 : Nat) ^ 12 = 1000000000000 := by decide
                                  omega)
  · simp only [PyData.weight]
    split
    · omega
    · omega
theorem word_small {z : Str} (h : isWordS z = true) : (∀ c ∈ z.cps.toList, c < 16 ^ 8) ∧ z.length ≤ 6 := by
  unfold isWordS at h
  simp only [Bool.and_eq_true, decide_eq_true_eq, List.all_eq_true] at h
  obtain ⟨⟨⟨_, h1⟩, _⟩, h2⟩ := h
  refine ⟨fun c hc => ?_, h1⟩
  have hl : ∀ c ∈ letters.cps, c < 16 ^ 8 := by decide +kernel
  exact hl c (by simpa using h2 c hc)
theorem MOk.reach {M : Mch} (ok : MOk M) {x : Int} (h : Reach M x) : 0 ≤ x ∧ x < M.items.length := by
  have lo := ok.lo
  induction h with
  | start => exact ⟨Int.le_refl _, by omega⟩
  | step h1 h2 h3 ih =>
    rename_i x r p
    have hm : r ∈ M.rows := List.mem_of_getElem? h2
    obtain ⟨q, hq, rfl⟩ := List.mem_map.mp hm
    obtain ⟨a, b, _⟩ := ok.mv q hq p h3
    exact ⟨a, b⟩
end Sk
set_option Elab.async false
set_option linter.all false
set_option maxRecDepth 100000
set_option maxHeartbeats 4000000
namespace Sk
open PySem PySem.Spec PyProof.Rows L2
open PySem.W (Datum DatumOrd Tup T3 T4)
open Evl (Ex)
end Sk
namespace Sk
open PySem PySem.Spec PyProof.Rows L2
open PySem.W (Datum DatumOrd Tup T3 T4)
open Evl (Ex)
end Sk
set_option Elab.async false
set_option linter.all false
set_option maxRecDepth 100000
set_option maxHeartbeats 2000000
namespace Sk
open PySem PySem.Spec PyProof.Rows L2
open PySem.W (Datum DatumOrd Tup T3 T4)
def rowAt (M : Mch) (x : Int) : List (Str × Int) := match M.items[x.toNat]? with
  | some r => r.items
  | none => []
structure OrdOk (n : Nat) (o : List Int) : Prop where
  len : o.length = n
  nd : o.Nodup
  rng : ∀ x ∈ o, 0 ≤ x ∧ x < n
  hd : o.head? = some 0
theorem nodup_all {n : Nat} {o : List Int} (len : o.length = n) (nd : o.Nodup) (rng : ∀ x ∈ o, 0 ≤ x ∧ x < n) {x : Int} (h0 : 0 ≤ x) (h1 : x < n) : x ∈ o := by
  apply Classical.byContradiction
  intro hx
  have := rng_len (L := n) (ks := x :: o) (List.nodup_cons.mpr ⟨hx, nd⟩) fun k hk => by
    rcases List.mem_cons.mp hk with rfl | hk
    · exact ⟨h0, h1⟩
    · exact rng k hk
  simp at this
  omega
section
variable {n : Nat} {o o2 : List Int} {M : Mch} {x y : Int}
theorem OrdOk.mem (h : OrdOk n o) (h0 : 0 ≤ x) (h1 : x < n) : x ∈ o := nodup_all h.len h.nd h.rng h0 h1
theorem rowAt_mem {p : Str × Int} (h : p ∈ rowAt M x) : ∃ r ∈ M.items, p ∈ r.items := by
  unfold rowAt at h
  split at h
  · rename_i r hr
    exact ⟨r, List.mem_of_getElem? hr, h⟩
  · cases h
theorem rowAt_of {r : Tup (Str × Int)} (h : M.items[x.toNat]? = some r) : rowAt M x = r.items := by unfold rowAt; rw [h]
theorem rowAt_mv (ok : MOk M) {p : Str × Int} (h : p ∈ rowAt M x) : 0 ≤ p.2 ∧ p.2 < M.items.length ∧ (isWordS p.1 = true ∨ p.1 = ("" : Str)) := by
  obtain ⟨r, hr, hp⟩ := rowAt_mem h
  exact ok.mv r hr p hp
def RowsLe (k : Nat) (M : Mch) : Prop := ∀ r ∈ M.items, r.items.length ≤ k
theorem rowAt_le {k : Nat} (h : RowsLe k M) : (rowAt M x).length ≤ k := by
  unfold rowAt
  split
  · rename_i r hr
    exact h r (List.mem_of_getElem? hr)
  · exact Nat.zero_le _
def rngI (n : Nat) : List Int := (List.range n).map fun i => ((i : Nat) : Int)
theorem mem_rngI : x ∈ rngI n ↔ 0 ≤ x ∧ x < n := by
  unfold rngI
  rw [List.mem_map]
  constructor
  · rintro ⟨i, hi, rfl⟩
    have := List.mem_range.mp hi
    omega
  · rintro ⟨h0, h1⟩
    exact ⟨x.toNat, List.mem_range.mpr (by omega), by omega⟩
theorem rngI_rising : Rising (rngI n) := by
  unfold rngI Rising
  rw [List.pairwise_map]
  refine List.Pairwise.imp (fun {a b} h => ?_) List.pairwise_lt_range
  show decide ((a : Int) < b) = true
  exact decide_eq_true (by omega)
theorem rngI_len : (rngI n).length = n := by unfold rngI; rw [List.length_map, List.length_range]
end
end Sk
set_option Elab.async false
set_option linter.all false
set_option maxRecDepth 100000
set_option maxHeartbeats 4000000
namespace Sk
open PySem PySem.Spec PyProof.Rows L2
open PySem.W (Datum DatumOrd Tup T3 T4)
open Evl (Ex)
def simk (R : Int → Int → Bool) (M : Mch) (x y : Int) : Bool := (rowAt M x).all fun p => (rowAt M y).any fun q => decide (q.1 = p.1) && R p.2 q.2
def ek (M : Mch) : Nat → Int → Int → Bool
  | 0, _, _ => true
  | k + 1, x, y => ek M k x y && (simk (ek M k) M x y && simk (ek M k) M y x)
def InR (M : Mch) (x : Int) : Prop := 0 ≤ x ∧ x < M.items.length
def Rng (M : Mch) : Prop := ∀ x, ∀ p ∈ rowAt M x, InR M p.2
theorem MOk.rng {M : Mch} (ok : MOk M) : Rng M := fun x p hp => ⟨(rowAt_mv ok hp).1, (rowAt_mv ok hp).2.1⟩
theorem simk_iff {R : Int → Int → Bool} {M : Mch} {x y : Int} : simk R M x y = true ↔ ∀ p ∈ rowAt M x, ∃ q ∈ rowAt M y, q.1 = p.1 ∧ R p.2 q.2 = true := by
  unfold simk
  simp only [List.all_eq_true, List.any_eq_true, Bool.and_eq_true, decide_eq_true_eq]
section
variable {M : Mch} {x y z : Int}
theorem ek_succ {k : Nat} : ek M (k + 1) x y = true ↔ ek M k x y = true ∧ simk (ek M k) M x y = true ∧ simk (ek M k) M y x = true := by
  show (_ && (_ && _)) = true ↔ _
  simp only [Bool.and_eq_true]
theorem ek_refl : ∀ (k : Nat) (x : Int), ek M k x x = true
  | 0, _ => rfl
  | k + 1, x => by
    have h : simk (ek M k) M x x = true := simk_iff.mpr fun p hp => ⟨p, hp, rfl, ek_refl k _⟩
    exact ek_succ.mpr ⟨ek_refl k x, h, h⟩
theorem ek_symm : ∀ {k : Nat} {x y : Int}, ek M k x y = true → ek M k y x = true
  | 0, _, _, _ => rfl
  | k + 1, x, y, h => by
    obtain ⟨h1, h2, h3⟩ := ek_succ.mp h
    exact ek_succ.mpr ⟨ek_symm h1, h3, h2⟩
theorem ek_trans : ∀ {k : Nat} {x y z : Int}, ek M k x y = true → ek M k y z = true → ek M k x z = true
  | 0, _, _, _, _, _ => rfl
  | k + 1, x, y, z, h, g => by
    obtain ⟨h1, h2, h3⟩ := ek_succ.mp h
    obtain ⟨g1, g2, g3⟩ := ek_succ.mp g
    have key : ∀ {a b c : Int}, simk (ek M k) M a b = true → simk (ek M k) M b c = true → simk (ek M k) M a c = true := fun {a b c} ha hb => simk_iff.mpr fun p hp => by
      obtain ⟨q, hq, e, r⟩ := simk_iff.mp ha p hp
      obtain ⟨q2, hq2, e2, r2⟩ := simk_iff.mp hb q hq
      exact ⟨q2, hq2, e2.trans e, ek_trans r r2⟩
    exact ek_succ.mpr ⟨ek_trans h1 g1, key h2 g2, key g3 h3⟩
def Bis (M : Mch) (x y : Int) : Prop := ∀ k, ek M k x y = true
theorem Bis.refl (x : Int) : Bis M x x := fun k => ek_refl k x
theorem Bis.symm (h : Bis M x y) : Bis M y x := fun k => ek_symm (h k)
theorem Bis.trans (h : Bis M x y) (g : Bis M y z) : Bis M x z := fun k => ek_trans (h k) (g k)
def Stab (M : Mch) (K : Nat) : Prop := ∀ x y, InR M x → InR M y → ek M K x y = true → ek M (K + 1) x y = true
theorem Stab.succ {K : Nat} (rg : Rng M) (h : Stab M K) : Stab M (K + 1) := fun x y hx hy e => by
  obtain ⟨_, e2, e3⟩ := ek_succ.mp e
  have key : ∀ {a b : Int}, simk (ek M K) M a b = true → simk (ek M (K + 1)) M a b = true := fun {a b} ha => simk_iff.mpr fun p hp => by
    obtain ⟨q, hq, e, r⟩ := simk_iff.mp ha p hp
    exact ⟨q, hq, e, h _ _ (rg _ _ hp) (rg _ _ hq) r⟩
  exact ek_succ.mpr ⟨e, key e2, key e3⟩
end
noncomputable def bisB (M : Mch) (x y : Int) : Bool := @decide (Bis M x y) (Classical.propDecidable _)
noncomputable def reps0 (M : Mch) : List Int → List Int → List Int
  | acc, [] => acc
  | acc, x :: xs => reps0 M (if acc.any (fun r => bisB M r x) = true then acc else acc ++ [x]) xs
structure RepOk (M : Mch) (xs rs : List Int) : Prop where
  sub : ∀ r ∈ rs, r ∈ xs
  cov : ∀ x ∈ xs, ∃ r ∈ rs, Bis M r x
  df : rs.Pairwise fun a b => ¬ Bis M a b
noncomputable def rchL (M : Mch) : List Int := (rngI M.items.length).filter fun x => @decide (Reach M x) (Classical.propDecidable _)
noncomputable def reps (M : Mch) : List Int := reps0 M [] (rchL M)
noncomputable def cls (M : Mch) : Nat := (reps M).length
noncomputable def cl (M : Mch) (y : Int) : Int := (((reps M).findIdx fun r => bisB M r y : Nat) : Int)
section
variable {M : Mch} (ok : MOk M) {x y : Int}
include ok
end
section
variable {M : Mch} (ok : MOk M)
include ok
end
section
variable {A B : Mch} {x y : Int}
end
section
variable {M : Mch} (ok : MOk M)
include ok
end
structure Cover (B M : Mch) (φ : Int → Int) : Prop where
  z : φ 0 = 0
  rng : ∀ i, InR B i → InR M (φ i)
  out : ∀ i, InR B i → ∀ p ∈ rowAt B i, (p.1, φ p.2) ∈ rowAt M (φ i)
  inn : ∀ i, InR B i → ∀ q ∈ rowAt M (φ i), ∃ p ∈ rowAt B i, p.1 = q.1 ∧ φ p.2 = q.2
end Sk
set_option Elab.async false
set_option linter.all false
set_option maxRecDepth 100000
set_option maxHeartbeats 2000000
namespace Sk
open PySem PySem.Spec PyProof.Rows L2
open Evl (Ex)
open PySem.W (Datum DatumOrd Tup T3 T4)
section
variable {X : Cx} {f : Fr} {pos : Pos}
def lenGW : List PV → (PV → Prop) → Prop := fun ps C => match ps with
  | [p] => ∃ kvs, p.dg = some kvs ∧ C (.dat (.int kvs.length))
  | _ => False
@[simp] def hiGV (t : HE) : HI := fun s C => t s fun p s1 => ∃ kvs, p.dg = some kvs ∧ C (kvs.map (·.2)) s1
end
end Sk
set_option Elab.async false
set_option linter.all false
set_option maxRecDepth 100000
set_option maxHeartbeats 2000000
namespace Sk
open PySem PySem.Spec PyProof.Rows L2
open Evl (Ex)
open Sem (wp)
open AutoSeq1 (wpAny_loadPart')
section
variable {prog : Program} {w : World} {A : Around} {E : Value → Shared → Prop} {s : Shared}
end
section
variable {prog : Program} {w : World} {A : Around} {E : Value → Shared → Prop} {s : Shared}
end
section
variable {X : Cx} {f : Fr} {a : Expr} {t : HE} {pos : Pos}
@[simp] def hiEG (t : HE) : HI := fun s C => t s fun p s1 => ∃ kvs, p.dg = some kvs ∧ C (enumD 0 (kvs.map (·.1))) s1
end
end Sk
set_option Elab.async false
set_option linter.all false
set_option maxRecDepth 100000
set_option maxHeartbeats 2000000
namespace Sk
open PySem PySem.Spec PyProof.Rows L2
open PySem.W (Datum DatumOrd Tup T3 T4)
instance {α : Type} [DecidableEq α] [Datum α] [KD α] : KD (Option (Tup α)) where
  inj a b h := by
    cases a with
    | none =>
      cases b with
      | none => rfl
      | some b => exact absurd h (by show ¬ keyN .none = NestedKey.tup _; simp [keyN])
    | some a =>
      cases b with
      | none => exact absurd h (by show ¬ NestedKey.tup _ = keyN .none; simp [keyN])
      | some b => rw [KD.inj a b h]
  imm a := by
    cases a with
    | none => rfl
    | some a => exact KD.imm a
  dep := KD.dep (Tup α)
  dle a := by
    cases a with
    | none => exact Nat.zero_le _
    | some a => exact KD.dle a
section
variable {α : Type} [DecidableEq α]
variable [Datum α] [KD α]
end
section
variable {α κ : Type} [DecidableEq α] [DecidableEq κ] [DatumOrd κ] [OrdL κ] {k : α → κ}
def RisK (k : α → κ) (xs : List α) : Prop := Rising (xs.map k)
theorem RisK.eq (inj : ∀ a b, k a = k b → a = b) {xs ys : List α} (hx : RisK k xs) (hy : RisK k ys) (h : ∀ a, a ∈ xs ↔ a ∈ ys) : xs = ys := by
  have e : xs.map k = ys.map k := Rising.eq hx hy fun c => by
    rw [List.mem_map, List.mem_map]
    exact ⟨fun ⟨a, ha, e⟩ => ⟨a, (h a).mp ha, e⟩, fun ⟨a, ha, e⟩ => ⟨a, (h a).mpr ha, e⟩⟩
  clear hx hy h
  induction xs generalizing ys with
  | nil => cases ys with
    | nil => rfl
    | cons y ys => cases e
  | cons x xs ih => cases ys with
    | nil => cases e
    | cons y ys =>
      simp only [List.map_cons, List.cons.injEq] at e
      rw [inj _ _ e.1, ih e.2]
theorem RisK.filter {xs : List α} (h : RisK k xs) (p : α → Bool) : RisK k (xs.filter p) := by
  unfold RisK Rising at *
  rw [List.pairwise_map] at *
  exact h.filter p
end
abbrev kLen (a : Tup Str) : Int × Tup Str := ((a.items.length : Int), a)
def Sub (a b : Tup Str) : Prop := ∀ w ∈ a.items, w ∈ b.items
instance (a b : Tup Str) : Decidable (Sub a b) := inferInstanceAs (Decidable (∀ w ∈ a.items, w ∈ b.items))
end Sk
set_option Elab.async false
set_option linter.all false
set_option maxRecDepth 100000
set_option maxHeartbeats 4000000
namespace Sk
open PySem PySem.Spec PyProof.Rows L2
open PySem.W (Datum DatumOrd Tup T3 T4)
open Evl (Ex)
theorem hLc_eq {it : HI} {g : HG} {tt : HT} {t : HE} {vs : List Nat} {s : Sg} {C : PV → Sg → Prop} : hLc it g tt t vs s C ↔ (it s fun ds s1 => lcs vs g tt t ds [] (s1.wipe vs) C) := Iff.rfl
theorem atI_row {M : Mch} {x : Int} (h0 : 0 ≤ x) (h1 : x < M.items.length) : atI (M.items.map (Datum.toD : Tup (Str × Int) → PyData)) x = some (.tuple ((rowAt M x).map Datum.toD)) := by
  have hl : x.toNat < M.items.length := by omega
  unfold atI ixN
  rw [List.length_map, if_pos h0, if_pos h1]
  show (M.items.map Datum.toD)[x.toNat]? = _
  rw [List.getElem?_map, List.getElem?_eq_getElem hl, rowAt_of (List.getElem?_eq_getElem hl)]; rfl
end Sk
set_option Elab.async false
set_option linter.all false
set_option maxRecDepth 100000
set_option maxHeartbeats 4000000
namespace Sk
open PySem PySem.Spec PyProof.Rows L2
open PySem.W (Datum DatumOrd Tup T3 T4)
open Evl (Ex)
def hid (M : Mch) (x : Int) : List Int := ((rowAt M x).filter fun p => decide (p.1 = ("" : Str))).map (·.2)
theorem mem_hid {M : Mch} {x g : Int} : g ∈ hid M x ↔ (("" : Str), g) ∈ rowAt M x := by
  unfold hid
  rw [List.mem_map]
  constructor
  · rintro ⟨p, hp, rfl⟩
    obtain ⟨h1, h2⟩ := List.mem_filter.mp hp
    have h2 : p.1 = ("" : Str) := of_decide_eq_true h2
    rw [← h2]; exact h1
  · intro h
    exact ⟨_, List.mem_filter.mpr ⟨h, by simp⟩, rfl⟩
theorem hid_rng {M : Mch} (ok : MOk M) {x g : Int} (h : g ∈ hid M x) : 0 ≤ g ∧ g < M.items.length := by
  obtain ⟨a, b, _⟩ := rowAt_mv ok (mem_hid.mp h)
  exact ⟨a, b⟩
def Post (M : Mch) (S : List Int) : Prop := ∀ y ∈ S, 0 ≤ y ∧ y < M.items.length ∧ ∃ g ∈ hid M y, g ∈ S
def Endl (M : Mch) (x : Int) : Prop := ∃ S, Post M S ∧ x ∈ S
def rnd (M : Mch) (xs : List Int) : List Int := xs.filter fun x => (hid M x).any fun g => decide (g ∈ xs)
theorem rnd_mem {M : Mch} {xs : List Int} {x : Int} : x ∈ rnd M xs ↔ x ∈ xs ∧ ∃ g ∈ hid M x, g ∈ xs := by
  unfold rnd
  rw [List.mem_filter, List.any_eq_true]
  constructor
  · rintro ⟨h, g, hg, e⟩
    exact ⟨h, g, hg, of_decide_eq_true e⟩
  · rintro ⟨h, g, hg, e⟩
    exact ⟨h, g, hg, decide_eq_true e⟩
def rnds (M : Mch) : Nat → List Int → List Int
  | 0, xs => xs
  | k + 1, xs => rnds M k (rnd M xs)
theorem rnds_fix {M : Mch} : ∀ (k : Nat) (xs : List Int), xs.length ≤ k → rnd M (rnds M k xs) = rnds M k xs
  | 0, xs, h => by
    have : xs = [] := List.length_eq_zero_iff.mp (by omega)
    subst this; rfl
  | k + 1, xs, h => by
    show rnd M (rnds M k (rnd M xs)) = rnds M k (rnd M xs)
    by_cases e : rnd M xs = xs
    · rw [e]
      have st : ∀ k, rnds M k xs = xs := fun k => by
        induction k with
        | zero => rfl
        | succ k ih => show rnds M k (rnd M xs) = xs; rw [e]; exact ih
      rw [st, e]
    · refine rnds_fix k _ ?_
      have l1 : (rnd M xs).length ≤ xs.length := List.length_filter_le _ _
      have l2 : (rnd M xs).length ≠ xs.length := fun z => e (by
        unfold rnd at z ⊢
        exact List.filter_eq_self.mpr (List.length_filter_eq_length_iff.mp z))
      omega
theorem rnds_sub {M : Mch} : ∀ (k : Nat) (xs : List Int), (rnds M k xs).Sublist xs
  | 0, xs => List.Sublist.refl _
  | k + 1, xs => (rnds_sub k (rnd M xs)).trans List.filter_sublist
theorem post_rnds {M : Mch} {S : List Int} (hS : Post M S) : ∀ (k : Nat) (xs : List Int), (∀ x ∈ S, x ∈ xs) → ∀ x ∈ S, x ∈ rnds M k xs
  | 0, xs, h => h
  | k + 1, xs, h => post_rnds hS k (rnd M xs) fun x hx => by
    obtain ⟨_, _, g, hg, h2⟩ := hS x hx
    exact rnd_mem.mpr ⟨h x hx, g, hg, h g h2⟩
theorem rnds_endl {M : Mch} {x : Int} : x ∈ rnds M M.items.length (rngI M.items.length) ↔ Endl M x := by
  have fx := rnds_fix (M := M) M.items.length (rngI M.items.length) (by rw [rngI_len]; exact Nat.le_refl _)
  constructor
  · intro h
    refine ⟨_, fun y hy => ?_, h⟩
    have h1 := mem_rngI.mp ((rnds_sub _ _).subset hy)
    rw [← fx] at hy
    obtain ⟨_, g, hg, h2⟩ := rnd_mem.mp hy
    exact ⟨h1.1, h1.2, g, hg, h2⟩
  · rintro ⟨S, hS, hx⟩
    refine post_rnds hS _ _ (fun y hy => ?_) x hx
    obtain ⟨a, b, _⟩ := hS y hy
    exact mem_rngI.mpr ⟨a, b⟩
def cnt (M : Mch) (P : List Int) (x : Int) : Nat := ((hid M x).filter fun g => decide (g ∉ P)).length
theorem cnt_zero {M : Mch} {P : List Int} {x : Int} : cnt M P x = 0 ↔ ∀ g ∈ hid M x, g ∈ P := by
  unfold cnt
  rw [List.length_eq_zero_iff, List.filter_eq_nil_iff]
  constructor
  · intro h g hg
    have := h g hg
    simpa using this
  · intro h g hg
    have := h g hg
    simpa using this
structure EInv (M : Mch) (lefts ended P : List Int) : Prop where
  len : lefts.length = M.items.length
  nd : (ended ++ P).Nodup
  rng : ∀ x ∈ ended ++ P, 0 ≤ x ∧ x < M.items.length
  cn : ∀ x : Int, 0 ≤ x → x < M.items.length → lefts[x.toNat]? = some ((cnt M P x : Nat) : Int)
  ze : ∀ x : Int, 0 ≤ x → x < M.items.length → (cnt M P x = 0 ↔ x ∈ ended ++ P)
  ds : ∀ S, Post M S → ∀ x ∈ ended ++ P, x ∉ S
structure FInv (M : Mch) (rest lefts ended P : List Int) : Prop where
  len : lefts.length = M.items.length
  nd : (ended ++ P).Nodup
  rng : ∀ x ∈ ended ++ P, 0 ≤ x ∧ x < M.items.length
  rs : rest.Nodup ∧ ∀ x ∈ rest, 0 ≤ x ∧ x < M.items.length
  cn : ∀ x : Int, 0 ≤ x → x < M.items.length → lefts[x.toNat]? = some ((cnt M P x + (if x ∈ rest then 1 else 0) : Nat) : Int)
  ze : ∀ x : Int, 0 ≤ x → x < M.items.length → (cnt M P x + (if x ∈ rest then 1 else 0) = 0 ↔ x ∈ ended ++ P)
  ds : ∀ S, Post M S → ∀ x ∈ ended ++ P, x ∉ S
theorem FInv.done {M : Mch} {lefts ended P : List Int} (h : FInv M [] lefts ended P) : EInv M lefts ended P where
  len := h.len
  nd := h.nd
  rng := h.rng
  cn := fun x h0 h1 => by have := h.cn x h0 h1; simpa using this
  ze := fun x h0 h1 => by have := h.ze x h0 h1; simpa using this
  ds := h.ds
theorem FInv.step {M : Mch} {rest lefts ended P : List Int} {x : Int} (h : FInv M (x :: rest) lefts ended P) : lefts[x.toNat]? = some ((cnt M P x + 1 : Nat) : Int) ∧ x.toNat < lefts.length ∧
    (if cnt M P x = 0 then FInv M rest (lefts.set x.toNat ((cnt M P x : Nat) : Int)) (ended ++ [x]) P else FInv M rest (lefts.set x.toNat ((cnt M P x : Nat) : Int)) ended P) := by
  obtain ⟨n1, n2⟩ := List.nodup_cons.mp h.rs.1
  have rx := h.rs.2 x List.mem_cons_self
  have lx : x.toNat < lefts.length := by rw [h.len]; omega
  have c0 := h.cn x rx.1 rx.2
  rw [if_pos List.mem_cons_self] at c0
  have z0 := h.ze x rx.1 rx.2
  rw [if_pos List.mem_cons_self] at z0
  have nx : x ∉ ended ++ P := fun z => by have := z0.mpr z; omega
  have ifx : ∀ y : Int, y ≠ x → (if y ∈ x :: rest then 1 else 0) = (if y ∈ rest then 1 else 0) := fun y hy => by
    have e3 : (y ∈ x :: rest) ↔ y ∈ rest := by
      rw [List.mem_cons]
      exact ⟨fun h => h.resolve_left hy, Or.inr⟩
    by_cases q : y ∈ rest
    · rw [if_pos q, if_pos (e3.mpr q)]
    · rw [if_neg q, if_neg fun z => q (e3.mp z)]
  have cn' : ∀ y : Int, 0 ≤ y → y < M.items.length → (lefts.set x.toNat ((cnt M P x : Nat) : Int))[y.toNat]? = some ((cnt M P y + (if y ∈ rest then 1 else 0) : Nat) : Int) := fun y h0 h1 => by
    by_cases e : y = x
    · subst e
      rw [List.getElem?_set_self lx, if_neg n1]; rfl
    · rw [List.getElem?_set_ne (by omega), ← ifx y e]
      exact h.cn y h0 h1
  refine ⟨c0, lx, ?_⟩
  by_cases hz : cnt M P x = 0
  · rw [if_pos hz]
    have mm : ∀ y, y ∈ ended ++ [x] ++ P ↔ y = x ∨ y ∈ ended ++ P := fun y => by
      simp only [List.mem_append, List.mem_singleton]
      constructor
      · rintro ((h | h) | h)
        · exact Or.inr (Or.inl h)
        · exact Or.inl h
        · exact Or.inr (Or.inr h)
      · rintro (h | h | h)
        · exact Or.inl (Or.inr h)
        · exact Or.inl (Or.inl h)
        · exact Or.inr h
    have pm : (ended ++ [x] ++ P).Perm (x :: (ended ++ P)) := by
      rw [List.append_assoc]
      exact List.perm_middle
    exact {
      len := by rw [List.length_set]; exact h.len
      nd := pm.nodup_iff.mpr (List.nodup_cons.mpr ⟨nx, h.nd⟩)
      rng := fun y hy => by
        rcases (mm y).mp hy with rfl | hy
        · exact rx
        · exact h.rng y hy
      rs := ⟨n2, fun y hy => h.rs.2 y (List.mem_cons_of_mem _ hy)⟩
      cn := cn'
      ze := fun y h0 h1 => by
        rw [mm y]
        by_cases e : y = x
        · subst e
          rw [if_neg n1, hz]
          exact ⟨fun _ => Or.inl rfl, fun _ => rfl⟩
        · rw [← ifx y e, h.ze y h0 h1]
          exact ⟨Or.inr, fun z => z.resolve_left e⟩
      ds := fun S hS y hy => by
        rcases (mm y).mp hy with rfl | hy
        · intro hs
          obtain ⟨_, _, g, hg, h2⟩ := hS y hs
          exact h.ds S hS g (List.mem_append.mpr (Or.inr (cnt_zero.mp hz g hg))) h2
        · exact h.ds S hS y hy }
  · rw [if_neg hz]
    exact {
      len := by rw [List.length_set]; exact h.len
      nd := h.nd
      rng := h.rng
      rs := ⟨n2, fun y hy => h.rs.2 y (List.mem_cons_of_mem _ hy)⟩
      cn := cn'
      ze := fun y h0 h1 => by
        by_cases e : y = x
        · subst e
          rw [if_neg n1]
          exact ⟨fun z => absurd (by omega) hz, fun z => absurd z nx⟩
        · rw [← ifx y e, h.ze y h0 h1]
      ds := h.ds }
theorem EInv.start {M : Mch} {lefts ended : List Int} (len : lefts.length = M.items.length) (cn : ∀ x : Int, 0 ≤ x → x < M.items.length → lefts[x.toNat]? = some ((hid M x).length : Int)) (he : ended = (rngI M.items.length).filter fun x => decide ((hid M x).length = 0)) : EInv M lefts ended [] := by
  have c0 : ∀ x, cnt M [] x = (hid M x).length := fun x => by
    unfold cnt
    congr 1
    exact List.filter_eq_self.mpr fun a _ => by simp
  have mem : ∀ x : Int, x ∈ ended ++ [] ↔ (0 ≤ x ∧ x < M.items.length) ∧ (hid M x).length = 0 := fun x => by
    rw [List.append_nil, he, List.mem_filter, mem_rngI, decide_eq_true_eq]
  exact {
    len := len
    nd := by rw [List.append_nil, he]; exact rngI_rising.nodup.filter _
    rng := fun x hx => ((mem x).mp hx).1
    cn := fun x h0 h1 => by rw [c0]; exact cn x h0 h1
    ze := fun x h0 h1 => by rw [c0, mem]; exact ⟨fun z => ⟨⟨h0, h1⟩, z⟩, fun z => z.2⟩
    ds := fun S hS x hx hs => by
      obtain ⟨_, _, g, hg, _⟩ := hS x hs
      have := ((mem x).mp hx).2
      rw [List.length_eq_zero_iff] at this
      rw [this] at hg; cases hg }
theorem EInv.end {M : Mch} (ok : MOk M) {lefts P : List Int} (h : EInv M lefts [] P) {x : Int} (h0 : 0 ≤ x) (h1 : x < M.items.length) : 0 < cnt M P x ↔ Endl M x := by
  constructor
  · intro hx
    refine ⟨(rngI M.items.length).filter fun y => decide (0 < cnt M P y), fun y hy => ?_, List.mem_filter.mpr ⟨mem_rngI.mpr ⟨h0, h1⟩, decide_eq_true hx⟩⟩
    obtain ⟨a, b⟩ := List.mem_filter.mp hy
    have b : 0 < cnt M P y := of_decide_eq_true b
    have ry := mem_rngI.mp a
    have : ∃ g ∈ hid M y, g ∉ P := by
      apply Classical.byContradiction
      intro z
      have : cnt M P y = 0 := cnt_zero.mpr fun g hg => by
        apply Classical.byContradiction
        intro q
        exact z ⟨g, hg, q⟩
      omega
    obtain ⟨g, hg, gp⟩ := this
    have rg := hid_rng ok hg
    refine ⟨ry.1, ry.2, g, hg, List.mem_filter.mpr ⟨mem_rngI.mpr rg, decide_eq_true ?_⟩⟩
    have := (h.ze g rg.1 rg.2)
    rcases Nat.eq_zero_or_pos (cnt M P g) with z | z
    · exact absurd (by simpa using this.mp z) gp
    · exact z
  · rintro ⟨S, hS, hx⟩
    rcases Nat.eq_zero_or_pos (cnt M P x) with z | z
    · exact absurd hx (h.ds S hS x ((h.ze x h0 h1).mp z))
    · exact z
end Sk
set_option Elab.async false
set_option linter.all false
set_option maxRecDepth 100000
set_option maxHeartbeats 4000000
namespace Sk
open PySem PySem.Spec PyProof.Rows L2
open PySem.W (Datum DatumOrd Tup T3 T4)
open Evl (Ex)
structure ShowK (d : PyData) (k w : Nat) : Prop where
  sh : d.showable = true
  hd : d.hasDict = false
  dp : d.depth ≤ k
  lf : d.leavesShort 13 = true
  wt : d.weight ≤ w
theorem ShowAll.consK {d : PyData} {ds : List PyData} {k w v : Nat} (h : ShowK d k v) (t : ShowAll ds k w) : ShowAll (d :: ds) k (v + 1 + w) := .cons h.sh h.hd h.dp h.lf h.wt t
theorem ShowAll.tupK {ds : List PyData} {k w : Nat} (h : ShowAll ds k w) : ShowK (.tuple ds) (k + 1) w where
  sh := by simp only [PyData.showable]; exact h.sh
  hd := by simp only [PyData.hasDict]; exact h.hd
  dp := by have := h.dp; simp only [PyData.depth]; omega
  lf := by simp only [PyData.leavesShort]; exact h.lf
  wt := by have := h.wt; simp only [PyData.weight]; omega
theorem ShowK.ok {d : PyData} {k w : Nat} (h : ShowK d k w) (hk : k ≤ 100) (hw : w ≤ 1048576) : ShowOk d := ⟨h.sh, h.hd, Nat.le_trans h.dp hk, h.lf, Nat.le_trans h.wt (Nat.le_trans hw (by decide))⟩
theorem ShowK.mono {d : PyData} {k w k' w' : Nat} (h : ShowK d k w) (hk : k ≤ k') (hw : w ≤ w') : ShowK d k' w' := ⟨h.sh, h.hd, Nat.le_trans h.dp hk, h.lf, Nat.le_trans h.wt hw⟩
theorem int_showK {i : Int} (h0 : 0 ≤ i) (h1 : i < 1000000) : ShowK (.int i) 0 20 := by
  obtain ⟨a, b, c⟩ := int_show h0 h1
  exact ⟨a, by simp only [PyData.hasDict], by simp only [PyData.depth]; omega, b, c⟩
theorem none_showK : ShowK .none 0 0 := ⟨rfl, rfl, Nat.le_refl _, rfl, Nat.le_refl _⟩
theorem word_showK {z : Str} (h : isWordS z = true ∨ z = "") : ShowK (.str z) 0 6 := by
  have h2 : (∀ c ∈ z.cps.toList, c < 16 ^ 8) ∧ z.length ≤ 6 := by
    rcases h with h | rfl
    · exact word_small h
    · have e : ("" : Str).cps.toList = [] := rfl
      rw [e]
      exact ⟨fun c hc => absurd hc List.not_mem_nil, by decide⟩
  exact ⟨by simp only [PyData.showable], by simp only [PyData.hasDict], by simp only [PyData.depth]; omega, by simp only [PyData.leavesShort, List.all_eq_true, decide_eq_true_eq]; exact h2.1, by simp only [PyData.weight]; exact h2.2⟩
theorem show_all {α : Type} {f : α → PyData} {k w : Nat} : ∀ {xs : List α}, (∀ x ∈ xs, ShowK (f x) k w) → ShowAll (xs.map f) k ((w + 1) * xs.length)
  | [], _ => .nil
  | x :: xs, h => by
    have z := ShowAll.consK (h x List.mem_cons_self) (show_all (xs := xs) fun y hy => h y (List.mem_cons_of_mem _ hy))
    rw [show (w + 1) * (x :: xs).length = w + 1 + (w + 1) * xs.length by rw [List.length_cons, Nat.mul_succ]; omega]
    exact z
theorem move_showK {p : Str × Int} {L : Nat} (hL : L ≤ 1000000) (h : 0 ≤ p.2 ∧ p.2 < L ∧ (isWordS p.1 = true ∨ p.1 = ("" : Str))) : ShowK (Datum.toD p) 1 28 :=
  (ShowAll.consK (word_showK h.2.2) (ShowAll.consK (int_showK h.1 (by omega)) (ShowAll.nil (w := 0)))).tupK.mono (Nat.le_refl _) (by decide)
theorem mch_showK {M : Mch} {k L : Nat} (ok : MOk M) (le : RowsLe k M) (hL : M.items.length ≤ L) : ShowK (Datum.toD M) 3 ((29 * k + 1) * L) := by
  have hi := ok.hi
  have row : ∀ r ∈ M.items, ShowK (Datum.toD r) 2 (29 * k) := fun r hr =>
    (show_all (f := Datum.toD) (xs := r.items) (k := 1) (w := 28) fun p hp => move_showK (by omega) (ok.mv r hr p hp)).tupK.mono (Nat.le_refl _) (Nat.mul_le_mul_left _ (le r hr))
  exact (show_all (f := Datum.toD) (xs := M.items) row).tupK.mono (Nat.le_refl _) (Nat.mul_le_mul_left _ hL)
end Sk
set_option Elab.async false
set_option linter.all false
set_option maxRecDepth 100000
set_option maxHeartbeats 4000000
namespace Sk
open PySem PySem.Spec PyProof.Rows L2
open PySem.W (Datum DatumOrd Tup T3 T4)
open Evl (Ex)
theorem lcs_filter2 {α : Type} {vs : List Nat} {g : HG} {tt : HT} {t : HE} {s : Sg} {xs : List α} (e f : α → PyData) (p : α → Bool)
    (h : ∀ a ∈ xs, ∀ K : Bool → Sg → Prop, (p a = false → ∀ s2, s2.wipe vs = s → K false s2) → (p a = true → ∀ s2, (∀ K2 : PV → Sg → Prop, (∀ s3, s3.wipe vs = s → K2 (.dat (f a)) s3) → t s2 K2) → K true s2) → g (e a) s fun s1 => tt s1 K)
    (acc : List PyData) (C : PV → Sg → Prop) (hl : acc.length + xs.length ≤ 100000) (c : C (.own (acc ++ (xs.filter p).map f)) s) : lcs vs g tt t (xs.map e) acc s C :=
  lcs_filter e f p (fun a ha K hK => h a ha K (fun hp s2 hs => by rw [← hp]; exact hK s2 (fun _ => hs) fun h => absurd h (by rw [hp]; decide)) fun hp s2 ht => by rw [← hp]; exact hK s2 (fun h => absurd h (by rw [hp]; decide)) fun _ => ht) acc C hl c
def offerOf (M : Mch) (x : Int) : Option (List Str) := if (rowAt M x).any (fun p => decide (p.1 = ("" : Str))) then none else some (sortU ((rowAt M x).map (·.1)))
@[simp] def noneO : Option PV := none
end Sk
set_option Elab.async false
set_option linter.all false
set_option maxRecDepth 100000
set_option maxHeartbeats 4000000
namespace Sk
open PySem PySem.Spec PyProof.Rows L2
open PySem.W (Datum DatumOrd Tup T3 T4)
open Evl (Ex)
inductive Clo (M : Mch) (P : Int → Prop) : Int → Prop where
  | base {x : Int} (h : P x) : Clo M P x
  | step {x g : Int} (h : Clo M P x) (hg : g ∈ hid M x) : Clo M P g
theorem Clo.rng {M : Mch} {P : Int → Prop} (ok : MOk M) (hP : ∀ x, P x → 0 ≤ x ∧ x < M.items.length) {x : Int} (h : Clo M P x) : 0 ≤ x ∧ x < M.items.length := by
  cases h with
  | base h => exact hP _ h
  | step _ hg => exact hid_rng ok hg
theorem Clo.congr {M : Mch} {P Q : Int → Prop} (h : ∀ x, P x ↔ Q x) (x : Int) : Clo M P x ↔ Clo M Q x := by
  have e : P = Q := funext fun x => propext (h x)
  rw [e]
theorem Clo.empty {M : Mch} {P : Int → Prop} (h : ∀ x, ¬ P x) {x : Int} (c : Clo M P x) : False := by
  induction c with
  | base hx => exact h _ hx
  | step _ _ ih => exact ih
structure CInv (M : Mch) (P : Int → Prop) (bs : List Bool) (wt : List Int) : Prop where
  len : bs.length = M.items.length
  wtr : ∀ x ∈ wt, 0 ≤ x ∧ x < M.items.length
  wtc : ∀ x ∈ wt, Clo M P x
  met : ∀ x : Int, 0 ≤ x → bs[x.toNat]? = some true → Clo M P x
  bas : ∀ x, P x → bs[x.toNat]? = some true ∨ x ∈ wt
  clo : ∀ x : Int, 0 ≤ x → bs[x.toNat]? = some true → ∀ g ∈ hid M x, bs[g.toNat]? = some true ∨ g ∈ wt
theorem CInv.end {M : Mch} {P : Int → Prop} {bs : List Bool} (ok : MOk M) (hP : ∀ x, P x → 0 ≤ x ∧ x < M.items.length) (h : CInv M P bs []) {x : Int} : (0 ≤ x ∧ bs[x.toNat]? = some true) ↔ Clo M P x := by
  constructor
  · exact fun ⟨h0, h1⟩ => h.met x h0 h1
  · intro c
    induction c with
    | base hx => exact ⟨(hP _ hx).1, (h.bas _ hx).resolve_right List.not_mem_nil⟩
    | step _ hg ih => exact ⟨(hid_rng ok hg).1, (h.clo _ ih.1 ih.2 _ hg).resolve_right List.not_mem_nil⟩
theorem CInv.skip {M : Mch} {P : Int → Prop} {bs : List Bool} {wt : List Int} {e : Int} (h : CInv M P bs (wt ++ [e])) (he : bs[e.toNat]? = some true) : CInv M P bs wt where
  len := h.len
  wtr := fun x hx => h.wtr x (List.mem_append.mpr (Or.inl hx))
  wtc := fun x hx => h.wtc x (List.mem_append.mpr (Or.inl hx))
  met := h.met
  bas := fun x hx => by
    rcases h.bas x hx with q | q
    · exact Or.inl q
    · rcases List.mem_append.mp q with q | q
      · exact Or.inr q
      · rw [List.mem_singleton.mp q]; exact Or.inl he
  clo := fun x h0 hx g hg => by
    rcases h.clo x h0 hx g hg with q | q
    · exact Or.inl q
    · rcases List.mem_append.mp q with q | q
      · exact Or.inr q
      · rw [List.mem_singleton.mp q]; exact Or.inl he
theorem CInv.go {M : Mch} {P : Int → Prop} {bs : List Bool} {wt : List Int} {e : Int} (ok : MOk M) (h : CInv M P bs (wt ++ [e])) : CInv M P (bs.set e.toNat true) (wt ++ hid M e) := by
  have re := h.wtr e (by simp)
  have ce := h.wtc e (by simp)
  have le : e.toNat < bs.length := by rw [h.len]; omega
  have mono : ∀ j : Nat, bs[j]? = some true → (bs.set e.toNat true)[j]? = some true := fun j hj => by
    rw [List.getElem?_set]
    split
    · first | rfl | rw [if_pos le]
    · exact hj
  have back : ∀ x : Int, 0 ≤ x → (bs.set e.toNat true)[x.toNat]? = some true → x = e ∨ bs[x.toNat]? = some true := fun x h0 hx => by
    rw [List.getElem?_set] at hx
    split at hx
    · exact Or.inl (by omega)
    · exact Or.inr hx
  have self : (bs.set e.toNat true)[e.toNat]? = some true := List.getElem?_set_self le
  have lift : ∀ x, (bs[x.toNat]? = some true ∨ x ∈ wt ++ [e]) → ((bs.set e.toNat true)[x.toNat]? = some true ∨ x ∈ wt ++ hid M e) := fun x q => by
    rcases q with q | q
    · exact Or.inl (mono _ q)
    · rcases List.mem_append.mp q with q | q
      · exact Or.inr (List.mem_append.mpr (Or.inl q))
      · rw [List.mem_singleton.mp q]; exact Or.inl self
  exact {
    len := by rw [List.length_set]; exact h.len
    wtr := fun x hx => by
      rcases List.mem_append.mp hx with hx | hx
      · exact h.wtr x (List.mem_append.mpr (Or.inl hx))
      · exact hid_rng ok hx
    wtc := fun x hx => by
      rcases List.mem_append.mp hx with hx | hx
      · exact h.wtc x (List.mem_append.mpr (Or.inl hx))
      · exact .step ce hx
    met := fun x h0 hx => by
      rcases back x h0 hx with rfl | q
      · exact ce
      · exact h.met x h0 q
    bas := fun x hx => lift x (h.bas x hx)
    clo := fun x h0 hx g hg => by
      rcases back x h0 hx with rfl | q
      · exact Or.inr (List.mem_append.mpr (Or.inr hg))
      · exact lift g (h.clo x h0 q g hg) }
theorem CInv.start {M : Mch} {S : List Int} (hS : ∀ x ∈ S, 0 ≤ x ∧ x < M.items.length) : CInv M (· ∈ S) (List.replicate M.items.length false) S where
  len := List.length_replicate
  wtr := hS
  wtc := fun x hx => .base hx
  met := fun x _ h => by rw [List.getElem?_replicate] at h; split at h <;> cases h
  bas := fun x hx => Or.inr hx
  clo := fun x _ h => by rw [List.getElem?_replicate] at h; split at h <;> cases h
def sp_is_row_ab8be0 : HSp := fun ps n C => ∃ ws : List Str, ps = [.dat (.tuple (ws.map .str))] ∧ (∀ w ∈ ws, isWordS w = true) ∧ ws.length ≤ 90000 ∧ C (.dat (.bool true)) n
def h_is_row_ab8be0 : HS :=
    (hRet (hAndV (hC isiW (hL 0 (fun s C => hNil s fun ps s2 => C (.val (.ty "tuple") :: ps) s2))) (hC (allW fun bs => bs.all id) (hE (hLc (hiT (hV 0)) (gN 1) hYes (hCall sp_is_word_e81331 1 (hL 1 hNil)) [1]) hNil))))
theorem rd_is_row_ab8be0 : ∀ pvs n C, pvs.length = 1 → sp_is_row_ab8be0 pvs n C → h_is_row_ab8be0 ⟨fun s => C (.dat .none) s.n, fun p s => C p s.n, fun _ => False, fun _ => False⟩ ⟨pvs.map some ++ List.replicate (2 - pvs.length) none, n⟩ := by
  intro pvs n C _ h
  obtain ⟨ws, rfl, hw, hl, q⟩ := h
  unfold h_is_row_ab8be0
  have kT : ∀ ds, kitB (tyD (PyData.tuple ds)) "tuple" = some true := fun ds => rfl
  simp [-hLc, isiW, kT]
  refine hLc_eq.mpr ?_
  simp [-hLc]
  refine lcs_map (xs := ws) (fun w : Str => PyData.str w) (fun _ => .bool true) (fun w hx K hK => ?_) [] _ (by simp; omega) ?_
  · simp
    have e : isWordD (.str w) = true := hw w hx
    refine ⟨_, rfl, fun z hz => by cases hz; exact word_len (Or.inl (hw w hx)), ?_⟩
    rw [e]
    exact hK _ (by simp)
  · refine ⟨_, rfl, allW_b (bs := ws.map fun _ => true) ?_ ?_⟩
    · simp
    · have : (ws.map fun _ => true).all id = true := by simp
      rw [this]
      exact q
def ledP (M : Mch) (P : Int → Prop) (w : Str) : Int → Prop := Clo M fun g => ∃ x, P x ∧ (w, g) ∈ rowAt M x
def behP (M : Mch) (row : List Str) : Int → Prop := row.foldl (ledP M) (Clo M (· = 0))
theorem ledP_rng {M : Mch} (ok : MOk M) {P : Int → Prop} {w : Str} {x : Int} (h : ledP M P w x) : 0 ≤ x ∧ x < M.items.length := Clo.rng ok (fun g ⟨y, _, hg⟩ => by obtain ⟨a, b, _⟩ := rowAt_mv ok hg; exact ⟨a, b⟩) h
end Sk
set_option Elab.async false
set_option linter.all false
set_option maxRecDepth 100000
set_option maxHeartbeats 4000000
namespace Sk
open PySem PySem.Spec PyProof.Rows L2
open PySem.W (Datum DatumOrd Tup T3 T4)
open Evl (Ex)
def offT (M : Mch) (x : Int) : Option (Tup Str) := (offerOf M x).map Tup.mk
def Off (M : Mch) (S : List Int) (a : Tup Str) : Prop := ∃ x ∈ S, offT M x = some a
theorem Off.len {M : Mch} {S : List Int} {a : Tup Str} (le : RowsLe 60 M) (h : Off M S a) : a.items.length ≤ 60 := by
  obtain ⟨x, _, e⟩ := h
  unfold offT offerOf at e
  split at e
  · cases e
  · cases e
    have rl := rowAt_le (M := M) (x := x) le
    have sl := sortU_len ((rowAt M x).map (·.1))
    rw [List.length_map] at sl
    show (sortU ((rowAt M x).map (·.1))).length ≤ 60
    omega
end Sk
set_option Elab.async false
set_option linter.all false
set_option maxRecDepth 100000
set_option maxHeartbeats 4000000
namespace Sk
open PySem PySem.Spec PyProof.Rows L2
open PySem.W (Datum DatumOrd Tup T3 T4)
open Evl (Ex)
end Sk
namespace Sk
open PySem PySem.Spec PyProof.Rows L2
open PySem.W (Datum DatumOrd Tup T3 T4)
open Evl (Ex)
def hidR (r : List (Str × Int)) : List Int := (r.filter fun p => decide (p.1 = ("" : Str))).map (·.2)
def rndH (H : List (List Int)) (xs : List Int) : List Int := xs.filter fun x => ((H[x.toNat]?).getD []).any fun g => decide (g ∈ xs)
def rndsH (H : List (List Int)) : Nat → List Int → List Int
  | 0, xs => xs
  | k + 1, xs => rndsH H k (rndH H xs)
theorem hid_run {M : Mch} {H : List (List Int)} (e : (M.items.map fun r => hidR r.items) = H) (x : Int) : hid M x = (H[x.toNat]?).getD [] := by
  rw [← e, List.getElem?_map]
  unfold hid rowAt
  cases h : M.items[x.toNat]? <;> rfl
theorem rnds_run {M : Mch} {H : List (List Int)} (e : (M.items.map fun r => hidR r.items) = H) : ∀ (k : Nat) (xs : List Int), rnds M k xs = rndsH H k xs
  | 0, _ => rfl
  | k + 1, xs => by
    show rnds M k (rnd M xs) = rndsH H k (rndH H xs)
    have : rnd M xs = rndH H xs := by
      unfold rnd rndH
      congr 1
      funext x
      rw [hid_run e x]
    rw [this, rnds_run e k]
theorem endl_run {M : Mch} {H : List (List Int)} {ys : List Int} (e : (M.items.map fun r => hidR r.items) = H) (h : rndsH H H.length (rngI H.length) = ys) (x : Int) : x ∈ ys ↔ Endl M x := by
  have hl : H.length = M.items.length := by rw [← e, List.length_map]
  rw [← rnds_endl, ← hl, rnds_run e, h]
theorem word_ne {a : Str} (h : isWordS a = true) : a ≠ "" := fun e => by
  subst e
  exact absurd h (by decide +kernel)
theorem endl_rng {M : Mch} {x : Int} (h : Endl M x) : 0 ≤ x ∧ x < M.items.length := by
  obtain ⟨S, hS, hx⟩ := h
  obtain ⟨a, b, _⟩ := hS x hx
  exact ⟨a, b⟩
section
variable {a b : Str} (ha : isWordS a = true) (hb : isWordS b = true) (hab : DatumOrd.lt a b = true)
include ha hb hab
end
end Sk
set_option Elab.async false
set_option linter.all false
set_option maxRecDepth 100000
set_option maxHeartbeats 4000000
namespace Sk
open PySem PySem.Spec PyProof.Rows L2
open PySem.W (Datum DatumOrd Tup T3 T4)
open Evl (Ex)
theorem lcs_sub {α : Type} {vs : List Nat} {g : HG} {tt : HT} {t : HE} {sl : List (Option PV)} {c N : Nat} (e : α → PyData) : ∀ (xs : List α) (acc : List PyData) (n : Nat) (C : PV → Sg → Prop),
    (∀ a ∈ xs, ∀ n, n ≤ N → ∀ K : Bool → Sg → Prop, (∀ n' s2, n' ≤ n + c → s2.wipe vs = ⟨sl, n'⟩ → K false s2) → (∀ n' s2, n' ≤ n + c → (∀ K2 : PV → Sg → Prop, (∀ s3, s3.wipe vs = ⟨sl, n'⟩ → K2 (.dat (e a)) s3) → t s2 K2) → K true s2) → g (e a) ⟨sl, n⟩ fun s1 => tt s1 K) → n + c * xs.length ≤ N → acc.length + xs.length ≤ 100000 →
    (∀ (bs : List α) (n' : Nat), bs.Sublist xs → n' ≤ n + c * xs.length → C (.own (acc ++ bs.map e)) ⟨sl, n'⟩) → lcs vs g tt t (xs.map e) acc ⟨sl, n⟩ C := by
  intro xs
  induction xs with
  | nil => intro acc n C _ _ _ fin; simpa using fin [] n (List.Sublist.refl _) (by simp)
  | cons a xs ih =>
    intro acc n C h hN hl fin
    have hl' : acc.length + (xs.length + 1) ≤ 100000 := by simpa using hl
    have hN' : n + c * (xs.length + 1) ≤ N := by simpa using hN
    rw [Nat.mul_succ] at hN'
    show g (e a) ⟨sl, n⟩ fun s1 => tt s1 fun b s2 => if b = true then t s2 fun p s3 => ∃ x, p.frz = some x ∧ acc.length < 100000 ∧ lcs vs g tt t (xs.map e) (acc ++ [x]) (s3.wipe vs) C else lcs vs g tt t (xs.map e) acc (s2.wipe vs) C
    refine h a List.mem_cons_self n (by omega) _ (fun n' s2 hn' hs => ?_) fun n' s2 hn' ht => ?_
    · rw [if_neg Bool.false_ne_true, hs]
      refine ih _ n' C (fun a' ha' => h a' (List.mem_cons_of_mem _ ha')) (by omega) (by omega) fun bs n2 h1 h2 => ?_
      exact fin bs n2 (h1.cons a) (by simp only [List.length_cons, Nat.mul_succ]; omega)
    · rw [if_pos rfl]
      refine ht _ fun s3 hs => ⟨e a, rfl, by omega, ?_⟩
      rw [hs]
      refine ih _ n' C (fun a' ha' => h a' (List.mem_cons_of_mem _ ha')) (by omega) (by simp; omega) fun bs n2 h1 h2 => ?_
      have := fin (a :: bs) n2 (h1.cons₂ a) (by simp only [List.length_cons, Nat.mul_succ]; omega)
      simpa using this
def sp__law_set_82be62 : HSp := fun ps n C => ∃ ws : List Str, ps = [.drw, .dat (.list (ws.map .str))] ∧ ws.Nodup ∧ ws.length ≤ 100 ∧ n < 134217728 ∧ ∀ (L : List Str) (n' : Nat), Rising L → (∀ w ∈ L, w ∈ ws) → L.length ≤ ws.length → n' ≤ n + ws.length → C (.dat (.tuple (L.map .str))) n'
def h__law_set_82be62 : HS :=
    (hRet (hC tupW (hE (hC (sortA (Str)) (hE (hLc (hiL (hV 1)) (gN 2) (hB (hC (eqP false) (hE (hCall sp__law_draw_a6e186 2 (hL 0 (hE (hK (.int 2)) hNil))) (hE (hK (.int 0)) hNil)))) (hV 2) [2]) hNil)) hNil)))
theorem rd__law_set_82be62 : ∀ pvs n C, pvs.length = 2 → sp__law_set_82be62 pvs n C → h__law_set_82be62 ⟨fun s => C (.dat .none) s.n, fun p s => C p s.n, fun _ => False, fun _ => False⟩ ⟨pvs.map some ++ List.replicate (3 - pvs.length) none, n⟩ := by
  intro pvs n C _ h
  obtain ⟨ws, rfl, nd, hl, hn, q⟩ := h
  unfold h__law_set_82be62
  simp [-hLc]
  refine hLc_eq.mpr ?_
  simp [-hLc]
  refine lcs_sub (c := 1) (N := 200000000) (fun w : Str => PyData.str w) ws [] _ _ (fun w hw n hN K hF hT => ?_) (by omega) (by simp; omega) fun L n' hL hn' => ?_
  · simp
    refine drw' 2 _ _ (by decide) (by decide) (by omega) fun a a0 a1 => ?_
    refine ⟨_, rfl, eq_int.mpr ?_⟩
    by_cases ha : a = 0
    · refine Or.inr ⟨by simp [ha], ?_⟩
      exact hT (n + 1) _ (by omega) fun K2 hK2 => by simp; exact hK2 _ (by simp)
    · refine Or.inl ⟨by simp [ha], ?_⟩
      exact hF (n + 1) _ (by omega) (by simp)
  · simp only [List.nil_append]
    refine ⟨_, rfl, L, rfl, ?_⟩
    simp
    refine q (sortL L) n' (sortL_rising (nd.sublist hL)) (fun w hw => hL.subset (mem_sortL.mp hw)) ?_ (by omega)
    rw [sortL_len]; exact hL.length_le
end Sk
set_option Elab.async false
set_option linter.all false
set_option maxRecDepth 100000
set_option maxHeartbeats 4000000
namespace Sk
open PySem PySem.Spec PyProof.Rows L2
open PySem.W (Datum DatumOrd Tup T3 T4)
open Evl (Ex)
end Sk
namespace Sk
open PySem PySem.Spec PyProof.Rows L2
open PySem.W (Datum DatumOrd Tup T3 T4)
open Evl (Ex)
theorem behP_rng {M : Mch} (ok : MOk M) : ∀ (row : List Str) (P : Int → Prop), (∀ x, P x → 0 ≤ x ∧ x < M.items.length) → ∀ x, row.foldl (ledP M) P x → 0 ≤ x ∧ x < M.items.length
  | [], P, h => h
  | w :: row, P, h => behP_rng ok row (ledP M P w) fun x c => ledP_rng ok c
theorem behP_rng' {M : Mch} (ok : MOk M) {row : List Str} {x : Int} (h : behP M row x) : 0 ≤ x ∧ x < M.items.length := behP_rng ok row _ (fun y c => Clo.rng ok (fun z hz => by rw [hz]; have := ok.lo; omega) c) x h
end Sk
set_option Elab.async false
set_option linter.all false
set_option maxRecDepth 100000
set_option maxHeartbeats 4000000
namespace Sk
open PySem PySem.Spec PyProof.Rows L2
open PySem.W (Datum DatumOrd Tup T3 T4)
open Evl (Ex)
def sp_is_rising_757f86 : HSp := fun ps n C => ∃ ws : List Str, ps = [.dat (.tuple (ws.map .str))] ∧ Rising ws ∧ ws.length ≤ 90000 ∧ C (.dat (.bool true)) n
theorem rising_chain {ws : List Str} (h : Rising ws) : ((ws.zip (ws.drop 1)).map fun p => DatumOrd.lt p.1 p.2).all id = true := by
  unfold Rising at h
  induction ws with
  | nil => rfl
  | cons a ws ih =>
    rw [List.pairwise_cons] at h
    cases ws with
    | nil => rfl
    | cons b ws =>
      have := ih h.2
      simp only [List.drop_succ_cons, List.drop_zero, List.zip_cons_cons, List.map_cons, List.all_cons] at this ⊢
      rw [this, Bool.and_true]
      exact h.1 b List.mem_cons_self
def h_is_rising_757f86 : HS :=
    (hRet (hC (allW fun bs => bs.all id) (hE (hLc (hiZ (hE (hV 0) (hE (hSl 0 (hPt (hK (.int 1))) hNo) hNil))) (gP 1 2) hYes (hC (ltA (Str)) (hL 1 (hL 2 hNil))) [1, 2]) hNil)))
theorem rd_is_rising_757f86 : ∀ pvs n C, pvs.length = 1 → sp_is_rising_757f86 pvs n C → h_is_rising_757f86 ⟨fun s => C (.dat .none) s.n, fun p s => C p s.n, fun _ => False, fun _ => False⟩ ⟨pvs.map some ++ List.replicate (3 - pvs.length) none, n⟩ := by
  intro pvs n C _ h
  obtain ⟨ws, rfl, hr, hl, q⟩ := h
  unfold h_is_rising_757f86
  simp [-hLc]
  refine hLc_eq.mpr ?_
  simp [-hLc]
  have e2 : zipD (ws.map PyData.str) (cutD (ws.map PyData.str) (some 1) none) = (ws.zip (ws.drop 1)).map fun p => .tuple [.str p.1, .str p.2] := by
    rw [cut1_none, ← List.map_drop, zipD_map]
  rw [e2]
  refine lcs_map (xs := ws.zip (ws.drop 1)) (fun p : Str × Str => PyData.tuple [.str p.1, .str p.2]) (fun p => .bool (DatumOrd.lt p.1 p.2)) (fun a _ K hK => ?_) [] _ (by simp [List.length_zip]; omega) ?_
  · simp
    refine ⟨a.1, a.2, rfl, rfl, ?_⟩
    exact hK _ (by simp)
  · simp
    refine allW_b (bs := (ws.zip (ws.drop 1)).map fun p => DatumOrd.lt p.1 p.2) (by simp) ?_
    rw [rising_chain hr]
    exact q
def IsSet (ws : List Str) : Prop := (∀ w ∈ ws, isWordS w = true) ∧ ws.length ≤ 8 ∧ Rising ws
def sp_is_set_136706 : HSp := fun ps n C => ∃ ws : List Str, ps = [.dat (.tuple (ws.map .str))] ∧ IsSet ws ∧ C (.dat (.bool true)) n
def h_is_set_136706 : HS :=
    (hRet (hAndV (hCall sp_is_row_ab8be0 1 (hL 0 hNil)) (hAndV (hC leW (hE (hC lenW (hL 0 hNil)) (hE (hK c_MOST_DEEDS) hNil))) (hCall sp_is_rising_757f86 1 (hL 0 hNil)))))
theorem rd_is_set_136706 : ∀ pvs n C, pvs.length = 1 → sp_is_set_136706 pvs n C → h_is_set_136706 ⟨fun s => C (.dat .none) s.n, fun p s => C p s.n, fun _ => False, fun _ => False⟩ ⟨pvs.map some ++ List.replicate (1 - pvs.length) none, n⟩ := by
  intro pvs n C _ h
  obtain ⟨ws, rfl, hs, q⟩ := h
  unfold h_is_set_136706
  have h8 := hs.2.1
  simp
  refine ⟨ws, rfl, hs.1, by omega, Or.inr ⟨rfl, ?_⟩⟩
  exact Or.inr ⟨by omega, ws, rfl, hs.2.2, by omega, q⟩
def sp_need_set_a45985 : HSp := fun ps n C => ∃ ws : List Str, ps = [.dat (.tuple (ws.map .str))] ∧ IsSet ws ∧ C (.dat .none) n
def h_need_set_a45985 : HS :=
    (hIfS (hNot (hB (hCall sp_is_set_136706 1 (hL 0 hNil)))) hNever hNext)
theorem rd_need_set_a45985 : ∀ pvs n C, pvs.length = 1 → sp_need_set_a45985 pvs n C → h_need_set_a45985 ⟨fun s => C (.dat .none) s.n, fun p s => C p s.n, fun _ => False, fun _ => False⟩ ⟨pvs.map some ++ List.replicate (1 - pvs.length) none, n⟩ := by
  intro pvs n C _ h
  obtain ⟨ws, rfl, hs, q⟩ := h
  unfold h_need_set_a45985
  simp
  exact ⟨ws, rfl, hs, rfl, q⟩
end Sk
set_option Elab.async false
set_option linter.all false
set_option maxRecDepth 100000
set_option maxHeartbeats 4000000
namespace Sk
open PySem PySem.Spec PyProof.Rows L2
open PySem.W (Datum DatumOrd Tup T3 T4)
open Evl (Ex)
def Ls (v : PV) (ds : List PyData) : Prop := v = .own ds ∨ v = .dat (.list ds)
theorem Ls.own {ds : List PyData} : Ls (.own ds) ds := Or.inl rfl
theorem Ls.dat {ds : List PyData} : Ls (.dat (.list ds)) ds := Or.inr rfl
theorem Ls.frz {v : PV} {ds : List PyData} (h : Ls v ds) : v.frz = some (.list ds) := by rcases h with rfl | rfl <;> rfl
theorem Ls.seq {v : PV} {ds : List PyData} (h : Ls v ds) : v.seq = some ds := by rcases h with rfl | rfl <;> rfl
theorem Off.own {M : Mch} {S : List Int} {a : Tup Str} (ok : MOk M) (h : Off M S a) : ∀ w ∈ a.items, w ∈ sortU M.deeds := by
  obtain ⟨x, _, e⟩ := h
  unfold offT offerOf at e
  split at e
  · cases e
  · rename_i hn
    cases e
    intro w hw
    obtain ⟨p, hp, rfl⟩ := List.mem_map.mp (mem_sortU.mp hw)
    rw [mem_sortU]
    unfold Mch.deeds Mch.rows rowDeeds
    unfold rowAt at hp hn
    cases q : M.items[x.toNat]? with
    | none => rw [q] at hp; cases hp
    | some r =>
      rw [q] at hp hn
      refine List.mem_flatten.mpr ⟨(r.items.filter fun p => decide (p.1 ≠ ("" : Str))).map (·.1), ?_, ?_⟩
      · rw [List.map_map]
        exact List.mem_map.mpr ⟨r, List.mem_of_getElem? q, rfl⟩
      · refine List.mem_map.mpr ⟨p, List.mem_filter.mpr ⟨hp, decide_eq_true fun e => hn ?_⟩, rfl⟩
        exact List.any_eq_true.mpr ⟨p, hp, decide_eq_true e⟩
end Sk
set_option Elab.async false
set_option linter.all false
set_option maxRecDepth 100000
set_option maxHeartbeats 4000000
namespace Sk
open PySem PySem.Spec PyProof.Rows L2
open PySem.W (Datum DatumOrd Tup T3 T4)
open Evl (Ex)
end Sk
namespace Sk
open PySem PySem.Spec PyProof.Rows L2
open PySem.W (Datum DatumOrd Tup T3 T4)
open Evl (Ex)
section
variable {a b c : Str} (ha : isWordS a = true) (hb : isWordS b = true) (hc : isWordS c = true) (hab : DatumOrd.lt a b = true) (hac : DatumOrd.lt a c = true) (hbc : DatumOrd.lt b c = true)
include ha hb hc hab hac hbc
end
end Sk
set_option Elab.async false
set_option linter.all false
set_option maxRecDepth 100000
set_option maxHeartbeats 4000000
namespace Sk
open PySem PySem.Spec PyProof.Rows L2
open PySem.W (Datum DatumOrd Tup T3 T4)
open Evl (Ex)
end Sk
namespace Sk
open PySem PySem.Spec PyProof.Rows L2
open PySem.W (Datum DatumOrd Tup T3 T4)
inductive Dst (M : Mch) (g : Int → Prop) : Nat → Int → Prop where
  | base {x : Int} (h : g x) : Dst M g 0 x
  | hid {k : Nat} {x y : Int} (h0 : 0 ≤ x) (h : y ∈ Sk.hid M x) (d : Dst M g k y) : Dst M g k x
  | deed {k : Nat} {x y : Int} {w : Str} (h0 : 0 ≤ x) (hw : w ≠ "") (h : (w, y) ∈ rowAt M x) (d : Dst M g k y) : Dst M g (k + 1) x
def MinD (M : Mch) (g : Int → Prop) (k : Nat) (x : Int) : Prop := Dst M g k x ∧ ∀ j, j < k → ¬ Dst M g j x
def Seed (M : Mch) (g : Int → Prop) (s : Nat) (x : Int) : Prop := (s = 0 ∧ g x) ∨ ∃ (k : Nat) (w : Str) (y : Int), s = k + 1 ∧ 0 ≤ x ∧ w ≠ "" ∧ (w, y) ∈ rowAt M x ∧ Dst M g k y
structure LInv (M : Mch) (g : Int → Prop) (st : Int → Option Nat) (W : List Int) (s : Nat) : Prop where
  i1 : ∀ x j, st x = some j → j < s ∧ MinD M g j x
  i2 : ∀ x j, j < s → Dst M g j x → st x ≠ none
  i3 : ∀ x ∈ W, Dst M g s x
  i4 : ∀ x, Seed M g s x → x ∈ W ∨ st x ≠ none
structure JInv (M : Mch) (g : Int → Prop) (st : Int → Option Nat) (W L : List Int) (s : Nat) : Prop where
  j1 : ∀ x j, st x = some j → j ≤ s ∧ MinD M g j x
  j2 : ∀ x j, j < s → Dst M g j x → st x ≠ none
  j3 : ∀ x ∈ W, Dst M g s x
  jl : ∀ x ∈ L, Dst M g (s + 1) x
  j4 : ∀ x, Seed M g s x → x ∈ W ∨ st x ≠ none
  j5 : ∀ x p, st x = some s → 0 ≤ p → x ∈ Sk.hid M p → p ∈ W ∨ st p ≠ none
  j6 : ∀ (x p : Int) (w : Str), st x = some s → 0 ≤ p → w ≠ "" → (w, x) ∈ rowAt M p → p ∈ L
theorem LInv.go {M : Mch} {g : Int → Prop} {st : Int → Option Nat} {W : List Int} {s : Nat} (h : LInv M g st W s) : JInv M g st W [] s where
  j1 := fun x j e => ⟨Nat.le_of_lt (h.i1 x j e).1, (h.i1 x j e).2⟩
  j2 := h.i2
  j3 := h.i3
  jl := fun x hx => by cases hx
  j4 := h.i4
  j5 := fun x p e _ _ => absurd (h.i1 x s e).1 (Nat.lt_irrefl _)
  j6 := fun x p w e _ _ _ => absurd (h.i1 x s e).1 (Nat.lt_irrefl _)
theorem JInv.all {M : Mch} {g : Int → Prop} {st : Int → Option Nat} {L : List Int} {s : Nat} (h : JInv M g st [] L s) : ∀ k x, k ≤ s → Dst M g k x → st x ≠ none := by
  intro k x hk d
  rcases Nat.lt_or_ge k s with q | q
  · exact h.j2 x k q d
  · have e : k = s := by omega
    subst e
    have gen : ∀ i z, Dst M g i z → i = k → st z ≠ none := by
      intro i z dz
      induction dz with
      | base hz => intro e; exact (h.j4 _ (Or.inl ⟨e.symm, hz⟩)).resolve_left List.not_mem_nil
      | @hid i z y z0 hy dy ih =>
        intro e
        cases q2 : st y with
        | none => exact absurd q2 (ih e)
        | some j =>
          obtain ⟨jl, jm⟩ := h.j1 y j q2
          rcases Nat.lt_or_ge j k with q3 | q3
          · exact h.j2 z j q3 (.hid z0 hy jm.1)
          · have e3 : j = k := by omega
            subst e3
            exact (h.j5 y z q2 z0 hy).resolve_left List.not_mem_nil
      | @deed i z y w z0 hw hy dy ih =>
        intro e
        exact (h.j4 z (Or.inr ⟨i, w, y, e.symm, z0, hw, hy, dy⟩)).resolve_left List.not_mem_nil
    exact gen k x d rfl
theorem JInv.next {M : Mch} {g : Int → Prop} {st : Int → Option Nat} {L : List Int} {s : Nat} (h : JInv M g st [] L s) : LInv M g st L (s + 1) where
  i1 := fun x j e => ⟨Nat.lt_succ_of_le (h.j1 x j e).1, (h.j1 x j e).2⟩
  i2 := fun x j hj d => h.all j x (Nat.le_of_lt_succ hj) d
  i3 := h.jl
  i4 := fun x hs => by
    rcases hs with ⟨e, _⟩ | ⟨k, w, y, e, x0, hw, hy, dy⟩
    · cases e
    · have ek : k = s := by omega
      subst ek
      cases q : st y with
      | none => exact absurd q (h.all k y (Nat.le_refl _) dy)
      | some j =>
        obtain ⟨jl, jm⟩ := h.j1 y j q
        rcases Nat.lt_or_ge j k with q3 | q3
        · exact Or.inr (h.all (j + 1) x (by omega) (.deed x0 hw hy jm.1))
        · have e3 : j = k := by omega
          subst e3
          exact Or.inl (h.j6 y x w q x0 hw hy)
theorem LInv.end {M : Mch} {g : Int → Prop} {st : Int → Option Nat} {s : Nat} (h : LInv M g st [] s) : ∀ k x, Dst M g k x → st x ≠ none := by
  intro k x d
  induction d with
  | @base z hz =>
    cases s with
    | zero => exact (h.i4 z (Or.inl ⟨rfl, hz⟩)).resolve_left List.not_mem_nil
    | succ s => exact h.i2 z 0 (Nat.succ_pos _) (.base hz)
  | @hid i z y z0 hy dy ih =>
    cases q : st y with
    | none => exact absurd q ih
    | some j =>
      obtain ⟨jl, jm⟩ := h.i1 y j q
      exact h.i2 z j jl (.hid z0 hy jm.1)
  | @deed i z y w z0 hw hy dy ih =>
    cases q : st y with
    | none => exact absurd q ih
    | some j =>
      obtain ⟨jl, jm⟩ := h.i1 y j q
      rcases Nat.lt_or_ge (j + 1) s with q3 | q3
      · exact h.i2 z (j + 1) q3 (.deed z0 hw hy jm.1)
      · exact (h.i4 z (Or.inr ⟨j, w, y, by omega, z0, hw, hy, jm.1⟩)).resolve_left List.not_mem_nil
theorem JInv.skip {M : Mch} {g : Int → Prop} {st : Int → Option Nat} {W L : List Int} {s : Nat} {e : Int} (h : JInv M g st (W ++ [e]) L s) (he : st e ≠ none) : JInv M g st W L s where
  j1 := h.j1
  j2 := h.j2
  j3 := fun x hx => h.j3 x (List.mem_append.mpr (Or.inl hx))
  jl := h.jl
  j4 := fun x hs => (h.j4 x hs).elim (fun q => (List.mem_append.mp q).elim Or.inl fun q => Or.inr (by rw [List.mem_singleton.mp q]; exact he)) Or.inr
  j5 := fun x p e1 e0 e2 => (h.j5 x p e1 e0 e2).elim (fun q => (List.mem_append.mp q).elim Or.inl fun q => Or.inr (by rw [List.mem_singleton.mp q]; exact he)) Or.inr
  j6 := h.j6
theorem JInv.put {M : Mch} {g : Int → Prop} {st st' : Int → Option Nat} {W L A B : List Int} {s : Nat} {e : Int} (h : JInv M g st (W ++ [e]) L s) (he : st e = none) (h1 : st' e = some s) (h2 : ∀ x, x ≠ e → st' x = st x)
    (hA : ∀ p, p ∈ A ↔ 0 ≤ p ∧ e ∈ Sk.hid M p) (hB : ∀ p, p ∈ B ↔ 0 ≤ p ∧ ∃ w, w ≠ ("" : Str) ∧ (w, e) ∈ rowAt M p) : JInv M g st' (W ++ A) (L ++ B) s := by
  have de : Dst M g s e := h.j3 e (by simp)
  have mono : ∀ x, st x ≠ none → st' x ≠ none := fun x q => by
    by_cases z : x = e
    · rw [z, h1]; simp
    · rw [h2 x z]; exact q
  have ofor : ∀ x, (x ∈ W ++ [e] ∨ st x ≠ none) → (x ∈ W ++ A ∨ st' x ≠ none) := fun x q => by
    rcases q with q | q
    · rcases List.mem_append.mp q with q | q
      · exact Or.inl (List.mem_append.mpr (Or.inl q))
      · exact Or.inr (by rw [List.mem_singleton.mp q, h1]; simp)
    · exact Or.inr (mono x q)
  exact {
    j1 := fun x j q => by
      by_cases z : x = e
      · rw [z, h1] at q
        cases q
        rw [z]
        exact ⟨Nat.le_refl _, de, fun i hi d => h.j2 e i hi d he⟩
      · rw [h2 x z] at q
        exact h.j1 x j q
    j2 := fun x j hj d => mono x (h.j2 x j hj d)
    j3 := fun x hx => by
      rcases List.mem_append.mp hx with hx | hx
      · exact h.j3 x (List.mem_append.mpr (Or.inl hx))
      · exact .hid ((hA x).mp hx).1 ((hA x).mp hx).2 de
    jl := fun x hx => by
      rcases List.mem_append.mp hx with hx | hx
      · exact h.jl x hx
      · obtain ⟨x0, w, hw, hr⟩ := (hB x).mp hx
        exact .deed x0 hw hr de
    j4 := fun x hs => ofor x (h.j4 x hs)
    j5 := fun x p q p0 hp => by
      by_cases z : x = e
      · subst z
        exact Or.inl (List.mem_append.mpr (Or.inr ((hA p).mpr ⟨p0, hp⟩)))
      · rw [h2 x z] at q
        exact ofor p (h.j5 x p q p0 hp)
    j6 := fun x p w q p0 hw hr => by
      by_cases z : x = e
      · subst z
        exact List.mem_append.mpr (Or.inr ((hB p).mpr ⟨p0, w, hw, hr⟩))
      · rw [h2 x z] at q
        exact List.mem_append.mpr (Or.inl (h.j6 x p w q p0 hw hr)) }
def IsRow (r : List Str) : Prop := ∀ w ∈ r, isWordS w = true
def GoodFrom (M : Mch) (g : Int → Prop) (P : Int → Prop) (r : List Str) : Prop := ∃ x, r.foldl (ledP M) P x ∧ g x
def MinS (M : Mch) (g : Int → Prop) (P : Int → Prop) (k : Nat) : Prop := (∃ x, P x ∧ Dst M g k x) ∧ ∀ j, j < k → ¬ ∃ x, P x ∧ Dst M g j x
def Best (M : Mch) (g : Int → Prop) (P : Int → Prop) (r : List Str) : Prop := IsRow r ∧ GoodFrom M g P r ∧ ∀ r', IsRow r' → GoodFrom M g P r' → kLen (Tup.mk r) = kLen (Tup.mk r') ∨ DatumOrd.lt (kLen (Tup.mk r)) (kLen (Tup.mk r')) = true
def HClo (M : Mch) (P : Int → Prop) : Prop := ∀ x y, P x → y ∈ Sk.hid M x → P y
theorem HClo.clo {M : Mch} {P : Int → Prop} : HClo M (Clo M P) := fun x y h hy => .step h hy
theorem HClo.led {M : Mch} {P : Int → Prop} {w : Str} : HClo M (ledP M P w) := HClo.clo
theorem Clo.nonneg {M : Mch} (ok : MOk M) {P : Int → Prop} (hP : ∀ x, P x → 0 ≤ x) {x : Int} (h : Clo M P x) : 0 ≤ x := by
  cases h with
  | base h => exact hP _ h
  | step _ hg => exact (hid_rng ok hg).1
theorem clo_dst {M : Mch} (ok : MOk M) {g : Int → Prop} {P : Int → Prop} (hP : ∀ x, P x → 0 ≤ x) {k : Nat} {x : Int} (h : Clo M P x) : Dst M g k x → ∃ y, P y ∧ Dst M g k y := by
  induction h with
  | base h => exact fun d => ⟨_, h, d⟩
  | step hc hg ih => exact fun d => ih (.hid (hc.nonneg ok hP) hg d)
theorem led_from {M : Mch} {P : Int → Prop} (hP : ∀ x, P x → 0 ≤ x) {w : Str} (ok : MOk M) : ∀ x, (∃ y, P y ∧ (w, x) ∈ rowAt M y) → 0 ≤ x := fun x ⟨y, _, h⟩ => (rowAt_mv ok h).1
theorem good_dst {M : Mch} (ok : MOk M) {g : Int → Prop} : ∀ {r : List Str} {P : Int → Prop}, (∀ x, P x → 0 ≤ x) → IsRow r → GoodFrom M g P r → ∃ x, P x ∧ Dst M g r.length x
  | [], P, _, _, ⟨x, hx, hg⟩ => ⟨x, hx, .base hg⟩
  | w :: r, P, hP, hr, ⟨x, hx, hg⟩ => by
    obtain ⟨y, hy, d⟩ := good_dst ok (r := r) (P := ledP M P w) (fun x h => (ledP_rng ok h).1) (fun v hv => hr v (List.mem_cons_of_mem _ hv)) ⟨x, hx, hg⟩
    obtain ⟨z, ⟨u, hu, he⟩, d2⟩ := clo_dst ok (led_from hP ok) hy d
    exact ⟨u, hu, .deed (hP u hu) (word_ne (hr w List.mem_cons_self)) he d2⟩
theorem dst_led {M : Mch} (ok : MOk M) {g : Int → Prop} {k : Nat} {x : Int} (d : Dst M g (k + 1) x) : ∀ {P : Int → Prop}, HClo M P → P x → ∃ w, isWordS w = true ∧ ∃ y, ledP M P w y ∧ Dst M g k y := by
  generalize hk : k + 1 = i at d
  induction d with
  | base _ => cases hk
  | @hid j z y z0 hy dy ih => intro P hc hp; exact ih hk hc (hc z y hp hy)
  | @deed j z y w z0 hw hy dy ih =>
    intro P hc hp
    have e : j = k := by omega
    subst e
    exact ⟨w, (rowAt_mv ok hy).2.2.resolve_right hw, y, .base ⟨z, hp, hy⟩, dy⟩
theorem dst0 {M : Mch} {g : Int → Prop} {x : Int} (d : Dst M g 0 x) : ∀ {P : Int → Prop}, HClo M P → P x → ∃ y, P y ∧ g y := by
  generalize hk : 0 = i at d
  induction d with
  | base h => intro P _ hp; exact ⟨_, hp, h⟩
  | hid _ hy dy ih => intro P hc hp; exact ih hk hc (hc _ _ hp hy)
  | deed _ _ _ _ _ => cases hk
end Sk
set_option Elab.async false
set_option linter.all false
set_option maxRecDepth 100000
set_option maxHeartbeats 4000000
namespace Sk
open PySem PySem.Spec PyProof.Rows L2
open PySem.W (Datum DatumOrd Tup T3 T4)
open Evl (Ex)
abbrev Ev := Str × Int × Int
def evs : Nat → List (Tup (Str × Int)) → List Ev
  | _, [] => []
  | k, r :: rs => (r.items.map fun p => (p.1, p.2, ((k : Nat) : Int))) ++ evs (k + 1) rs
theorem evs_len : ∀ {rs : List (Tup (Str × Int))} {k m : Nat}, (∀ r ∈ rs, r.items.length ≤ m) → (evs k rs).length ≤ m * rs.length
  | [], k, m, _ => by simp [evs]
  | r :: rs, k, m, h => by
    unfold evs
    rw [List.length_append, List.length_map, List.length_cons, Nat.mul_succ]
    have := h r List.mem_cons_self
    have := evs_len (k := k + 1) fun r hr => h r (List.mem_cons_of_mem _ hr)
    omega
def FewMv (M : Mch) : Prop := (evs 0 M.items).length * M.items.length ≤ 30000 ∧ RowsLe 60 M
theorem rowAt_in {M : Mch} {x : Int} {p : Str × Int} (h : p ∈ rowAt M x) : x < M.items.length := by
  unfold rowAt at h
  cases q : M.items[x.toNat]? with
  | none => rw [q] at h; cases h
  | some r =>
    have := (List.getElem?_eq_some_iff.mp q).1
    omega
end Sk
set_option Elab.async false
set_option linter.all false
set_option maxRecDepth 100000
set_option maxHeartbeats 4000000
namespace Sk
open PySem PySem.Spec PyProof.Rows L2
open PySem.W (Datum DatumOrd Tup T3 T4)
open Evl (Ex)
def IsLeast (st : Int → Option Nat) (S : List Int) (k : Nat) : Prop := (∃ x ∈ S, st x = some k) ∧ ∀ x ∈ S, ∀ j, st x = some j → k ≤ j
theorem IsLeast.uniq {st : Int → Option Nat} {S : List Int} {j k : Nat} (h : IsLeast st S j) (h' : IsLeast st S k) : j = k := by
  obtain ⟨⟨x, hx, ex⟩, a⟩ := h
  obtain ⟨⟨y, hy, ey⟩, b⟩ := h'
  have := a y hy k ey
  have := b x hx j ex
  omega
theorem MinD.down {M : Mch} {g : Int → Prop} {k : Nat} {x : Int} (h : MinD M g (k + 1) x) : ∃ y, MinD M g k y := by
  obtain ⟨d, m⟩ := h
  generalize e : k + 1 = i at d m
  revert m
  induction d with
  | base _ => cases e
  | hid h0 hy dy ih => exact fun m => ih e fun j hj dj => m j hj (.hid h0 hy dj)
  | @deed i' x' y' w h0 hw hy dy ih =>
    intro m
    have e' : k = i' := by omega
    subst e'
    exact ⟨y', dy, fun j hj dj => m (j + 1) (by omega) (.deed h0 hw hy dj)⟩
theorem Dst.rng {M : Mch} {g : Int → Prop} (hg : ∀ x, g x → 0 ≤ x ∧ x < M.items.length) {k : Nat} {x : Int} (d : Dst M g k x) : 0 ≤ x ∧ x < M.items.length := by
  cases d with
  | base h => exact hg x h
  | hid h0 hy _ => exact ⟨h0, rowAt_in (mem_hid.mp hy)⟩
  | deed h0 _ hy _ => exact ⟨h0, rowAt_in hy⟩
theorem MinD.uniq {M : Mch} {g : Int → Prop} {j k : Nat} {x : Int} (h : MinD M g j x) (h' : MinD M g k x) : j = k := by
  rcases Nat.lt_or_ge j k with q | q
  · exact absurd h.1 (h'.2 j q)
  · rcases Nat.lt_or_ge k j with q2 | q2
    · exact absurd h'.1 (h.2 k q2)
    · omega
theorem minD_lt {M : Mch} {g : Int → Prop} (hg : ∀ x, g x → 0 ≤ x ∧ x < M.items.length) {k : Nat} {x : Int} (h : MinD M g k x) : k < M.items.length := by
  have key : ∀ k x, MinD M g k x → ∃ ys : List Int, ys.length = k + 1 ∧ ys.Nodup ∧ ∀ y ∈ ys, ∃ j, j ≤ k ∧ MinD M g j y := fun k => by
    induction k with
    | zero => exact fun x h => ⟨[x], rfl, by simp, fun y hy => ⟨0, Nat.le_refl _, by rw [List.mem_singleton.mp hy]; exact h⟩⟩
    | succ k ih =>
      intro x h
      obtain ⟨y, hy⟩ := h.down
      obtain ⟨ys, l, nd, al⟩ := ih y hy
      refine ⟨x :: ys, by simp [l], List.nodup_cons.mpr ⟨fun hx => ?_, nd⟩, fun z hz => ?_⟩
      · obtain ⟨j, hj, mj⟩ := al x hx
        have := mj.uniq h
        omega
      · rcases List.mem_cons.mp hz with rfl | hz
        · exact ⟨k + 1, Nat.le_refl _, h⟩
        · obtain ⟨j, hj, mj⟩ := al z hz
          exact ⟨j, by omega, mj⟩
  obtain ⟨ys, l, nd, al⟩ := key k x h
  have := rng_len nd fun y hy => by
    obtain ⟨j, _, mj⟩ := al y hy
    exact mj.1.rng hg
  omega
theorem MinS.lt {M : Mch} {g P : Int → Prop} (hg : ∀ x, g x → 0 ≤ x ∧ x < M.items.length) {k : Nat} (h : MinS M g P k) : k < M.items.length := by
  obtain ⟨⟨x, hx, d⟩, m⟩ := h
  exact minD_lt hg ⟨d, fun j hj dj => m j hj ⟨x, hx, dj⟩⟩
end Sk
set_option Elab.async false
set_option linter.all false
set_option maxRecDepth 100000
set_option maxHeartbeats 4000000
namespace Sk
open PySem PySem.Spec PyProof.Rows L2
open PySem.W (Datum DatumOrd Tup T3 T4)
open Evl (Ex)
abbrev RMs := List (Int × List Str)
def rlt (r s : List Str) : Bool := DatumOrd.lt (Tup.mk r) (Tup.mk s)
def rle (r s : List Str) : Prop := r = s ∨ rlt r s = true
theorem rlt_trans {a b c : List Str} (h : rlt a b = true) (h' : rlt b c = true) : rlt a c = true := lt_trans' h h'
theorem rlt_irr (a : List Str) : rlt a a = false := lt_irr _
theorem rle_trans {a b c : List Str} (h : rle a b) (h' : rle b c) : rle a c := by
  rcases h with rfl | h
  · exact h'
  · rcases h' with rfl | h'
    · exact Or.inr h
    · exact Or.inr (rlt_trans h h')
theorem rle_of_not {a b : List Str} (h : rlt a b = false) : rle b a := by
  by_cases q : rlt b a = true
  · exact Or.inr q
  · have := OrdL.tri (Tup.mk a) (Tup.mk b) h (by cases z : DatumOrd.lt (Tup.mk b) (Tup.mk a) with | false => rfl | true => exact absurd z q)
    left
    injection this with e
    exact e.symm
theorem rlt_rle {a b c : List Str} (h : rlt a b = true) (h' : rle b c) : rlt a c = true := by
  rcases h' with rfl | h'
  · exact h
  · exact rlt_trans h h'
def rowF (ms : RMs) (x : Int) : Option (List Str) := (ms.find? fun m => decide (m.1 = x)).map (·.2)
def putI (ms : RMs) (x : Int) (r : List Str) : RMs := if (ms.any fun m => decide (m.1 = x)) = true then ms.map (fun m => if m.1 = x then (m.1, r) else m) else ms ++ [(x, r)]
theorem rowF_mem {ms : RMs} {x : Int} : (∃ r, rowF ms x = some r) ↔ x ∈ ms.map (·.1) := by
  unfold rowF
  induction ms with
  | nil => simp
  | cons m ms ih =>
    rw [List.find?_cons, List.map_cons, List.mem_cons]
    by_cases h : m.1 = x
    · simp [h]
    · simp only [h, decide_false, ih]
      constructor
      · exact Or.inr
      · rintro (e | e)
        · exact absurd e.symm h
        · exact e
theorem rowF_put (ms : RMs) (x y : Int) (r : List Str) : rowF (putI ms x r) y = if y = x then some r else rowF ms y := by
  unfold putI
  split
  · rename_i h
    unfold rowF
    have key : ∀ ms : RMs, (∃ m ∈ ms, m.1 = x) ∨ y ≠ x → ((ms.map fun m => if m.1 = x then (m.1, r) else m).find? fun m => decide (m.1 = y)).map (·.2) = if y = x then some r else (ms.find? fun m => decide (m.1 = y)).map (·.2) := by
      intro ms
      induction ms with
      | nil => intro q; rcases q with ⟨_, h, _⟩ | q
               · cases h
               · simp [q]
      | cons m ms ih =>
        intro q
        rw [List.map_cons, List.find?_cons, List.find?_cons]
        by_cases hx : m.1 = x
        · rw [if_pos hx]
          by_cases hy : y = x
          · subst hy; simp [hx]
          · have : ¬ m.1 = y := fun e => hy (by rw [← e, hx])
            simp only [this, decide_false, if_neg hy]
            have := ih (Or.inr hy)
            rw [if_neg hy] at this
            exact this
        · rw [if_neg hx]
          by_cases hy : m.1 = y
          · have : ¬ y = x := fun e => hx (by rw [hy, e])
            simp [hy, this]
          · simp only [hy, decide_false]
            refine ih ?_
            rcases q with ⟨m', h1, h2⟩ | q
            · rcases List.mem_cons.mp h1 with rfl | h1
              · exact absurd h2 hx
              · exact Or.inl ⟨m', h1, h2⟩
            · exact Or.inr q
    refine key ms (Or.inl ?_)
    obtain ⟨m, h1, h2⟩ := List.any_eq_true.mp h
    exact ⟨m, h1, of_decide_eq_true h2⟩
  · rename_i h
    unfold rowF
    rw [List.find?_append]
    by_cases hy : y = x
    · subst hy
      rw [if_pos rfl]
      have : ms.find? (fun m => decide (m.1 = y)) = none := List.find?_eq_none.mpr fun m hm hd => h (List.any_eq_true.mpr ⟨m, hm, hd⟩)
      rw [this]
      simp
    · rw [if_neg hy]
      have : ¬ x = y := fun e => hy e.symm
      simp [this]
theorem putI_keys (ms : RMs) (x : Int) (r : List Str) : (putI ms x r).map (·.1) = if x ∈ ms.map (·.1) then ms.map (·.1) else ms.map (·.1) ++ [x] := by
  have e : (ms.any fun m => decide (m.1 = x)) = true ↔ x ∈ ms.map (·.1) := by
    rw [List.any_eq_true, List.mem_map]
    constructor
    · rintro ⟨m, h1, h2⟩; exact ⟨m, h1, of_decide_eq_true h2⟩
    · rintro ⟨m, h1, h2⟩; exact ⟨m, h1, decide_eq_true h2⟩
  unfold putI
  by_cases h : x ∈ ms.map (·.1)
  · rw [if_pos (e.mpr h), if_pos h, List.map_map]
    refine List.map_congr_left fun m _ => ?_
    show (if m.1 = x then (m.1, r) else m).1 = m.1
    split <;> rfl
  · rw [if_neg (fun z => h (e.mp z)), if_neg h, List.map_append]; rfl
theorem putI_nodup {ms : RMs} (nd : (ms.map (·.1)).Nodup) (x : Int) (r : List Str) : ((putI ms x r).map (·.1)).Nodup := by
  rw [putI_keys]
  split
  · exact nd
  · rename_i h
    exact List.nodup_append.mpr ⟨nd, by simp, fun a ha b hb e => h (by rw [List.mem_singleton.mp hb] at e; rw [← e]; exact ha)⟩
structure CE (M : Mch) (ms0 ms : RMs) (wt : List Int) (e : Int) (re : List Str) (todo : List (Str × Int)) : Prop where
  c1 : ∀ x r, rowF ms x = some r → ∃ y, rowF ms0 y = some r ∧ Clo M (· = y) x
  c2 : ∀ x r, rowF ms0 x = some r → ∃ r1, rowF ms x = some r1 ∧ rle r1 r
  c3 : ∀ x r, rowF ms x = some r → x ∈ wt ∨ (x ≠ e ∧ ∀ y ∈ hid M x, ∃ r1, rowF ms y = some r1 ∧ rle r1 r) ∨ (x = e ∧ ∀ y ∈ hid M e, (("" : Str), y) ∈ todo ∨ ∃ r1, rowF ms y = some r1 ∧ rle r1 r)
  c4 : ∀ x ∈ wt, ∃ r, rowF ms x = some r
  ce : rowF ms e = some re
  nd : (ms.map (·.1)).Nodup
structure CI (M : Mch) (ms0 ms : RMs) (wt : List Int) : Prop where
  c1 : ∀ x r, rowF ms x = some r → ∃ y, rowF ms0 y = some r ∧ Clo M (· = y) x
  c2 : ∀ x r, rowF ms0 x = some r → ∃ r1, rowF ms x = some r1 ∧ rle r1 r
  c3 : ∀ x r, rowF ms x = some r → x ∈ wt ∨ ∀ y ∈ hid M x, ∃ r1, rowF ms y = some r1 ∧ rle r1 r
  c4 : ∀ x ∈ wt, ∃ r, rowF ms x = some r
  nd : (ms.map (·.1)).Nodup
theorem CI.start {M : Mch} {ms : RMs} (nd : (ms.map (·.1)).Nodup) : CI M ms ms (ms.map (·.1)) where
  c1 := fun x r h => ⟨x, h, .base rfl⟩
  c2 := fun x r h => ⟨r, h, Or.inl rfl⟩
  c3 := fun x r h => Or.inl (rowF_mem.mp ⟨r, h⟩)
  c4 := fun x h => rowF_mem.mpr h
  nd := nd
theorem CE.done {M : Mch} {ms0 ms : RMs} {wt : List Int} {e : Int} {re : List Str} (h : CE M ms0 ms wt e re []) : CI M ms0 ms wt where
  c1 := h.c1
  c2 := h.c2
  c3 := fun x r hx => by
    rcases h.c3 x r hx with z | ⟨_, z⟩ | ⟨z1, z⟩
    · exact Or.inl z
    · exact Or.inr z
    · exact Or.inr fun y hy => by
        rw [z1] at hy
        exact (z y hy).resolve_left List.not_mem_nil
  c4 := h.c4
  nd := h.nd
theorem CE.skip {M : Mch} {ms0 ms : RMs} {wt : List Int} {e : Int} {re : List Str} {p : Str × Int} {todo : List (Str × Int)} (h : CE M ms0 ms wt e re (p :: todo)) (k : p.1 = ("" : Str) → ∃ r1, rowF ms p.2 = some r1 ∧ rle r1 re) : CE M ms0 ms wt e re todo where
  c1 := h.c1
  c2 := h.c2
  c3 := fun x r hx => by
    rcases h.c3 x r hx with z | z | ⟨z1, z⟩
    · exact Or.inl z
    · exact Or.inr (Or.inl z)
    · refine Or.inr (Or.inr ⟨z1, fun y hy => ?_⟩)
      rcases z y hy with q | q
      · rcases List.mem_cons.mp q with q | q
        · subst z1
          have er : re = r := by rw [h.ce] at hx; exact Option.some.inj hx
          subst er
          obtain ⟨r1, h1, h2⟩ := k (by rw [← q])
          rw [← q] at h1
          exact Or.inr ⟨r1, h1, h2⟩
        · exact Or.inl q
      · exact Or.inr q
  c4 := h.c4
  ce := h.ce
  nd := h.nd
theorem CE.put {M : Mch} {ms0 ms : RMs} {wt : List Int} {e g : Int} {re : List Str} {todo : List (Str × Int)} (h : CE M ms0 ms wt e re ((("" : Str), g) :: todo)) (hg : g ∈ hid M e) (k : ∀ r, rowF ms g = some r → rlt re r = true) : CE M ms0 (putI ms g re) (wt ++ [g]) e re todo := by
  have ne : e ≠ g := fun q => by
    have := k re (by rw [← q]; exact h.ce)
    rw [rlt_irr] at this
    cases this
  have low : ∀ {x r1 r}, rowF ms x = some r1 → rle r1 r → ∃ r2, rowF (putI ms g re) x = some r2 ∧ rle r2 r := fun {x r1 r} h1 h2 => by
    rw [rowF_put]
    by_cases q : x = g
    · rw [if_pos q]
      rw [q] at h1
      exact ⟨re, rfl, Or.inr (rlt_rle (k _ h1) h2)⟩
    · rw [if_neg q]
      exact ⟨r1, h1, h2⟩
  refine ⟨fun x r hx => ?_, fun x r hx => ?_, fun x r hx => ?_, fun x hx => ?_, by rw [rowF_put, if_neg ne]; exact h.ce, putI_nodup h.nd _ _⟩
  · rw [rowF_put] at hx
    by_cases q : x = g
    · rw [if_pos q] at hx
      cases hx
      obtain ⟨y, h1, h2⟩ := h.c1 e re h.ce
      rw [q]
      exact ⟨y, h1, .step h2 hg⟩
    · rw [if_neg q] at hx
      exact h.c1 x r hx
  · obtain ⟨r1, h1, h2⟩ := h.c2 x r hx
    exact low h1 h2
  · by_cases q : x = g
    · exact Or.inl (by rw [q]; simp)
    · rw [rowF_put, if_neg q] at hx
      rcases h.c3 x r hx with z | ⟨z1, z⟩ | ⟨z1, z⟩
      · exact Or.inl (List.mem_append.mpr (Or.inl z))
      · exact Or.inr (Or.inl ⟨z1, fun y hy => by obtain ⟨r1, h1, h2⟩ := z y hy; exact low h1 h2⟩)
      · refine Or.inr (Or.inr ⟨z1, fun y hy => ?_⟩)
        rcases z y hy with w | ⟨r1, h1, h2⟩
        · rcases List.mem_cons.mp w with w | w
          · injection w with _ w
            subst w
            have er : re = r := by rw [z1, h.ce] at hx; exact Option.some.inj hx
            exact Or.inr ⟨re, by rw [rowF_put, if_pos rfl], Or.inl er⟩
          · exact Or.inl w
        · exact Or.inr (low h1 h2)
  · rcases List.mem_append.mp hx with hx | hx
    · obtain ⟨r, hr⟩ := h.c4 x hx
      obtain ⟨r2, h2, _⟩ := low hr (Or.inl rfl)
      exact ⟨r2, h2⟩
    · rw [List.mem_singleton.mp hx]
      exact ⟨re, by rw [rowF_put, if_pos rfl]⟩
theorem Clo.one {M : Mch} {P : Int → Prop} {x : Int} : Clo M P x ↔ ∃ z, P z ∧ Clo M (· = z) x := by
  constructor
  · intro h
    induction h with
    | base h => exact ⟨_, h, .base rfl⟩
    | step _ hg ih =>
      obtain ⟨z, h1, h2⟩ := ih
      exact ⟨z, h1, .step h2 hg⟩
  · rintro ⟨z, h1, h2⟩
    induction h2 with
    | base h => rw [h]; exact .base h1
    | step _ hg ih => exact .step ih hg
theorem CI.end {M : Mch} {ms0 ms : RMs} (h : CI M ms0 ms []) {x y : Int} {r : List Str} (hy : rowF ms0 y = some r) (c : Clo M (· = y) x) : ∃ r1, rowF ms x = some r1 ∧ rle r1 r := by
  induction c with
  | base e => rw [e]; exact h.c2 y r hy
  | step _ hg ih =>
    obtain ⟨r1, h1, h2⟩ := ih
    obtain ⟨r2, h3, h4⟩ := (h.c3 _ _ h1).resolve_left List.not_mem_nil _ hg
    exact ⟨r2, h3, rle_trans h4 h2⟩
structure NX (cs : List (Int × List Str)) (ms : RMs) : Prop where
  n1 : ∀ x r, rowF ms x = some r → (x, r) ∈ cs
  n2 : ∀ x r, (x, r) ∈ cs → ∃ r1, rowF ms x = some r1 ∧ rle r1 r
  nd : (ms.map (·.1)).Nodup
theorem NX.nil : NX [] [] := ⟨(fun x r h => by simp [rowF] at h), (fun x r h => by cases h), List.nodup_nil⟩
theorem NX.skip {cs : List (Int × List Str)} {ms : RMs} {x : Int} {r r1 : List Str} (h : NX cs ms) (h1 : rowF ms x = some r1) (h2 : rlt r r1 = false) : NX (cs ++ [(x, r)]) ms := ⟨fun y s hy => List.mem_append.mpr (Or.inl (h.n1 y s hy)), fun y s hy => by
  rcases List.mem_append.mp hy with hy | hy
  · exact h.n2 y s hy
  · cases List.mem_singleton.mp hy
    exact ⟨r1, h1, rle_of_not h2⟩, h.nd⟩
theorem NX.put {cs : List (Int × List Str)} {ms : RMs} {x : Int} {r : List Str} (h : NX cs ms) (k : ∀ s, rowF ms x = some s → rlt r s = true) : NX (cs ++ [(x, r)]) (putI ms x r) := by
  refine ⟨fun y s hy => ?_, fun y s hy => ?_, putI_nodup h.nd _ _⟩
  · rw [rowF_put] at hy
    by_cases q : y = x
    · rw [if_pos q] at hy
      cases hy
      rw [q]; simp
    · rw [if_neg q] at hy
      exact List.mem_append.mpr (Or.inl (h.n1 y s hy))
  · rw [rowF_put]
    by_cases q : y = x
    · rw [if_pos q]
      rcases List.mem_append.mp hy with hy | hy
      · obtain ⟨r1, h1, h2⟩ := h.n2 y s hy
        rw [q] at h1
        exact ⟨r, rfl, Or.inr (rlt_rle (k _ h1) h2)⟩
      · cases List.mem_singleton.mp hy
        exact ⟨r, rfl, Or.inl rfl⟩
    · rw [if_neg q]
      rcases List.mem_append.mp hy with hy | hy
      · exact h.n2 y s hy
      · cases List.mem_singleton.mp hy
        exact absurd rfl q
def Bse (M : Mch) : Nat → Int → List Str → Prop
  | 0, x, r => x = 0 ∧ r = []
  | k + 1, x, r => ∃ r' w y, r = r' ++ [w] ∧ w ≠ ("" : Str) ∧ IsRow r' ∧ r'.length = k ∧ behP M r' y ∧ (w, x) ∈ rowAt M y
structure Lay (M : Mch) (k : Nat) (ms : RMs) : Prop where
  l1 : ∀ x r, rowF ms x = some r → Bse M k x r
  l2 : ∀ x r, Bse M k x r → ∃ r1, rowF ms x = some r1 ∧ rle r1 r
  nd : (ms.map (·.1)).Nodup
structure Clz (M : Mch) (k : Nat) (ms : RMs) : Prop where
  l1 : ∀ x r, rowF ms x = some r → IsRow r ∧ r.length = k ∧ behP M r x
  l2 : ∀ x r, IsRow r → r.length = k → behP M r x → ∃ r1, rowF ms x = some r1 ∧ rle r1 r
  nd : (ms.map (·.1)).Nodup
theorem rowF_zero (x : Int) : rowF [(0, [])] x = if x = 0 then some [] else none := by
  unfold rowF
  rw [List.find?_cons]
  by_cases q : x = 0
  · simp [q]
  · have : ¬ (0 : Int) = x := fun e => q e.symm
    simp [q, this]
theorem Lay.zero {M : Mch} : Lay M 0 [(0, [])] where
  l1 := fun x r h => by
    rw [rowF_zero] at h
    by_cases q : x = 0
    · rw [if_pos q] at h
      cases h
      exact ⟨q, rfl⟩
    · rw [if_neg q] at h
      cases h
  l2 := fun x r h => by
    obtain ⟨e1, e2⟩ := h
    exact ⟨[], by rw [rowF_zero, if_pos e1], Or.inl e2.symm⟩
  nd := by simp
theorem listLt_snoc (a b : List Str) (w : Str) (hl : a.length = b.length) (h : rle a b) : rle (a ++ [w]) (b ++ [w]) := by
  rcases h with rfl | h
  · exact Or.inl rfl
  · refine Or.inr ?_
    have key : ∀ (a b : List Str), a.length = b.length → PySem.W.listLt a b = true → PySem.W.listLt (a ++ [w]) (b ++ [w]) = true := by
      intro a
      induction a with
      | nil =>
        intro b hl h
        have : b = [] := List.length_eq_zero_iff.mp hl.symm
        subst this
        simp [PySem.W.listLt] at h
      | cons x a ih =>
        intro b hl h
        match b, hl, h with
        | y :: b, hl, h =>
          show PySem.W.listLt (x :: (a ++ [w])) (y :: (b ++ [w])) = true
          unfold PySem.W.listLt at h ⊢
          by_cases e : x = y
          · rw [if_pos e] at h ⊢
            exact ih b (by simpa using hl) h
          · rw [if_neg e] at h ⊢
            exact h
    exact key a b hl h
theorem Clz.next {M : Mch} (ok : MOk M) {k : Nat} {ms ms2 : RMs} {cs : List (Int × List Str)} (h : Clz M k ms) (n : NX cs ms2) (hc : ∀ x r, (x, r) ∈ cs ↔ ∃ y r' w, rowF ms y = some r' ∧ w ≠ ("" : Str) ∧ (w, x) ∈ rowAt M y ∧ r = r' ++ [w]) : Lay M (k + 1) ms2 where
  l1 := fun x r hx => by
    obtain ⟨y, r', w, h1, h2, h3, h4⟩ := (hc x r).mp (n.n1 x r hx)
    obtain ⟨a, b, c⟩ := h.l1 y r' h1
    exact ⟨r', w, y, h4, h2, a, b, c, h3⟩
  l2 := fun x r hx => by
    obtain ⟨r', w, y, rfl, h2, h3, h4, h5, h6⟩ := hx
    obtain ⟨r1, h7, h8⟩ := h.l2 y r' h3 h4 h5
    obtain ⟨r2, h9, h10⟩ := n.n2 x (r1 ++ [w]) ((hc _ _).mpr ⟨y, r1, w, h7, h2, h6, rfl⟩)
    refine ⟨r2, h9, rle_trans h10 (listLt_snoc _ _ _ ?_ h8)⟩
    rw [(h.l1 y r1 h7).2.1, h4]
  nd := n.nd
def NoGood (M : Mch) (g : Int → Prop) (k : Nat) : Prop := ∀ r, IsRow r → r.length < k → ¬ GoodFrom M g (behP M []) r
theorem good_beh {M : Mch} {g : Int → Prop} {r : List Str} : GoodFrom M g (behP M []) r ↔ ∃ x, behP M r x ∧ g x := Iff.rfl
theorem Clz.more {M : Mch} {g : Int → Prop} {k : Nat} {ms : RMs} (h : Clz M k ms) (ng : NoGood M g k) (no : ∀ x r, rowF ms x = some r → ¬ g x) : NoGood M g (k + 1) := fun r hr hl hg => by
  rcases Nat.lt_or_ge r.length k with q | q
  · exact ng r hr q hg
  · obtain ⟨y, hy, gy⟩ := good_beh.mp hg
    obtain ⟨r1, h1, _⟩ := h.l2 y r hr (by omega) hy
    exact no y r1 h1 gy
theorem dst_row {M : Mch} (ok : MOk M) {g : Int → Prop} : ∀ (k : Nat) {x : Int} {P : Int → Prop}, Dst M g k x → HClo M P → P x → ∃ r, IsRow r ∧ r.length = k ∧ GoodFrom M g P r
  | 0, x, P, d, hc, hx => by
    obtain ⟨y, hy, hg⟩ := dst0 d hc hx
    exact ⟨[], (fun w hw => by cases hw), rfl, y, hy, hg⟩
  | k + 1, x, P, d, hc, hx => by
    obtain ⟨w, hw, y, hy, dy⟩ := dst_led ok d hc hx
    obtain ⟨r, h1, h2, h3⟩ := dst_row ok k dy HClo.led hy
    exact ⟨w :: r, fun v hv => (List.mem_cons.mp hv).elim (fun e => by rw [e]; exact hw) (h1 v), by simp [h2], h3⟩
end Sk
set_option Elab.async false
set_option linter.all false
set_option maxRecDepth 100000
set_option maxHeartbeats 4000000
namespace Sk
open PySem PySem.Spec PyProof.Rows L2
open PySem.W (Datum DatumOrd Tup T3 T4)
open Evl (Ex)
def BestC (M : Mch) (g : Int → Prop) (n : Nat) (C : PV → Nat → Prop) : Prop := (∀ row, Best M g (behP M []) row → C (.dat (.tuple (row.map .str))) n) ∧ ((∀ row, IsRow row → ¬ GoodFrom M g (behP M []) row) → C (.dat .none) n)
end Sk
namespace Sk
open PySem PySem.Spec PyProof.Rows L2
open PySem.W (Datum DatumOrd Tup T3 T4)
open Evl (Ex)
end Sk
set_option Elab.async false
set_option linter.all false
set_option maxRecDepth 100000
set_option maxHeartbeats 4000000
namespace Sk
open PySem PySem.Spec PyProof.Rows L2
open PySem.W (Datum DatumOrd Tup T3 T4)
open Evl (Ex)
section
variable {a b : Str} (ha : isWordS a = true) (hb : isWordS b = true) (hab : a ≠ b)
end
end Sk
namespace Sk
open PySem PySem.Spec PyProof.Rows L2
open PySem.W (Datum DatumOrd Tup T3 T4)
open Evl (Ex)
section
variable {a b c : Str} (ha : isWordS a = true) (hb : isWordS b = true) (hc : isWordS c = true) (hab : DatumOrd.lt a b = true) (hac : DatumOrd.lt a c = true) (hbc : DatumOrd.lt b c = true)
include ha hb hc hab hac hbc
end
end Sk
set_option Elab.async false
set_option linter.all false
set_option maxRecDepth 100000
set_option maxHeartbeats 4000000
namespace Sk
open PySem PySem.Spec PyProof.Rows L2
open PySem.W (Datum DatumOrd Tup T3 T4)
open Evl (Ex)
def OneD (M : Mch) (g : Int → Prop) (d : PyData) : Prop := (∃ row, Best M g (behP M []) row ∧ d = .tuple (row.map .str)) ∨ (d = .none ∧ ∀ row, IsRow row → ¬ GoodFrom M g (behP M []) row)
theorem BestC.of {M : Mch} {g : Int → Prop} {n : Nat} {C : PV → Nat → Prop} (h : ∀ d, OneD M g d → C (.dat d) n) : BestC M g n C := ⟨fun row hb => h _ (Or.inl ⟨row, hb, rfl⟩), fun hn => h _ (Or.inr ⟨rfl, hn⟩)⟩
theorem Best.uniq {M : Mch} {g P : Int → Prop} {r s : List Str} (h : Best M g P r) (h' : Best M g P s) : r = s := by
  have inj : kLen (Tup.mk r) = kLen (Tup.mk s) → r = s := fun e => by injection (Prod.mk.inj e).2
  rcases h.2.2 s h'.1 h'.2.1 with e | l
  · exact inj e
  · rcases h'.2.2 r h.1 h.2.1 with e | l'
    · exact (inj e.symm)
    · have := lt_trans' l l'
      rw [lt_irr] at this
      cases this
theorem OneD.uniq {M : Mch} {g : Int → Prop} {d e : PyData} (h : OneD M g d) (h' : OneD M g e) : d = e := by
  rcases h with ⟨r, hr, rfl⟩ | ⟨rfl, hn⟩
  · rcases h' with ⟨s, hs, rfl⟩ | ⟨rfl, hn⟩
    · rw [hr.uniq hs]
    · exact absurd hr.2.1 (hn r hr.1)
  · rcases h' with ⟨s, hs, rfl⟩ | ⟨rfl, _⟩
    · exact absurd hs.2.1 (hn s hs.1)
    · rfl
theorem Best.len {M : Mch} (ok : MOk M) {g : Int → Prop} (hg : ∀ x, g x → 0 ≤ x ∧ x < M.items.length) {r : List Str} (h : Best M g (behP M []) r) : r.length < M.items.length := by
  obtain ⟨x, hx, d⟩ := good_dst ok (fun x h => (behP_rng' ok h).1) h.1 h.2.1
  have key : ∀ j, (∃ x, behP M [] x ∧ Dst M g j x) → ∃ k, k ≤ j ∧ MinS M g (behP M []) k := fun j => by
    induction j using Nat.strongRecOn with
    | ind j ih =>
      intro hj
      by_cases q : ∃ i, i < j ∧ ∃ x, behP M [] x ∧ Dst M g i x
      · obtain ⟨i, hi, h⟩ := q
        obtain ⟨k, hk, m⟩ := ih i hi h
        exact ⟨k, by omega, m⟩
      · exact ⟨j, Nat.le_refl _, hj, fun i hi h => q ⟨i, hi, h⟩⟩
  obtain ⟨k, hk, ms⟩ := key _ ⟨x, hx, d⟩
  have lt := ms.lt hg
  obtain ⟨y, hy, dy⟩ := ms.1
  obtain ⟨r2, h1, h2, h3⟩ := dst_row ok k dy HClo.clo hy
  rcases h.2.2 r2 h1 h3 with e | l
  · have : r = r2 := by injection (Prod.mk.inj e).2
    rw [this]; omega
  · have l : (if (r.length : Int) = (r2.length : Int) then _ else decide ((r.length : Int) < (r2.length : Int))) = true := l
    split at l
    · omega
    · have := of_decide_eq_true l
      omega
theorem OneD.show {M : Mch} (ok : MOk M) {g : Int → Prop} (hg : ∀ x, g x → 0 ≤ x ∧ x < M.items.length) {d : PyData} (h : OneD M g d) : ShowOk d := by
  rcases h with ⟨r, hr, rfl⟩ | ⟨rfl, _⟩
  · have hl := hr.len ok hg
    have hi := ok.hi
    refine (ShowAll.tupK (show_all (k := 0) (w := 6) fun x hx => word_showK (Or.inl (hr.1 x hx)))).ok (by decide) ?_
    omega
  · exact none_showK.ok (by decide) (by decide)
theorem OneD.imm {M : Mch} {g : Int → Prop} {d : PyData} (h : OneD M g d) : (PV.dat d).imm = true := by
  rcases h with ⟨r, _, rfl⟩ | ⟨rfl, _⟩
  · have : ∀ xs : List Str, immAll (xs.map .str) = true := fun xs => by
      induction xs with
      | nil => rfl
      | cons x xs ih => rw [List.map_cons, immAll, ih]; rfl
    exact this r
  · rfl
def FM (M : Mch) : Prop := MOk M ∧ RowsLe 4 M ∧ M.items.length ≤ 12
theorem FM.few {M : Mch} (h : FM M) : FewMv M := ⟨by
  have := evs_len (k := 0) (m := 4) h.2.1
  have h2 := h.2.2
  have : (evs 0 M.items).length ≤ 48 := by omega
  exact Nat.le_trans (Nat.mul_le_mul this h2) (by decide), fun r hr => Nat.le_trans (h.2.1 r hr) (by decide)⟩
end Sk
set_option Elab.async false
set_option linter.all false
set_option maxRecDepth 100000
set_option maxHeartbeats 4000000
namespace Sk
open PySem PySem.Spec PyProof.Rows L2
open PySem.W (Datum DatumOrd Tup T3 T4)
open Evl (Ex)
@[simp] def c_LONGEST : PyData := .int 12
@[simp] def c_MOST_ROWS : PyData := .int 2000
end Sk
namespace Sk
open PySem PySem.Spec PyProof.Rows L2
open PySem.W (Datum DatumOrd Tup T3 T4)
open Evl (Ex)
def hids (M : Mch) : List (List Int) := M.items.map fun r => hidR r.items
theorem hids_at {M : Mch} {x : Int} : (((hids M)[x.toNat]?).getD []) = hid M x := (hid_run (M := M) rfl x).symm
def endH (H : List (List Int)) : List Int := rndsH H H.length (rngI H.length)
theorem mem_endH {M : Mch} {x : Int} : x ∈ endH (hids M) ↔ Endl M x := endl_run (M := M) (H := hids M) rfl rfl x
def nextsH (H : List (List Int)) (E : List Int) (x : Int) : List Int := ((H[x.toNat]?).getD []).filter fun g => decide (g ∈ E)
def nextH (H : List (List Int)) (E : List Int) (x : Int) : Int := (nextsH H E x).head?.getD 0
theorem endl_next {M : Mch} {x : Int} (h : Endl M x) : ∃ g, g ∈ hid M x ∧ Endl M g := by
  obtain ⟨S, hS, hx⟩ := h
  obtain ⟨_, _, g, hg, h2⟩ := hS x hx
  exact ⟨g, hg, S, hS, h2⟩
theorem nexts_cons {M : Mch} {x : Int} (h : Endl M x) : ∃ r, nextsH (hids M) (endH (hids M)) x = nextH (hids M) (endH (hids M)) x :: r ∧ nextH (hids M) (endH (hids M)) x ∈ hid M x ∧ Endl M (nextH (hids M) (endH (hids M)) x) := by
  obtain ⟨g, hg, he⟩ := endl_next h
  have hm : g ∈ nextsH (hids M) (endH (hids M)) x := List.mem_filter.mpr ⟨by rw [hids_at]; exact hg, decide_eq_true (mem_endH.mpr he)⟩
  unfold nextH
  cases q : nextsH (hids M) (endH (hids M)) x with
  | nil => rw [q] at hm; cases hm
  | cons a r =>
    have ha : a ∈ nextsH (hids M) (endH (hids M)) x := by rw [q]; exact List.mem_cons_self
    obtain ⟨h1, h2⟩ := List.mem_filter.mp ha
    rw [hids_at] at h1
    exact ⟨r, rfl, h1, mem_endH.mp (of_decide_eq_true h2)⟩
def wayH (H : List (List Int)) (E : List Int) : Nat → List Int → Int → List Int × Int
  | 0, w, g => (w, g)
  | k + 1, w, g => if g ∈ w then (w, g) else wayH H E k (w ++ [g]) (nextH H E g)
theorem wayH_done {H : List (List Int)} {E : List Int} {k : Nat} {w : List Int} {g : Int} (h : g ∈ w) : wayH H E k w g = (w, g) := by
  cases k with
  | zero => rfl
  | succ k => show (if g ∈ w then _ else _) = _; rw [if_pos h]
def Lnk (M : Mch) (w : List Int) : Prop := ∀ (i : Nat) (a b : Int), w[i]? = some a → w[i + 1]? = some b → b ∈ hid M a
theorem Lnk.one {M : Mch} {x : Int} : Lnk M [x] := fun i a b _ h2 => by simp at h2
theorem Lnk.snoc {M : Mch} {w : List Int} {y z : Int} (h : Lnk M (w ++ [y])) (hz : z ∈ hid M y) : Lnk M (w ++ [y] ++ [z]) := fun i a b h1 h2 => by
  rcases Nat.lt_or_ge (i + 1) (w ++ [y]).length with l | l
  · rw [List.getElem?_append_left l] at h2
    rw [List.getElem?_append_left (by omega)] at h1
    exact h i a b h1 h2
  · rw [List.getElem?_append_right l] at h2
    have l2 : i + 1 - (w ++ [y]).length = 0 := by
      rcases Nat.eq_zero_or_pos (i + 1 - (w ++ [y]).length) with q | q
      · exact q
      · rw [List.getElem?_eq_none (by simp at q ⊢; omega)] at h2; cases h2
    rw [l2] at h2
    have hb : b = z := by simpa using h2.symm
    have hi : i = w.length := by simp at l l2; omega
    subst hi
    rw [List.getElem?_append_left (by simp), List.getElem?_append_right (Nat.le_refl _)] at h1
    have ha : a = y := by simpa using h1.symm
    rw [ha, hb]; exact hz
theorem Lnk.take {M : Mch} {w : List Int} (h : Lnk M w) (n : Nat) : Lnk M (w.take n) := fun i a b h1 h2 => by
  rw [List.getElem?_take] at h1 h2
  split at h2
  · rw [if_pos (by omega)] at h1
    exact h i a b h1 h2
  · cases h2
theorem Lnk.drop {M : Mch} {w : List Int} (h : Lnk M w) (n : Nat) : Lnk M (w.drop n) := fun i a b h1 h2 => by
  rw [List.getElem?_drop] at h1 h2
  exact h (n + i) a b h1 h2
structure WInv (M : Mch) (x : Int) (w : List Int) (g : Int) : Prop where
  nd : w.Nodup
  en : ∀ y ∈ w, Endl M y
  gl : Endl M g
  hd : w[0]? = some x
  lk : Lnk M (w ++ [g])
theorem WInv.start {M : Mch} {x : Int} (h : Endl M x) : WInv M x [x] (nextH (hids M) (endH (hids M)) x) := by
  obtain ⟨r, _, h1, h2⟩ := nexts_cons h
  exact ⟨by simp, fun y hy => by rw [List.mem_singleton.mp hy]; exact h, h2, rfl, Lnk.snoc (w := []) Lnk.one h1⟩
theorem WInv.step {M : Mch} {x : Int} {w : List Int} {g : Int} (h : WInv M x w g) (hg : g ∉ w) : WInv M x (w ++ [g]) (nextH (hids M) (endH (hids M)) g) := by
  obtain ⟨r, _, h1, h2⟩ := nexts_cons h.gl
  refine ⟨?_, fun y hy => ?_, h2, ?_, h.lk.snoc h1⟩
  · rw [List.nodup_append]
    exact ⟨h.nd, by simp, fun a ha b hb e => by rw [List.mem_singleton.mp hb] at e; exact hg (e ▸ ha)⟩
  · rcases List.mem_append.mp hy with hy | hy
    · exact h.en y hy
    · rw [List.mem_singleton.mp hy]; exact h.gl
  · have := h.hd
    cases w with
    | nil => cases this
    | cons a w => simpa using this
theorem WInv.len {M : Mch} {x : Int} {w : List Int} {g : Int} (h : WInv M x w g) : w.length ≤ M.items.length := rng_len h.nd fun y hy => endl_rng (h.en y hy)
theorem WInv.more {M : Mch} {x : Int} {w : List Int} {g : Int} (h : WInv M x w g) (hg : g ∉ w) : w.length < M.items.length := by
  have := (h.step hg).len
  simp at this
  omega
theorem WInv.pos {M : Mch} {x : Int} {w : List Int} {g : Int} (h : WInv M x w g) : 0 < w.length := by
  have := h.hd
  cases w with
  | nil => cases this
  | cons a w => simp
theorem WInv.fin {M : Mch} {x : Int} : ∀ (k : Nat) (w : List Int) (g : Int), WInv M x w g → M.items.length ≤ k + w.length → ∃ w' g', wayH (hids M) (endH (hids M)) k w g = (w', g') ∧ WInv M x w' g' ∧ g' ∈ w'
  | 0, w, g, h, l => ⟨w, g, rfl, h, by
      apply Classical.byContradiction
      intro q
      have := h.more q
      omega⟩
  | k + 1, w, g, h, l => by
    by_cases q : g ∈ w
    · exact ⟨w, g, wayH_done q, h, q⟩
    · obtain ⟨w', g', h1, h2, h3⟩ := WInv.fin k _ _ (h.step q) (by simp; omega)
      refine ⟨w', g', ?_, h2, h3⟩
      show (if g ∈ w then _ else _) = _
      rw [if_neg q]; exact h1
structure IsCirc (M : Mch) (x : Int) (p : List Int × List Int) : Prop where
  w0 : p.1[0]? = some x
  c0 : ∃ g, p.2[0]? = some g ∧ p.1[p.1.length - 1]? = some g
  rg : ∀ y ∈ p.1 ++ p.2, 0 ≤ y ∧ y < M.items.length
  len : p.1.length + p.2.length = (once (p.1 ++ p.2)).length + 1
  ll : p.1.length + p.2.length ≤ M.items.length + 1
  l1 : Lnk M p.1
  l2 : Lnk M (p.2 ++ p.2.take 1)
end Sk
set_option Elab.async false
set_option linter.all false
set_option maxRecDepth 100000
set_option maxHeartbeats 4000000
namespace Sk
open PySem PySem.Spec PyProof.Rows L2
open PySem.W (Datum DatumOrd Tup T3 T4)
open Evl (Ex)
@[simp] theorem rIn (i n : Int) : (if false = true then !decide (0 ≤ i ∧ i < n) else decide (0 ≤ i ∧ i < n)) = decide (0 ≤ i ∧ i < n) := rfl
theorem _root_.Sk.ShowK.consK' {d e : PyData} {k v : Nat} (h : ShowK d k v) (t : ShowK e k v) : ShowK (.tuple [d, e]) (k + 1) (v + 1 + (v + 1 + 0)) := (ShowAll.consK h (ShowAll.consK t ShowAll.nil)).tupK
end Sk
namespace Sk
open PySem PySem.Spec PyProof.Rows L2
open PySem.W (Datum DatumOrd Tup T3 T4)
open Evl (Ex)
def RM (M : Mch) : Prop := MOk M ∧ RowsLe 4 M ∧ M.items.length ≤ 12
theorem RM.le {M : Mch} (h : RM M) : RowsLe 60 M := fun r hr => Nat.le_trans (h.2.1 r hr) (by decide)
end Sk
set_option Elab.async false
set_option linter.all false
set_option maxRecDepth 100000
set_option maxHeartbeats 4000000
namespace Sk
open PySem PySem.Spec PyProof.Rows L2
open PySem.W (Datum DatumOrd Tup T3 T4)
open Evl (Ex)
@[simp] theorem leng_dcg {kvs : List (PyData × PyData)} {C : PV → Prop} : lenGW [.dcg kvs] C ↔ C (.dat (.int kvs.length)) := by simp [lenGW]
@[simp] theorem leng_dgf {kvs : List (PyData × PyData)} {C : PV → Prop} : lenGW [.dgf kvs] C ↔ C (.dat (.int kvs.length)) := by simp [lenGW]
section
variable {κ : Type} [DecidableEq κ]
end
section
variable {κ : Type} [DecidableEq κ]
end
section
variable {κ : Type} [DecidableEq κ] [Datum κ] [KD κ]
end
end Sk
set_option Elab.async false
set_option linter.all false
set_option maxRecDepth 100000
set_option maxHeartbeats 4000000
namespace Sk
open PySem PySem.Spec PyProof.Rows L2
open PySem.W (Datum DatumOrd Tup T3 T4)
open Evl (Ex)
section
variable {α : Type} [DecidableEq α]
def addT (ts : List α) (c : α) : List α := if c ∈ ts then ts else ts ++ [c]
def allT (ts : List α) (ms : List (Str × α)) : List α := ms.foldl (fun ts m => addT ts m.2) ts
def ixT (ts : List α) (c : α) : Int := ((ts.idxOf c : Nat) : Int)
def rowT (ts : List α) (ms : List (Str × α)) : List (Str × Int) := sortU (ms.map fun m => (m.1, ixT ts m.2))
abbrev NSt (α : Type) := List α × List (List (Str × Int))
def nStep (g : α → List (Str × α)) (st : NSt α) : NSt α := match st.1[st.2.length]? with
  | none => st
  | some t => (allT st.1 (g t), st.2 ++ [rowT (allT st.1 (g t)) (g t)])
def nIt (g : α → List (Str × α)) (s0 : α) : Nat → NSt α
  | 0 => ([s0], [])
  | k + 1 => nStep g (nIt g s0 k)
theorem addT_mem {ts : List α} {c x : α} : x ∈ addT ts c ↔ x ∈ ts ∨ x = c := by
  unfold addT
  split
  · rename_i h
    exact ⟨Or.inl, fun z => z.elim id fun e => e ▸ h⟩
  · simp
theorem addT_nd {ts : List α} {c : α} (h : ts.Nodup) : (addT ts c).Nodup := by
  unfold addT
  split
  · exact h
  · rename_i q
    exact List.nodup_append.mpr ⟨h, by simp, fun a ha b hb e => by rw [List.mem_singleton.mp hb] at e; exact q (e ▸ ha)⟩
theorem addT_pre {ts : List α} {c : α} : ∃ more, addT ts c = ts ++ more := by
  unfold addT
  split
  · exact ⟨[], (List.append_nil _).symm⟩
  · exact ⟨[c], rfl⟩
theorem allT_cons {ts : List α} {m : Str × α} {ms : List (Str × α)} : allT ts (m :: ms) = allT (addT ts m.2) ms := rfl
theorem allT_mem : ∀ {ms : List (Str × α)} {ts : List α} {x : α}, x ∈ allT ts ms ↔ x ∈ ts ∨ ∃ m ∈ ms, m.2 = x
  | [], ts, x => by simp [allT]
  | m :: ms, ts, x => by
    rw [allT_cons, allT_mem, addT_mem]
    constructor
    · rintro ((h | h) | ⟨q, hq, e⟩)
      · exact Or.inl h
      · exact Or.inr ⟨m, List.mem_cons_self, h.symm⟩
      · exact Or.inr ⟨q, List.mem_cons_of_mem _ hq, e⟩
    · rintro (h | ⟨q, hq, e⟩)
      · exact Or.inl (Or.inl h)
      · rcases List.mem_cons.mp hq with rfl | hq
        · exact Or.inl (Or.inr e.symm)
        · exact Or.inr ⟨q, hq, e⟩
theorem allT_nd : ∀ {ms : List (Str × α)} {ts : List α}, ts.Nodup → (allT ts ms).Nodup
  | [], _, h => h
  | m :: ms, ts, h => by rw [allT_cons]; exact allT_nd (addT_nd h)
theorem allT_pre : ∀ {ms : List (Str × α)} {ts : List α}, ∃ more, allT ts ms = ts ++ more
  | [], ts => ⟨[], (List.append_nil _).symm⟩
  | m :: ms, ts => by
    rw [allT_cons]
    obtain ⟨a, ha⟩ := addT_pre (ts := ts) (c := m.2)
    obtain ⟨b, hb⟩ := allT_pre (ms := ms) (ts := addT ts m.2)
    exact ⟨a ++ b, by rw [hb, ha, List.append_assoc]⟩
theorem ixT_app {ts more : List α} {c : α} (h : c ∈ ts) : ixT (ts ++ more) c = ixT ts c := by
  unfold ixT
  rw [List.idxOf_append, if_pos h]
theorem ixT_lt {ts : List α} {c : α} (h : c ∈ ts) : 0 ≤ ixT ts c ∧ ixT ts c < ts.length := by
  unfold ixT
  have := List.idxOf_lt_length_of_mem h
  omega
theorem ixT_inj {ts : List α} {a b : α} (ha : a ∈ ts) (hb : b ∈ ts) (e : ixT ts a = ixT ts b) : a = b := by
  unfold ixT at e
  have h1 := List.idxOf_lt_length_of_mem ha
  have h2 := List.idxOf_lt_length_of_mem hb
  have e1 : ts.idxOf a = ts.idxOf b := by omega
  have g1 := List.getElem_idxOf h1
  have g2 := List.getElem_idxOf h2
  rw [← g1, ← g2]
  simp only [e1]
section
variable {g : α → List (Str × α)} {s0 : α} {U : List α}
theorem nIt_sub (h0 : s0 ∈ U) (hU : ∀ t ∈ U, ∀ m ∈ g t, m.2 ∈ U) : ∀ k, (nIt g s0 k).1.Nodup ∧ (∀ t ∈ (nIt g s0 k).1, t ∈ U) ∧ 0 < (nIt g s0 k).1.length
  | 0 => ⟨by simp [nIt], fun t ht => by rw [List.mem_singleton.mp ht]; exact h0, Nat.zero_lt_one⟩
  | k + 1 => by
    obtain ⟨h1, h2, h3⟩ := nIt_sub h0 hU k
    show (nStep g (nIt g s0 k)).1.Nodup ∧ _
    show _ ∧ (∀ t ∈ (nStep g (nIt g s0 k)).1, t ∈ U) ∧ 0 < (nStep g (nIt g s0 k)).1.length
    unfold nStep
    split
    · exact ⟨h1, h2, h3⟩
    · rename_i t ht
      have tu := h2 t (List.mem_of_getElem? ht)
      refine ⟨allT_nd h1, fun x hx => ?_, ?_⟩
      · rcases allT_mem.mp hx with h | ⟨m, hm, rfl⟩
        · exact h2 x h
        · exact hU t tu m hm
      · obtain ⟨more, e⟩ := allT_pre (ms := g t) (ts := (nIt g s0 k).1)
        show 0 < (allT (nIt g s0 k).1 (g t)).length
        rw [e, List.length_append]
        omega
theorem nIt_le (h0 : s0 ∈ U) (hU : ∀ t ∈ U, ∀ m ∈ g t, m.2 ∈ U) (k : Nat) : (nIt g s0 k).1.length ≤ U.length :=
  nodup_le _ _ (nIt_sub h0 hU k).1 (nIt_sub h0 hU k).2.1
theorem nStep_at {st : NSt α} {t : α} (h : st.1[st.2.length]? = some t) : nStep g st = (allT st.1 (g t), st.2 ++ [rowT (allT st.1 (g t)) (g t)]) := by
  unfold nStep
  rw [h]
theorem nIt_fix {k : Nat} (h : (nIt g s0 k).1.length ≤ (nIt g s0 k).2.length) : ∀ {N : Nat}, k ≤ N → nIt g s0 N = nIt g s0 k
  | 0, hk => by rw [Nat.le_zero.mp hk]
  | N + 1, hk => by
    by_cases e : k = N + 1
    · rw [e]
    · have ih := nIt_fix h (N := N) (by omega)
      show nStep g (nIt g s0 N) = _
      rw [ih]
      unfold nStep
      rw [List.getElem?_eq_none h]
end
end
section
variable {α : Type} [DecidableEq α] [Datum α] [KD α]
def kvJ (ts : List α) : List (PyData × PyData) := kvD (ts.zipIdx.map fun p => (p.1, PyData.int ((p.2 : Nat) : Int)))
theorem kvJ_map {ts : List α} {k : Nat} : ((ts.zipIdx k).map fun p => (p.1, PyData.int ((p.2 : Nat) : Int))).map (·.1) = ts := by
  rw [List.map_map]
  show (ts.zipIdx k).map (fun p => p.1) = ts
  exact List.zipIdx_map_fst k ts
theorem kvJ_has {ts : List α} {c : α} : (getG (kvJ ts) (Datum.toD c)).isSome = decide (c ∈ ts) := by
  unfold kvJ
  cases q : getG (kvD (ts.zipIdx.map fun p => (p.1, PyData.int ((p.2 : Nat) : Int)))) (Datum.toD c) with
  | none =>
    have := getG_none.mp q
    rw [kvJ_map] at this
    simp [this]
  | some x =>
    have : ¬ getG (kvD (ts.zipIdx.map fun p => (p.1, PyData.int ((p.2 : Nat) : Int)))) (Datum.toD c) = none := by rw [q]; simp
    have := mt getG_none.mpr this
    rw [kvJ_map] at this
    simp at this
    simp [this]
theorem kvJ_get {ts : List α} {c : α} (nd : ts.Nodup) (h : c ∈ ts) : getG (kvJ ts) (Datum.toD c) = some (.int (ixT ts c)) := by
  unfold kvJ
  refine getG_some (by rw [kvJ_map]; exact nd) (List.mem_map.mpr ⟨(c, ts.idxOf c), ?_, rfl⟩)
  rw [List.mem_zipIdx_iff_getElem?]
  have := List.idxOf_lt_length_of_mem h
  rw [List.getElem?_eq_getElem this, List.getElem_idxOf]
theorem kvJ_put {ts : List α} {c : α} (h : c ∉ ts) : putDG (kvJ ts) (Datum.toD c) (.int (ts.length : Nat)) = kvJ (ts ++ [c]) := by
  unfold kvJ
  rw [putDG_new (by rw [kvJ_map]; exact h), List.zipIdx_append, List.map_append]
  simp
end
end Sk
set_option Elab.async false
set_option linter.all false
set_option maxRecDepth 100000
set_option maxHeartbeats 4000000
namespace Sk
open PySem PySem.Spec PyProof.Rows L2
open PySem.W (Datum DatumOrd Tup T3 T4)
open Evl (Ex)
abbrev P2 := Int × Int
def sp_set_of_ce6394 : HSp := fun ps n C => ∃ ws : List Str, ps = [.dat (.list (ws.map .str))] ∧ ws.length < 4000 ∧ (sortU ws).length ≤ 8 ∧ C (.dat (.tuple ((sortU ws).map .str))) n
def h_set_of_ce6394 : HS :=
    (hSeq (hAsg (hC tupW (hE (hC (sortUA Str 4000) (hL 0 hNil)) hNil)) 1)
    (hSeq (hIfS (hB (hC gtW (hE (hC lenW (hL 1 hNil)) (hE (hK c_MOST_DEEDS) hNil)))) hNever hNext)
    (hRet (hM 1))))
theorem rd_set_of_ce6394 : ∀ pvs n C, pvs.length = 1 → sp_set_of_ce6394 pvs n C → h_set_of_ce6394 ⟨fun s => C (.dat .none) s.n, fun p s => C p s.n, fun _ => False, fun _ => False⟩ ⟨pvs.map some ++ List.replicate (2 - pvs.length) none, n⟩ := by
  intro pvs n C _ h
  obtain ⟨ws, rfl, hl, h8, q⟩ := h
  unfold h_set_of_ce6394
  simp [sortUA]
  refine ⟨ws, rfl, hl, ?_⟩
  exact ⟨by omega, q⟩
def spX_deeds_by_079b22 : HSpX := fun ps n C _ => ∃ M : Mch, ps = [.dat (.list (M.items.map Datum.toD))] ∧ M.size ≤ 40000 ∧ (∀ r ∈ M.rows, r.length ≤ 40000) ∧ C (.own ((sortU M.deeds).map .str)) n
def hX_deeds_by_079b22 (Z : HX) : HS :=
    (hSeq (hAsg hDnew 1)
    (hSeq (hFor (hiL (hV 0)) (gN 2) (hDrop (hUpd 1 (hC dictW (hE (hLc (hiT (hV 2)) (gP 3 4) (hB (hC (eqP true) (hL 3 (hE (hK c_HIDDEN) hNil)))) (hTup (hE (hV 3) (hE (hK (.bool true)) hNil))) [3, 4]) hNil)))))
    (hRet (hC (sortDW Str) (hL 1 hNil)))))
theorem rdX_deeds_by_079b22 : ∀ pvs n C Z, pvs.length = 1 → spX_deeds_by_079b22 pvs n C Z → hX_deeds_by_079b22 (fun x s => Z x s.n) ⟨fun s => C (.dat .none) s.n, fun p s => C p s.n, fun _ => False, fun _ => False⟩ ⟨pvs.map some ++ List.replicate (5 - pvs.length) none, n⟩ := by
  intro pvs n C Z _ h
  obtain ⟨M, rfl, hs, hr, c⟩ := h
  unfold hX_deeds_by_079b22
  simp only [hSeq, hAsg, hDnew, hFor, hiT, hiL, hV, Sg.put, List.map_cons, List.map_nil, List.length_cons, List.length_nil, List.cons_append, List.nil_append, List.set_cons_succ, List.set_cons_zero, List.replicate, List.getElem?_cons_zero, frz_dat]
  -- the loop, from any dict
  have loop : ∀ (rs : List (Tup (Str × Int))) (kvs : List (Key × PyData)) (o3 : Option PV), (∀ k ∈ kvs.map (·.1), ∃ x : Str, k = .inr x) → (∀ r ∈ rs, r.items.length ≤ 40000) → kvs.length + (rs.map fun r => r.items.length).sum ≤ 40000 →
      (∀ (kvs' : List (Key × PyData)) (o3' : Option PV), (∀ k ∈ kvs'.map (·.1), ∃ x : Str, k = .inr x) → (∀ x : Str, (.inr x : Key) ∈ kvs'.map (·.1) ↔ (.inr x : Key) ∈ kvs.map (·.1) ∨ ∃ r ∈ rs, x ∈ rowDeeds r.items) → C (.own ((sortU M.deeds).map .str)) n →
        (hRet (hC (sortDW Str) (hL 1 hNil))) ⟨fun s => C (.dat .none) s.n, fun p s => C p s.n, fun _ => False, fun _ => False⟩ ⟨[some (.dat (.list (M.items.map Datum.toD))), some (.dct kvs'), o3', none, none], n⟩) →
      each (gN 2) (hDrop (hUpd 1 (hC dictW (hE (hLc (hiT (hV 2)) (gP 3 4) (hB (hC (eqP true) (hL 3 (hE (hK c_HIDDEN) hNil)))) (hTup (hE (hV 3) (hE (hK (.bool true)) hNil))) [3, 4]) hNil))))
        ⟨(hRet (hC (sortDW Str) (hL 1 hNil))) ⟨fun s => C (.dat .none) s.n, fun p s => C p s.n, fun _ => False, fun _ => False⟩, fun p s => C p s.n, fun _ => False, fun _ => False⟩ (rs.map Datum.toD) ⟨[some (.dat (.list (M.items.map Datum.toD))), some (.dct kvs), o3, none, none], n⟩ := by
    intro rs
    induction rs with
    | nil =>
      intro kvs o3 hk _ _ fin
      exact fin kvs o3 hk (fun x => ⟨Or.inl, fun h => h.elim id fun ⟨r, hr, _⟩ => by cases hr⟩) c
    | cons r rs ih =>
      intro kvs o3 hk hrl hsum fin
      have hr0 := hrl r List.mem_cons_self
      have hsum' : kvs.length + (r.items.length + (rs.map fun r => r.items.length).sum) ≤ 40000 := by simpa using hsum
      have hrD : (Datum.toD r : PyData) = .tuple (r.items.map Datum.toD) := rfl
      simp only [List.map_cons, each, gN, hDrop, hUpd, hC, hE, hLc, hiT, hV, Sg.put, Sg.wipe, List.set_cons_succ, List.set_cons_zero, List.getElem?_cons_succ, List.getElem?_cons_zero, frz_dat, hrD, List.foldr]
      refine ⟨⟨_, rfl⟩, ?_⟩
      refine lcs_filter (fun p : Str × Int => (Datum.toD p : PyData)) (fun p => .tuple [.str p.1, .bool true]) (fun p => decide (p.1 ≠ ("" : Str))) (fun a ha K hK => ?_) [] _ (by simp; omega) ?_
      · show gP 3 4 (.tuple [.str a.1, .int a.2]) _ _
        simp
        by_cases he : a.1 = ("" : Str)
        · have e : decide (a.1 ≠ ("" : Str)) = false := by simp [he]
          refine Or.inl ⟨he, ?_⟩
          rw [← e]
          exact hK _ (fun _ => by simp) fun h => absurd h (by rw [e]; decide)
        · have e : decide (a.1 ≠ ("" : Str)) = true := by simp [he]
          refine Or.inr ⟨he, ?_⟩
          rw [← e]
          refine hK _ (fun h => absurd h (by rw [e]; decide)) fun _ K2 hK2 => ?_
          simp
          refine hK2 _ ?_
          simp
      · have hp := pairs_txt ((r.items.filter fun p => decide (p.1 ≠ ("" : Str))).map (·.1))
        rw [List.map_map, List.map_map] at hp
        have fl : (r.items.filter fun p => decide (p.1 ≠ ("" : Str))).length ≤ r.items.length := List.length_filter_le _ _
        have ml := mergeD_len (kvs := []) (more := (r.items.filter fun p => decide (p.1 ≠ ("" : Str))).map ((fun x : Str => ((Sum.inr x : Key), PyData.bool true)) ∘ (·.1)))
        simp only [List.length_nil, List.length_map] at ml
        refine ⟨_, rfl, _, _, rfl, hp, _, kvs, rfl, rfl, by omega, ?_⟩
        have mk := fun (x : Key) => mergeD_keys (kvs := kvs) (more := mergeD [] ((r.items.filter fun p => decide (p.1 ≠ ("" : Str))).map ((fun x : Str => ((Sum.inr x : Key), PyData.bool true)) ∘ (·.1)))) x
        have mk2 := fun (x : Key) => mergeD_keys (kvs := []) (more := (r.items.filter fun p => decide (p.1 ≠ ("" : Str))).map ((fun x : Str => ((Sum.inr x : Key), PyData.bool true)) ∘ (·.1))) x
        have mk3 : ∀ x : Key, x ∈ ((r.items.filter fun p => decide (p.1 ≠ ("" : Str))).map ((fun x : Str => ((Sum.inr x : Key), PyData.bool true)) ∘ (·.1))).map (·.1) ↔ ∃ y ∈ rowDeeds r.items, x = .inr y := fun x => by
          simp only [rowDeeds, List.mem_map, Function.comp]
          constructor
          · rintro ⟨q, ⟨a, ha, rfl⟩, rfl⟩
            exact ⟨a.1, ⟨a, ha, rfl⟩, rfl⟩
          · rintro ⟨y, ⟨a, ha, rfl⟩, rfl⟩
            exact ⟨_, ⟨a, ha, rfl⟩, rfl⟩
        have all : ∀ x : Key, x ∈ (mergeD kvs (mergeD [] ((r.items.filter fun p => decide (p.1 ≠ ("" : Str))).map ((fun x : Str => ((Sum.inr x : Key), PyData.bool true)) ∘ (·.1))))).map (·.1) ↔ x ∈ kvs.map (·.1) ∨ ∃ y ∈ rowDeeds r.items, x = .inr y := fun x => by
          rw [mk, mk2, mk3]
          simp
        refine ih _ _ (fun k hk2 => ?_) (fun q hq => hrl q (List.mem_cons_of_mem _ hq)) ?_ fun kvs' o3' hk3 hm3 c3 => ?_
        · rcases (all k).mp hk2 with h | ⟨y, _, rfl⟩
          · exact hk k h
          · exact ⟨y, rfl⟩
        · have := mergeD_len (kvs := kvs) (more := mergeD [] ((r.items.filter fun p => decide (p.1 ≠ ("" : Str))).map ((fun x : Str => ((Sum.inr x : Key), PyData.bool true)) ∘ (·.1))))
          omega
        · refine fin kvs' o3' hk3 (fun x => ?_) c3
          rw [hm3 x, all]
          constructor
          · rintro ((h | ⟨y, hy, e⟩) | ⟨q, hq, h⟩)
            · exact Or.inl h
            · exact Or.inr ⟨r, List.mem_cons_self, by rw [Sum.inr.inj e]; exact hy⟩
            · exact Or.inr ⟨q, List.mem_cons_of_mem _ hq, h⟩
          · rintro (h | ⟨q, hq, h⟩)
            · exact Or.inl (Or.inl h)
            · rcases List.mem_cons.mp hq with rfl | hq
              · exact Or.inl (Or.inr ⟨x, h, rfl⟩)
              · exact Or.inr ⟨q, hq, h⟩
  refine loop M.items [] none (fun k hk => by cases hk) (fun r hr' => hr r.items (List.mem_map.mpr ⟨r, hr', rfl⟩)) (by simpa [Mch.size, Mch.rows, Function.comp_def] using hs) fun kvs' o3' hk hm c => ?_
  obtain ⟨xs, ex⟩ := txt_keys hk
  simp
  refine ⟨xs, ex, ?_⟩
  have e : sortU xs = sortU M.deeds := sortU_eq (sortU_rising xs) fun x => by
    rw [mem_sortU]
    have z := hm x
    rw [ex] at z
    have l : (Sum.inr x : Key) ∈ xs.map FK.key ↔ x ∈ xs := by
      constructor
      · intro h
        obtain ⟨y, hy, e⟩ := List.mem_map.mp h
        rw [← Sum.inr.inj (show (Sum.inr y : Key) = Sum.inr x from e)]; exact hy
      · intro h
        exact List.mem_map.mpr ⟨x, h, rfl⟩
    rw [← l, z]
    simp only [Mch.deeds, Mch.rows, List.mem_flatten, List.mem_map, List.map_nil, List.not_mem_nil, false_or]
    constructor
    · rintro ⟨r, hr, hx⟩
      exact ⟨_, ⟨r.items, ⟨r, hr, rfl⟩, rfl⟩, hx⟩
    · rintro ⟨_, ⟨_, ⟨r, hr, rfl⟩, rfl⟩, hx⟩
      exact ⟨r, hr, hx⟩
  rw [e]
  exact c
structure NumQ (g : P2 → List (Str × P2)) (U : List P2) (st : P2) (ws : List Str) : Prop where
  st : st ∈ U
  cl : ∀ t ∈ U, ∀ m ∈ g t, m.2 ∈ U ∧ (m.1 ∈ ws ∨ m.1 = ("" : Str))
  ln : ∀ t ∈ U, (g t).length ≤ 100
  hi : U.length ≤ 300
  dw : ws.length ≤ 8
def numM (g : P2 → List (Str × P2)) (st : P2) (N : Nat) : Mch := Tup.mk ((nIt g st N).2.map Tup.mk)
def spC_numbered_dca45c : (PySem.W.Frag → Hp → V → Prop) → HSpX → HSpX := fun R spc ps n C Z => ∃ (g : P2 → List (Str × P2)) (U : List P2) (st : P2) (ws : List Str), ps = [.dat (Datum.toD st), .abs R] ∧ NumQ g U st ws ∧
  (∀ t ∈ U, ∀ (C2 : PV → Nat → Prop) (Z2 : Str → Nat → Prop), C2 (.own ((g t).map Datum.toD)) n → spc [.dat (Datum.toD t)] n C2 Z2) ∧ C (.dat (.tuple [.list ((nIt g st U.length).1.map Datum.toD), Datum.toD (numM g st U.length)])) n
abbrev nuB (Z : HX) : HS := (hSeq (hIfS (hB (hC (dinGW true) (hL 7 (hL 3 hNil)))) (hSeq (hIfS (hB (hC (eqP false) (hE (hC lenW (hL 2 hNil)) (hE (hK c_MOST_NODES) hNil)))) (hRaise "TooGreat" Z) hNext)
    (hSeq (hDputG 3 (hC lenW (hL 2 hNil)) (hV 7))
    (hDrop (hApp 2 (hV 7))))) hNext)
    (hDputG 5 (hK (.bool true)) (hTup (hE (hV 6) (hE (hC dgetGW (hL 3 (hL 7 hNil))) hNil)))))
theorem atI_mapt {α : Type} {f : α → PyData} {xs : List α} {i : Nat} {t : α} (h : xs[i]? = some t) : atI (xs.map f) (i : Int) = some (f t) := by
  have hl : i < xs.length := by
    rcases Nat.lt_or_ge i xs.length with z | z
    · exact z
    · rw [List.getElem?_eq_none z] at h; cases h
  unfold atI ixN
  rw [List.length_map, if_pos (Int.natCast_nonneg i), if_pos (by omega)]
  show (xs.map f)[((i : Int)).toNat]? = _
  rw [Int.toNat_natCast, List.getElem?_map, h]; rfl
theorem nIt_rows {g : P2 → List (Str × P2)} {s0 : P2} {U : List P2} (h0 : s0 ∈ U) (hU : ∀ t ∈ U, ∀ m ∈ g t, m.2 ∈ U) : ∀ (k : Nat) (row : List (Str × Int)), row ∈ (nIt g s0 k).2 → ∃ t ∈ U, ∃ ts, row = rowT ts (g t)
  | 0, _, h => by cases h
  | k + 1, row, h => by
    change row ∈ (nStep g (nIt g s0 k)).2 at h
    unfold nStep at h
    split at h
    · exact nIt_rows h0 hU k row h
    · rename_i t ht
      rcases List.mem_append.mp h with h | h
      · exact nIt_rows h0 hU k row h
      · exact ⟨t, (nIt_sub h0 hU k).2.1 t (List.mem_of_getElem? ht), _, List.mem_singleton.mp h⟩
theorem p2_key (c : P2) : KeyOk (Datum.toD c) := keyOk_D (by decide) c
theorem sp_key (c : Str × Int) : KeyOk (Datum.toD c) := keyOk_D (by decide) c
def putT (met : List (Str × Int)) (a : Str × Int) : List (Str × Int) := if a ∈ met then met else met ++ [a]
theorem putT_kv {met : List (Str × Int)} {a : Str × Int} : putDG (kvT met) (Datum.toD a) (.bool true) = kvT (putT met a) := by
  unfold putT
  by_cases h : a ∈ met
  · rw [if_pos h]
    unfold putDG
    have any : ((kvT met).any fun kv => decide (keyN kv.1 = keyN (Datum.toD a))) = true := List.any_eq_true.mpr ⟨(Datum.toD a, .bool true), by
      unfold kvT kvD
      rw [List.map_map]
      exact List.mem_map.mpr ⟨a, h, rfl⟩, decide_eq_true rfl⟩
    rw [if_pos any]
    refine (List.map_congr_left fun kv hk => ?_).trans (List.map_id _)
    unfold kvT kvD at hk
    rw [List.map_map] at hk
    obtain ⟨b, _, rfl⟩ := List.mem_map.mp hk
    simp
  · rw [if_neg h]; exact putDG_kvT h
theorem putT_mem {met : List (Str × Int)} {a x : Str × Int} : x ∈ putT met a ↔ x ∈ met ∨ x = a := by
  unfold putT
  split
  · rename_i h
    exact ⟨Or.inl, fun z => z.elim id fun e => e ▸ h⟩
  · simp
theorem putT_nd {met : List (Str × Int)} {a : Str × Int} (h : met.Nodup) : (putT met a).Nodup := by
  unfold putT
  split
  · exact h
  · rename_i q
    exact List.nodup_append.mpr ⟨h, by simp, fun a ha b hb e => by rw [List.mem_singleton.mp hb] at e; exact q (e ▸ ha)⟩
theorem putT_len {met : List (Str × Int)} {a : Str × Int} : (putT met a).length ≤ met.length + 1 := by
  unfold putT
  split <;> simp
theorem nb_loop {D : HD} {Z : HX} {o0 o1 o4 : Option PV} {n : Nat} {U : List P2} (hU : U.length ≤ 300) : ∀ (ms : List (Str × P2)) (ts : List P2) (met : List (Str × Int)) (o6 o7 : Option PV), ts.Nodup → (∀ t ∈ ts, t ∈ U) → (∀ m ∈ ms, m.2 ∈ U) → met.Nodup → met.length + ms.length ≤ 1000 →
    (∀ (met' : List (Str × Int)) (o6' o7' : Option PV), met'.Nodup → met'.length ≤ met.length + ms.length → (∀ x, x ∈ met' ↔ x ∈ met ∨ ∃ m ∈ ms, x = (m.1, ixT (allT ts ms) m.2)) → D.nx ⟨[o0, o1, some (.own ((allT ts ms).map Datum.toD)), some (.dcg (kvJ (allT ts ms))), o4, some (.dcg (kvT met')), o6', o7'], n⟩) →
    each (gP 6 7) (nuB Z) D (ms.map Datum.toD) ⟨[o0, o1, some (.own (ts.map Datum.toD)), some (.dcg (kvJ ts)), o4, some (.dcg (kvT met)), o6, o7], n⟩ := by
  intro ms
  induction ms with
  | nil => intro ts met o6 o7 _ _ _ nm _ fin; exact fin met o6 o7 nm (Nat.le_refl _) fun x => by simp
  | cons m ms ih =>
    intro ts met o6 o7 nd sub hm nm hl fin
    obtain ⟨d, c⟩ := m
    have hl' : met.length + (ms.length + 1) ≤ 1000 := by simpa using hl
    have cU := hm (d, c) List.mem_cons_self
    rw [List.map_cons]
    show gP 6 7 (.tuple [.str d, Datum.toD c]) _ _
    simp [-each, p2_key, kvJ_has]
    have e1 : allT ts ((d, c) :: ms) = allT (addT ts c) ms := rfl
    have tail : (addT ts c).Nodup → (∀ t ∈ addT ts c, t ∈ U) → ∃ x, getG (kvJ (addT ts c)) (Datum.toD c) = some x ∧ KeyOk (PyData.tuple [PyData.str d, x]) ∧ (kvT met).length < 100000 ∧ each (gP 6 7) (nuB Z) D (ms.map Datum.toD) ⟨[o0, o1, some (.own ((addT ts c).map Datum.toD)), some (.dcg (kvJ (addT ts c))), o4, some (.dcg (putDG (kvT met) (.tuple [.str d, x]) (.bool true))), some (.dat (.str d)), some (.dat (Datum.toD c))], n⟩ := fun nd1 sub1 => by
      have hc : c ∈ addT ts c := addT_mem.mpr (Or.inr rfl)
      refine ⟨_, kvJ_get nd1 hc, sp_key (d, ixT (addT ts c) c), by rw [kvT_len]; omega, ?_⟩
      have ek : putDG (kvT met) (.tuple [.str d, .int (ixT (addT ts c) c)]) (.bool true) = kvT (putT met (d, ixT (addT ts c) c)) := putT_kv (met := met) (a := (d, ixT (addT ts c) c))
      rw [ek]
      have pl := putT_len (met := met) (a := (d, ixT (addT ts c) c))
      obtain ⟨more, em⟩ := allT_pre (ms := ms) (ts := addT ts c)
      refine ih (addT ts c) _ _ _ nd1 sub1 (fun m h => hm m (List.mem_cons_of_mem _ h)) (putT_nd nm) (by omega) fun met' p q r1 r2 r3 => ?_
      refine fin met' p q r1 (by rw [List.length_cons]; omega) fun x => ?_
      rw [r3 x, putT_mem, e1]
      constructor
      · rintro ((h | h) | ⟨m, h, e⟩)
        · exact Or.inl h
        · exact Or.inr ⟨(d, c), List.mem_cons_self, by rw [h, em, ixT_app hc]⟩
        · exact Or.inr ⟨m, List.mem_cons_of_mem _ h, e⟩
      · rintro (h | ⟨m, h, e⟩)
        · exact Or.inl (Or.inl h)
        · rcases List.mem_cons.mp h with rfl | h
          · exact Or.inl (Or.inr (by rw [e, em, ixT_app hc]))
          · exact Or.inr ⟨m, h, e⟩
    by_cases hc : c ∈ ts
    · have ea : addT ts c = ts := if_pos hc
      rw [ea] at tail
      exact Or.inl ⟨hc, tail nd sub⟩
    · have ea : addT ts c = ts ++ [c] := if_neg hc
      rw [ea] at tail
      have nd1 : (ts ++ [c]).Nodup := by rw [← ea]; exact addT_nd nd
      have sub1 : ∀ t ∈ ts ++ [c], t ∈ U := fun t ht => by
        rcases List.mem_append.mp ht with h | h
        · exact sub t h
        · rw [List.mem_singleton.mp h]; exact cU
      have l1 := nodup_le _ _ nd1 sub1
      rw [List.length_append, List.length_singleton] at l1
      have lk : (kvJ ts).length = ts.length := by unfold kvJ; rw [kvD_len, List.length_map, List.length_zipIdx]
      refine Or.inr ⟨hc, Or.inl ⟨by omega, by omega, by omega, ?_⟩⟩
      rw [kvJ_put hc]
      have := tail nd1 sub1
      rw [List.map_append] at this
      exact this
def hC_numbered_dca45c (R : PySem.W.Frag → Hp → V → Prop) (spc : HSpX) (Z : HX) : HS :=
    (hSeq (hAsg (hLst (hE (hV 0) hNil)) 2)
    (hSeq (hAsg (hDispG (hE (hV 0) (hE (hK (.int 0)) hNil))) 3)
    (hSeq (hAsg (hLst hNil) 4)
    (hSeq (hWhile (hB (hC ltW (hE (hC lenW (hL 4 hNil)) (hE (hC lenW (hL 2 hNil)) hNil)))) (hSeq (hAsg hDnewG 5)
    (hSeq (hFor (hiL (hCallV 1 R 1 spc Z (hE (hC ixW (hL 2 (hE (hC lenW (hL 4 hNil)) hNil))) hNil))) (gP 6 7) (hSeq (hIfS (hB (hC (dinGW true) (hL 7 (hL 3 hNil)))) (hSeq (hIfS (hB (hC (eqP false) (hE (hC lenW (hL 2 hNil)) (hE (hK c_MOST_NODES) hNil)))) (hRaise "TooGreat" Z) hNext)
    (hSeq (hDputG 3 (hC lenW (hL 2 hNil)) (hV 7))
    (hDrop (hApp 2 (hV 7))))) hNext)
    (hDputG 5 (hK (.bool true)) (hTup (hE (hV 6) (hE (hC dgetGW (hL 3 (hL 7 hNil))) hNil))))))
    (hDrop (hApp 4 (hC tupW (hE (hC (sortA (Str × Int)) (hE (hC listGW (hL 5 hNil)) hNil)) hNil)))))))
    (hSeq (hDrop (hCall sp_set_of_ce6394 1 (hE (hCallX spX_deeds_by_079b22 1 Z (hL 4 hNil)) hNil)))
    (hRet (hTup (hE (hV 2) (hE (hC tupW (hL 4 hNil)) hNil)))))))))
def nu_5 (R : PySem.W.Frag → Hp → V → Prop) (spc : HSpX) (Z : HX) : HS := (hRet (hTup (hE (hV 2) (hE (hC tupW (hL 4 hNil)) hNil))))
def nu_4 (R : PySem.W.Frag → Hp → V → Prop) (spc : HSpX) (Z : HX) : HS := (hSeq (hDrop (hCall sp_set_of_ce6394 1 (hE (hCallX spX_deeds_by_079b22 1 Z (hL 4 hNil)) hNil))) (nu_5 R spc Z))
def nu_3 (R : PySem.W.Frag → Hp → V → Prop) (spc : HSpX) (Z : HX) : HS := (hSeq (hWhile (hB (hC ltW (hE (hC lenW (hL 4 hNil)) (hE (hC lenW (hL 2 hNil)) hNil)))) (hSeq (hAsg hDnewG 5) (hSeq (hFor (hiL (hCallV 1 R 1 spc Z (hE (hC ixW (hL 2 (hE (hC lenW (hL 4 hNil)) hNil))) hNil))) (gP 6 7) (hSeq (hIfS (hB (hC (dinGW true) (hL 7 (hL 3 hNil)))) (hSeq (hIfS (hB (hC (eqP false) (hE (hC lenW (hL 2 hNil)) (hE (hK c_MOST_NODES) hNil)))) (hRaise "TooGreat" Z) hNext) (hSeq (hDputG 3 (hC lenW (hL 2 hNil)) (hV 7)) (hDrop (hApp 2 (hV 7))))) hNext) (hDputG 5 (hK (.bool true)) (hTup (hE (hV 6) (hE (hC dgetGW (hL 3 (hL 7 hNil))) hNil)))))) (hDrop (hApp 4 (hC tupW (hE (hC (sortA (Str × Int)) (hE (hC listGW (hL 5 hNil)) hNil)) hNil))))))) (nu_4 R spc Z))
def nu_2 (R : PySem.W.Frag → Hp → V → Prop) (spc : HSpX) (Z : HX) : HS := (hSeq (hAsg (hLst hNil) 4) (nu_3 R spc Z))
def nu_1 (R : PySem.W.Frag → Hp → V → Prop) (spc : HSpX) (Z : HX) : HS := (hSeq (hAsg (hDispG (hE (hV 0) (hE (hK (.int 0)) hNil))) 3) (nu_2 R spc Z))
def nu_0 (R : PySem.W.Frag → Hp → V → Prop) (spc : HSpX) (Z : HX) : HS := (hSeq (hAsg (hLst (hE (hV 0) hNil)) 2) (nu_1 R spc Z))
theorem nu_eq (R : PySem.W.Frag → Hp → V → Prop) (spc : HSpX) (Z : HX) : hC_numbered_dca45c R spc Z = (nu_0 R spc Z) := rfl
theorem rdC_numbered_dca45c : ∀ R spc pvs n C Z, pvs.length = 2 → spC_numbered_dca45c R spc pvs n C Z → hC_numbered_dca45c R spc (fun x s => Z x s.n) ⟨fun s => C (.dat .none) s.n, fun p s => C p s.n, fun _ => False, fun _ => False⟩ ⟨pvs.map some ++ List.replicate (8 - pvs.length) none, n⟩ := by
  intro R spc pvs n C Z _ h
  obtain ⟨g, U, st, ws, rfl, Q, hs, q⟩ := h
  rw [nu_eq]
  unfold nu_0
  simp
  unfold nu_1
  simp
  unfold nu_2
  simp
  refine ⟨[(Datum.toD st, .int 0)], rfl, fun a b h => ?_, by show 1 ≤ 15; decide, ?_⟩
  · rw [List.mem_singleton] at h
    cases h
    exact p2_key st
  have em : mergeDG [] [(Datum.toD st, PyData.int 0)] = kvJ [st] := rfl
  rw [em]
  unfold nu_3
  simp only [hSeq]
  have hcl : ∀ t ∈ U, ∀ m ∈ g t, m.2 ∈ U := fun t ht m hm => (Q.cl t ht m hm).1
  refine hWhile_by (fun m s => ∃ (k : Nat) (o5 o6 o7 : Option PV), (nIt g st k).2.length = k ∧ k ≤ (nIt g st k).1.length ∧ s = ⟨[some (.dat (Datum.toD st)), some (.abs R), some (.own ((nIt g st k).1.map Datum.toD)), some (.dcg (kvJ (nIt g st k).1)), some (.own ((nIt g st k).2.map fun r => Datum.toD (Tup.mk r))), o5, o6, o7], n⟩ ∧ m = 300 - k) 300 ⟨0, none, none, none, rfl, Nat.zero_le _, rfl, rfl⟩ ?_
  rintro m s ⟨k, o5, o6, o7, hk, hkl, rfl, rfl⟩
  have nd := (nIt_sub Q.st hcl k).1
  have sub := (nIt_sub Q.st hcl k).2.1
  have le := nIt_le Q.st hcl k
  have hi := Q.hi
  simp [-each]
  rcases Nat.lt_or_ge (nIt g st k).2.length (nIt g st k).1.length with hlt | hge
  · refine Or.inr ⟨hlt, ?_⟩
    have ht : (nIt g st k).1[(nIt g st k).2.length]? = some ((nIt g st k).1[(nIt g st k).2.length]) := List.getElem?_eq_getElem hlt
    generalize (nIt g st k).1[(nIt g st k).2.length] = t at ht
    have tU := sub t (List.mem_of_getElem? ht)
    have gl := Q.ln t tU
    refine ⟨_, atI_mapt ht, hs t tU _ _ ?_⟩
    show each (gP 6 7) (nuB (fun x s => Z x s.n)) _ ((g t).map Datum.toD) _
    refine nb_loop hi (g t) (nIt g st k).1 [] o6 o7 nd sub (hcl t tU) List.nodup_nil (by simp; omega) fun met' p q r1 r2 r3 => ?_
    have em : sortL met' = rowT (allT (nIt g st k).1 (g t)) (g t) := sortL_sortU r1 fun x => by
      rw [r3 x, List.mem_map]
      simp [eq_comm]
    have es := nStep_at (g := g) ht
    simp [-each]
    refine ⟨_, rfl, _, rfl, met', (by unfold kvT kvD; rw [List.map_map, List.map_map]; rfl), ?_⟩
    rw [em]
    simp
    have e2 : nIt g st (k + 1) = (allT (nIt g st k).1 (g t), (nIt g st k).2 ++ [rowT (allT (nIt g st k).1 (g t)) (g t)]) := es
    have hl2 : k + 1 ≤ (allT (nIt g st k).1 (g t)).length := by
      obtain ⟨more, e⟩ := allT_pre (ms := g t) (ts := (nIt g st k).1)
      rw [e, List.length_append]; omega
    refine ⟨by omega, _, (by omega : 300 - (k + 1) < 300 - k), k + 1, by rw [e2]; simp [hk], by rw [e2]; exact hl2, ⟨by rw [e2], by rw [e2], by rw [e2]; simp; rfl⟩, rfl⟩
  · refine Or.inl ⟨hge, ?_⟩
    have eN := nIt_fix (g := g) (s0 := st) hge (N := U.length) (by omega)
    unfold nu_4
    simp
    have rows := nIt_rows (g := g) Q.st hcl k
    have rl : ∀ r ∈ (nIt g st k).2, r.length ≤ 100 := fun r hr => by
      obtain ⟨t, tU, ts, rfl⟩ := rows r hr
      have h1 := Q.ln t tU
      have h2 := sortU_len ((g t).map fun m => (m.1, ixT ts m.2))
      rw [List.length_map] at h2
      unfold rowT
      omega
    have hN : numM g st U.length = Tup.mk ((nIt g st k).2.map Tup.mk) := by unfold numM; rw [eN]
    have kk : (nIt g st k).2.length ≤ 300 := by omega
    have dd : ∀ w ∈ (numM g st U.length).deeds, w ∈ ws := fun w hw => by
      rw [hN] at hw
      obtain ⟨r, hr, h⟩ := mem_deeds.mp hw
      obtain ⟨r0, hr0, rfl⟩ := List.mem_map.mp hr
      obtain ⟨t, tU, ts, rfl⟩ := rows r0 hr0
      unfold rowDeeds at h
      obtain ⟨p, hp, rfl⟩ := List.mem_map.mp h
      obtain ⟨h1, h2⟩ := List.mem_filter.mp hp
      obtain ⟨m, hm, e⟩ := List.mem_map.mp (mem_sortU.mp h1)
      have h2 : p.1 ≠ ("" : Str) := of_decide_eq_true h2
      rw [← e] at h2 ⊢
      exact (Q.cl t tU m hm).2.resolve_right h2
    have sz : (numM g st U.length).size ≤ 30000 := by
      rw [hN]
      have gen : ∀ (rs : List (List (Str × Int))), (∀ r ∈ rs, r.length ≤ 100) → (rs.map List.length).sum ≤ 100 * rs.length := fun rs => by
        induction rs with
        | nil => intro _; simp
        | cons r rs ih =>
          intro h
          have a := h r List.mem_cons_self
          have b := ih fun q hq => h q (List.mem_cons_of_mem _ hq)
          simp only [List.map_cons, List.sum_cons, List.length_cons]
          omega
      have := gen (nIt g st k).2 rl
      simp only [Mch.size, Mch.rows, List.map_map, Function.comp_def]
      exact Nat.le_trans this (by omega)
    have ud : (sortU (numM g st U.length).deeds).length ≤ ws.length := nodup_le _ _ (sortU_rising _).nodup fun w hw => dd w (mem_sortU.mp hw)
    have dw := Q.dw
    refine ⟨numM g st U.length, by rw [hN]; simp, by omega, fun r hr => ?_, immAll_map (α := Str) _, _, rfl, _, rfl, by omega, ?_, ?_⟩
    · rw [hN] at hr
      obtain ⟨r1, hr1, rfl⟩ := List.mem_map.mp hr
      obtain ⟨r2, hr2, rfl⟩ := List.mem_map.mp hr1
      have := rl r2 hr2
      show r2.length ≤ 40000
      omega
    · have := sortU_len (sortU (numM g st U.length).deeds)
      omega
    · unfold nu_5
      simp
      have e1 : (Datum.toD (numM g st U.length) : PyData) = .tuple ((nIt g st k).2.map fun r => Datum.toD (Tup.mk r)) := by
        rw [hN]
        show PyData.tuple (((nIt g st k).2.map Tup.mk).map Datum.toD) = _
        rw [List.map_map]; rfl
      rw [e1, eN] at q
      exact q
end Sk
set_option Elab.async false
set_option linter.all false
set_option maxRecDepth 100000
set_option maxHeartbeats 4000000
namespace Sk
open PySem PySem.Spec PyProof.Rows L2
open PySem.W (Datum DatumOrd Tup T3 T4)
open Evl (Ex)
theorem addT_idem {α : Type} [DecidableEq α] {ts : List α} {c : α} : addT (addT ts c) c = addT ts c := by
  have h : c ∈ addT ts c := addT_mem.mpr (Or.inr rfl)
  exact if_pos h
theorem allT_once {α : Type} [DecidableEq α] [DatumOrd α] [OrdL α] : ∀ (xs : List (Str × α)) (ts : List α), xs.Pairwise (fun a b => leD a b = true) → allT ts (once xs) = allT ts xs
  | [], _, _ => rfl
  | x :: xs, ts, h => by
    have h' := List.pairwise_cons.mp h
    rw [once]
    by_cases c : x ∈ xs
    · rw [if_pos c, allT_once xs ts h'.2]
      cases xs with
      | nil => cases c
      | cons y ys =>
        have e : y = x := by
          rcases List.mem_cons.mp c with e | c2
          · exact e.symm
          · have h2 := List.pairwise_cons.mp h'.2
            have a := h'.1 y List.mem_cons_self
            have b := h2.1 x c2
            unfold leD at a b
            exact OrdL.tri _ _ (by simpa using b) (by simpa using a) |>.symm
        subst e
        rw [allT_cons, allT_cons, allT_cons, addT_idem]
    · rw [if_neg c, allT_cons, allT_cons, allT_once xs _ h'.2]
theorem once_sub {α : Type} [DecidableEq α] : ∀ xs : List α, (once xs).Sublist xs
  | [] => List.Sublist.refl _
  | x :: xs => by
    rw [once]
    split
    · exact (once_sub xs).cons _
    · exact (once_sub xs).cons₂ _
theorem sortU_once {α : Type} [DecidableEq α] [DatumOrd α] [OrdL α] (xs : List α) : sortU xs = once (sortL xs) :=
  (sortU_eq (rising_of ((sortL_up xs).sublist (once_sub _)) (once_nodup _)) fun a => mem_once.trans mem_sortL).symm
theorem allT_sort {xs : List (Str × P2)} {ts : List P2} : allT ts (sortL xs) = allT ts (sortU xs) := by
  rw [sortU_once, allT_once _ _ (sortL_up xs)]
theorem rowT_sort {xs : List (Str × P2)} {ts : List P2} : rowT ts (sortL xs) = rowT ts (sortU xs) := by
  unfold rowT
  refine sortU_eq (sortU_rising _) fun a => ?_
  rw [mem_sortU, List.mem_map, List.mem_map]
  constructor
  · rintro ⟨m, hm, rfl⟩; exact ⟨m, mem_sortU.mpr (mem_sortL.mp hm), rfl⟩
  · rintro ⟨m, hm, rfl⟩; exact ⟨m, mem_sortL.mpr (mem_sortU.mp hm), rfl⟩
theorem nIt_sort {f : P2 → List (Str × P2)} {s0 : P2} : ∀ k, nIt (fun t => sortL (f t)) s0 k = nIt (fun t => sortU (f t)) s0 k
  | 0 => rfl
  | k + 1 => by
    show nStep _ (nIt _ s0 k) = nStep _ (nIt _ s0 k)
    rw [nIt_sort k]
    unfold nStep
    simp only [allT_sort, rowT_sort]
def pmL (M1 : Mch) (ws : List Str) (M2 : Mch) (t : P2) : List (Str × P2) :=
  ((rowAt M1 t.1).filter fun p => decide (p.1 ∉ ws)).map (fun p => (p.1, (p.2, t.2))) ++ ((rowAt M2 t.2).filter fun p => decide (p.1 ∉ ws)).map (fun p => (p.1, (t.1, p.2))) ++
    ((rowAt M1 t.1).filter fun p => decide (p.1 ∈ ws)).flatMap fun p => ((rowAt M2 t.2).filter fun q => decide (q.1 = p.1)).map fun q => (p.1, (p.2, q.2))
theorem mem_pmL {M1 M2 : Mch} {ws : List Str} {t : P2} {m : Str × P2} : m ∈ pmL M1 ws M2 t ↔ (m.1 ∉ ws ∧ (m.1, m.2.1) ∈ rowAt M1 t.1 ∧ m.2.2 = t.2) ∨ (m.1 ∉ ws ∧ (m.1, m.2.2) ∈ rowAt M2 t.2 ∧ m.2.1 = t.1) ∨ (m.1 ∈ ws ∧ (m.1, m.2.1) ∈ rowAt M1 t.1 ∧ (m.1, m.2.2) ∈ rowAt M2 t.2) := by
  unfold pmL
  obtain ⟨w, a, b⟩ := m
  simp only [List.mem_append, List.mem_map, List.mem_flatMap, List.mem_filter, decide_eq_true_eq]
  constructor
  · rintro ((⟨⟨w1, x⟩, ⟨h, h2⟩, e⟩ | ⟨⟨w1, x⟩, ⟨h, h2⟩, e⟩) | ⟨⟨w1, x⟩, ⟨h, h2⟩, ⟨w2, y⟩, ⟨h3, h4⟩, e⟩)
    · cases e; exact Or.inl ⟨h2, h, rfl⟩
    · cases e; exact Or.inr (Or.inl ⟨h2, h, rfl⟩)
    · cases e
      have h4 : w2 = w1 := h4
      exact Or.inr (Or.inr ⟨h2, h, by rw [← h4]; exact h3⟩)
  · rintro (⟨h2, h, e⟩ | ⟨h2, h, e⟩ | ⟨h2, h, h3⟩)
    · have e : b = t.2 := e
      exact Or.inl (Or.inl ⟨(w, a), ⟨h, h2⟩, by rw [e]⟩)
    · have e : a = t.1 := e
      exact Or.inl (Or.inr ⟨(w, b), ⟨h, h2⟩, by rw [e]⟩)
    · exact Or.inr ⟨(w, a), ⟨h, h2⟩, (w, b), ⟨h3, rfl⟩, rfl⟩
theorem pmL_len {M1 M2 : Mch} {ws : List Str} {t : P2} (l1 : RowsLe 4 M1) (l2 : RowsLe 4 M2) : (pmL M1 ws M2 t).length ≤ 24 := by
  have a := rowAt_le (x := t.1) l1
  have b := rowAt_le (x := t.2) l2
  unfold pmL
  rw [List.length_append, List.length_append, List.length_map, List.length_map]
  have h1 := List.length_filter_le (fun p : Str × Int => decide (p.1 ∉ ws)) (rowAt M1 t.1)
  have h2 := List.length_filter_le (fun p : Str × Int => decide (p.1 ∉ ws)) (rowAt M2 t.2)
  have h3 : ∀ xs : List (Str × Int), (xs.flatMap fun p => ((rowAt M2 t.2).filter fun q => decide (q.1 = p.1)).map fun q => (p.1, ((p.2, q.2) : P2))).length ≤ 4 * xs.length := fun xs => by
    induction xs with
    | nil => simp
    | cons x xs ih =>
      rw [List.flatMap_cons, List.length_append, List.length_map, List.length_cons]
      have := List.length_filter_le (fun q : Str × Int => decide (q.1 = x.1)) (rowAt M2 t.2)
      omega
  have h4 := h3 ((rowAt M1 t.1).filter fun p => decide (p.1 ∈ ws))
  have h5 := List.length_filter_le (fun p : Str × Int => decide (p.1 ∈ ws)) (rowAt M1 t.1)
  omega
structure Side (M1 : Mch) (ws : List Str) (M2 : Mch) : Prop where
  ok1 : MOk M1
  ok2 : MOk M2
  l1 : RowsLe 4 M1
  l2 : RowsLe 4 M2
  n1 : M1.items.length ≤ 12
  n2 : M2.items.length ≤ 12
  st : ws.length ≤ 100
def In2 (M1 M2 : Mch) (t : P2) : Prop := (0 ≤ t.1 ∧ t.1 < M1.items.length) ∧ 0 ≤ t.2 ∧ t.2 < M2.items.length
theorem pmL_in {M1 M2 : Mch} {ws : List Str} (S : Side M1 ws M2) {t : P2} (h : In2 M1 M2 t) {m : Str × P2} (hm : m ∈ pmL M1 ws M2 t) : In2 M1 M2 m.2 := by
  rcases mem_pmL.mp hm with ⟨_, h1, h2⟩ | ⟨_, h1, h2⟩ | ⟨_, h1, h2⟩
  · obtain ⟨a, b, _⟩ := rowAt_mv S.ok1 h1; exact ⟨⟨a, b⟩, by rw [h2]; exact h.2⟩
  · obtain ⟨a, b, _⟩ := rowAt_mv S.ok2 h1; exact ⟨by rw [h2]; exact h.1, ⟨a, b⟩⟩
  · obtain ⟨a, b, _⟩ := rowAt_mv S.ok1 h1; obtain ⟨c, d, _⟩ := rowAt_mv S.ok2 h2; exact ⟨⟨a, b⟩, c, d⟩
def sp_pair_moves_63f489 : HSp := fun ps n C => ∃ (M1 M2 : Mch) (ws : List Str) (t : P2), ps = [.dat (Datum.toD M1), .dat (.tuple (ws.map .str)), .dat (Datum.toD M2), .dat (Datum.toD t)] ∧ Side M1 ws M2 ∧ In2 M1 M2 t ∧ C (.own ((sortL (pmL M1 ws M2 t)).map Datum.toD)) n
abbrev pmB : HS := (hIfS (hB (hC (inP false) (hL 7 (hL 1 hNil)))) (hDrop (hExt 6 (hLc (hiT (hV 5)) (gP 9 10) (hB (hC (eqP false) (hL 9 (hL 7 hNil)))) (hTup (hE (hV 7) (hE (hTup (hE (hV 8) (hE (hV 10) hNil))) hNil))) [9, 10]))) hNext)
theorem pm_loop {D : HD} {o0 o2 o3 o4 : Option PV} {ws : List Str} {R2 : List (Str × Int)} {n : Nat} (h2 : R2.length ≤ 4) : ∀ (ps : List (Str × Int)) (acc : List (Str × P2)) (o7 o8 : Option PV), acc.length + 4 * ps.length ≤ 1000 →
    (∀ (o7' o8' : Option PV), D.nx ⟨[o0, some (.dat (.tuple (ws.map .str))), o2, o3, o4, some (.dat (.tuple (R2.map Datum.toD))), some (.own ((acc ++ (ps.filter fun p => decide (p.1 ∈ ws)).flatMap fun p => (R2.filter fun q => decide (q.1 = p.1)).map fun q => (p.1, ((p.2, q.2) : P2))).map Datum.toD)), o7', o8', none, none], n⟩) →
    each (gP 7 8) pmB D (ps.map Datum.toD) ⟨[o0, some (.dat (.tuple (ws.map .str))), o2, o3, o4, some (.dat (.tuple (R2.map Datum.toD))), some (.own (acc.map Datum.toD)), o7, o8, none, none], n⟩ := by
  intro ps
  induction ps with
  | nil => intro acc o7 o8 _ fin; have := fin o7 o8; simp only [List.filter_nil, List.flatMap_nil, List.append_nil] at this; exact this
  | cons p ps ih =>
    intro acc o7 o8 hl fin
    obtain ⟨d, x⟩ := p
    have hl' : acc.length + 4 * (ps.length + 1) ≤ 1000 := by simpa using hl
    rw [List.map_cons]
    show gP 7 8 (.tuple [.str d, .int x]) _ _
    simp [-hLc, -each]
    refine inP_D d ws rfl rfl (by decide) ?_
    by_cases hd : d ∈ ws
    · simp [hd, -hLc, -each]
      refine hLc_eq.mpr ?_
      simp [-lcs, -each]
      refine lcs_filter2 (xs := R2) (fun q : Str × Int => (Datum.toD q : PyData)) (fun q => Datum.toD (d, ((x, q.2) : P2))) (fun q => decide (q.1 = d)) (fun q hq K hF hT => ?_) [] _ (by simp; omega) ?_
      · show gP 9 10 (.tuple [.str q.1, .int q.2]) _ _
        simp
        by_cases he : q.1 = d
        · exact Or.inr ⟨he, hT (by simp [he]) _ fun K2 hK2 => by simp; exact hK2 _ (by simp)⟩
        · exact Or.inl ⟨he, hF (by simp [he]) _ (by simp)⟩
      · have e : ((R2.filter fun q => decide (q.1 = d)).map fun q => (Datum.toD (d, ((x, q.2) : P2)) : PyData)) = ((R2.filter fun q => decide (q.1 = d)).map fun q => (d, ((x, q.2) : P2))).map Datum.toD := by rw [List.map_map]; rfl
        have fl := List.length_filter_le (fun q : Str × Int => decide (q.1 = d)) R2
        rw [e]
        simp only [List.nil_append]
        refine ⟨_, _, rfl, rfl, by simp; omega, ?_⟩
        rw [← List.map_append]
        refine ih _ _ _ (by simp; omega) fun a b => ?_
        have := fin a b
        rw [List.filter_cons_of_pos (by simp [hd]), List.flatMap_cons, ← List.append_assoc] at this
        exact this
    · simp [hd, -hLc, -each]
      refine ih acc _ _ (by omega) fun a b => ?_
      have := fin a b
      rw [List.filter_cons_of_neg (by simp [hd])] at this
      exact this
def h_pair_moves_63f489 : HS :=
    (hSeq (hPar 4 5 (hE (hC ixW (hL 0 (hE (hC ixW (hL 3 (hE (hK (.int 0)) hNil))) hNil))) (hE (hC ixW (hL 2 (hE (hC ixW (hL 3 (hE (hK (.int 1)) hNil))) hNil))) hNil)))
    (hSeq (hAsg (hLc (hiT (hV 4)) (gP 7 8) (hB (hC (inP true) (hL 7 (hL 1 hNil)))) (hTup (hE (hV 7) (hE (hTup (hE (hV 8) (hE (hC ixW (hL 3 (hE (hK (.int 1)) hNil))) hNil))) hNil))) [7, 8]) 6)
    (hSeq (hDrop (hExt 6 (hLc (hiT (hV 5)) (gP 7 8) (hB (hC (inP true) (hL 7 (hL 1 hNil)))) (hTup (hE (hV 7) (hE (hTup (hE (hC ixW (hL 3 (hE (hK (.int 0)) hNil))) (hE (hV 8) hNil))) hNil))) [7, 8])))
    (hSeq (hFor (hiT (hV 4)) (gP 7 8) (hIfS (hB (hC (inP false) (hL 7 (hL 1 hNil)))) (hDrop (hExt 6 (hLc (hiT (hV 5)) (gP 9 10) (hB (hC (eqP false) (hL 9 (hL 7 hNil)))) (hTup (hE (hV 7) (hE (hTup (hE (hV 8) (hE (hV 10) hNil))) hNil))) [9, 10]))) hNext))
    (hRet (hC (sortA (Str × Int × Int)) (hL 6 hNil)))))))
theorem rd_pair_moves_63f489 : ∀ pvs n C, pvs.length = 4 → sp_pair_moves_63f489 pvs n C → h_pair_moves_63f489 ⟨fun s => C (.dat .none) s.n, fun p s => C p s.n, fun _ => False, fun _ => False⟩ ⟨pvs.map some ++ List.replicate (11 - pvs.length) none, n⟩ := by
  intro pvs n C _ h
  obtain ⟨M1, M2, ws, ⟨x, y⟩, rfl, S, ⟨⟨x0, x1⟩, y0, y1⟩, q⟩ := h
  unfold h_pair_moves_63f489
  have e1 : (Datum.toD M1 : PyData) = .tuple (M1.items.map Datum.toD) := rfl
  have e2 : (Datum.toD M2 : PyData) = .tuple (M2.items.map Datum.toD) := rfl
  have e3 : (Datum.toD (x, y) : PyData) = .tuple [.int x, .int y] := rfl
  rw [e1, e2, e3]
  simp [-hFor, -hLc]
  refine ⟨_, rfl, ?_⟩
  simp [-hFor, -hLc, atI_row x0 x1]
  refine ⟨_, rfl, ?_⟩
  simp [-hFor, -hLc, atI_row y0 y1]
  have r1 := rowAt_le (x := x) S.l1
  have r2 := rowAt_le (x := y) S.l2
  refine ⟨_, _, ⟨rfl, rfl⟩, rfl, rfl, ?_⟩
  refine hLc_eq.mpr ?_
  simp [-hFor, -hLc, -lcs]
  refine lcs_filter2 (xs := rowAt M1 x) (fun q : Str × Int => (Datum.toD q : PyData)) (fun q => Datum.toD (q.1, ((q.2, y) : P2))) (fun q => decide (q.1 ∉ ws)) (fun q hq K hF hT => ?_) [] _ (by simp; omega) ?_
  · show gP 7 8 (.tuple [.str q.1, .int q.2]) _ _
    simp
    refine inP_D q.1 ws rfl rfl (by decide) ?_
    by_cases he : q.1 ∈ ws
    · simp [he]; exact hF (by simp [he]) _ (by simp)
    · simp [he]; exact hT (by simp [he]) _ fun K2 hK2 => by simp; exact ⟨_, rfl, hK2 _ (by simp)⟩
  simp [-hFor, -hLc, -lcs]
  refine hLc_eq.mpr ?_
  simp [-hFor, -hLc, -lcs]
  refine lcs_filter2 (xs := rowAt M2 y) (fun q : Str × Int => (Datum.toD q : PyData)) (fun q => Datum.toD (q.1, ((x, q.2) : P2))) (fun q => decide (q.1 ∉ ws)) (fun q hq K hF hT => ?_) [] _ (by simp; omega) ?_
  · show gP 7 8 (.tuple [.str q.1, .int q.2]) _ _
    simp
    refine inP_D q.1 ws rfl rfl (by decide) ?_
    by_cases he : q.1 ∈ ws
    · simp [he]; exact hF (by simp [he]) _ (by simp)
    · simp [he]; exact hT (by simp [he]) _ fun K2 hK2 => by simp; exact ⟨_, rfl, hK2 _ (by simp)⟩
  have f1 := List.length_filter_le (fun q : Str × Int => !decide (q.1 ∈ ws)) (rowAt M1 x)
  have f2 := List.length_filter_le (fun q : Str × Int => decide (q.1 ∉ ws)) (rowAt M2 y)
  refine ⟨_, _, rfl, rfl, by simp only [List.length_map, List.nil_append]; omega, ?_⟩
  have ea : (((rowAt M1 x).filter fun q => !decide (q.1 ∈ ws)).map fun q => (Datum.toD (q.1, ((q.2, y) : P2)) : PyData)) ++ ([] ++ ((rowAt M2 y).filter fun q => decide (q.1 ∉ ws)).map fun q => Datum.toD (q.1, ((x, q.2) : P2))) =
      (((rowAt M1 x).filter fun p => decide (p.1 ∉ ws)).map (fun p => (p.1, ((p.2, y) : P2))) ++ ((rowAt M2 y).filter fun p => decide (p.1 ∉ ws)).map (fun p => (p.1, ((x, p.2) : P2)))).map Datum.toD := by
    rw [List.map_append, List.map_map, List.map_map, List.nil_append]
    simp only [decide_not]
    rfl
  rw [ea]
  have la : (((rowAt M1 x).filter fun p => decide (p.1 ∉ ws)).map (fun p => (p.1, ((p.2, y) : P2))) ++ ((rowAt M2 y).filter fun p => decide (p.1 ∉ ws)).map (fun p => (p.1, ((x, p.2) : P2)))).length ≤ 8 := by
    rw [List.length_append, List.length_map, List.length_map]
    have f3 := List.length_filter_le (fun q : Str × Int => decide (q.1 ∉ ws)) (rowAt M1 x)
    omega
  have q' : C (.own ((sortL ((((rowAt M1 x).filter fun p => decide (p.1 ∉ ws)).map (fun p => (p.1, ((p.2, y) : P2))) ++ ((rowAt M2 y).filter fun p => decide (p.1 ∉ ws)).map (fun p => (p.1, ((x, p.2) : P2)))) ++ ((rowAt M1 x).filter fun p => decide (p.1 ∈ ws)).flatMap fun p => ((rowAt M2 y).filter fun q => decide (q.1 = p.1)).map fun q => (p.1, ((p.2, q.2) : P2)))).map Datum.toD)) n := q
  clear ea
  generalize (((rowAt M1 x).filter fun p => decide (p.1 ∉ ws)).map (fun p => (p.1, ((p.2, y) : P2))) ++ ((rowAt M2 y).filter fun p => decide (p.1 ∉ ws)).map (fun p => (p.1, ((x, p.2) : P2)))) = acc0 at la q' ⊢
  refine (show hiT (hV 4) _ _ from ?_)
  simp [-each]
  refine pm_loop r2 (rowAt M1 x) acc0 none none (by omega) fun a b => ?_
  simp only [hRet, hC, hL, hNil]
  exact ⟨⟨_, rfl⟩, _, rfl, _, rfl, q'⟩
end Sk
set_option Elab.async false
set_option linter.all false
set_option maxRecDepth 100000
set_option maxHeartbeats 4000000
namespace Sk
open PySem PySem.Spec PyProof.Rows L2
open PySem.W (Datum DatumOrd Tup T3 T4)
open Evl (Ex)
def prs2 (M1 M2 : Mch) : List P2 := (rngI M1.items.length).flatMap fun x => (rngI M2.items.length).map fun y => (x, y)
theorem mem_prs2 {M1 M2 : Mch} {t : P2} : t ∈ prs2 M1 M2 ↔ In2 M1 M2 t := by
  unfold prs2 In2
  rw [List.mem_flatMap]
  constructor
  · rintro ⟨x, hx, h⟩
    obtain ⟨y, hy, rfl⟩ := List.mem_map.mp h
    exact ⟨mem_rngI.mp hx, mem_rngI.mp hy⟩
  · rintro ⟨h1, h2⟩
    exact ⟨t.1, mem_rngI.mpr h1, List.mem_map.mpr ⟨t.2, mem_rngI.mpr h2, rfl⟩⟩
theorem prs2_len {M1 M2 : Mch} : (prs2 M1 M2).length = M1.items.length * M2.items.length := by
  unfold prs2
  have : ∀ xs : List Int, (xs.flatMap fun x => (rngI M2.items.length).map fun y => ((x, y) : P2)).length = xs.length * M2.items.length := fun xs => by
    induction xs with
    | nil => simp
    | cons x xs ih => rw [List.flatMap_cons, List.length_append, ih, List.length_map, rngI_len, List.length_cons, Nat.add_mul, Nat.one_mul, Nat.add_comm]
  rw [this, rngI_len]
def besM (M1 : Mch) (ws : List Str) (M2 : Mch) : Mch := numM (fun t => sortL (pmL M1 ws M2 t)) (0, 0) (prs2 M1 M2).length
def sp_put_beside_e418b7 : HSp := fun ps n C => ∃ (M1 M2 : Mch) (ws W : List Str), ps = [.dat (Datum.toD M1), .dat (.tuple (ws.map .str)), .dat (Datum.toD M2)] ∧ Side M1 ws M2 ∧ IsSet ws ∧ DeedsIn W M1 ∧ DeedsIn W M2 ∧ W.length ≤ 8 ∧ C (.dat (Datum.toD (besM M1 ws M2))) n
theorem rowAt_dd {M : Mch} {W : List Str} (di : DeedsIn W M) {x : Int} {p : Str × Int} (h : p ∈ rowAt M x) : p.1 ∈ W ∨ p.1 = ("" : Str) := by
  unfold rowAt at h
  split at h
  · rename_i r hr; exact di r (List.mem_of_getElem? hr) p h
  · cases h
theorem side_num {M1 M2 : Mch} {ws W : List Str} (S : Side M1 ws M2) (d1 : DeedsIn W M1) (d2 : DeedsIn W M2) (hW : W.length ≤ 8) : NumQ (fun t => sortL (pmL M1 ws M2 t)) (prs2 M1 M2) (0, 0) W where
  st := mem_prs2.mpr ⟨⟨Int.le_refl _, by have := S.ok1.lo; show (0 : Int) < _; omega⟩, Int.le_refl _, by have := S.ok2.lo; show (0 : Int) < _; omega⟩
  cl := fun t ht m hm => by
    have hm := mem_sortL.mp hm
    refine ⟨mem_prs2.mpr (pmL_in S (mem_prs2.mp ht) hm), ?_⟩
    rcases mem_pmL.mp hm with ⟨_, h, _⟩ | ⟨_, h, _⟩ | ⟨_, h, _⟩
    · exact rowAt_dd d1 h
    · exact rowAt_dd d2 h
    · exact rowAt_dd d1 h
  ln := fun t _ => by
    rw [sortL_len]
    have := pmL_len (ws := ws) (t := t) S.l1 S.l2
    omega
  hi := by
    rw [prs2_len]
    have h1 := S.n1
    have h2 := S.n2
    exact Nat.le_trans (Nat.mul_le_mul h1 h2) (by decide)
  dw := hW
def h_put_beside_e418b7 : HS :=
    (hSeq (hDrop (hCall sp_need_machine_f4028c 1 (hL 0 hNil)))
    (hSeq (hDrop (hCall sp_need_set_a45985 1 (hL 1 hNil)))
    (hSeq (hDrop (hCall sp_need_machine_f4028c 1 (hL 2 hNil)))
    (hRet (hC ixW (hE (hCallC1 spC_numbered_dca45c 0 [0, 1, 2] (fun ZL => (hCall sp_pair_moves_63f489 4 (hL 1 (hL 2 (hL 3 (hL 0 hNil)))))) (fun _ _ => False) (hTup (hE (hK (.int 0)) (hE (hK (.int 0)) hNil)))) (hE (hK (.int 1)) hNil)))))))
theorem rd_put_beside_e418b7 : ∀ pvs n C, pvs.length = 3 → sp_put_beside_e418b7 pvs n C → h_put_beside_e418b7 ⟨fun s => C (.dat .none) s.n, fun p s => C p s.n, fun _ => False, fun _ => False⟩ ⟨pvs.map some ++ List.replicate (3 - pvs.length) none, n⟩ := by
  intro pvs n C _ h
  obtain ⟨M1, M2, ws, W, rfl, S, hs, d1, d2, hW, q⟩ := h
  unfold h_put_beside_e418b7
  simp
  refine ⟨M1, rfl, S.ok1, ws, rfl, hs, M2, rfl, S.ok2, ?_⟩
  intro R
  refine ⟨_, prs2 M1 M2, (0, 0), W, rfl, side_num S d1 d2 hW, fun t ht C2 Z2 c => ?_, ?_⟩
  · unfold spLam
    simp
    exact ⟨M1, M2, ws, t, rfl, S, mem_prs2.mp ht, c⟩
  · simp
    exact ⟨_, rfl, q⟩
section
variable {α : Type} [DecidableEq α] [Datum α] [KD α]
def putU (met : List α) (a : α) : List α := if a ∈ met then met else met ++ [a]
theorem putU_kv {met : List α} {a : α} : putDG (kvT met) (Datum.toD a) (.bool true) = kvT (putU met a) := by
  unfold putU
  by_cases h : a ∈ met
  · rw [if_pos h]
    unfold putDG
    have any : ((kvT met).any fun kv => decide (keyN kv.1 = keyN (Datum.toD a))) = true := List.any_eq_true.mpr ⟨(Datum.toD a, .bool true), by
      unfold kvT kvD
      rw [List.map_map]
      exact List.mem_map.mpr ⟨a, h, rfl⟩, decide_eq_true rfl⟩
    rw [if_pos any]
    refine (List.map_congr_left fun kv hk => ?_).trans (List.map_id _)
    unfold kvT kvD at hk
    rw [List.map_map] at hk
    obtain ⟨b, _, rfl⟩ := List.mem_map.mp hk
    simp
  · rw [if_neg h]; exact putDG_kvT h
theorem putU_mem {met : List α} {a x : α} : x ∈ putU met a ↔ x ∈ met ∨ x = a := by
  unfold putU
  split
  · rename_i h
    exact ⟨Or.inl, fun z => z.elim id fun e => e ▸ h⟩
  · simp
theorem putU_nd {met : List α} {a : α} (h : met.Nodup) : (putU met a).Nodup := by
  unfold putU
  split
  · exact h
  · rename_i q
    exact List.nodup_append.mpr ⟨h, by simp, fun a ha b hb e => by rw [List.mem_singleton.mp hb] at e; exact q (e ▸ ha)⟩
theorem putU_len {met : List α} {a : α} : (putU met a).length ≤ met.length + 1 := by
  unfold putU
  split <;> simp
end
abbrev M3 := Str × P2
theorem m3_key (c : M3) : KeyOk (Datum.toD c) := keyOk_D (by decide) c
def sp__law_pair_moves_ac7fb4 : HSp := fun ps n C => ∃ (M1 M2 : Mch) (ws : List Str) (t : P2), ps = [.dat (Datum.toD M1), .dat (.tuple (ws.map .str)), .dat (Datum.toD M2), .dat (Datum.toD t)] ∧ Side M1 ws M2 ∧ In2 M1 M2 t ∧ C (.own ((sortU (pmL M1 ws M2 t)).map Datum.toD)) n
abbrev lpB1 : HS := (hIfS (hAnd (hB (hC (eqP false) (hL 5 (hL 7 hNil)))) (hB (hC (inP false) (hL 5 (hL 1 hNil))))) (hDputG 4 (hK (.bool true)) (hTup (hE (hV 5) (hE (hTup (hE (hV 6) (hE (hV 8) hNil))) hNil)))) hNext)
theorem lp_loop1 {D : HD} {o0 o2 o3 : Option PV} {ws : List Str} {d : Str} {x : Int} {n : Nat} : ∀ (ps : List (Str × Int)) (met : List M3) (o7 o8 : Option PV), met.Nodup → met.length + ps.length ≤ 1000 →
    (∀ (met' : List M3) (o7' o8' : Option PV), met'.Nodup → met'.length ≤ met.length + ps.length → (∀ m, m ∈ met' ↔ m ∈ met ∨ (d ∈ ws ∧ m.1 = d ∧ m.2.1 = x ∧ (d, m.2.2) ∈ ps)) → D.nx ⟨[o0, some (.dat (.tuple (ws.map .str))), o2, o3, some (.dcg (kvT met')), some (.dat (.str d)), some (.dat (.int x)), o7', o8'], n⟩) →
    each (gP 7 8) lpB1 D (ps.map Datum.toD) ⟨[o0, some (.dat (.tuple (ws.map .str))), o2, o3, some (.dcg (kvT met)), some (.dat (.str d)), some (.dat (.int x)), o7, o8], n⟩ := by
  intro ps
  induction ps with
  | nil => intro met o7 o8 nd _ fin; exact fin met o7 o8 nd (Nat.le_refl _) fun m => by simp
  | cons p ps ih =>
    intro met o7 o8 nd hl fin
    obtain ⟨b, y⟩ := p
    have hl' : met.length + (ps.length + 1) ≤ 1000 := by simpa using hl
    rw [List.map_cons]
    show gP 7 8 (.tuple [.str b, .int y]) _ _
    simp [-each]
    have skip : ¬ (d = b ∧ d ∈ ws) → each (gP 7 8) lpB1 D (ps.map Datum.toD) ⟨[o0, some (.dat (.tuple (ws.map .str))), o2, o3, some (.dcg (kvT met)), some (.dat (.str d)), some (.dat (.int x)), some (.dat (.str b)), some (.dat (.int y))], n⟩ := fun no =>
      ih met _ _ nd (by omega) fun met' p q r1 r2 r3 => fin met' p q r1 (by rw [List.length_cons]; omega) fun m => by
        rw [r3 m]
        constructor
        · rintro (h | ⟨h1, h2, h3, h4⟩)
          · exact Or.inl h
          · exact Or.inr ⟨h1, h2, h3, List.mem_cons_of_mem _ h4⟩
        · rintro (h | ⟨h1, h2, h3, h4⟩)
          · exact Or.inl h
          · rcases List.mem_cons.mp h4 with e | h4
            · exact absurd ⟨(Prod.mk.inj e).1, h1⟩ no
            · exact Or.inr ⟨h1, h2, h3, h4⟩
    by_cases e : d = b
    · refine Or.inr ⟨e, ?_⟩
      refine inP_D d ws rfl rfl (by decide) ?_
      by_cases hd : d ∈ ws
      · simp [-each, hd]
        refine ⟨m3_key (d, x, y), by rw [kvT_len]; omega, ?_⟩
        have ek : putDG (kvT met) (.tuple [.str d, .tuple [.int x, .int y]]) (.bool true) = kvT (putU met (d, x, y)) := putU_kv (met := met) (a := (d, x, y))
        rw [ek]
        have pl := putU_len (met := met) (a := ((d, x, y) : M3))
        refine ih _ _ _ (putU_nd nd) (by omega) fun met' p q r1 r2 r3 => fin met' p q r1 (by rw [List.length_cons]; omega) fun m => ?_
        rw [r3 m, putU_mem]
        constructor
        · rintro ((h | h) | ⟨h1, h2, h3, h4⟩)
          · exact Or.inl h
          · exact Or.inr (by rw [h]; exact ⟨hd, rfl, rfl, by rw [e]; exact List.mem_cons_self⟩)
          · exact Or.inr ⟨h1, h2, h3, List.mem_cons_of_mem _ h4⟩
        · rintro (h | ⟨h1, h2, h3, h4⟩)
          · exact Or.inl (Or.inl h)
          · rcases List.mem_cons.mp h4 with e2 | h4
            · exact Or.inl (Or.inr (by
                obtain ⟨m1, m2, m3⟩ := m
                have a : m1 = d := h2
                have b : m2 = x := h3
                have c : m3 = y := (Prod.mk.inj e2).2
                rw [a, b, c]))
            · exact Or.inr ⟨h1, h2, h3, h4⟩
      · simp [-each, hd]
        exact skip fun z => hd z.2
    · exact Or.inl ⟨e, skip fun z => e z.1⟩
abbrev lpB2 : HS := (hSeq (hIfS (hB (hC (inP true) (hL 5 (hL 1 hNil)))) (hDputG 4 (hK (.bool true)) (hTup (hE (hV 5) (hE (hTup (hE (hV 6) (hE (hC ixW (hL 3 (hE (hK (.int 1)) hNil))) hNil))) hNil)))) hNext)
    (hFor (hiT (hC ixW (hL 2 (hE (hC ixW (hL 3 (hE (hK (.int 1)) hNil))) hNil)))) (gP 7 8) lpB1))
theorem lp_loop2 {D : HD} {o0 : Option PV} {ws : List Str} {M2 : Mch} {x0 y0 : Int} {n : Nat} (hy : 0 ≤ y0 ∧ y0 < M2.items.length) (l2 : RowsLe 4 M2) : ∀ (ps : List (Str × Int)) (met : List M3) (o5 o6 o7 o8 : Option PV), met.Nodup → met.length + 5 * ps.length ≤ 1000 →
    (∀ (met' : List M3) (o5' o6' o7' o8' : Option PV), met'.Nodup → met'.length ≤ met.length + 5 * ps.length → (∀ m, m ∈ met' ↔ m ∈ met ∨ ((m.1, m.2.1) ∈ ps ∧ ((m.1 ∉ ws ∧ m.2.2 = y0) ∨ (m.1 ∈ ws ∧ (m.1, m.2.2) ∈ rowAt M2 y0)))) → D.nx ⟨[o0, some (.dat (.tuple (ws.map .str))), some (.dat (.tuple (M2.items.map Datum.toD))), some (.dat (.tuple [.int x0, .int y0])), some (.dcg (kvT met')), o5', o6', o7', o8'], n⟩) →
    each (gP 5 6) lpB2 D (ps.map Datum.toD) ⟨[o0, some (.dat (.tuple (ws.map .str))), some (.dat (.tuple (M2.items.map Datum.toD))), some (.dat (.tuple [.int x0, .int y0])), some (.dcg (kvT met)), o5, o6, o7, o8], n⟩ := by
  intro ps
  induction ps with
  | nil => intro met o5 o6 o7 o8 nd _ fin; exact fin met o5 o6 o7 o8 nd (Nat.le_refl _) fun m => by simp
  | cons p ps ih =>
    intro met o5 o6 o7 o8 nd hl fin
    obtain ⟨d, x⟩ := p
    have hl' : met.length + 5 * (ps.length + 1) ≤ 1000 := by simpa using hl
    have rl := rowAt_le (x := y0) l2
    rw [List.map_cons]
    show gP 5 6 (.tuple [.str d, .int x]) _ _
    simp [-each]
    refine inP_D d ws rfl rfl (by decide) ?_
    have rest : ∀ (met1 : List M3), met1.Nodup → met1.length ≤ met.length + 1 → (∀ m, m ∈ met1 ↔ m ∈ met ∨ (m.1 = d ∧ m.2.1 = x ∧ d ∉ ws ∧ m.2.2 = y0)) →
        each (gP 7 8) lpB1 { D with nx := each (gP 5 6) lpB2 D (ps.map Datum.toD), ct := each (gP 5 6) lpB2 D (ps.map Datum.toD), bk := D.nx } ((rowAt M2 y0).map Datum.toD) ⟨[o0, some (.dat (.tuple (ws.map .str))), some (.dat (.tuple (M2.items.map Datum.toD))), some (.dat (.tuple [.int x0, .int y0])), some (.dcg (kvT met1)), some (.dat (.str d)), some (.dat (.int x)), o7, o8], n⟩ := fun met1 nd1 l1 h1 =>
      lp_loop1 (rowAt M2 y0) met1 o7 o8 nd1 (by omega) fun met2 p q nd2 l2 h2 => ih met2 _ _ _ _ nd2 (by omega) fun met3 p q r s nd3 l3 h3 => fin met3 p q r s nd3 (by rw [List.length_cons]; omega) fun m => by
        rw [h3 m, h2 m, h1 m]
        obtain ⟨m1, m2, m3⟩ := m
        constructor
        · rintro (((h | ⟨e1, e2, h, e3⟩) | ⟨h, e1, e2, h4⟩) | ⟨h, h4⟩)
          · exact Or.inl h
          · have e1 : m1 = d := e1
            have e2 : m2 = x := e2
            exact Or.inr ⟨by rw [e1, e2]; exact List.mem_cons_self, Or.inl ⟨by rw [e1]; exact h, e3⟩⟩
          · have e1 : m1 = d := e1
            have e2 : m2 = x := e2
            exact Or.inr ⟨by rw [e1, e2]; exact List.mem_cons_self, Or.inr ⟨by rw [e1]; exact h, by rw [e1]; exact h4⟩⟩
          · exact Or.inr ⟨List.mem_cons_of_mem _ h, h4⟩
        · rintro (h | ⟨h, h4⟩)
          · exact Or.inl (Or.inl (Or.inl h))
          · rcases List.mem_cons.mp h with e | h
            · have e1 : m1 = d := (Prod.mk.inj e).1
              have e2 : m2 = x := (Prod.mk.inj e).2
              rcases h4 with ⟨h5, h6⟩ | ⟨h5, h6⟩
              · exact Or.inl (Or.inl (Or.inr ⟨e1, e2, by rw [← e1]; exact h5, h6⟩))
              · exact Or.inl (Or.inr ⟨by rw [← e1]; exact h5, e1, e2, by rw [← e1]; exact h6⟩)
            · exact Or.inr ⟨h, h4⟩
    by_cases hd : d ∈ ws
    · simp [-each, hd]
      refine ⟨_, rfl, ?_⟩
      simp [-each, atI_row hy.1 hy.2]
      refine rest met nd (by omega) fun m => ⟨Or.inl, fun z => z.elim id fun z => absurd hd z.2.2.1⟩
    · simp [-each, hd]
      refine ⟨_, rfl, m3_key (d, x, y0), by rw [kvT_len]; omega, _, rfl, ?_⟩
      simp [-each, atI_row hy.1 hy.2]
      have ek : putDG (kvT met) (.tuple [.str d, .tuple [.int x, .int y0]]) (.bool true) = kvT (putU met (d, x, y0)) := putU_kv (met := met) (a := (d, x, y0))
      rw [ek]
      refine rest _ (putU_nd nd) putU_len fun m => ?_
      rw [putU_mem]
      obtain ⟨m1, m2, m3⟩ := m
      constructor
      · rintro (h | h)
        · exact Or.inl h
        · cases h; exact Or.inr ⟨rfl, rfl, hd, rfl⟩
      · rintro (h | ⟨e1, e2, _, e3⟩)
        · exact Or.inl h
        · have e1 : m1 = d := e1
          have e2 : m2 = x := e2
          have e3 : m3 = y0 := e3
          exact Or.inr (by rw [e1, e2, e3])
abbrev lpB3 : HS := (hIfS (hB (hC (inP true) (hL 5 (hL 1 hNil)))) (hDputG 4 (hK (.bool true)) (hTup (hE (hV 5) (hE (hTup (hE (hC ixW (hL 3 (hE (hK (.int 0)) hNil))) (hE (hV 6) hNil))) hNil)))) hNext)
theorem lp_loop3 {D : HD} {o0 o2 o7 o8 : Option PV} {ws : List Str} {x0 y0 : Int} {n : Nat} : ∀ (ps : List (Str × Int)) (met : List M3) (o5 o6 : Option PV), met.Nodup → met.length + ps.length ≤ 1000 →
    (∀ (met' : List M3) (o5' o6' : Option PV), met'.Nodup → (∀ m, m ∈ met' ↔ m ∈ met ∨ (m.1 ∉ ws ∧ (m.1, m.2.2) ∈ ps ∧ m.2.1 = x0)) → D.nx ⟨[o0, some (.dat (.tuple (ws.map .str))), o2, some (.dat (.tuple [.int x0, .int y0])), some (.dcg (kvT met')), o5', o6', o7, o8], n⟩) →
    each (gP 5 6) lpB3 D (ps.map Datum.toD) ⟨[o0, some (.dat (.tuple (ws.map .str))), o2, some (.dat (.tuple [.int x0, .int y0])), some (.dcg (kvT met)), o5, o6, o7, o8], n⟩ := by
  intro ps
  induction ps with
  | nil => intro met o5 o6 nd _ fin; exact fin met o5 o6 nd fun m => by simp
  | cons p ps ih =>
    intro met o5 o6 nd hl fin
    obtain ⟨d, y⟩ := p
    have hl' : met.length + (ps.length + 1) ≤ 1000 := by simpa using hl
    rw [List.map_cons]
    show gP 5 6 (.tuple [.str d, .int y]) _ _
    simp [-each]
    refine inP_D d ws rfl rfl (by decide) ?_
    by_cases hd : d ∈ ws
    · simp [-each, hd]
      refine ih met _ _ nd (by omega) fun met' p q r1 r3 => fin met' p q r1 fun m => ?_
      rw [r3 m]
      constructor
      · rintro (h | ⟨h1, h2, h3⟩)
        · exact Or.inl h
        · exact Or.inr ⟨h1, List.mem_cons_of_mem _ h2, h3⟩
      · rintro (h | ⟨h1, h2, h3⟩)
        · exact Or.inl h
        · rcases List.mem_cons.mp h2 with e | h2
          · exact absurd hd (by rw [← (Prod.mk.inj e).1]; exact h1)
          · exact Or.inr ⟨h1, h2, h3⟩
    · simp [-each, hd]
      refine ⟨_, rfl, m3_key (d, x0, y), by rw [kvT_len]; omega, ?_⟩
      have ek : putDG (kvT met) (.tuple [.str d, .tuple [.int x0, .int y]]) (.bool true) = kvT (putU met (d, x0, y)) := putU_kv (met := met) (a := (d, x0, y))
      rw [ek]
      have pl := putU_len (met := met) (a := ((d, x0, y) : M3))
      refine ih _ _ _ (putU_nd nd) (by omega) fun met' p q r1 r3 => fin met' p q r1 fun m => ?_
      rw [r3 m, putU_mem]
      obtain ⟨m1, m2, m3⟩ := m
      constructor
      · rintro ((h | h) | ⟨h1, h2, h3⟩)
        · exact Or.inl h
        · cases h; exact Or.inr ⟨hd, List.mem_cons_self, rfl⟩
        · exact Or.inr ⟨h1, List.mem_cons_of_mem _ h2, h3⟩
      · rintro (h | ⟨h1, h2, h3⟩)
        · exact Or.inl (Or.inl h)
        · rcases List.mem_cons.mp h2 with e | h2
          · have e1 : m1 = d := (Prod.mk.inj e).1
            have e2 : m3 = y := (Prod.mk.inj e).2
            have e3 : m2 = x0 := h3
            exact Or.inl (Or.inr (by rw [e1, e2, e3]))
          · exact Or.inr ⟨h1, h2, h3⟩
def h__law_pair_moves_ac7fb4 : HS :=
    (hSeq (hAsg hDnewG 4)
    (hSeq (hFor (hiT (hC ixW (hL 0 (hE (hC ixW (hL 3 (hE (hK (.int 0)) hNil))) hNil)))) (gP 5 6) (hSeq (hIfS (hB (hC (inP true) (hL 5 (hL 1 hNil)))) (hDputG 4 (hK (.bool true)) (hTup (hE (hV 5) (hE (hTup (hE (hV 6) (hE (hC ixW (hL 3 (hE (hK (.int 1)) hNil))) hNil))) hNil)))) hNext)
    (hFor (hiT (hC ixW (hL 2 (hE (hC ixW (hL 3 (hE (hK (.int 1)) hNil))) hNil)))) (gP 7 8) (hIfS (hAnd (hB (hC (eqP false) (hL 5 (hL 7 hNil)))) (hB (hC (inP false) (hL 5 (hL 1 hNil))))) (hDputG 4 (hK (.bool true)) (hTup (hE (hV 5) (hE (hTup (hE (hV 6) (hE (hV 8) hNil))) hNil)))) hNext))))
    (hSeq (hFor (hiT (hC ixW (hL 2 (hE (hC ixW (hL 3 (hE (hK (.int 1)) hNil))) hNil)))) (gP 5 6) (hIfS (hB (hC (inP true) (hL 5 (hL 1 hNil)))) (hDputG 4 (hK (.bool true)) (hTup (hE (hV 5) (hE (hTup (hE (hC ixW (hL 3 (hE (hK (.int 0)) hNil))) (hE (hV 6) hNil))) hNil)))) hNext))
    (hRet (hC (sortGW (Str × Int × Int)) (hL 4 hNil))))))
theorem rd__law_pair_moves_ac7fb4 : ∀ pvs n C, pvs.length = 4 → sp__law_pair_moves_ac7fb4 pvs n C → h__law_pair_moves_ac7fb4 ⟨fun s => C (.dat .none) s.n, fun p s => C p s.n, fun _ => False, fun _ => False⟩ ⟨pvs.map some ++ List.replicate (9 - pvs.length) none, n⟩ := by
  intro pvs n C _ h
  obtain ⟨M1, M2, ws, ⟨x, y⟩, rfl, S, ⟨⟨x0, x1⟩, y0, y1⟩, q⟩ := h
  have x0 : 0 ≤ x := x0
  have x1 : x < M1.items.length := x1
  have y0 : 0 ≤ y := y0
  have y1 : y < M2.items.length := y1
  unfold h__law_pair_moves_ac7fb4
  have e1 : (Datum.toD M1 : PyData) = .tuple (M1.items.map Datum.toD) := rfl
  have e2 : (Datum.toD M2 : PyData) = .tuple (M2.items.map Datum.toD) := rfl
  have e3 : (Datum.toD (x, y) : PyData) = .tuple [.int x, .int y] := rfl
  have r1 := rowAt_le (x := x) S.l1
  have r2 := rowAt_le (x := y) S.l2
  rw [e1, e2, e3]
  simp only [hSeq, hAsg, hDnewG]
  refine (show hiT (hC ixW (hL 0 (hE (hC ixW (hL 3 (hE (hK (.int 0)) hNil))) hNil))) _ _ from ?_)
  simp [-each, -hFor]
  refine ⟨_, rfl, ?_⟩
  simp [-each, -hFor, atI_row x0 x1]
  refine lp_loop2 ⟨y0, y1⟩ S.l2 (rowAt M1 x) [] none none none none List.nodup_nil (by simp; omega) fun met1 p5 p6 p7 p8 nd1 l1 h1 => ?_
  refine (show hiT (hC ixW (hL 2 (hE (hC ixW (hL 3 (hE (hK (.int 1)) hNil))) hNil))) _ _ from ?_)
  simp [-each]
  refine ⟨_, rfl, ?_⟩
  simp [-each, atI_row y0 y1]
  have l1' : met1.length ≤ 5 * (rowAt M1 x).length := by simpa using l1
  refine lp_loop3 (rowAt M2 y) met1 p5 p6 nd1 (by omega) fun met2 q5 q6 nd2 h2 => ?_
  simp only [hRet, hC, hL, hNil]
  refine ⟨⟨_, rfl⟩, _, rfl, _, met2, rfl, (by unfold kvT kvD; rw [List.map_map, List.map_map]; rfl), ?_⟩
  have em : sortL met2 = sortU (pmL M1 ws M2 (x, y)) := sortL_sortU nd2 fun m => by
    rw [h2 m, h1 m, mem_pmL]
    constructor
    · rintro ((h | ⟨h, (⟨h3, h4⟩ | ⟨h3, h4⟩)⟩) | ⟨h, h3, h4⟩)
      · cases h
      · exact Or.inl ⟨h3, h, h4⟩
      · exact Or.inr (Or.inr ⟨h3, h, h4⟩)
      · exact Or.inr (Or.inl ⟨h, h3, h4⟩)
    · rintro (⟨h3, h, h4⟩ | ⟨h, h3, h4⟩ | ⟨h3, h, h4⟩)
      · exact Or.inl (Or.inr ⟨h, Or.inl ⟨h3, h4⟩⟩)
      · exact Or.inr ⟨h, h3, h4⟩
      · exact Or.inl (Or.inr ⟨h, Or.inr ⟨h3, h4⟩⟩)
  rw [em]
  exact q
def sp__law_due_10adf9 : HSp := fun ps n C => ∃ (M1 M2 : Mch) (ws : List Str), ps = [.dat (Datum.toD M1), .dat (.tuple (ws.map .str)), .dat (Datum.toD M2)] ∧ Side M1 ws M2 ∧ C (.dat (Datum.toD (besM M1 ws M2))) n
abbrev duB : HS := (hSeq (hIfS (hB (hC (dinGW true) (hL 8 (hL 4 hNil)))) (hSeq (hDputG 4 (hC lenW (hL 3 hNil)) (hV 8))
    (hDrop (hApp 3 (hV 8)))) hNext)
    (hDrop (hApp 6 (hTup (hE (hV 7) (hE (hC dgetGW (hL 4 (hL 8 hNil))) hNil))))))
theorem du_loop {D : HD} {o0 o1 o2 o5 : Option PV} {n : Nat} {U : List P2} (hU : U.length ≤ 300) : ∀ (ms : List (Str × P2)) (ts : List P2) (row : List (Str × Int)) (o7 o8 : Option PV), ts.Nodup → (∀ t ∈ ts, t ∈ U) → (∀ m ∈ ms, m.2 ∈ U) → row.length + ms.length ≤ 1000 →
    (∀ (o7' o8' : Option PV), D.nx ⟨[o0, o1, o2, some (.own ((allT ts ms).map Datum.toD)), some (.dcg (kvJ (allT ts ms))), o5, some (.own ((row ++ ms.map fun m => (m.1, ixT (allT ts ms) m.2)).map Datum.toD)), o7', o8'], n⟩) →
    each (gP 7 8) duB D (ms.map Datum.toD) ⟨[o0, o1, o2, some (.own (ts.map Datum.toD)), some (.dcg (kvJ ts)), o5, some (.own (row.map Datum.toD)), o7, o8], n⟩ := by
  intro ms
  induction ms with
  | nil => intro ts row o7 o8 _ _ _ _ fin; have := fin o7 o8; simp only [List.map_nil, List.append_nil] at this; exact this
  | cons m ms ih =>
    intro ts row o7 o8 nd sub hm hl fin
    obtain ⟨d, c⟩ := m
    have hl' : row.length + (ms.length + 1) ≤ 1000 := by simpa using hl
    have cU := hm (d, c) List.mem_cons_self
    rw [List.map_cons]
    show gP 7 8 (.tuple [.str d, Datum.toD c]) _ _
    simp [-each, p2_key, kvJ_has]
    have e1 : allT ts ((d, c) :: ms) = allT (addT ts c) ms := rfl
    have tail : (addT ts c).Nodup → (∀ t ∈ addT ts c, t ∈ U) → ∃ x, getG (kvJ (addT ts c)) (Datum.toD c) = some x ∧ row.length < 100000 ∧ each (gP 7 8) duB D (ms.map Datum.toD) ⟨[o0, o1, o2, some (.own ((addT ts c).map Datum.toD)), some (.dcg (kvJ (addT ts c))), o5, some (.own (row.map Datum.toD ++ [.tuple [.str d, x]])), some (.dat (.str d)), some (.dat (Datum.toD c))], n⟩ := fun nd1 sub1 => by
      have hc : c ∈ addT ts c := addT_mem.mpr (Or.inr rfl)
      refine ⟨_, kvJ_get nd1 hc, by omega, ?_⟩
      have ek : row.map (Datum.toD : Str × Int → PyData) ++ [.tuple [.str d, .int (ixT (addT ts c) c)]] = (row ++ [(d, ixT (addT ts c) c)]).map Datum.toD := by rw [List.map_append]; rfl
      rw [ek]
      obtain ⟨more, em⟩ := allT_pre (ms := ms) (ts := addT ts c)
      refine ih (addT ts c) _ _ _ nd1 sub1 (fun m h => hm m (List.mem_cons_of_mem _ h)) (by simp; omega) fun p q => ?_
      have := fin p q
      rw [e1, List.map_cons] at this
      rw [List.append_assoc]
      have e4 : ixT (addT ts c) c = ixT (allT (addT ts c) ms) c := by rw [em, ixT_app hc]
      rw [e4]
      exact this
    by_cases hc : c ∈ ts
    · have ea : addT ts c = ts := if_pos hc
      rw [ea] at tail
      exact Or.inl ⟨hc, tail nd sub⟩
    · have ea : addT ts c = ts ++ [c] := if_neg hc
      rw [ea] at tail
      have nd1 : (ts ++ [c]).Nodup := by rw [← ea]; exact addT_nd nd
      have sub1 : ∀ t ∈ ts ++ [c], t ∈ U := fun t ht => by
        rcases List.mem_append.mp ht with h | h
        · exact sub t h
        · rw [List.mem_singleton.mp h]; exact cU
      have l1 := nodup_le _ _ nd1 sub1
      rw [List.length_append, List.length_singleton] at l1
      have lk : (kvJ ts).length = ts.length := by unfold kvJ; rw [kvD_len, List.length_map, List.length_zipIdx]
      refine Or.inr ⟨hc, by omega, by omega, ?_⟩
      rw [kvJ_put hc]
      have := tail nd1 sub1
      rw [List.map_append] at this
      exact this
theorem row_nd {ms : List (Str × P2)} {ts : List P2} (h : ms.Nodup) (sub : ∀ m ∈ ms, m.2 ∈ ts) : (ms.map fun m => (m.1, ixT ts m.2)).Nodup := by
  refine nodup_map h fun a ha b hb e => ?_
  have e1 : a.1 = b.1 := (Prod.mk.inj e).1
  have e2 : a.2 = b.2 := ixT_inj (sub a ha) (sub b hb) (Prod.mk.inj e).2
  obtain ⟨a1, a2⟩ := a
  obtain ⟨b1, b2⟩ := b
  have e1 : a1 = b1 := e1
  have e2 : a2 = b2 := e2
  rw [e1, e2]
def h__law_due_10adf9 : HS :=
    (hSeq (hPar3 3 4 5 (.own [(.tuple [(.int 0), (.int 0)])]) (.dcg [((.tuple [(.int 0), (.int 0)]), (.int 0))]) (.own []))
    (hSeq (hWhile (hB (hC ltW (hE (hC lenW (hL 5 hNil)) (hE (hC lenW (hL 3 hNil)) hNil)))) (hSeq (hAsg (hLst hNil) 6)
    (hSeq (hFor (hiL (hCall sp__law_pair_moves_ac7fb4 4 (hL 0 (hL 1 (hL 2 (hE (hC ixW (hL 3 (hE (hC lenW (hL 5 hNil)) hNil))) hNil)))))) (gP 7 8) (hSeq (hIfS (hB (hC (dinGW true) (hL 8 (hL 4 hNil)))) (hSeq (hDputG 4 (hC lenW (hL 3 hNil)) (hV 8))
    (hDrop (hApp 3 (hV 8)))) hNext)
    (hDrop (hApp 6 (hTup (hE (hV 7) (hE (hC dgetGW (hL 4 (hL 8 hNil))) hNil)))))))
    (hDrop (hApp 5 (hC tupW (hE (hC (sortA (Str × Int)) (hL 6 hNil)) hNil)))))))
    (hRet (hC tupW (hL 5 hNil)))))
theorem rd__law_due_10adf9 : ∀ pvs n C, pvs.length = 3 → sp__law_due_10adf9 pvs n C → h__law_due_10adf9 ⟨fun s => C (.dat .none) s.n, fun p s => C p s.n, fun _ => False, fun _ => False⟩ ⟨pvs.map some ++ List.replicate (9 - pvs.length) none, n⟩ := by
  intro pvs n C _ h
  obtain ⟨M1, M2, ws, rfl, S, q⟩ := h
  unfold h__law_due_10adf9
  simp only [hSeq, hPar3]
  refine ⟨by simp, by simp, by simp, ?_⟩
  have q0 : C (.dat (Datum.toD (numM (fun t => sortU (pmL M1 ws M2 t)) (0, 0) (prs2 M1 M2).length))) n := by
    have e : numM (fun t => sortU (pmL M1 ws M2 t)) (0, 0) (prs2 M1 M2).length = besM M1 ws M2 := by
      unfold besM numM
      rw [nIt_sort]
    rw [e]; exact q
  have hcl : ∀ t ∈ prs2 M1 M2, ∀ m ∈ sortU (pmL M1 ws M2 t), m.2 ∈ prs2 M1 M2 := fun t ht m hm => mem_prs2.mpr (pmL_in S (mem_prs2.mp ht) (mem_sortU.mp hm))
  have h0 : ((0, 0) : P2) ∈ prs2 M1 M2 := mem_prs2.mpr ⟨⟨Int.le_refl _, by have := S.ok1.lo; show (0 : Int) < _; omega⟩, Int.le_refl _, by have := S.ok2.lo; show (0 : Int) < _; omega⟩
  have hi : (prs2 M1 M2).length ≤ 300 := by
    rw [prs2_len]
    exact Nat.le_trans (Nat.mul_le_mul S.n1 S.n2) (by decide)
  have hgl : ∀ t, (sortU (pmL M1 ws M2 t)).length ≤ 24 := fun t => Nat.le_trans (sortU_len _) (pmL_len S.l1 S.l2)
  have hnd : ∀ t, (sortU (pmL M1 ws M2 t)).Nodup := fun t => (sortU_rising _).nodup
  have hcal : ∀ t : P2, t ∈ prs2 M1 M2 → ∀ n (C2 : PV → Nat → Prop), C2 (.own ((sortU (pmL M1 ws M2 t)).map Datum.toD)) n → sp__law_pair_moves_ac7fb4 [.dat (Datum.toD M1), .dat (.tuple (ws.map .str)), .dat (Datum.toD M2), .dat (Datum.toD t)] n C2 := fun t ht n C2 c => ⟨M1, M2, ws, t, rfl, S, mem_prs2.mp ht, c⟩
  generalize (prs2 M1 M2) = U at *
  generalize hg : (fun t => sortU (pmL M1 ws M2 t)) = g at *
  have hgt : ∀ t, sortU (pmL M1 ws M2 t) = g t := fun t => by rw [← hg]
  simp only [hgt] at hcl hgl hnd hcal
  refine hWhile_by (fun m s => ∃ (k : Nat) (o6 o7 o8 : Option PV), (nIt g (0, 0) k).2.length = k ∧ k ≤ (nIt g (0, 0) k).1.length ∧ s = ⟨[some (.dat (Datum.toD M1)), some (.dat (.tuple (ws.map .str))), some (.dat (Datum.toD M2)), some (.own ((nIt g (0, 0) k).1.map Datum.toD)), some (.dcg (kvJ (nIt g (0, 0) k).1)), some (.own ((nIt g (0, 0) k).2.map fun r => Datum.toD (Tup.mk r))), o6, o7, o8], n⟩ ∧ m = 300 - k) 300 ⟨0, none, none, none, rfl, Nat.zero_le _, rfl, rfl⟩ ?_
  rintro m s ⟨k, o6, o7, o8, hk, hkl, rfl, rfl⟩
  have nd := (nIt_sub h0 hcl k).1
  have sub := (nIt_sub h0 hcl k).2.1
  have le := nIt_le h0 hcl k
  simp [-each]
  rcases Nat.lt_or_ge (nIt g (0, 0) k).2.length (nIt g (0, 0) k).1.length with hlt | hge
  · refine Or.inr ⟨hlt, ?_⟩
    have ht : (nIt g (0, 0) k).1[(nIt g (0, 0) k).2.length]? = some ((nIt g (0, 0) k).1[(nIt g (0, 0) k).2.length]) := List.getElem?_eq_getElem hlt
    generalize (nIt g (0, 0) k).1[(nIt g (0, 0) k).2.length] = t at ht
    have tU := sub t (List.mem_of_getElem? ht)
    have gl := hgl t
    refine ⟨_, atI_mapt ht, hcal t tU _ _ ?_⟩
    show each (gP 7 8) duB _ ((g t).map Datum.toD) _
    refine du_loop hi (g t) (nIt g (0, 0) k).1 [] o7 o8 nd sub (hcl t tU) (by simp; omega) fun p q => ?_
    have es := nStep_at (g := g) ht
    have e2 : nIt g (0, 0) (k + 1) = (allT (nIt g (0, 0) k).1 (g t), (nIt g (0, 0) k).2 ++ [rowT (allT (nIt g (0, 0) k).1 (g t)) (g t)]) := es
    have hl2 : k + 1 ≤ (allT (nIt g (0, 0) k).1 (g t)).length := by
      obtain ⟨more, e⟩ := allT_pre (ms := g t) (ts := (nIt g (0, 0) k).1)
      rw [e, List.length_append]; omega
    have em : sortL ((g t).map fun m => (m.1, ixT (allT (nIt g (0, 0) k).1 (g t)) m.2)) = rowT (allT (nIt g (0, 0) k).1 (g t)) (g t) :=
      sortL_sortU (row_nd (hnd t) fun m hm => allT_mem.mpr (Or.inr ⟨m, hm, rfl⟩)) fun x => Iff.rfl
    rw [List.nil_append]
    generalize hro : ((g t).map fun m => (m.1, ixT (allT (nIt g (0, 0) k).1 (g t)) m.2)) = ro at em
    simp [-each]
    refine ⟨ro, rfl, ?_⟩
    rw [em]
    simp
    refine ⟨by omega, _, (by omega : 300 - (k + 1) < 300 - k), k + 1, by rw [e2]; simp [hk], by rw [e2]; exact hl2, ⟨by rw [e2], by rw [e2], by rw [e2]; simp; rfl⟩, rfl⟩
  · refine Or.inl ⟨hge, ?_⟩
    have eN := nIt_fix (g := g) (s0 := (0, 0)) hge (N := U.length) (by omega)
    have hN : numM g (0, 0) U.length = Tup.mk ((nIt g (0, 0) k).2.map Tup.mk) := by unfold numM; rw [eN]
    have e1 : (Datum.toD (numM g (0, 0) U.length) : PyData) = .tuple ((nIt g (0, 0) k).2.map fun r => Datum.toD (Tup.mk r)) := by
      rw [hN]
      show PyData.tuple (((nIt g (0, 0) k).2.map Tup.mk).map Datum.toD) = _
      rw [List.map_map]; rfl
    rw [e1] at q0
    exact q0
end Sk
set_option Elab.async false
set_option linter.all false
set_option maxRecDepth 100000
set_option maxHeartbeats 4000000
namespace Sk
open PySem PySem.Spec PyProof.Rows L2
open PySem.W (Datum DatumOrd Tup T3 T4)
open Evl (Ex)
def insD {α : Type} [DecidableEq α] [DatumOrd α] (a : α) : List α → List α
  | [] => [a]
  | b :: r => if leD a b then a :: b :: r else b :: insD a r
def isort {α : Type} [DecidableEq α] [DatumOrd α] : List α → List α
  | [] => []
  | a :: r => insD a (isort r)
theorem insD_perm {α : Type} [DecidableEq α] [DatumOrd α] (a : α) : ∀ xs : List α, (insD a xs).Perm (a :: xs)
  | [] => List.Perm.refl _
  | b :: r => by
    unfold insD
    split
    · exact List.Perm.refl _
    · exact (List.Perm.cons b (insD_perm a r)).trans (List.Perm.swap a b r)
theorem isort_perm {α : Type} [DecidableEq α] [DatumOrd α] : ∀ xs : List α, (isort xs).Perm xs
  | [] => List.Perm.refl _
  | a :: r => (insD_perm a _).trans (List.Perm.cons a (isort_perm r))
end Sk
set_option Elab.async false
set_option linter.all false
set_option maxRecDepth 100000
set_option maxHeartbeats 4000000
namespace Sk
open PySem PySem.Spec PyProof.Rows L2
open PySem.W (Datum DatumOrd Tup T3 T4)
open Evl (Ex)
section
variable {g : P2 → List (Str × P2)} {s0 : P2} {U : List P2}
theorem nIt_done : ∀ k, ((nIt g s0 k).2.length = k ∨ (nIt g s0 k).1.length ≤ (nIt g s0 k).2.length) ∧ (nIt g s0 k).2.length ≤ (nIt g s0 k).1.length
  | 0 => ⟨Or.inl rfl, Nat.zero_le _⟩
  | k + 1 => by
    have ih := nIt_done k
    show ((nStep g (nIt g s0 k)).2.length = k + 1 ∨ (nStep g (nIt g s0 k)).1.length ≤ (nStep g (nIt g s0 k)).2.length) ∧ (nStep g (nIt g s0 k)).2.length ≤ (nStep g (nIt g s0 k)).1.length
    cases q : (nIt g s0 k).1[(nIt g s0 k).2.length]? with
    | none =>
      have e : nStep g (nIt g s0 k) = nIt g s0 k := by unfold nStep; rw [q]
      rw [e]
      have := List.getElem?_eq_none_iff.mp q
      exact ⟨Or.inr this, ih.2⟩
    | some t =>
      rw [nStep_at q]
      have hl : (nIt g s0 k).2.length < (nIt g s0 k).1.length := by
        rcases Nat.lt_or_ge (nIt g s0 k).2.length (nIt g s0 k).1.length with z | z
        · exact z
        · rw [List.getElem?_eq_none z] at q; cases q
      obtain ⟨more, e⟩ := allT_pre (ms := g t) (ts := (nIt g s0 k).1)
      refine ⟨Or.inl ?_, ?_⟩
      · rw [List.length_append, List.length_singleton]
        rcases ih.1 with h | h
        · omega
        · omega
      · rw [e, List.length_append, List.length_append, List.length_singleton]; omega
theorem nIt_mv (h0 : s0 ∈ U) (hU : ∀ t ∈ U, ∀ m ∈ g t, m.2 ∈ U) : ∀ (k : Nat) (row : List (Str × Int)), row ∈ (nIt g s0 k).2 → (Rising row ∧ ∃ t ∈ U, row.length ≤ (g t).length ∧ ∀ p ∈ row, 0 ≤ p.2 ∧ p.2 < ((nIt g s0 k).1.length : Nat) ∧ ∃ m ∈ g t, p.1 = m.1)
  | 0, _, h => by cases h
  | k + 1, row, h => by
    change row ∈ (nStep g (nIt g s0 k)).2 at h
    show Rising row ∧ ∃ t ∈ U, row.length ≤ (g t).length ∧ ∀ p ∈ row, 0 ≤ p.2 ∧ p.2 < ((nStep g (nIt g s0 k)).1.length : Nat) ∧ ∃ m ∈ g t, p.1 = m.1
    cases q : (nIt g s0 k).1[(nIt g s0 k).2.length]? with
    | none =>
      have e : nStep g (nIt g s0 k) = nIt g s0 k := by unfold nStep; rw [q]
      rw [e] at h ⊢
      exact nIt_mv h0 hU k row h
    | some t =>
      rw [nStep_at q] at h ⊢
      obtain ⟨more, e⟩ := allT_pre (ms := g t) (ts := (nIt g s0 k).1)
      rcases List.mem_append.mp h with h | h
      · obtain ⟨a, t1, b, c, d⟩ := nIt_mv h0 hU k row h
        refine ⟨a, t1, b, c, fun p hp => ?_⟩
        obtain ⟨x, y, z⟩ := d p hp
        refine ⟨x, ?_, z⟩
        show p.2 < ((allT (nIt g s0 k).1 (g t)).length : Nat)
        rw [e, List.length_append]; omega
      · rw [List.mem_singleton.mp h]
        refine ⟨sortU_rising _, t, (nIt_sub h0 hU k).2.1 t (List.mem_of_getElem? q), ?_, fun p hp => ?_⟩
        · have := sortU_len ((g t).map fun m => (m.1, ixT (allT (nIt g s0 k).1 (g t)) m.2))
          rw [List.length_map] at this
          exact this
        · obtain ⟨m, hm, rfl⟩ := List.mem_map.mp (mem_sortU.mp hp)
          have := ixT_lt (allT_mem.mpr (Or.inr ⟨m, hm, rfl⟩) : m.2 ∈ allT (nIt g s0 k).1 (g t))
          exact ⟨this.1, this.2, m, hm, rfl⟩
end
theorem besM_ok {M1 M2 : Mch} {ws W : List Str} (S : Side M1 ws M2) (d1 : DeedsIn W M1) (d2 : DeedsIn W M2) (hW : W.length ≤ 8) : MOk (besM M1 ws M2) ∧ RowsLe 24 (besM M1 ws M2) ∧ (besM M1 ws M2).items.length ≤ 144 := by
  have Q := side_num S d1 d2 hW
  have hcl : ∀ t ∈ prs2 M1 M2, ∀ m ∈ sortL (pmL M1 ws M2 t), m.2 ∈ prs2 M1 M2 := fun t ht m hm => (Q.cl t ht m hm).1
  have done := nIt_done (g := fun t => sortL (pmL M1 ws M2 t)) (s0 := (0, 0)) (prs2 M1 M2).length
  have le := nIt_le (g := fun t => sortL (pmL M1 ws M2 t)) Q.st hcl (prs2 M1 M2).length
  have po := (nIt_sub (g := fun t => sortL (pmL M1 ws M2 t)) Q.st hcl (prs2 M1 M2).length).2.2
  have mv := nIt_mv (g := fun t => sortL (pmL M1 ws M2 t)) Q.st hcl (prs2 M1 M2).length
  have h144 : (prs2 M1 M2).length ≤ 144 := by
    rw [prs2_len]
    exact Nat.le_trans (Nat.mul_le_mul S.n1 S.n2) (by decide)
  have eb : besM M1 ws M2 = Tup.mk ((nIt (fun t => sortL (pmL M1 ws M2 t)) (0, 0) (prs2 M1 M2).length).2.map Tup.mk) := rfl
  have gl : ∀ t, (sortL (pmL M1 ws M2 t)).length ≤ 24 := fun t => by rw [sortL_len]; exact pmL_len S.l1 S.l2
  rw [eb]
  generalize nIt (fun t => sortL (pmL M1 ws M2 t)) (0, 0) (prs2 M1 M2).length = st at *
  obtain ⟨ts, rows⟩ := st
  have done : (rows.length = (prs2 M1 M2).length ∨ ts.length ≤ rows.length) ∧ rows.length ≤ ts.length := done
  have le : ts.length ≤ (prs2 M1 M2).length := le
  have po : 0 < ts.length := po
  have er : rows.length = ts.length := by omega
  have rl : ∀ r ∈ rows, r.length ≤ 24 := fun r hr => by
    obtain ⟨_, t, _, h, _⟩ := mv r hr
    exact Nat.le_trans h (gl t)
  have il : (Tup.mk (rows.map Tup.mk) : Mch).items.length = rows.length := List.length_map ..
  have sz : Mch.size (Tup.mk (rows.map Tup.mk)) ≤ 24 * rows.length := by
    have gen : ∀ (rs : List (List (Str × Int))), (∀ r ∈ rs, r.length ≤ 24) → ((rs.map Tup.mk).map fun r : Tup (Str × Int) => r.items.length).sum ≤ 24 * rs.length := fun rs => by
      induction rs with
      | nil => intro _; simp
      | cons r rs ih =>
        intro h
        have a := h r List.mem_cons_self
        have b := ih fun q hq => h q (List.mem_cons_of_mem _ hq)
        simp only [List.map_cons, List.sum_cons, List.length_cons]
        omega
    have := gen rows rl
    simp only [Mch.size, Mch.rows, List.map_map, Function.comp_def] at this ⊢
    exact this
  refine ⟨⟨by rw [il]; omega, by rw [il]; omega, fun r hr p hp => ?_, fun r hr => ?_, ?_, Nat.le_trans sz (by omega)⟩, fun r hr => ?_, by rw [il]; omega⟩
  · obtain ⟨r0, hr0, rfl⟩ := List.mem_map.mp hr
    obtain ⟨_, t, tU, _, h⟩ := mv r0 hr0
    obtain ⟨a, b, m, hm, e⟩ := h p hp
    refine ⟨a, by rw [il, er]; exact b, ?_⟩
    rw [e]
    rcases mem_pmL.mp (mem_sortL.mp hm) with ⟨_, h, _⟩ | ⟨_, h, _⟩ | ⟨_, h, _⟩
    · exact (rowAt_mv S.ok1 h).2.2
    · exact (rowAt_mv S.ok2 h).2.2
    · exact (rowAt_mv S.ok1 h).2.2
  · obtain ⟨r0, hr0, rfl⟩ := List.mem_map.mp hr
    exact (mv r0 hr0).1
  · refine Nat.le_trans (nodup_le _ W (sortU_rising _).nodup fun w hw => ?_) hW
    obtain ⟨r, hr, h⟩ := mem_deeds.mp (mem_sortU.mp hw)
    obtain ⟨r0, hr0, rfl⟩ := List.mem_map.mp hr
    obtain ⟨_, t, tU, _, h2⟩ := mv r0 hr0
    unfold rowDeeds at h
    obtain ⟨p, hp, rfl⟩ := List.mem_map.mp h
    obtain ⟨h3, h4⟩ := List.mem_filter.mp hp
    obtain ⟨_, _, m, hm, e⟩ := h2 p h3
    have h4 : p.1 ≠ ("" : Str) := of_decide_eq_true h4
    rw [e] at h4 ⊢
    exact (Q.cl t tU m hm).2.resolve_right h4
  · obtain ⟨r0, hr0, rfl⟩ := List.mem_map.mp hr
    exact rl r0 hr0
theorem insD_up {α : Type} [DecidableEq α] [DatumOrd α] {a : α} : ∀ {xs : List α}, xs.Pairwise (fun a b => leD a b = true) → (insD a xs).Pairwise (fun a b => leD a b = true)
  | [], _ => List.pairwise_singleton _ _
  | b :: r, h => by
    have h' := List.pairwise_cons.mp h
    unfold insD
    split
    · rename_i c
      refine List.pairwise_cons.mpr ⟨fun x hx => ?_, h⟩
      rcases List.mem_cons.mp hx with rfl | hx
      · exact c
      · exact leD_trans _ _ _ c (h'.1 x hx)
    · rename_i c
      have c2 : leD b a = true := by
        have := leD_total a b
        simp only [Bool.or_eq_true] at this
        exact this.resolve_left c
      refine List.pairwise_cons.mpr ⟨fun x hx => ?_, insD_up h'.2⟩
      rcases List.mem_cons.mp ((insD_perm a r).mem_iff.mp hx) with rfl | hx
      · exact c2
      · exact h'.1 x hx
theorem isort_up {α : Type} [DecidableEq α] [DatumOrd α] : ∀ xs : List α, (isort xs).Pairwise (fun a b => leD a b = true)
  | [] => List.Pairwise.nil
  | a :: r => insD_up (isort_up r)
theorem up_unique {α : Type} [DecidableEq α] [DatumOrd α] [OrdL α] : ∀ {xs ys : List α}, xs.Pairwise (fun a b => leD a b = true) → ys.Pairwise (fun a b => leD a b = true) → xs.Perm ys → xs = ys
  | [], ys, _, _, p => (List.Perm.nil_eq p)
  | x :: xs, ys, hx, hy, p => by
    cases ys with
    | nil => exact absurd p.length_eq (by simp)
    | cons y ys =>
      have hx' := List.pairwise_cons.mp hx
      have hy' := List.pairwise_cons.mp hy
      have e : x = y := by
        rcases List.mem_cons.mp (p.mem_iff.mp List.mem_cons_self) with e | h1
        · exact e
        · rcases List.mem_cons.mp (p.mem_iff.mpr List.mem_cons_self) with e | h2
          · exact e.symm
          · have a := hx'.1 y h2
            have b := hy'.1 x h1
            unfold leD at a b
            exact OrdL.tri _ _ (by simpa using b) (by simpa using a)
      subst e
      rw [up_unique hx'.2 hy'.2 (List.Perm.cons_inv p)]
theorem sortL_isort {α : Type} [DecidableEq α] [DatumOrd α] [OrdL α] (xs : List α) : sortL xs = isort xs := up_unique (sortL_up xs) (isort_up xs) ((sortL_perm xs).trans (isort_perm xs).symm)
def rowK (ts : List P2) (ms : List (Str × P2)) : List (Str × Int) := isort (once (ms.map fun m => (m.1, ixT ts m.2)))
def nStepK (g : P2 → List (Str × P2)) (st : NSt P2) : NSt P2 := match st.1[st.2.length]? with
  | none => st
  | some t => (allT st.1 (g t), st.2 ++ [rowK (allT st.1 (g t)) (g t)])
def nItK (g : P2 → List (Str × P2)) (s0 : P2) : Nat → NSt P2
  | 0 => ([s0], [])
  | k + 1 => nStepK g (nItK g s0 k)
theorem nItK_eq {f : P2 → List (Str × P2)} {s0 : P2} : ∀ k, nIt (fun t => sortL (f t)) s0 k = nItK (fun t => isort (f t)) s0 k
  | 0 => rfl
  | k + 1 => by
    show nStep _ (nIt _ s0 k) = nStepK _ (nItK _ s0 k)
    rw [nItK_eq k]
    unfold nStep nStepK rowT rowK sortU
    simp only [sortL_isort]
    all_goals (generalize (nItK (fun t => isort (f t)) s0 k).1[(nItK (fun t => isort (f t)) s0 k).2.length]? = o; cases o <;> rfl)
def besK (M1 : Mch) (ws : List Str) (M2 : Mch) : Mch := Tup.mk ((nItK (fun t => isort (pmL M1 ws M2 t)) (0, 0) (prs2 M1 M2).length).2.map Tup.mk)
theorem besK_eq (M1 : Mch) (ws : List Str) (M2 : Mch) : besM M1 ws M2 = besK M1 ws M2 := by
  unfold besM numM besK
  rw [nItK_eq]
theorem mok_dec {M : Mch} (h : decide (1 ≤ M.items.length ∧ M.items.length ≤ 300 ∧ (∀ r ∈ M.items, ∀ p ∈ r.items, 0 ≤ p.2 ∧ p.2 < M.items.length ∧ (isWordS p.1 = true ∨ p.1 = ("" : Str))) ∧ (∀ r ∈ M.items, r.items.Pairwise fun a b => DatumOrd.lt a b = true) ∧ M.deeds.length ≤ 8 ∧ M.size ≤ 40000) = true) : MOk M := by
  obtain ⟨a, b, c, d, e, f⟩ := of_decide_eq_true h
  exact ⟨a, b, c, d, Nat.le_trans (sortU_len _) e, f⟩
abbrev W17 : List Str := ["a", "b"]
abbrev R17 := PySem.W.T4 Mch (Tup Str) Mch Mch
def good17 (r : R17) : Prop := (Side r.a r.b.items r.c ∧ IsSet r.b.items ∧ DeedsIn W17 r.a ∧ DeedsIn W17 r.c) ∧ besM r.a r.b.items r.c = r.d
def mB (M : Mch) : Bool := decide (1 ≤ M.items.length ∧ M.items.length ≤ 300 ∧ (∀ r ∈ M.items, ∀ p ∈ r.items, 0 ≤ p.2 ∧ p.2 < M.items.length ∧ (isWordS p.1 = true ∨ p.1 = ("" : Str))) ∧ (∀ r ∈ M.items, r.items.Pairwise fun a b => DatumOrd.lt a b = true) ∧ M.deeds.length ≤ 8 ∧ M.size ≤ 40000)
def goodB (r : R17) : Bool := mB r.a && mB r.c && decide ((∀ x ∈ r.a.items, x.items.length ≤ 4) ∧ (∀ x ∈ r.c.items, x.items.length ≤ 4) ∧ r.a.items.length ≤ 12 ∧ r.c.items.length ≤ 12 ∧ (∀ w ∈ r.b.items, isWordS w = true) ∧ r.b.items.length ≤ 8 ∧ (r.b.items.Pairwise fun a b => DatumOrd.lt a b = true) ∧ (∀ x ∈ r.a.items, ∀ p ∈ x.items, p.1 ∈ W17 ∨ p.1 = ("" : Str)) ∧ ∀ x ∈ r.c.items, ∀ p ∈ x.items, p.1 ∈ W17 ∨ p.1 = ("" : Str)) && decide (besK r.a r.b.items r.c = r.d)
theorem good_of {r : R17} (h : goodB r = true) : good17 r := by
  unfold goodB at h
  simp only [Bool.and_eq_true] at h
  obtain ⟨⟨⟨m1, m2⟩, d⟩, e⟩ := h
  obtain ⟨l1, l2, n1, n2, w, b8, up, d1, d2⟩ := of_decide_eq_true d
  exact ⟨⟨⟨mok_dec m1, mok_dec m2, l1, l2, n1, n2, by omega⟩, ⟨w, b8, up⟩, d1, d2⟩, (besK_eq _ _ _).trans (of_decide_eq_true e)⟩
def spin17 : Mch := ⟨[⟨[("", 0)]⟩]⟩
def stop17 : Mch := ⟨[⟨[]⟩]⟩
def a17 : Mch := ⟨[⟨[("a", 1)]⟩, ⟨[]⟩]⟩
def two17 : Mch := ⟨[⟨[("a", 1), ("a", 2)]⟩, ⟨[]⟩, ⟨[]⟩]⟩
def rows17 : List R17 := [⟨spin17, ⟨[]⟩, spin17, spin17⟩, ⟨stop17, ⟨[]⟩, stop17, stop17⟩, ⟨a17, ⟨["a"]⟩, stop17, stop17⟩, ⟨a17, ⟨[]⟩, stop17, a17⟩, ⟨a17, ⟨["a"]⟩, a17, a17⟩,
  ⟨a17, ⟨[]⟩, a17, ⟨[⟨[("a", 1), ("a", 2)]⟩, ⟨[("a", 3)]⟩, ⟨[("a", 3)]⟩, ⟨[]⟩]⟩⟩, ⟨⟨[⟨[("a", 0)]⟩]⟩, ⟨["a"]⟩, a17, a17⟩,
  ⟨⟨[⟨[("a", 0), ("b", 0)]⟩]⟩, ⟨["b"]⟩, a17, ⟨[⟨[("a", 0), ("a", 1)]⟩, ⟨[("a", 1)]⟩]⟩⟩,
  ⟨two17, ⟨["a"]⟩, two17, ⟨[⟨[("a", 1), ("a", 2), ("a", 3), ("a", 4)]⟩, ⟨[]⟩, ⟨[]⟩, ⟨[]⟩, ⟨[]⟩]⟩⟩,
  ⟨⟨[⟨[("", 1)]⟩, ⟨[("a", 0)]⟩]⟩, ⟨["a"]⟩, a17, ⟨[⟨[("", 1)]⟩, ⟨[("a", 2)]⟩, ⟨[("", 3)]⟩, ⟨[]⟩]⟩⟩]
theorem rows17_good : ∀ r ∈ rows17, good17 r := by
  have h : rows17.all goodB = true := by decide +kernel
  exact fun r hr => good_of (List.all_eq_true.mp h r hr)
theorem good_show {M1 M2 : Mch} {ws W : List Str} (S : Side M1 ws M2) (d1 : DeedsIn W M1) (d2 : DeedsIn W M2) (hW : W.length ≤ 8) : ShowOk (Datum.toD (besM M1 ws M2)) := by
  obtain ⟨ok, le, l⟩ := besM_ok S d1 d2 hW
  exact (mch_showK ok le l).ok (by decide) (by decide)
theorem eqR {neg : Bool} {z : Str} {C : PV → Prop} (c : C (.dat (.bool (!neg)))) : eqP neg [.dat (.str z), .dat (.str z)] C := by
  rw [eq_str]
  cases neg <;> simpa using c
def sp__law_known_right_a93679 : HSp := fun ps n C => ps = [] ∧ C (.dat (.bool true)) n
def h__law_known_right_a93679 : HS :=
    (hSeq (fun D s => (hTup (hE (hTup (hE (hTup (hE (hTup (hE (hK (.str "")) (hE (hK (.int 0)) hNil))) hNil)) hNil)) (hE (hTup (hE (hTup hNil) hNil)) (hE (hTup (hE (hTup (hE (hTup (hE (hK (.str "a")) (hE (hK (.int 1)) hNil))) hNil)) (hE (hTup hNil) hNil))) hNil)))) s fun p s1 => ∃ d, p.frz = some d ∧ (gT 0 1 2) d s1 D.nx)
    (hSeq (hAsg (hLst (hE (hTup (hE (hV 0) (hE (hTup hNil) (hE (hV 0) (hE (hV 0) hNil))))) (hE (hTup (hE (hV 1) (hE (hTup hNil) (hE (hV 1) (hE (hV 1) hNil))))) (hE (hTup (hE (hV 2) (hE (hTup (hE (hK (.str "a")) hNil)) (hE (hV 1) (hE (hV 1) hNil))))) (hE (hTup (hE (hV 2) (hE (hTup hNil) (hE (hV 1) (hE (hV 2) hNil))))) hNil))))) 3)
    (hSeq (hDrop (hApp 3 (hTup (hE (hV 2) (hE (hTup (hE (hK (.str "a")) hNil)) (hE (hV 2) (hE (hV 2) hNil)))))))
    (hSeq (hDrop (hApp 3 (hTup (hE (hV 2) (hE (hTup hNil) (hE (hV 2) (hE (hTup (hE (hTup (hE (hTup (hE (hK (.str "a")) (hE (hK (.int 1)) hNil))) (hE (hTup (hE (hK (.str "a")) (hE (hK (.int 2)) hNil))) hNil))) (hE (hTup (hE (hTup (hE (hK (.str "a")) (hE (hK (.int 3)) hNil))) hNil)) (hE (hTup (hE (hTup (hE (hK (.str "a")) (hE (hK (.int 3)) hNil))) hNil)) (hE (hTup hNil) hNil))))) hNil)))))))
    (hSeq (hDrop (hApp 3 (hTup (hE (hTup (hE (hTup (hE (hTup (hE (hK (.str "a")) (hE (hK (.int 0)) hNil))) hNil)) hNil)) (hE (hTup (hE (hK (.str "a")) hNil)) (hE (hV 2) (hE (hV 2) hNil)))))))
    (hSeq (hDrop (hApp 3 (hTup (hE (hTup (hE (hTup (hE (hTup (hE (hK (.str "a")) (hE (hK (.int 0)) hNil))) (hE (hTup (hE (hK (.str "b")) (hE (hK (.int 0)) hNil))) hNil))) hNil)) (hE (hTup (hE (hK (.str "b")) hNil)) (hE (hV 2) (hE (hTup (hE (hTup (hE (hTup (hE (hK (.str "a")) (hE (hK (.int 0)) hNil))) (hE (hTup (hE (hK (.str "a")) (hE (hK (.int 1)) hNil))) hNil))) (hE (hTup (hE (hTup (hE (hK (.str "a")) (hE (hK (.int 1)) hNil))) hNil)) hNil))) hNil)))))))
    (hSeq (hAsg (hTup (hE (hTup (hE (hTup (hE (hK (.str "a")) (hE (hK (.int 1)) hNil))) (hE (hTup (hE (hK (.str "a")) (hE (hK (.int 2)) hNil))) hNil))) (hE (hTup hNil) (hE (hTup hNil) hNil)))) 4)
    (hSeq (hDrop (hApp 3 (hTup (hE (hV 4) (hE (hTup (hE (hK (.str "a")) hNil)) (hE (hV 4) (hE (hTup (hE (hTup (hE (hTup (hE (hK (.str "a")) (hE (hK (.int 1)) hNil))) (hE (hTup (hE (hK (.str "a")) (hE (hK (.int 2)) hNil))) (hE (hTup (hE (hK (.str "a")) (hE (hK (.int 3)) hNil))) (hE (hTup (hE (hK (.str "a")) (hE (hK (.int 4)) hNil))) hNil))))) (hE (hTup hNil) (hE (hTup hNil) (hE (hTup hNil) (hE (hTup hNil) hNil)))))) hNil)))))))
    (hSeq (hDrop (hApp 3 (hTup (hE (hTup (hE (hTup (hE (hTup (hE (hK (.str "")) (hE (hK (.int 1)) hNil))) hNil)) (hE (hTup (hE (hTup (hE (hK (.str "a")) (hE (hK (.int 0)) hNil))) hNil)) hNil))) (hE (hTup (hE (hK (.str "a")) hNil)) (hE (hV 2) (hE (hTup (hE (hTup (hE (hTup (hE (hK (.str "")) (hE (hK (.int 1)) hNil))) hNil)) (hE (hTup (hE (hTup (hE (hK (.str "a")) (hE (hK (.int 2)) hNil))) hNil)) (hE (hTup (hE (hTup (hE (hK (.str "")) (hE (hK (.int 3)) hNil))) hNil)) (hE (hTup hNil) hNil))))) hNil)))))))
    (hRet (hC (eqP false) (hE (hLc (hiL (hV 3)) (gN 5) (hB (hC (eqP true) (hE (hC reprW (hE (hCall sp_put_beside_e418b7 3 (hE (hC ixW (hL 5 (hE (hK (.int 0)) hNil))) (hE (hC ixW (hL 5 (hE (hK (.int 1)) hNil))) (hE (hC ixW (hL 5 (hE (hK (.int 2)) hNil))) hNil)))) hNil)) (hE (hC reprW (hE (hC ixW (hL 5 (hE (hK (.int 3)) hNil))) hNil)) hNil)))) (hV 5) [5]) (hE (hLst hNil) hNil)))))))))))))
def kr_9 : HS := (hRet (hC (eqP false) (hE (hLc (hiL (hV 3)) (gN 5) (hB (hC (eqP true) (hE (hC reprW (hE (hCall sp_put_beside_e418b7 3 (hE (hC ixW (hL 5 (hE (hK (.int 0)) hNil))) (hE (hC ixW (hL 5 (hE (hK (.int 1)) hNil))) (hE (hC ixW (hL 5 (hE (hK (.int 2)) hNil))) hNil)))) hNil)) (hE (hC reprW (hE (hC ixW (hL 5 (hE (hK (.int 3)) hNil))) hNil)) hNil)))) (hV 5) [5]) (hE (hLst hNil) hNil))))
def kr_8 : HS := (hSeq (hDrop (hApp 3 (hTup (hE (hTup (hE (hTup (hE (hTup (hE (hK (.str "")) (hE (hK (.int 1)) hNil))) hNil)) (hE (hTup (hE (hTup (hE (hK (.str "a")) (hE (hK (.int 0)) hNil))) hNil)) hNil))) (hE (hTup (hE (hK (.str "a")) hNil)) (hE (hV 2) (hE (hTup (hE (hTup (hE (hTup (hE (hK (.str "")) (hE (hK (.int 1)) hNil))) hNil)) (hE (hTup (hE (hTup (hE (hK (.str "a")) (hE (hK (.int 2)) hNil))) hNil)) (hE (hTup (hE (hTup (hE (hK (.str "")) (hE (hK (.int 3)) hNil))) hNil)) (hE (hTup hNil) hNil))))) hNil))))))) kr_9)
def kr_7 : HS := (hSeq (hDrop (hApp 3 (hTup (hE (hV 4) (hE (hTup (hE (hK (.str "a")) hNil)) (hE (hV 4) (hE (hTup (hE (hTup (hE (hTup (hE (hK (.str "a")) (hE (hK (.int 1)) hNil))) (hE (hTup (hE (hK (.str "a")) (hE (hK (.int 2)) hNil))) (hE (hTup (hE (hK (.str "a")) (hE (hK (.int 3)) hNil))) (hE (hTup (hE (hK (.str "a")) (hE (hK (.int 4)) hNil))) hNil))))) (hE (hTup hNil) (hE (hTup hNil) (hE (hTup hNil) (hE (hTup hNil) hNil)))))) hNil))))))) kr_8)
def kr_6 : HS := (hSeq (hAsg (hTup (hE (hTup (hE (hTup (hE (hK (.str "a")) (hE (hK (.int 1)) hNil))) (hE (hTup (hE (hK (.str "a")) (hE (hK (.int 2)) hNil))) hNil))) (hE (hTup hNil) (hE (hTup hNil) hNil)))) 4) kr_7)
def kr_5 : HS := (hSeq (hDrop (hApp 3 (hTup (hE (hTup (hE (hTup (hE (hTup (hE (hK (.str "a")) (hE (hK (.int 0)) hNil))) (hE (hTup (hE (hK (.str "b")) (hE (hK (.int 0)) hNil))) hNil))) hNil)) (hE (hTup (hE (hK (.str "b")) hNil)) (hE (hV 2) (hE (hTup (hE (hTup (hE (hTup (hE (hK (.str "a")) (hE (hK (.int 0)) hNil))) (hE (hTup (hE (hK (.str "a")) (hE (hK (.int 1)) hNil))) hNil))) (hE (hTup (hE (hTup (hE (hK (.str "a")) (hE (hK (.int 1)) hNil))) hNil)) hNil))) hNil))))))) kr_6)
def kr_4 : HS := (hSeq (hDrop (hApp 3 (hTup (hE (hTup (hE (hTup (hE (hTup (hE (hK (.str "a")) (hE (hK (.int 0)) hNil))) hNil)) hNil)) (hE (hTup (hE (hK (.str "a")) hNil)) (hE (hV 2) (hE (hV 2) hNil))))))) kr_5)
def kr_3 : HS := (hSeq (hDrop (hApp 3 (hTup (hE (hV 2) (hE (hTup hNil) (hE (hV 2) (hE (hTup (hE (hTup (hE (hTup (hE (hK (.str "a")) (hE (hK (.int 1)) hNil))) (hE (hTup (hE (hK (.str "a")) (hE (hK (.int 2)) hNil))) hNil))) (hE (hTup (hE (hTup (hE (hK (.str "a")) (hE (hK (.int 3)) hNil))) hNil)) (hE (hTup (hE (hTup (hE (hK (.str "a")) (hE (hK (.int 3)) hNil))) hNil)) (hE (hTup hNil) hNil))))) hNil))))))) kr_4)
def kr_2 : HS := (hSeq (hDrop (hApp 3 (hTup (hE (hV 2) (hE (hTup (hE (hK (.str "a")) hNil)) (hE (hV 2) (hE (hV 2) hNil))))))) kr_3)
def kr_1 : HS := (hSeq (hAsg (hLst (hE (hTup (hE (hV 0) (hE (hTup hNil) (hE (hV 0) (hE (hV 0) hNil))))) (hE (hTup (hE (hV 1) (hE (hTup hNil) (hE (hV 1) (hE (hV 1) hNil))))) (hE (hTup (hE (hV 2) (hE (hTup (hE (hK (.str "a")) hNil)) (hE (hV 1) (hE (hV 1) hNil))))) (hE (hTup (hE (hV 2) (hE (hTup hNil) (hE (hV 1) (hE (hV 2) hNil))))) hNil))))) 3) kr_2)
def kr_0 : HS := (hSeq (fun D s => (hTup (hE (hTup (hE (hTup (hE (hTup (hE (hK (.str "")) (hE (hK (.int 0)) hNil))) hNil)) hNil)) (hE (hTup (hE (hTup hNil) hNil)) (hE (hTup (hE (hTup (hE (hTup (hE (hK (.str "a")) (hE (hK (.int 1)) hNil))) hNil)) (hE (hTup hNil) hNil))) hNil)))) s fun p s1 => ∃ d, p.frz = some d ∧ (gT 0 1 2) d s1 D.nx) kr_1)
theorem kr_eq : h__law_known_right_a93679 = kr_0 := rfl
theorem rd__law_known_right_a93679 : ∀ pvs n C, pvs.length = 0 → sp__law_known_right_a93679 pvs n C → h__law_known_right_a93679 ⟨fun s => C (.dat .none) s.n, fun p s => C p s.n, fun _ => False, fun _ => False⟩ ⟨pvs.map some ++ List.replicate (6 - pvs.length) none, n⟩ := by
  intro pvs n C _ h
  obtain ⟨rfl, q⟩ := h
  rw [kr_eq]
  unfold kr_0
  simp [dats]
  unfold kr_1
  simp [dats]
  unfold kr_2
  simp [dats]
  unfold kr_3
  simp [dats]
  unfold kr_4
  simp [dats]
  unfold kr_5
  simp [dats]
  unfold kr_6
  simp [dats]
  unfold kr_7
  simp [dats]
  unfold kr_8
  simp [dats]
  unfold kr_9
  simp [-hLc, dats]
  refine hLc_eq.mpr ?_
  simp [-lcs]
  refine lcs_filter2 (xs := rows17) (Datum.toD : R17 → PyData) (Datum.toD : R17 → PyData) (fun _ => false) (fun r hr K hF hT => ?_) [] _ (by decide) ?_
  · obtain ⟨⟨S, hs, d1, d2⟩, eb⟩ := rows17_good r hr
    have sh := good_show S d1 d2 (by decide)
    have er : (Datum.toD r : PyData) = .tuple [Datum.toD r.a, Datum.toD r.b, Datum.toD r.c, Datum.toD r.d] := rfl
    have eb1 : (Datum.toD r.b : PyData) = .tuple (r.b.items.map .str) := rfl
    rw [er]
    simp
    refine ⟨_, rfl, _, rfl, _, rfl, r.a, r.c, r.b.items, W17, by rw [eb1], S, hs, d1, d2, by decide, ?_⟩
    refine ⟨_, rfl, repr_ok sh rfl ⟨_, rfl, _, rfl, repr_ok (d := Datum.toD r.d) (by rw [← eb]; exact sh) rfl ⟨_, rfl, ?_⟩⟩⟩
    rw [eb]
    exact eqR (Or.inl ⟨rfl, hF rfl _ rfl⟩)
  · have e : rows17.filter (fun _ => false) = [] := by decide +kernel
    simp only [e]
    exact ⟨_, rfl, eqP_same (neg := false) (p := .dat (.list [])) (q := .dat (.list [])) (d := .list []) (C := fun p => C p n) rfl rfl rfl (by decide) q⟩
theorem side_of {M1 M2 : Mch} {ws : List Str} (ok1 : MOk M1) (ok2 : MOk M2) (l1 : RowsLe 4 M1) (l2 : RowsLe 4 M2) (n1 : M1.items.length ≤ 10) (n2 : M2.items.length ≤ 10) (hw : ws.length ≤ 100) : Side M1 ws M2 := ⟨ok1, ok2, l1, l2, by omega, by omega, hw⟩
theorem isSet_of {L ws : List Str} (h : Rising L) (sub : ∀ w ∈ L, w ∈ ws) (l : L.length ≤ ws.length) (hw : ws.length ≤ 8) (hws : ∀ w ∈ ws, isWordS w = true) : IsSet L := ⟨fun w h => hws w (sub w h), by omega, h⟩
abbrev turnB17 : HS := (hSeq (hAsg (hC ixW (hL 6 (hE (hC modW (hL 7 (hE (hK (.int 2)) hNil))) hNil))) 8)
    (hSeq (hIfS (hB (hC (eqP true) (hE (hC reprW (hE (hCall sp_put_beside_e418b7 3 (hL 4 (hL 8 (hL 5 hNil)))) hNil)) (hE (hC reprW (hE (hCall sp__law_due_10adf9 3 (hL 4 (hL 8 (hL 5 hNil)))) hNil)) hNil)))) (hRet (hK (.bool false))) hNext)
    (hIfS (hB (hC (eqP true) (hE (hC reprW (hE (hCall sp_put_beside_e418b7 3 (hL 5 (hL 8 (hL 4 hNil)))) hNil)) (hE (hC reprW (hE (hCall sp__law_due_10adf9 3 (hL 5 (hL 8 (hL 4 hNil)))) hNil)) hNil)))) (hRet (hK (.bool false))) hNext)))
theorem turn_loop {D : HD} {M1 M2 : Mch} {A B W : List Str} {o0 o2 o3 : Option PV} {n : Nat} (ok1 : MOk M1) (ok2 : MOk M2) (l1 : RowsLe 4 M1) (l2 : RowsLe 4 M2) (n1 : M1.items.length ≤ 10) (n2 : M2.items.length ≤ 10) (d1 : DeedsIn W M1) (d2 : DeedsIn W M2) (hW : W.length ≤ 8) (hA : IsSet A) (hB : IsSet B) : ∀ (ks : List Nat) (o7 o8 : Option PV),
    (∀ (o7' o8' : Option PV), D.nx ⟨[o0, some .drw, o2, o3, some (.dat (Datum.toD M1)), some (.dat (Datum.toD M2)), some (.own [.tuple (A.map .str), .tuple (B.map .str)]), o7', o8'], n⟩) →
    each (gN 7) turnB17 D (ks.map fun i => PyData.int ((i : Nat) : Int)) ⟨[o0, some .drw, o2, o3, some (.dat (Datum.toD M1)), some (.dat (Datum.toD M2)), some (.own [.tuple (A.map .str), .tuple (B.map .str)]), o7, o8], n⟩ := by
  intro ks
  induction ks with
  | nil => intro o7 o8 fin; exact fin o7 o8
  | cons k ks ih =>
    intro o7 o8 fin
    rw [List.map_cons]
    show gN 7 (.int (k : Nat)) _ _
    have pick : ∃ S : List Str, IsSet S ∧ atI [PyData.tuple (A.map .str), .tuple (B.map .str)] ((k : Int) % 2) = some (.tuple (S.map .str)) := by
      have h : (k : Int) % 2 = 0 ∨ (k : Int) % 2 = 1 := by omega
      rcases h with h | h
      · rw [h]; exact ⟨A, hA, rfl⟩
      · rw [h]; exact ⟨B, hB, rfl⟩
    obtain ⟨S, hS, eS⟩ := pick
    simp [-each, eS]
    have s8 := hS.2.1
    have S12 := side_of ok1 ok2 l1 l2 n1 n2 (ws := S) (by omega)
    have S21 := side_of ok2 ok1 l2 l1 n2 n1 (ws := S) (by omega)
    have sh12 := good_show S12 d1 d2 hW
    have sh21 := good_show S21 d2 d1 hW
    refine ⟨M1, M2, S, W, rfl, S12, hS, d1, d2, hW, _, rfl, repr_ok sh12 rfl ⟨_, rfl, M1, M2, S, rfl, S12, _, rfl, repr_ok sh12 rfl ⟨_, rfl, eqR (Or.inl ⟨rfl, ?_⟩)⟩⟩⟩
    refine ⟨M2, M1, S, W, rfl, S21, hS, d2, d1, hW, _, rfl, repr_ok sh21 rfl ⟨_, rfl, M2, M1, S, rfl, S21, _, rfl, repr_ok sh21 rfl ⟨_, rfl, eqR (Or.inl ⟨rfl, ?_⟩)⟩⟩⟩
    exact ih _ _ fin
abbrev lawB17 : HS := (hSeq (hAsg (hCall sp__law_machine_5d3daf 3 (hL 1 (hE (hK (.int 10)) (hL 2 hNil)))) 4)
    (hSeq (hAsg (hIf (hB (hC (eqP false) (hE (hCall sp__law_draw_a6e186 2 (hL 1 (hE (hK (.int 5)) hNil))) (hE (hK (.int 0)) hNil)))) (hV 4) (hCall sp__law_machine_5d3daf 3 (hL 1 (hE (hK (.int 10)) (hL 2 hNil))))) 5)
    (hSeq (hAsg (hLst (hE (hCall sp__law_set_82be62 2 (hL 1 (hL 2 hNil))) (hE (hC ixW (hE (hLst (hE (hCall sp__law_set_82be62 2 (hL 1 (hL 2 hNil))) (hE (hTup hNil) (hE (hC tupW (hE (hC (sortA (Str)) (hL 2 hNil)) hNil)) hNil)))) (hE (hCall sp__law_draw_a6e186 2 (hL 1 (hE (hK (.int 3)) hNil))) hNil))) hNil))) 6)
    (hFor (hiR1 (hE (hK (.int 3)) hNil)) (gN 7) (hSeq (hAsg (hC ixW (hL 6 (hE (hC modW (hL 7 (hE (hK (.int 2)) hNil))) hNil))) 8)
    (hSeq (hIfS (hB (hC (eqP true) (hE (hC reprW (hE (hCall sp_put_beside_e418b7 3 (hL 4 (hL 8 (hL 5 hNil)))) hNil)) (hE (hC reprW (hE (hCall sp__law_due_10adf9 3 (hL 4 (hL 8 (hL 5 hNil)))) hNil)) hNil)))) (hRet (hK (.bool false))) hNext)
    (hIfS (hB (hC (eqP true) (hE (hC reprW (hE (hCall sp_put_beside_e418b7 3 (hL 5 (hL 8 (hL 4 hNil)))) hNil)) (hE (hC reprW (hE (hCall sp__law_due_10adf9 3 (hL 5 (hL 8 (hL 4 hNil)))) hNil)) hNil)))) (hRet (hK (.bool false))) hNext)))))))
abbrev tailB17 : HS := (hSeq (hAsg (hLst (hE (hCall sp__law_set_82be62 2 (hL 1 (hL 2 hNil))) (hE (hC ixW (hE (hLst (hE (hCall sp__law_set_82be62 2 (hL 1 (hL 2 hNil))) (hE (hTup hNil) (hE (hC tupW (hE (hC (sortA (Str)) (hL 2 hNil)) hNil)) hNil)))) (hE (hCall sp__law_draw_a6e186 2 (hL 1 (hE (hK (.int 3)) hNil))) hNil))) hNil))) 6)
    (hFor (hiR1 (hE (hK (.int 3)) hNil)) (gN 7) (hSeq (hAsg (hC ixW (hL 6 (hE (hC modW (hL 7 (hE (hK (.int 2)) hNil))) hNil))) 8)
    (hSeq (hIfS (hB (hC (eqP true) (hE (hC reprW (hE (hCall sp_put_beside_e418b7 3 (hL 4 (hL 8 (hL 5 hNil)))) hNil)) (hE (hC reprW (hE (hCall sp__law_due_10adf9 3 (hL 4 (hL 8 (hL 5 hNil)))) hNil)) hNil)))) (hRet (hK (.bool false))) hNext)
    (hIfS (hB (hC (eqP true) (hE (hC reprW (hE (hCall sp_put_beside_e418b7 3 (hL 5 (hL 8 (hL 4 hNil)))) hNil)) (hE (hC reprW (hE (hCall sp__law_due_10adf9 3 (hL 5 (hL 8 (hL 4 hNil)))) hNil)) hNil)))) (hRet (hK (.bool false))) hNext)))))
theorem law_loop17 {D : HD} {ws : List Str} {o0 : Option PV} (hw : ws.length ≤ 8) (hws : ∀ w ∈ ws, isWordS w = true) (nd : ws.Nodup) : ∀ (ks : List Nat) (o3 o4 o5 o6 o7 o8 : Option PV) (n : Nat), n + 13000 * ks.length < 130000000 →
    (∀ (o3' o4' o5' o6' o7' o8' : Option PV) (n' : Nat), D.nx ⟨[o0, some .drw, some (.own (ws.map .str)), o3', o4', o5', o6', o7', o8'], n'⟩) →
    each (gN 3) lawB17 D (ks.map fun i => PyData.int ((i : Nat) : Int)) ⟨[o0, some .drw, some (.own (ws.map .str)), o3, o4, o5, o6, o7, o8], n⟩ := by
  intro ks
  induction ks with
  | nil => intro o3 o4 o5 o6 o7 o8 n _ fin; exact fin o3 o4 o5 o6 o7 o8 n
  | cons k ks ih =>
    intro o3 o4 o5 o6 o7 o8 n hn fin
    have hn' : n + 13000 * (ks.length + 1) < 130000000 := by simpa using hn
    rw [List.map_cons]
    show gN 3 (.int (k : Nat)) _ _
    simp [-each, -hFor]
    refine ⟨10, ws, rfl, by decide, by decide, by omega, hws, by omega, fun M1 n1 ok1 h1 l1 c1 => ⟨Im.im M1, ?_⟩⟩
    refine drw' 5 _ _ (by decide) (by decide) (by omega) fun a a0 a1 => ?_
    have rest : ∀ (M2 : Mch) (n2 : Nat), MOk M2 → RowsLe 4 M2 → M2.items.length ≤ 10 → DeedsIn ws M2 → n2 ≤ n + 12100 →
        tailB17 { D with nx := each (gN 3) lawB17 D (ks.map fun i => PyData.int ((i : Nat) : Int)), ct := each (gN 3) lawB17 D (ks.map fun i => PyData.int ((i : Nat) : Int)), bk := D.nx } ⟨[o0, some .drw, some (.own (ws.map .str)), some (.dat (.int (k : Nat))), some (.dat (Datum.toD M1)), some (.dat (Datum.toD M2)), o6, o7, o8], n2⟩ := fun M2 n2 ok2 h2 l2 c2 hn2 => by
      simp [-each, -hFor]
      refine ⟨ws, rfl, nd, by omega, by omega, fun A n3 rA sA lA hn3 => ⟨immAll_map (α := Str) A, _, rfl, ?_⟩⟩
      refine ⟨ws, rfl, nd, by omega, by omega, fun B n4 rB sB lB hn4 => ⟨immAll_map (α := Str) B, _, rfl, ?_⟩⟩
      have isA := isSet_of rA sA lA hw hws
      have isB := isSet_of rB sB lB hw hws
      have isC : IsSet (sortL ws) := isSet_of (sortL_rising nd) (fun w h => mem_sortL.mp h) (by rw [sortL_len]; exact Nat.le_refl _) hw hws
      refine ⟨ws, rfl, _, rfl, ?_⟩
      simp [-each, -hFor]
      refine drw' 3 _ _ (by decide) (by decide) (by omega) fun b b0 b1 => ?_
      have pick : ∃ S : List Str, IsSet S ∧ atI [PyData.tuple (B.map .str), .tuple [], .tuple ((sortL ws).map Datum.toD)] b = some (.tuple (S.map .str)) := by
        have h : b = 0 ∨ b = 1 ∨ b = 2 := by omega
        rcases h with rfl | rfl | rfl
        · exact ⟨B, isB, rfl⟩
        · exact ⟨[], ⟨(fun w h => absurd h List.not_mem_nil), by decide, List.Pairwise.nil⟩, rfl⟩
        · exact ⟨sortL ws, isC, rfl⟩
      obtain ⟨S, hS, eS⟩ := pick
      simp [-each, -hFor]
      refine ⟨_, eS, ?_⟩
      have e3 : rngD 0 3 = (List.range 3).map fun i => PyData.int ((i : Nat) : Int) := by simp [rngD]
      refine (show hiR1 (hE (hK (.int 3)) hNil) _ _ from ?_)
      simp [-each]
      rw [e3]
      refine turn_loop ok1 ok2 h1 h2 (by omega) l2 c1.2 c2 hw isA hS _ _ _ fun o7' o8' => ?_
      exact ih _ _ _ _ _ _ _ (by omega) fin
    refine ⟨_, rfl, eq_int.mpr ?_⟩
    by_cases ha : a = 0
    · refine Or.inr ⟨by simp [ha], ?_⟩
      have := rest M1 (n1 + 1) ok1 h1 (by omega) c1.2 (by omega)
      simp [-each, -hFor] at this
      exact this
    · refine Or.inl ⟨by simp [ha], ?_⟩
      refine ⟨10, ws, rfl, by decide, by decide, by omega, hws, by omega, fun M2 n2 ok2 h2 l2 c2 => ⟨Im.im M2, ?_⟩⟩
      have := rest M2 n2 ok2 h2 (by omega) c2.2 (by omega)
      simp [-each, -hFor] at this
      exact this
def h_law_448b52 : HS :=
    (hSeq (hAsg (hCall sp__law_words_aaf2f6 2 (hL 1 (hE (hCall sp__law_draw_a6e186 2 (hL 1 (hE (hK (.int 9)) hNil))) hNil))) 2)
    (hSeq (hFor (hiR1 (hE (hK (.int 10)) hNil)) (gN 3) (hSeq (hAsg (hCall sp__law_machine_5d3daf 3 (hL 1 (hE (hK (.int 10)) (hL 2 hNil)))) 4)
    (hSeq (hAsg (hIf (hB (hC (eqP false) (hE (hCall sp__law_draw_a6e186 2 (hL 1 (hE (hK (.int 5)) hNil))) (hE (hK (.int 0)) hNil)))) (hV 4) (hCall sp__law_machine_5d3daf 3 (hL 1 (hE (hK (.int 10)) (hL 2 hNil))))) 5)
    (hSeq (hAsg (hLst (hE (hCall sp__law_set_82be62 2 (hL 1 (hL 2 hNil))) (hE (hC ixW (hE (hLst (hE (hCall sp__law_set_82be62 2 (hL 1 (hL 2 hNil))) (hE (hTup hNil) (hE (hC tupW (hE (hC (sortA (Str)) (hL 2 hNil)) hNil)) hNil)))) (hE (hCall sp__law_draw_a6e186 2 (hL 1 (hE (hK (.int 3)) hNil))) hNil))) hNil))) 6)
    (hFor (hiR1 (hE (hK (.int 3)) hNil)) (gN 7) (hSeq (hAsg (hC ixW (hL 6 (hE (hC modW (hL 7 (hE (hK (.int 2)) hNil))) hNil))) 8)
    (hSeq (hIfS (hB (hC (eqP true) (hE (hC reprW (hE (hCall sp_put_beside_e418b7 3 (hL 4 (hL 8 (hL 5 hNil)))) hNil)) (hE (hC reprW (hE (hCall sp__law_due_10adf9 3 (hL 4 (hL 8 (hL 5 hNil)))) hNil)) hNil)))) (hRet (hK (.bool false))) hNext)
    (hIfS (hB (hC (eqP true) (hE (hC reprW (hE (hCall sp_put_beside_e418b7 3 (hL 5 (hL 8 (hL 4 hNil)))) hNil)) (hE (hC reprW (hE (hCall sp__law_due_10adf9 3 (hL 5 (hL 8 (hL 4 hNil)))) hNil)) hNil)))) (hRet (hK (.bool false))) hNext))))))))
    (hRet (hCall sp__law_known_right_a93679 0 hNil))))
def l17_2 : HS := (hRet (hCall sp__law_known_right_a93679 0 hNil))
def l17_1 : HS := (hSeq (hFor (hiR1 (hE (hK (.int 10)) hNil)) (gN 3) (hSeq (hAsg (hCall sp__law_machine_5d3daf 3 (hL 1 (hE (hK (.int 10)) (hL 2 hNil)))) 4) (hSeq (hAsg (hIf (hB (hC (eqP false) (hE (hCall sp__law_draw_a6e186 2 (hL 1 (hE (hK (.int 5)) hNil))) (hE (hK (.int 0)) hNil)))) (hV 4) (hCall sp__law_machine_5d3daf 3 (hL 1 (hE (hK (.int 10)) (hL 2 hNil))))) 5) (hSeq (hAsg (hLst (hE (hCall sp__law_set_82be62 2 (hL 1 (hL 2 hNil))) (hE (hC ixW (hE (hLst (hE (hCall sp__law_set_82be62 2 (hL 1 (hL 2 hNil))) (hE (hTup hNil) (hE (hC tupW (hE (hC (sortA (Str)) (hL 2 hNil)) hNil)) hNil)))) (hE (hCall sp__law_draw_a6e186 2 (hL 1 (hE (hK (.int 3)) hNil))) hNil))) hNil))) 6) (hFor (hiR1 (hE (hK (.int 3)) hNil)) (gN 7) (hSeq (hAsg (hC ixW (hL 6 (hE (hC modW (hL 7 (hE (hK (.int 2)) hNil))) hNil))) 8) (hSeq (hIfS (hB (hC (eqP true) (hE (hC reprW (hE (hCall sp_put_beside_e418b7 3 (hL 4 (hL 8 (hL 5 hNil)))) hNil)) (hE (hC reprW (hE (hCall sp__law_due_10adf9 3 (hL 4 (hL 8 (hL 5 hNil)))) hNil)) hNil)))) (hRet (hK (.bool false))) hNext) (hIfS (hB (hC (eqP true) (hE (hC reprW (hE (hCall sp_put_beside_e418b7 3 (hL 5 (hL 8 (hL 4 hNil)))) hNil)) (hE (hC reprW (hE (hCall sp__law_due_10adf9 3 (hL 5 (hL 8 (hL 4 hNil)))) hNil)) hNil)))) (hRet (hK (.bool false))) hNext)))))))) l17_2)
def l17_0 : HS := (hSeq (hAsg (hCall sp__law_words_aaf2f6 2 (hL 1 (hE (hCall sp__law_draw_a6e186 2 (hL 1 (hE (hK (.int 9)) hNil))) hNil))) 2) l17_1)
theorem l17_eq : h_law_448b52 = l17_0 := rfl
theorem rd_law_448b52 : ∀ ns : List Int, ns.length ≤ 63 → h_law_448b52 lawD ⟨some (.dat (.list (ns.map .int))) :: some .drw :: List.replicate 7 none, 0⟩ := by
  intro ns _
  rw [l17_eq]
  unfold l17_0
  simp
  refine drw' 9 _ _ (by decide) (by decide) (by omega) fun a a0 a1 => ?_
  refine ⟨_, rfl, a, rfl, a0, by omega, by omega, fun ws hl hws hnd hnb => ?_⟩
  unfold l17_1
  simp
  have e10 : rngD 0 10 = (List.range 10).map fun i => PyData.int ((i : Nat) : Int) := by simp [rngD]
  rw [e10]
  refine law_loop17 (D := { nx := l17_2 lawD, rt := fun p x => p = PV.dat (.bool true) }) (by omega) hws hnd (List.range 10) none none none none none none 6 (by simp) fun o3 o4 o5 o6 o7 o8 n' => ?_
  unfold l17_2
  simp
  exact ⟨rfl, rfl⟩
end Sk
set_option Elab.async false
set_option linter.all false
set_option maxRecDepth 100000
set_option maxHeartbeats 4000000
namespace Sk
open PySem PySem.Spec PyProof.Rows L2
open PySem.W (Datum DatumOrd Tup T3 T4)
open Evl (Ex)
def topS (i : Nat) : Stmt := PySem.Challenge.pw_standhouse_k17_put_beside.main.body.getD i (.Pass ⟨0, 0, 0, 0⟩)
structure Tops (K : PySem.W.Frag) (mg : Str → Option Value) : Prop where
  n_all : mg "all" = none
  n_bool : mg "bool" = none
  n_dict : mg "dict" = none
  n_enumerate : mg "enumerate" = none
  n_int : mg "int" = none
  n_isinstance : mg "isinstance" = none
  n_len : mg "len" = none
  n_list : mg "list" = none
  n_range : mg "range" = none
  n_repr : mg "repr" = none
  n_set : mg "set" = none
  n_sorted : mg "sorted" = none
  n_str : mg "str" = none
  n_tuple : mg "tuple" = none
  n_zip : mg "zip" = none
  ex_TooGreat : EC K mg "TooGreat"
  xt : ExT K
  c_BARS : Cst K mg "BARS" c_BARS
  c_HIDDEN : Cst K mg "HIDDEN" c_HIDDEN
  c_LETTERS : Cst K mg "LETTERS" c_LETTERS
  c_MOST_DEEDS : Cst K mg "MOST_DEEDS" c_MOST_DEEDS
  c_MOST_LETTERS : Cst K mg "MOST_LETTERS" c_MOST_LETTERS
  c_MOST_NODES : Cst K mg "MOST_NODES" c_MOST_NODES
section
variable {P : Program} {w : World} {TB : Tbs} {K : PySem.W.Frag} {mg : Str → Option Value} {base : Heap}
abbrev s_is_word : Stmt := topS 10
theorem sc_is_word : FnScope ["thing", "sign"] ["thing"] (defScope s_is_word) := ⟨rfl, rfl, rfl, by decide +kernel, rfl, by decide +kernel, by decide +kernel⟩
theorem d_is_word (T : Tops K mg)  {fa : Addr} {cdv : Value} {A : Around} {outer : List Env} {s : Shared} {H : Hp} {E : XK} (hgd : (A.deeper (envOfC "is_word" (defScope s_is_word) s.heap.objs.size fa cdv)).guards = some []) (hr : Room 0 (A.deeper (envOfC "is_word" (defScope s_is_word) s.heap.objs.size fa cdv))) :
    PSs (cxOf CX0 P w K mg base ["thing", "sign"] "is_word" (defScope s_is_word) fa cdv A outer s H E).nox (defBody s_is_word) (lfS K (f0 w TB) h_is_word_e81331) := by
  have nd := sc_is_word.nd
  exact (hs_cons (hs_if (PW.pt (ht_or (ht_not (hp_test (hp_callB call_isiD op_isi (by rfl) T.n_isinstance (by decide +kernel) (hpa_cons (opd_v 0 (pv 0)) (hpa_cons (opd_w (pe_bltn (v := .ty "str") (u := .type "str") (by rfl) T.n_str (by decide +kernel) rfl)) hpa_nil))))) (ht_or (ht_not (ht_chain op_le op_le (opd_e (hp_k pe_int fun _ => .int _)) (opd_e (hp_callB call_lenAll op_lenW (by rfl) T.n_len (by decide +kernel) (hpa_cons (opd_v 0 (pv 0)) hpa_nil))) (opd_e (hp_c T.c_MOST_LETTERS (by rfl))) op_leW op_leW)) (ht_or1 (ht_cmp (op_inP (u64 hr)) (opd_v 0 (pv 0)) (opd_e (hp_c T.c_BARS (by rfl))) op_inPW (by first | exact nobehind _ (by decide) (by decide) | rfl)))))) (hs_one (hs_ret (hp_k pe_bl fun _ => .bl _))) hs_nil)
    (hs_one (hs_ret (hp_callB (cr_all rfl) op_allW (by rfl) T.n_all (by decide +kernel) (hpa_cons (opd_e (hp_lc (pe_lc (own := [("sign", 1)]) rfl nd (hi_str (hp_v 0 (pv 0))) (blkOk_by (own := [("sign", 1)]) (N := ["thing", "sign"]) (sc := defScope s_is_word) (by decide +kernel)) (fun _ _ _ _ _ => (hg_name (pg_name (i := 1) nd rfl (by first | exact .inl rfl | exact .inr rfl)))) (fun _ _ _ _ _ => pts_yes) (fun _ _ _ _ _ => (hp_cmp op_in_sign (opd_v 1 (pv 1)) (opd_e (hp_c T.c_LETTERS (by rfl))) op_inS (by first | exact nobehind _ (by decide) (by decide) | rfl)))) (by decide) gl_name)) hpa_nil)))))
theorem has_is_word (T : Tops K mg)  {fa : Addr} {fd : FuncData} (Fn : Fun K "is_word" "is_word" s_is_word fa fd) (hm : mg "is_word" = some (.ref fa)) : Has P w TB K mg base 1 "is_word" 1 sp_is_word_e81331 :=
  Has.mk' (ps := ["thing"]) Fn hm (Fn.binds fun _ _ _ _ _ _ us hl => match us, hl with | [_], _ => rfl) sc_is_word (fun _ ecd _ _ _ _ _ hgd hr => d_is_word T  hgd hr) rd_is_word_e81331
abbrev s_is_row : Stmt := topS 11
theorem sc_is_row : FnScope ["thing", "deed"] ["thing"] (defScope s_is_row) := ⟨rfl, rfl, rfl, by decide +kernel, rfl, by decide +kernel, by decide +kernel⟩
theorem d_is_row (T : Tops K mg) (g_is_word : Has P w TB K mg base 1 "is_word" 1 sp_is_word_e81331) {fa : Addr} {cdv : Value} {A : Around} {outer : List Env} {s : Shared} {H : Hp} {E : XK} (hgd : (A.deeper (envOfC "is_row" (defScope s_is_row) s.heap.objs.size fa cdv)).guards = some []) (hr : Room 1 (A.deeper (envOfC "is_row" (defScope s_is_row) s.heap.objs.size fa cdv))) :
    PSs (cxOf CX0 P w K mg base ["thing", "deed"] "is_row" (defScope s_is_row) fa cdv A outer s H E).nox (defBody s_is_row) (lfS K (f0 w TB) h_is_row_ab8be0) := by
  have nd := sc_is_row.nd
  exact (hs_one (hs_ret (hp_andV (hp_callB call_isiD op_isi (by rfl) T.n_isinstance (by decide +kernel) (hpa_cons (opd_v 0 (pv 0)) (hpa_cons (opd_w (pe_bltn (v := .ty "tuple") (u := .type "tuple") (by rfl) T.n_tuple (by decide +kernel) rfl)) hpa_nil))) (pe_one (hp_callB (cr_all rfl) op_allW (by rfl) T.n_all (by decide +kernel) (hpa_cons (opd_e (hp_lc (pe_lc (own := [("deed", 1)]) rfl nd (hi_tup (hp_v 0 (pv 0))) (blkOk_by (own := [("deed", 1)]) (N := ["thing", "deed"]) (sc := defScope s_is_row) (by decide +kernel)) (fun _ _ _ _ _ => (hg_name (pg_name (i := 1) nd rfl (by first | exact .inl rfl | exact .inr rfl)))) (fun _ _ _ _ _ => pts_yes) (fun _ _ _ _ _ => (hp_callH g_is_word hgd (hr.mono (by decide)) (by rfl) (hpa_cons (opd_v 1 (pv 1)) hpa_nil)))) (by decide) gl_name)) hpa_nil))))))
theorem has_is_row (T : Tops K mg) (g_is_word : Has P w TB K mg base 1 "is_word" 1 sp_is_word_e81331) {fa : Addr} {fd : FuncData} (Fn : Fun K "is_row" "is_row" s_is_row fa fd) (hm : mg "is_row" = some (.ref fa)) : Has P w TB K mg base 2 "is_row" 1 sp_is_row_ab8be0 :=
  Has.mk' (ps := ["thing"]) Fn hm (Fn.binds fun _ _ _ _ _ _ us hl => match us, hl with | [_], _ => rfl) sc_is_row (fun _ ecd _ _ _ _ _ hgd hr => d_is_row T g_is_word hgd hr) rd_is_row_ab8be0
abbrev s_is_rising : Stmt := topS 12
theorem sc_is_rising : FnScope ["texts", "one", "other"] ["texts"] (defScope s_is_rising) := ⟨rfl, rfl, rfl, by decide +kernel, rfl, by decide +kernel, by decide +kernel⟩
theorem d_is_rising (T : Tops K mg)  {fa : Addr} {cdv : Value} {A : Around} {outer : List Env} {s : Shared} {H : Hp} {E : XK} (hgd : (A.deeper (envOfC "is_rising" (defScope s_is_rising) s.heap.objs.size fa cdv)).guards = some []) (hr : Room 0 (A.deeper (envOfC "is_rising" (defScope s_is_rising) s.heap.objs.size fa cdv))) :
    PSs (cxOf CX0 P w K mg base ["texts", "one", "other"] "is_rising" (defScope s_is_rising) fa cdv A outer s H E).nox (defBody s_is_rising) (lfS K (f0 w TB) h_is_rising_757f86) := by
  have nd := sc_is_rising.nd
  exact (hs_one (hs_ret (hp_callB (cr_all rfl) op_allW (by rfl) T.n_all (by decide +kernel) (hpa_cons (opd_e (hp_lc (pe_lc (own := [("one", 1), ("other", 2)]) rfl nd (hi_zip (by rfl) T.n_zip (hpa_cons (opd_e (hp_v 0 (pv 0))) (hpa_cons (opd_e (hp_sl (pv 0) (ho_some (hp_k pe_int fun _ => .int _)) ho_none)) hpa_nil))) (blkOk_by (own := [("one", 1), ("other", 2)]) (N := ["texts", "one", "other"]) (sc := defScope s_is_rising) (by decide +kernel)) (fun _ _ _ _ _ => (hg_pair (pg_tup rfl (pgs_cons (pg_name (i := 1) nd rfl (by first | exact .inl rfl | exact .inr rfl)) (pgs_cons (pg_name (i := 2) nd rfl (by first | exact .inl rfl | exact .inr rfl)) pgs_nil))))) (fun _ _ _ _ _ => pts_yes) (fun _ _ _ _ _ => (hp_cmp (op_ltA (α := Str) (uD hr (by decide))) (opd_v 1 (pv 1)) (opd_v 2 (pv 2)) op_ltAW (nomark _)))) (by decide) gl_pair)) hpa_nil))))
theorem has_is_rising (T : Tops K mg)  {fa : Addr} {fd : FuncData} (Fn : Fun K "is_rising" "is_rising" s_is_rising fa fd) (hm : mg "is_rising" = some (.ref fa)) : Has P w TB K mg base 1 "is_rising" 1 sp_is_rising_757f86 :=
  Has.mk' (ps := ["texts"]) Fn hm (Fn.binds fun _ _ _ _ _ _ us hl => match us, hl with | [_], _ => rfl) sc_is_rising (fun _ ecd _ _ _ _ _ hgd hr => d_is_rising T  hgd hr) rd_is_rising_757f86
abbrev s_is_set : Stmt := topS 13
theorem sc_is_set : FnScope ["thing"] ["thing"] (defScope s_is_set) := ⟨rfl, rfl, rfl, by decide +kernel, rfl, by decide +kernel, by decide +kernel⟩
theorem d_is_set (T : Tops K mg) (g_is_row : Has P w TB K mg base 2 "is_row" 1 sp_is_row_ab8be0) (g_is_rising : Has P w TB K mg base 1 "is_rising" 1 sp_is_rising_757f86) {fa : Addr} {cdv : Value} {A : Around} {outer : List Env} {s : Shared} {H : Hp} {E : XK} (hgd : (A.deeper (envOfC "is_set" (defScope s_is_set) s.heap.objs.size fa cdv)).guards = some []) (hr : Room 2 (A.deeper (envOfC "is_set" (defScope s_is_set) s.heap.objs.size fa cdv))) :
    PSs (cxOf CX0 P w K mg base ["thing"] "is_set" (defScope s_is_set) fa cdv A outer s H E).nox (defBody s_is_set) (lfS K (f0 w TB) h_is_set_136706) := by
  have nd := sc_is_set.nd
  exact (hs_one (hs_ret (hp_andV (hp_callH g_is_row hgd (hr.mono (by decide)) (by rfl) (hpa_cons (opd_v 0 (pv 0)) hpa_nil)) (hp_andV (hp_cmp op_le (opd_e (hp_callB call_lenAll op_lenW (by rfl) T.n_len (by decide +kernel) (hpa_cons (opd_v 0 (pv 0)) hpa_nil))) (opd_e (hp_c T.c_MOST_DEEDS (by rfl))) op_leW (nomark _)) (pe_one (hp_callH g_is_rising hgd (hr.mono (by decide)) (by rfl) (hpa_cons (opd_v 0 (pv 0)) hpa_nil)))))))
theorem has_is_set (T : Tops K mg) (g_is_row : Has P w TB K mg base 2 "is_row" 1 sp_is_row_ab8be0) (g_is_rising : Has P w TB K mg base 1 "is_rising" 1 sp_is_rising_757f86) {fa : Addr} {fd : FuncData} (Fn : Fun K "is_set" "is_set" s_is_set fa fd) (hm : mg "is_set" = some (.ref fa)) : Has P w TB K mg base 3 "is_set" 1 sp_is_set_136706 :=
  Has.mk' (ps := ["thing"]) Fn hm (Fn.binds fun _ _ _ _ _ _ us hl => match us, hl with | [_], _ => rfl) sc_is_set (fun _ ecd _ _ _ _ _ hgd hr => d_is_set T g_is_row g_is_rising hgd hr) rd_is_set_136706
abbrev s_need_set : Stmt := topS 14
theorem sc_need_set : FnScope ["thing"] ["thing"] (defScope s_need_set) := ⟨rfl, rfl, rfl, by decide +kernel, rfl, by decide +kernel, by decide +kernel⟩
theorem d_need_set (T : Tops K mg) (g_is_set : Has P w TB K mg base 3 "is_set" 1 sp_is_set_136706) {fa : Addr} {cdv : Value} {A : Around} {outer : List Env} {s : Shared} {H : Hp} {E : XK} (hgd : (A.deeper (envOfC "need_set" (defScope s_need_set) s.heap.objs.size fa cdv)).guards = some []) (hr : Room 3 (A.deeper (envOfC "need_set" (defScope s_need_set) s.heap.objs.size fa cdv))) :
    PSs (cxOf CX0 P w K mg base ["thing"] "need_set" (defScope s_need_set) fa cdv A outer s H E).nox (defBody s_need_set) (lfS K (f0 w TB) h_need_set_a45985) := by
  have nd := sc_need_set.nd
  exact (hs_one (hs_if (ht_not (hp_test (hp_callH g_is_set hgd (hr.mono (by decide)) (by rfl) (hpa_cons (opd_v 0 (pv 0)) hpa_nil)))) (hs_one hs_never) hs_nil))
theorem has_need_set (T : Tops K mg) (g_is_set : Has P w TB K mg base 3 "is_set" 1 sp_is_set_136706) {fa : Addr} {fd : FuncData} (Fn : Fun K "need_set" "need_set" s_need_set fa fd) (hm : mg "need_set" = some (.ref fa)) : Has P w TB K mg base 4 "need_set" 1 sp_need_set_a45985 :=
  Has.mk' (ps := ["thing"]) Fn hm (Fn.binds fun _ _ _ _ _ _ us hl => match us, hl with | [_], _ => rfl) sc_need_set (fun _ ecd _ _ _ _ _ hgd hr => d_need_set T g_is_set hgd hr) rd_need_set_a45985
abbrev s_set_of : Stmt := topS 15
theorem sc_set_of : FnScope ["deeds", "found"] ["deeds"] (defScope s_set_of) := ⟨rfl, rfl, rfl, by decide +kernel, rfl, by decide +kernel, by decide +kernel⟩
theorem d_set_of (T : Tops K mg)  {fa : Addr} {cdv : Value} {A : Around} {outer : List Env} {s : Shared} {H : Hp} {E : XK} (hgd : (A.deeper (envOfC "set_of" (defScope s_set_of) s.heap.objs.size fa cdv)).guards = some []) (hr : Room 0 (A.deeper (envOfC "set_of" (defScope s_set_of) s.heap.objs.size fa cdv))) :
    PSs (cxOf CX0 P w K mg base ["deeds", "found"] "set_of" (defScope s_set_of) fa cdv A outer s H E).nox (defBody s_set_of) (lfS K (f0 w TB) h_set_of_ce6394) := by
  have nd := sc_set_of.nd
  exact (hs_cons (hs_set (i := 1) nd rfl (.inl rfl) (hp_callTy call_tuple_of op_tupW (by rfl) T.n_tuple (by decide +kernel) (hpa_cons (opd_e (hp_sortUS rfl (u64 hr) (by rfl) T.n_sorted (by rfl) T.n_set (opd_v 0 (pv 0)))) hpa_nil)))
    (hs_cons (hs_if (ht_cmp op_gt (opd_e (hp_callB call_lenAll op_lenW (by rfl) T.n_len (by decide +kernel) (hpa_cons (opd_v 1 (pv 1)) hpa_nil))) (opd_e (hp_c T.c_MOST_DEEDS (by rfl))) op_gtW (nomark _)) (hs_one hs_never) hs_nil)
    (hs_one (hs_ret (hp_m 1 (pv 1))))))
theorem has_set_of (T : Tops K mg)  {fa : Addr} {fd : FuncData} (Fn : Fun K "set_of" "set_of" s_set_of fa fd) (hm : mg "set_of" = some (.ref fa)) : Has P w TB K mg base 1 "set_of" 1 sp_set_of_ce6394 :=
  Has.mk' (ps := ["deeds"]) Fn hm (Fn.binds fun _ _ _ _ _ _ us hl => match us, hl with | [_], _ => rfl) sc_set_of (fun _ ecd _ _ _ _ _ hgd hr => d_set_of T  hgd hr) rd_set_of_ce6394
abbrev s_is_number : Stmt := topS 19
theorem sc_is_number : FnScope ["thing", "many"] ["thing", "many"] (defScope s_is_number) := ⟨rfl, rfl, rfl, by decide +kernel, rfl, by decide +kernel, by decide +kernel⟩
theorem d_is_number (T : Tops K mg)  {fa : Addr} {cdv : Value} {A : Around} {outer : List Env} {s : Shared} {H : Hp} {E : XK} (hgd : (A.deeper (envOfC "is_number" (defScope s_is_number) s.heap.objs.size fa cdv)).guards = some []) (hr : Room 0 (A.deeper (envOfC "is_number" (defScope s_is_number) s.heap.objs.size fa cdv))) :
    PSs (cxOf CX0 P w K mg base ["thing", "many"] "is_number" (defScope s_is_number) fa cdv A outer s H E).nox (defBody s_is_number) (lfS K (f0 w TB) h_is_number_562222) := by
  have nd := sc_is_number.nd
  exact (hs_one (hs_ret (hp_andV (hp_callB call_isiD op_isi (by rfl) T.n_isinstance (by decide +kernel) (hpa_cons (opd_v 0 (pv 0)) (hpa_cons (opd_w (pe_bltn (v := .ty "int") (u := .type "int") (by rfl) T.n_int (by decide +kernel) rfl)) hpa_nil))) (hp_andV (hp_notV (hp_callB call_isiD op_isi (by rfl) T.n_isinstance (by decide +kernel) (hpa_cons (opd_v 0 (pv 0)) (hpa_cons (opd_w (pe_bltn (v := .ty "bool") (u := .type "bool") (by rfl) T.n_bool (by decide +kernel) rfl)) hpa_nil)))) (pe_one (hp_chain op_le op_lt (opd_e (hp_k pe_int fun _ => .int _)) (opd_v 0 (pv 0)) (opd_v 1 (pv 1)) op_leW op_ltW))))))
theorem has_is_number (T : Tops K mg)  {fa : Addr} {fd : FuncData} (Fn : Fun K "is_number" "is_number" s_is_number fa fd) (hm : mg "is_number" = some (.ref fa)) : Has P w TB K mg base 1 "is_number" 2 sp_is_number_562222 :=
  Has.mk' (ps := ["thing", "many"]) Fn hm (Fn.binds fun _ _ _ _ _ _ us hl => match us, hl with | [_, _], _ => rfl) sc_is_number (fun _ ecd _ _ _ _ _ hgd hr => d_is_number T  hgd hr) rd_is_number_562222
abbrev s_is_move : Stmt := topS 20
theorem sc_is_move : FnScope ["thing", "many"] ["thing", "many"] (defScope s_is_move) := ⟨rfl, rfl, rfl, by decide +kernel, rfl, by decide +kernel, by decide +kernel⟩
theorem d_is_move (T : Tops K mg) (g_is_word : Has P w TB K mg base 1 "is_word" 1 sp_is_word_e81331) (g_is_number : Has P w TB K mg base 1 "is_number" 2 sp_is_number_562222) {fa : Addr} {cdv : Value} {A : Around} {outer : List Env} {s : Shared} {H : Hp} {E : XK} (hgd : (A.deeper (envOfC "is_move" (defScope s_is_move) s.heap.objs.size fa cdv)).guards = some []) (hr : Room 1 (A.deeper (envOfC "is_move" (defScope s_is_move) s.heap.objs.size fa cdv))) :
    PSs (cxOf CX0 P w K mg base ["thing", "many"] "is_move" (defScope s_is_move) fa cdv A outer s H E).nox (defBody s_is_move) (lfS K (f0 w TB) h_is_move_84a0bd) := by
  have nd := sc_is_move.nd
  exact (hs_cons (hs_if (PW.pt (ht_or (ht_not (hp_test (hp_callB call_isiD op_isi (by rfl) T.n_isinstance (by decide +kernel) (hpa_cons (opd_v 0 (pv 0)) (hpa_cons (opd_w (pe_bltn (v := .ty "tuple") (u := .type "tuple") (by rfl) T.n_tuple (by decide +kernel) rfl)) hpa_nil))))) (ht_or (ht_cmp (op_neP (u64 hr)) (opd_e (hp_callB call_lenAll op_lenW (by rfl) T.n_len (by decide +kernel) (hpa_cons (opd_v 0 (pv 0)) hpa_nil))) (opd_e (hp_k pe_int fun _ => .int _)) op_eqPW (nomark _)) (ht_or1 (ht_not (hp_test (hp_callH g_is_number hgd (hr.mono (by decide)) (by rfl) (hpa_cons (opd_e (hp_ix ix_seq (opd_v 0 (pv 0)) (opd_e (hp_k pe_int fun _ => .int _)) op_ixW (fun _ _ => rfl))) (hpa_cons (opd_v 1 (pv 1)) hpa_nil))))))))) (hs_one (hs_ret (hp_k pe_bl fun _ => .bl _))) hs_nil)
    (hs_one (hs_ret (hp_orV (hp_callH g_is_word hgd (hr.mono (by decide)) (by rfl) (hpa_cons (opd_e (hp_ix ix_seq (opd_v 0 (pv 0)) (opd_e (hp_k pe_int fun _ => .int _)) op_ixW (fun _ _ => rfl))) hpa_nil)) (pe_one (hp_andV (hp_callB call_isiD op_isi (by rfl) T.n_isinstance (by decide +kernel) (hpa_cons (opd_e (hp_ix ix_seq (opd_v 0 (pv 0)) (opd_e (hp_k pe_int fun _ => .int _)) op_ixW (fun _ _ => rfl))) (hpa_cons (opd_w (pe_bltn (v := .ty "str") (u := .type "str") (by rfl) T.n_str (by decide +kernel) rfl)) hpa_nil))) (pe_one (hp_cmp (op_eqP (u64 hr)) (opd_e (hp_ix ix_seq (opd_v 0 (pv 0)) (opd_e (hp_k pe_int fun _ => .int _)) op_ixW (fun _ _ => rfl))) (opd_e (hp_c T.c_HIDDEN (by rfl))) op_eqPW (nomark _)))))))))
theorem has_is_move (T : Tops K mg) (g_is_word : Has P w TB K mg base 1 "is_word" 1 sp_is_word_e81331) (g_is_number : Has P w TB K mg base 1 "is_number" 2 sp_is_number_562222) {fa : Addr} {fd : FuncData} (Fn : Fun K "is_move" "is_move" s_is_move fa fd) (hm : mg "is_move" = some (.ref fa)) : Has P w TB K mg base 2 "is_move" 2 sp_is_move_84a0bd :=
  Has.mk' (ps := ["thing", "many"]) Fn hm (Fn.binds fun _ _ _ _ _ _ us hl => match us, hl with | [_, _], _ => rfl) sc_is_move (fun _ ecd _ _ _ _ _ hgd hr => d_is_move T g_is_word g_is_number hgd hr) rd_is_move_84a0bd
abbrev s_is_node_row : Stmt := topS 21
theorem sc_is_node_row : FnScope ["thing", "many", "move", "one", "other"] ["thing", "many"] (defScope s_is_node_row) := ⟨rfl, rfl, rfl, by decide +kernel, rfl, by decide +kernel, by decide +kernel⟩
theorem d_is_node_row (T : Tops K mg) (g_is_move : Has P w TB K mg base 2 "is_move" 2 sp_is_move_84a0bd) {fa : Addr} {cdv : Value} {A : Around} {outer : List Env} {s : Shared} {H : Hp} {E : XK} (hgd : (A.deeper (envOfC "is_node_row" (defScope s_is_node_row) s.heap.objs.size fa cdv)).guards = some []) (hr : Room 2 (A.deeper (envOfC "is_node_row" (defScope s_is_node_row) s.heap.objs.size fa cdv))) :
    PSs (cxOf CX0 P w K mg base ["thing", "many", "move", "one", "other"] "is_node_row" (defScope s_is_node_row) fa cdv A outer s H E).nox (defBody s_is_node_row) (lfS K (f0 w TB) h_is_node_row_5d6d4a) := by
  have nd := sc_is_node_row.nd
  exact (hs_cons (hs_if (PW.pt (ht_or (ht_not (hp_test (hp_callB call_isiD op_isi (by rfl) T.n_isinstance (by decide +kernel) (hpa_cons (opd_v 0 (pv 0)) (hpa_cons (opd_w (pe_bltn (v := .ty "tuple") (u := .type "tuple") (by rfl) T.n_tuple (by decide +kernel) rfl)) hpa_nil))))) (ht_or1 (ht_not (hp_test (hp_callB (cr_all rfl) op_allW (by rfl) T.n_all (by decide +kernel) (hpa_cons (opd_e (hp_lc (pe_lc (own := [("move", 2)]) rfl nd (hi_tup (hp_v 0 (pv 0))) (blkOk_by (own := [("move", 2)]) (N := ["thing", "many", "move", "one", "other"]) (sc := defScope s_is_node_row) (by decide +kernel)) (fun _ _ _ _ _ => (hg_name (pg_name (i := 2) nd rfl (by first | exact .inl rfl | exact .inr rfl)))) (fun _ _ _ _ _ => pts_yes) (fun _ _ _ _ _ => (hp_callH g_is_move hgd (hr.mono (by decide)) (by rfl) (hpa_cons (opd_v 2 (pv 2)) (hpa_cons (opd_v 1 (pv 1)) hpa_nil))))) (by decide) gl_name)) hpa_nil))))))) (hs_one (hs_ret (hp_k pe_bl fun _ => .bl _))) hs_nil)
    (hs_one (hs_ret (hp_callB (cr_all rfl) op_allW (by rfl) T.n_all (by decide +kernel) (hpa_cons (opd_e (hp_lc (pe_lc (own := [("one", 3), ("other", 4)]) rfl nd (hi_zip (by rfl) T.n_zip (hpa_cons (opd_e (hp_v 0 (pv 0))) (hpa_cons (opd_e (hp_sl (pv 0) (ho_some (hp_k pe_int fun _ => .int _)) ho_none)) hpa_nil))) (blkOk_by (own := [("one", 3), ("other", 4)]) (N := ["thing", "many", "move", "one", "other"]) (sc := defScope s_is_node_row) (by decide +kernel)) (fun _ _ _ _ _ => (hg_pair (pg_tup rfl (pgs_cons (pg_name (i := 3) nd rfl (by first | exact .inl rfl | exact .inr rfl)) (pgs_cons (pg_name (i := 4) nd rfl (by first | exact .inl rfl | exact .inr rfl)) pgs_nil))))) (fun _ _ _ _ _ => pts_yes) (fun _ _ _ _ _ => (hp_cmp (op_ltA (α := Str × Int) (uD hr (by decide))) (opd_v 3 (pv 3)) (opd_v 4 (pv 4)) op_ltAW (nomark _)))) (by decide) gl_pair)) hpa_nil)))))
theorem has_is_node_row (T : Tops K mg) (g_is_move : Has P w TB K mg base 2 "is_move" 2 sp_is_move_84a0bd) {fa : Addr} {fd : FuncData} (Fn : Fun K "is_node_row" "is_node_row" s_is_node_row fa fd) (hm : mg "is_node_row" = some (.ref fa)) : Has P w TB K mg base 3 "is_node_row" 2 sp_is_node_row_5d6d4a :=
  Has.mk' (ps := ["thing", "many"]) Fn hm (Fn.binds fun _ _ _ _ _ _ us hl => match us, hl with | [_, _], _ => rfl) sc_is_node_row (fun _ ecd _ _ _ _ _ hgd hr => d_is_node_row T g_is_move hgd hr) rd_is_node_row_5d6d4a
abbrev s_deeds_by : Stmt := topS 22
theorem sc_deeds_by : FnScope ["rows", "found", "row", "deed", "node"] ["rows"] (defScope s_deeds_by) := ⟨rfl, rfl, rfl, by decide +kernel, rfl, by decide +kernel, by decide +kernel⟩
theorem d_deeds_by (T : Tops K mg)  {fa : Addr} {cdv : Value} {A : Around} {outer : List Env} {s : Shared} {H : Hp} {E : XK} (hgd : (A.deeper (envOfC "deeds_by" (defScope s_deeds_by) s.heap.objs.size fa cdv)).guards = some []) (hr : Room 0 (A.deeper (envOfC "deeds_by" (defScope s_deeds_by) s.heap.objs.size fa cdv))) :
    PSs (cxOf CX0 P w K mg base ["rows", "found", "row", "deed", "node"] "deeds_by" (defScope s_deeds_by) fa cdv A outer s H E).nox (defBody s_deeds_by) (lfS K (f0 w TB) h_deeds_by_079b22) := by
  have nd := sc_deeds_by.nd
  exact (hs_cons (hs_set (i := 1) nd rfl (.inl rfl) (hp_dnew pe_dnewK))
    (hs_cons (hs_for PassesOwn.never rfl (hi_tup (hp_v 0 (pv 0))) (hg_name (pg_name (i := 2) nd rfl (by first | exact .inl rfl | exact .inr rfl))) (hs_one (hs_drop (hp_upd (fun h => pe_bm PySem.F.plainAttrs_dict PySem.F.slot_dict_update PySem.F.type_dict_update mt_update (pv 1) h) (hp_callTy (call_dictP rfl) op_dictW (by rfl) T.n_dict (by decide +kernel) (hpa_cons (opd_e (hp_lc (pe_lc (own := [("deed", 3), ("node", 4)]) rfl nd (hi_tup (hp_v 2 (pv 2))) (blkOk_by (own := [("deed", 3), ("node", 4)]) (N := ["rows", "found", "row", "deed", "node"]) (sc := defScope s_deeds_by) (by decide +kernel)) (fun _ _ _ _ _ => (hg_pair (pg_tup rfl (pgs_cons (pg_name (i := 3) nd rfl (by first | exact .inl rfl | exact .inr rfl)) (pgs_cons (pg_name (i := 4) nd rfl (by first | exact .inl rfl | exact .inr rfl)) pgs_nil))))) (fun _ _ _ _ _ => (pts_one (ht_cmp (op_neP (u64 hr)) (opd_v 3 (pv 3)) (opd_e (hp_c T.c_HIDDEN (by rfl))) op_eqPW (nomark _)))) (fun _ _ _ _ _ => (hp_tup (hpa_cons (opd_e (hp_v 3 (pv 3))) (hpa_cons (opd_e (hp_k pe_bl fun _ => .bl _)) hpa_nil))))) (by decide) gl_pair)) hpa_nil))))))
    (hs_one (hs_ret (hp_callB (cr_sortD (α := Str) rfl) op_sortDW (by rfl) T.n_sorted (by decide +kernel) (hpa_cons (opd_v 1 (pv 1)) hpa_nil))))))
theorem has_deeds_by (T : Tops K mg)  {fa : Addr} {fd : FuncData} (Fn : Fun K "deeds_by" "deeds_by" s_deeds_by fa fd) (hm : mg "deeds_by" = some (.ref fa)) : Has P w TB K mg base 1 "deeds_by" 1 sp_deeds_by_079b22 :=
  Has.mk' (ps := ["rows"]) Fn hm (Fn.binds fun _ _ _ _ _ _ us hl => match us, hl with | [_], _ => rfl) sc_deeds_by (fun _ ecd _ _ _ _ _ hgd hr => d_deeds_by T  hgd hr) rd_deeds_by_079b22
abbrev s_is_machine : Stmt := topS 23
theorem sc_is_machine : FnScope ["thing", "row"] ["thing"] (defScope s_is_machine) := ⟨rfl, rfl, rfl, by decide +kernel, rfl, by decide +kernel, by decide +kernel⟩
theorem d_is_machine (T : Tops K mg) (g_is_node_row : Has P w TB K mg base 3 "is_node_row" 2 sp_is_node_row_5d6d4a) (g_deeds_by : Has P w TB K mg base 1 "deeds_by" 1 sp_deeds_by_079b22) {fa : Addr} {cdv : Value} {A : Around} {outer : List Env} {s : Shared} {H : Hp} {E : XK} (hgd : (A.deeper (envOfC "is_machine" (defScope s_is_machine) s.heap.objs.size fa cdv)).guards = some []) (hr : Room 3 (A.deeper (envOfC "is_machine" (defScope s_is_machine) s.heap.objs.size fa cdv))) :
    PSs (cxOf CX0 P w K mg base ["thing", "row"] "is_machine" (defScope s_is_machine) fa cdv A outer s H E).nox (defBody s_is_machine) (lfS K (f0 w TB) h_is_machine_569ab3) := by
  have nd := sc_is_machine.nd
  exact (hs_cons (hs_if (PW.pt (ht_or (ht_not (hp_test (hp_callB call_isiD op_isi (by rfl) T.n_isinstance (by decide +kernel) (hpa_cons (opd_v 0 (pv 0)) (hpa_cons (opd_w (pe_bltn (v := .ty "tuple") (u := .type "tuple") (by rfl) T.n_tuple (by decide +kernel) rfl)) hpa_nil))))) (ht_or1 (ht_not (ht_chain op_le op_le (opd_e (hp_k pe_int fun _ => .int _)) (opd_e (hp_callB call_lenAll op_lenW (by rfl) T.n_len (by decide +kernel) (hpa_cons (opd_v 0 (pv 0)) hpa_nil))) (opd_e (hp_c T.c_MOST_NODES (by rfl))) op_leW op_leW))))) (hs_one (hs_ret (hp_k pe_bl fun _ => .bl _))) hs_nil)
    (hs_one (hs_ret (hp_andV (hp_callB (cr_all rfl) op_allW (by rfl) T.n_all (by decide +kernel) (hpa_cons (opd_e (hp_lc (pe_lc (own := [("row", 1)]) rfl nd (hi_tup (hp_v 0 (pv 0))) (blkOk_by (own := [("row", 1)]) (N := ["thing", "row"]) (sc := defScope s_is_machine) (by decide +kernel)) (fun _ _ _ _ _ => (hg_name (pg_name (i := 1) nd rfl (by first | exact .inl rfl | exact .inr rfl)))) (fun _ _ _ _ _ => pts_yes) (fun _ _ _ _ _ => (hp_callH g_is_node_row hgd (hr.mono (by decide)) (by rfl) (hpa_cons (opd_v 1 (pv 1)) (hpa_cons (opd_e (hp_callB call_lenAll op_lenW (by rfl) T.n_len (by decide +kernel) (hpa_cons (opd_v 0 (pv 0)) hpa_nil))) hpa_nil))))) (by decide) gl_name)) hpa_nil)) (pe_one (hp_cmp op_le (opd_e (hp_callB call_lenAll op_lenW (by rfl) T.n_len (by decide +kernel) (hpa_cons (opd_e (hp_callH g_deeds_by hgd (hr.mono (by decide)) (by rfl) (hpa_cons (opd_v 0 (pv 0)) hpa_nil))) hpa_nil))) (opd_e (hp_c T.c_MOST_DEEDS (by rfl))) op_leW (nomark _)))))))
theorem has_is_machine (T : Tops K mg) (g_is_node_row : Has P w TB K mg base 3 "is_node_row" 2 sp_is_node_row_5d6d4a) (g_deeds_by : Has P w TB K mg base 1 "deeds_by" 1 sp_deeds_by_079b22) {fa : Addr} {fd : FuncData} (Fn : Fun K "is_machine" "is_machine" s_is_machine fa fd) (hm : mg "is_machine" = some (.ref fa)) : Has P w TB K mg base 4 "is_machine" 1 sp_is_machine_569ab3 :=
  Has.mk' (ps := ["thing"]) Fn hm (Fn.binds fun _ _ _ _ _ _ us hl => match us, hl with | [_], _ => rfl) sc_is_machine (fun _ ecd _ _ _ _ _ hgd hr => d_is_machine T g_is_node_row g_deeds_by hgd hr) rd_is_machine_569ab3
abbrev s_need_machine : Stmt := topS 24
theorem sc_need_machine : FnScope ["thing"] ["thing"] (defScope s_need_machine) := ⟨rfl, rfl, rfl, by decide +kernel, rfl, by decide +kernel, by decide +kernel⟩
theorem d_need_machine (T : Tops K mg) (g_is_machine : Has P w TB K mg base 4 "is_machine" 1 sp_is_machine_569ab3) {fa : Addr} {cdv : Value} {A : Around} {outer : List Env} {s : Shared} {H : Hp} {E : XK} (hgd : (A.deeper (envOfC "need_machine" (defScope s_need_machine) s.heap.objs.size fa cdv)).guards = some []) (hr : Room 4 (A.deeper (envOfC "need_machine" (defScope s_need_machine) s.heap.objs.size fa cdv))) :
    PSs (cxOf CX0 P w K mg base ["thing"] "need_machine" (defScope s_need_machine) fa cdv A outer s H E).nox (defBody s_need_machine) (lfS K (f0 w TB) h_need_machine_f4028c) := by
  have nd := sc_need_machine.nd
  exact (hs_one (hs_if (ht_not (hp_test (hp_callH g_is_machine hgd (hr.mono (by decide)) (by rfl) (hpa_cons (opd_v 0 (pv 0)) hpa_nil)))) (hs_one hs_never) hs_nil))
theorem has_need_machine (T : Tops K mg) (g_is_machine : Has P w TB K mg base 4 "is_machine" 1 sp_is_machine_569ab3) {fa : Addr} {fd : FuncData} (Fn : Fun K "need_machine" "need_machine" s_need_machine fa fd) (hm : mg "need_machine" = some (.ref fa)) : Has P w TB K mg base 5 "need_machine" 1 sp_need_machine_f4028c :=
  Has.mk' (ps := ["thing"]) Fn hm (Fn.binds fun _ _ _ _ _ _ us hl => match us, hl with | [_], _ => rfl) sc_need_machine (fun _ ecd _ _ _ _ _ hgd hr => d_need_machine T g_is_machine hgd hr) rd_need_machine_f4028c
abbrev s_numbered : Stmt := topS 25
theorem sc_numbered : FnScope ["first", "going", "things", "places", "rows", "row", "deed", "come"] ["first", "going"] (defScope s_numbered) := ⟨rfl, rfl, rfl, by decide +kernel, rfl, by decide +kernel, by decide +kernel⟩
theorem dC_numbered (T : Tops K mg) (g_set_of : Has P w TB K mg base 1 "set_of" 1 sp_set_of_ce6394) (gX_deeds_by : HasX P w TB K mg base 1 "deeds_by" 1 spX_deeds_by_079b22) {fa : Addr} {cdv : Value} {A : Around} {outer : List Env} {s : Shared} {H : Hp} {E : XK} {en : Ent} {Z : HX} {R : PySem.W.Frag → Hp → V → Prop} {spc : HSpX} (hgd : (A.deeper (envOfC "numbered" (defScope s_numbered) s.heap.objs.size fa cdv)).guards = some []) (hr : Room 2 (A.deeper (envOfC "numbered" (defScope s_numbered) s.heap.objs.size fa cdv))) (tk : Takes (cxOf (L2.CX P w) P w K mg base ["first", "going", "things", "places", "rows", "row", "deed", "come"] "numbered" (defScope s_numbered) fa cdv A outer s H E) (fun cls d _ H => E cls d H)) (lk : Lk K (fun cls d _ H => E cls d H) w TB en Z) (rule : CloRule (cxOf (L2.CX P w) P w K mg base ["first", "going", "things", "places", "rows", "row", "deed", "come"] "numbered" (defScope s_numbered) fa cdv A outer s H E) "going" 1 TB R 1 spc) :
    PSs (cxOf (L2.CX P w) P w K mg base ["first", "going", "things", "places", "rows", "row", "deed", "come"] "numbered" (defScope s_numbered) fa cdv A outer s H E) (defBody s_numbered) (lfS K (f1 w TB (some en)) (hC_numbered_dca45c R spc Z)) := by
  have nd := sc_numbered.nd
  exact (hs_cons (hs_set (i := 2) nd rfl (.inl rfl) (hp_lst (hpa_cons (opd_e (hp_v 0 (pv 0))) hpa_nil)))
    (hs_cons (hs_set (i := 3) nd rfl (.inl rfl) (hp_dispG rfl (u64 hr) (pph_cons (opd_e (hp_v 0 (pv 0))) (opd_e (hp_k pe_int fun _ => .int _)) pph_nil)))
    (hs_cons (hs_set (i := 4) nd rfl (.inl rfl) (hp_lst hpa_nil))
    (hs_cons (hs_while (passes_of rfl) (ht_cmp op_lt (opd_e (hp_callB call_lenAll op_lenW (by rfl) T.n_len (by decide +kernel) (hpa_cons (opd_v 4 (pv 4)) hpa_nil))) (opd_e (hp_callB call_lenAll op_lenW (by rfl) T.n_len (by decide +kernel) (hpa_cons (opd_v 2 (pv 2)) hpa_nil))) op_ltW (nomark _)) (hs_cons (hs_set (i := 5) nd rfl (.inl rfl) (hp_dnewG rfl))
    (hs_cons (hs_for (passes_of rfl) rfl (hi_list (rule.c1 tk lk (hpa_cons (opd_e (hp_ix ix_seq (opd_v 2 (pv 2)) (opd_e (hp_callB call_lenAll op_lenW (by rfl) T.n_len (by decide +kernel) (hpa_cons (opd_v 4 (pv 4)) hpa_nil))) op_ixW (fun _ _ => rfl))) hpa_nil) (by rfl) (by rfl))) (hg_pair (pg_tup rfl (pgs_cons (pg_name (i := 6) nd rfl (by first | exact .inl rfl | exact .inr rfl)) (pgs_cons (pg_name (i := 7) nd rfl (by first | exact .inl rfl | exact .inr rfl)) pgs_nil)))) (hs_cons (hs_if (ht_dninG rfl (u64 hr) (opd_v 7 (pv 7)) (opd_v 3 (pv 3))) (hs_cons (hs_if (ht_cmp (op_eqP (u64 hr)) (opd_e (hp_callB call_lenAll op_lenW (by rfl) T.n_len (by decide +kernel) (hpa_cons (opd_v 2 (pv 2)) hpa_nil))) (opd_e (hp_c T.c_MOST_NODES (by rfl))) op_eqPW (nomark _)) (hs_one (hs_raiseT T.xt T.ex_TooGreat (by decide) tk lk rfl (by rfl))) hs_nil)
    (hs_cons (hs_dputG rfl (ps_gput (u64 hr) (pv 3) (hp_v 7 (pv 7)) (hp_callB call_lenAll op_lenW (by rfl) T.n_len (by decide +kernel) (hpa_cons (opd_v 2 (pv 2)) hpa_nil)) rfl))
    (hs_one (hs_drop (hp_app (hp_v 7 (pv 7)) (fun h => pe_bm PySem.F.plainAttrs_list PySem.F.slot_list_append PySem.F.type_list_append mt_append (pv 2) h)))))) hs_nil)
    (hs_one (hs_dputG rfl (ps_gput (u64 hr) (pv 5) (hp_tup (hpa_cons (opd_e (hp_v 6 (pv 6))) (hpa_cons (opd_e (hp_dgetG rfl (u64 hr) (opd_v 3 (pv 3)) (opd_v 7 (pv 7)) (fun _ _ => rfl))) hpa_nil))) (hp_k pe_bl fun _ => .bl _) rfl)))))
    (hs_one (hs_drop (hp_app (hp_callTy call_tuple_of op_tupW (by rfl) T.n_tuple (by decide +kernel) (hpa_cons (opd_e (hp_callB (cr_sortG (α := Str × Int) (u64 hr) (by decide)) op_sortA (by rfl) T.n_sorted (by decide +kernel) (hpa_cons (opd_e (hp_callTy (call_listG rfl) (op_listGW rfl) (by rfl) T.n_list (by decide +kernel) (hpa_cons (opd_v 5 (pv 5)) hpa_nil))) hpa_nil))) hpa_nil)) (fun h => pe_bm PySem.F.plainAttrs_list PySem.F.slot_list_append PySem.F.type_list_append mt_append (pv 4) h)))))))
    (hs_cons (hs_drop (hp_callH g_set_of hgd (hr.mono (by decide)) (by rfl) (hpa_cons (opd_e (hp_callHX gX_deeds_by tk lk hgd (hr.mono (by decide)) (by rfl) (hpa_cons (opd_v 4 (pv 4)) hpa_nil))) hpa_nil)))
    (hs_one (hs_ret (hp_tup (hpa_cons (opd_e (hp_v 2 (pv 2))) (hpa_cons (opd_e (hp_callTy call_tuple_of op_tupW (by rfl) T.n_tuple (by decide +kernel) (hpa_cons (opd_v 4 (pv 4)) hpa_nil))) hpa_nil))))))))))
theorem hasC_numbered (T : Tops K mg) (g_set_of : Has P w TB K mg base 1 "set_of" 1 sp_set_of_ce6394) (gX_deeds_by : HasX P w TB K mg base 1 "deeds_by" 1 spX_deeds_by_079b22) {fa : Addr} {fd : FuncData} (Fn : Fun K "numbered" "numbered" s_numbered fa fd) (hm : mg "numbered" = some (.ref fa)) : HasC P w TB K mg base 3 "numbered" 2 1 spC_numbered_dca45c :=
  HasC.mk' (ps := ["first", "going"]) (i := 1) (a := "going") Fn hm (Fn.binds fun _ _ _ _ _ _ us hl => match us, hl with | [_, _], _ => rfl) sc_numbered (by rfl) (by first | exact .inl rfl | exact .inr (.inl rfl)) (fun _ _ _ _ _ _ _ _ _ _ _ hgd hr tk lk rule => dC_numbered T g_set_of gX_deeds_by hgd hr tk lk rule) rdC_numbered_dca45c
abbrev s_pair_moves : Stmt := topS 26
theorem sc_pair_moves : FnScope ["one", "deeds", "other", "pair", "ones", "others", "found", "deed", "node", "by", "there"] ["one", "deeds", "other", "pair"] (defScope s_pair_moves) := ⟨rfl, rfl, rfl, by decide +kernel, rfl, by decide +kernel, by decide +kernel⟩
theorem d_pair_moves (T : Tops K mg)  {fa : Addr} {cdv : Value} {A : Around} {outer : List Env} {s : Shared} {H : Hp} {E : XK} (hgd : (A.deeper (envOfC "pair_moves" (defScope s_pair_moves) s.heap.objs.size fa cdv)).guards = some []) (hr : Room 0 (A.deeper (envOfC "pair_moves" (defScope s_pair_moves) s.heap.objs.size fa cdv))) :
    PSs (cxOf CX0 P w K mg base ["one", "deeds", "other", "pair", "ones", "others", "found", "deed", "node", "by", "there"] "pair_moves" (defScope s_pair_moves) fa cdv A outer s H E).nox (defBody s_pair_moves) (lfS K (f0 w TB) h_pair_moves_63f489) := by
  have nd := sc_pair_moves.nd
  exact (hs_cons (hs_par (fun h => ps_par (i := 4) (j := 5) rfl nd rfl rfl (by decide) rfl rfl h (by rfl)) (hpa_cons (opd_e (hp_ix ix_seq (opd_v 0 (pv 0)) (opd_e (hp_ix ix_seq (opd_v 3 (pv 3)) (opd_e (hp_k pe_int fun _ => .int _)) op_ixW (fun _ _ => rfl))) op_ixW (fun _ _ => rfl))) (hpa_cons (opd_e (hp_ix ix_seq (opd_v 2 (pv 2)) (opd_e (hp_ix ix_seq (opd_v 3 (pv 3)) (opd_e (hp_k pe_int fun _ => .int _)) op_ixW (fun _ _ => rfl))) op_ixW (fun _ _ => rfl))) hpa_nil)))
    (hs_cons (hs_setLc (ps_setLc (i := 6) (own := [("deed", 7), ("node", 8)]) rfl nd rfl rfl (sw_true rfl rfl rfl (by decide +kernel)) (hi_tup (hp_v 4 (pv 4))) (blkOk_by (own := [("deed", 7), ("node", 8)]) (N := ["one", "deeds", "other", "pair", "ones", "others", "found", "deed", "node", "by", "there"]) (sc := defScope s_pair_moves) (by decide +kernel)) (fun _ _ _ _ _ => (hg_pair (pg_tup rfl (pgs_cons (pg_name (i := 7) nd rfl (by first | exact .inl rfl | exact .inr rfl)) (pgs_cons (pg_name (i := 8) nd rfl (by first | exact .inl rfl | exact .inr rfl)) pgs_nil))))) (fun _ _ _ _ _ => (pts_one (ht_cmp (op_ninP (u64 hr)) (opd_v 7 (pv 7)) (opd_v 1 (pv 1)) op_inPW (by first | exact nobehind _ (by decide) (by decide) | rfl)))) (fun _ _ _ _ _ => (hp_tup (hpa_cons (opd_e (hp_v 7 (pv 7))) (hpa_cons (opd_e (hp_tup (hpa_cons (opd_e (hp_v 8 (pv 8))) (hpa_cons (opd_e (hp_ix ix_seq (opd_v 3 (pv 3)) (opd_e (hp_k pe_int fun _ => .int _)) op_ixW (fun _ _ => rfl))) hpa_nil)))) hpa_nil))))) (by decide) gl_pair)
    (hs_cons (hs_drop (hp_ext (hp_lc (pe_lc (own := [("deed", 7), ("node", 8)]) rfl nd (hi_tup (hp_v 5 (pv 5))) (blkOk_by (own := [("deed", 7), ("node", 8)]) (N := ["one", "deeds", "other", "pair", "ones", "others", "found", "deed", "node", "by", "there"]) (sc := defScope s_pair_moves) (by decide +kernel)) (fun _ _ _ _ _ => (hg_pair (pg_tup rfl (pgs_cons (pg_name (i := 7) nd rfl (by first | exact .inl rfl | exact .inr rfl)) (pgs_cons (pg_name (i := 8) nd rfl (by first | exact .inl rfl | exact .inr rfl)) pgs_nil))))) (fun _ _ _ _ _ => (pts_one (ht_cmp (op_ninP (u64 hr)) (opd_v 7 (pv 7)) (opd_v 1 (pv 1)) op_inPW (by first | exact nobehind _ (by decide) (by decide) | rfl)))) (fun _ _ _ _ _ => (hp_tup (hpa_cons (opd_e (hp_v 7 (pv 7))) (hpa_cons (opd_e (hp_tup (hpa_cons (opd_e (hp_ix ix_seq (opd_v 3 (pv 3)) (opd_e (hp_k pe_int fun _ => .int _)) op_ixW (fun _ _ => rfl))) (hpa_cons (opd_e (hp_v 8 (pv 8))) hpa_nil)))) hpa_nil))))) (by decide) gl_pair) (fun h => pe_bm PySem.F.plainAttrs_list PySem.F.slot_list_extend PySem.F.type_list_extend mt_extend (pv 6) h)))
    (hs_cons (hs_for PassesOwn.never rfl (hi_tup (hp_v 4 (pv 4))) (hg_pair (pg_tup rfl (pgs_cons (pg_name (i := 7) nd rfl (by first | exact .inl rfl | exact .inr rfl)) (pgs_cons (pg_name (i := 8) nd rfl (by first | exact .inl rfl | exact .inr rfl)) pgs_nil)))) (hs_one (hs_if (ht_cmp (op_inP (u64 hr)) (opd_v 7 (pv 7)) (opd_v 1 (pv 1)) op_inPW (by first | exact nobehind _ (by decide) (by decide) | rfl)) (hs_one (hs_drop (hp_ext (hp_lc (pe_lc (own := [("by", 9), ("there", 10)]) rfl nd (hi_tup (hp_v 5 (pv 5))) (blkOk_by (own := [("by", 9), ("there", 10)]) (N := ["one", "deeds", "other", "pair", "ones", "others", "found", "deed", "node", "by", "there"]) (sc := defScope s_pair_moves) (by decide +kernel)) (fun _ _ _ _ _ => (hg_pair (pg_tup rfl (pgs_cons (pg_name (i := 9) nd rfl (by first | exact .inl rfl | exact .inr rfl)) (pgs_cons (pg_name (i := 10) nd rfl (by first | exact .inl rfl | exact .inr rfl)) pgs_nil))))) (fun _ _ _ _ _ => (pts_one (ht_cmp (op_eqP (u64 hr)) (opd_v 9 (pv 9)) (opd_v 7 (pv 7)) op_eqPW (nomark _)))) (fun _ _ _ _ _ => (hp_tup (hpa_cons (opd_e (hp_v 7 (pv 7))) (hpa_cons (opd_e (hp_tup (hpa_cons (opd_e (hp_v 8 (pv 8))) (hpa_cons (opd_e (hp_v 10 (pv 10))) hpa_nil)))) hpa_nil))))) (by decide) gl_pair) (fun h => pe_bm PySem.F.plainAttrs_list PySem.F.slot_list_extend PySem.F.type_list_extend mt_extend (pv 6) h)))) hs_nil)))
    (hs_one (hs_ret (hp_callB (cr_sortG (α := Str × Int × Int) (u64 hr) (by decide)) op_sortA (by rfl) T.n_sorted (by decide +kernel) (hpa_cons (opd_v 6 (pv 6)) hpa_nil))))))))
theorem has_pair_moves (T : Tops K mg)  {fa : Addr} {fd : FuncData} (Fn : Fun K "pair_moves" "pair_moves" s_pair_moves fa fd) (hm : mg "pair_moves" = some (.ref fa)) : Has P w TB K mg base 1 "pair_moves" 4 sp_pair_moves_63f489 :=
  Has.mk' (ps := ["one", "deeds", "other", "pair"]) Fn hm (Fn.binds fun _ _ _ _ _ _ us hl => match us, hl with | [_, _, _, _], _ => rfl) sc_pair_moves (fun _ ecd _ _ _ _ _ hgd hr => d_pair_moves T  hgd hr) rd_pair_moves_63f489
abbrev s_put_beside : Stmt := topS 27
theorem sc_put_beside : FnScope ["one", "deeds", "other"] ["one", "deeds", "other"] (defScope s_put_beside) := ⟨rfl, rfl, rfl, by decide +kernel, rfl, by decide +kernel, by decide +kernel⟩
theorem d_put_beside (T : Tops K mg) (g_pair_moves : Has P w TB K mg base 1 "pair_moves" 4 sp_pair_moves_63f489) (g_need_machine : Has P w TB K mg base 5 "need_machine" 1 sp_need_machine_f4028c) (g_need_set : Has P w TB K mg base 4 "need_set" 1 sp_need_set_a45985) (gC_numbered : HasC P w TB K mg base 3 "numbered" 2 1 spC_numbered_dca45c) {c T0 : Addr} (TBb : LamX.TabB base mg c T0) (hmT : (T0, ("put_beside.<locals>.<lambda>" : Str)) ∈ TB) (huT : ∀ p ∈ TB, p.1 = T0 → p.2 = ("put_beside.<locals>.<lambda>" : Str)) {fa : Addr} {cdv : Value} (hcd : cdv = .ref c) {A : Around} {outer : List Env} {s : Shared} {H : Hp} {E : XK} (hgd : (A.deeper (envOfC "put_beside" (defScope s_put_beside) s.heap.objs.size fa cdv)).guards = some []) (hr : Room 5 (A.deeper (envOfC "put_beside" (defScope s_put_beside) s.heap.objs.size fa cdv))) :
    PSs (cxOf CX0 P w K mg base ["one", "deeds", "other"] "put_beside" (defScope s_put_beside) fa cdv A outer s H E).nox (defBody s_put_beside) (lfS K (f0 w TB) h_put_beside_e418b7) := by
  have nd := sc_put_beside.nd
  exact (hs_cons (hs_drop (hp_callH g_need_machine hgd (hr.mono (by decide)) (by rfl) (hpa_cons (opd_v 0 (pv 0)) hpa_nil)))
    (hs_cons (hs_drop (hp_callH g_need_set hgd (hr.mono (by decide)) (by rfl) (hpa_cons (opd_v 1 (pv 1)) hpa_nil)))
    (hs_cons (hs_drop (hp_callH g_need_machine hgd (hr.mono (by decide)) (by rfl) (hpa_cons (opd_v 2 (pv 2)) hpa_nil)))
    (hs_one (hs_ret (hp_ix ix_seq (opd_e (hc1 (W := fun _ _ _ _ => False) takes0 lko0 hgd (hr.mono (by decide)) rfl rfl rfl rfl (by rfl) (hp_tup (hpa_cons (opd_e (hp_k pe_int fun _ => .int _)) (hpa_cons (opd_e (hp_k pe_int fun _ => .int _)) hpa_nil))) gC_numbered (kc := 1) (N := ["pair", "one", "deeds", "other"]) (ps := ["pair"]) (fr := ["one", "deeds", "other"]) (js := [0, 1, 2]) rfl rfl (by decide) (by exact lamOk_mk (N := ["pair", "one", "deeds", "other"]) (ps := ["pair"]) (fr := ["one", "deeds", "other"]) (js := [0, 1, 2]) (mkr_any hcd TBb rfl) hmT huT rfl (NdefX.nscope_by (by decide +kernel)) (sc := defScope s_put_beside) rfl (by decide +kernel) (by decide +kernel) (by rfl) (fun _ _ _ _ us h => match us, h with | [_], _ => rfl) (fun _ _ _ _ _ _ _ _ _ _ _ _ _ ZL hgd hr tkL lkL => (hp_callH g_pair_moves hgd (hr.mono (by decide)) (by rfl) (hpa_cons (opd_v 1 (pv 1)) (hpa_cons (opd_v 2 (pv 2)) (hpa_cons (opd_v 3 (pv 3)) (hpa_cons (opd_v 0 (pv 0)) hpa_nil))))))))) (opd_e (hp_k pe_int fun _ => .int _)) op_ixW (fun _ _ => rfl)))))))
theorem has_put_beside (T : Tops K mg) (g_pair_moves : Has P w TB K mg base 1 "pair_moves" 4 sp_pair_moves_63f489) (g_need_machine : Has P w TB K mg base 5 "need_machine" 1 sp_need_machine_f4028c) (g_need_set : Has P w TB K mg base 4 "need_set" 1 sp_need_set_a45985) (gC_numbered : HasC P w TB K mg base 3 "numbered" 2 1 spC_numbered_dca45c) {c T0 : Addr} (TBb : LamX.TabB base mg c T0) (hmT : (T0, ("put_beside.<locals>.<lambda>" : Str)) ∈ TB) (huT : ∀ p ∈ TB, p.1 = T0 → p.2 = ("put_beside.<locals>.<lambda>" : Str)) {fa : Addr} {fd : FuncData} (hfc : fd.code = .ref c) (Fn : Fun K "put_beside" "put_beside" s_put_beside fa fd) (hm : mg "put_beside" = some (.ref fa)) : Has P w TB K mg base 6 "put_beside" 3 sp_put_beside_e418b7 :=
  Has.mk' (ps := ["one", "deeds", "other"]) Fn hm (Fn.binds fun _ _ _ _ _ _ us hl => match us, hl with | [_, _, _], _ => rfl) sc_put_beside (fun _ ecd _ _ _ _ _ hgd hr => d_put_beside T g_pair_moves g_need_machine g_need_set gC_numbered TBb hmT huT (ecd.symm.trans hfc) hgd hr) rd_put_beside_e418b7
abbrev s__law_mixed : Stmt := topS 29
theorem sc__law_mixed : FnScope ["_law_cell", "_law_k", "_law_number"] ["_law_cell", "_law_k"] (defScope s__law_mixed) := ⟨rfl, rfl, rfl, by decide +kernel, rfl, by decide +kernel, by decide +kernel⟩
theorem d__law_mixed (T : Tops K mg)  {fa : Addr} {cdv : Value} {A : Around} {outer : List Env} {s : Shared} {H : Hp} {E : XK} (hgd : (A.deeper (envOfC "_law_mixed" (defScope s__law_mixed) s.heap.objs.size fa cdv)).guards = some []) (hr : Room 0 (A.deeper (envOfC "_law_mixed" (defScope s__law_mixed) s.heap.objs.size fa cdv))) :
    PSs (cxOf CX0 P w K mg base ["_law_cell", "_law_k", "_law_number"] "_law_mixed" (defScope s__law_mixed) fa cdv A outer s H E).nox (defBody s__law_mixed) (lfS K (f0 w TB) h__law_mixed_2d863d) := by
  have nd := sc__law_mixed.nd
  exact (hs_cons (hs_set (i := 2) nd rfl (.inl rfl) (hp_op op_addAll (opd_e (hp_op op_addAll (opd_e (hp_op op_mod (opd_e (hp_op op_mulAll (opd_e (hp_op op_mulAll (opd_v 0 (pv 0)) (opd_e (hp_op op_addAll (opd_e (hp_k pe_int fun _ => .int _)) (opd_e (hp_op op_mulAll (opd_e (hp_k pe_int fun _ => .int _)) (opd_v 1 (pv 1)) op_mulW')) op_addW)) op_mulW')) (opd_e (hp_k pe_int fun _ => .int _)) op_mulW')) (opd_e (hp_k pe_int fun _ => .int _)) op_modWW)) (opd_e (hp_op op_mulAll (opd_e (hp_op op_mulAll (opd_e (hp_k pe_int fun _ => .int _)) (opd_v 1 (pv 1)) op_mulW')) (opd_v 1 (pv 1)) op_mulW')) op_addW)) (opd_e (hp_op op_mulAll (opd_e (hp_k pe_int fun _ => .int _)) (opd_v 1 (pv 1)) op_mulW')) op_addW))
    (hs_one (hs_ret (hp_op op_fdivW (opd_e (hp_op op_mod (opd_e (hp_op op_mulAll (opd_v 2 (pv 2)) (opd_e (hp_k pe_int fun _ => .int _)) op_mulW')) (opd_e (hp_k pe_int fun _ => .int _)) op_modWW)) (opd_e (hp_k pe_int fun _ => .int _)) op_fdivWW))))
theorem has__law_mixed (T : Tops K mg)  {fa : Addr} {fd : FuncData} (Fn : Fun K "_law_mixed" "_law_mixed" s__law_mixed fa fd) (hm : mg "_law_mixed" = some (.ref fa)) : Has P w TB K mg base 1 "_law_mixed" 2 sp__law_mixed_2d863d :=
  Has.mk' (ps := ["_law_cell", "_law_k"]) Fn hm (Fn.binds fun _ _ _ _ _ _ us hl => match us, hl with | [_, _], _ => rfl) sc__law_mixed (fun _ ecd _ _ _ _ _ hgd hr => d__law_mixed T  hgd hr) rd__law_mixed_2d863d
abbrev s__law_folded : Stmt := topS 30
theorem sc__law_folded : FnScope ["_law_script", "_law_found", "_law_k", "_law_cell"] ["_law_script"] (defScope s__law_folded) := ⟨rfl, rfl, rfl, by decide +kernel, rfl, by decide +kernel, by decide +kernel⟩
theorem d__law_folded (T : Tops K mg)  {fa : Addr} {cdv : Value} {A : Around} {outer : List Env} {s : Shared} {H : Hp} {E : XK} (hgd : (A.deeper (envOfC "_law_folded" (defScope s__law_folded) s.heap.objs.size fa cdv)).guards = some []) (hr : Room 0 (A.deeper (envOfC "_law_folded" (defScope s__law_folded) s.heap.objs.size fa cdv))) :
    PSs (cxOf CX0 P w K mg base ["_law_script", "_law_found", "_law_k", "_law_cell"] "_law_folded" (defScope s__law_folded) fa cdv A outer s H E).nox (defBody s__law_folded) (lfS K (f0 w TB) h__law_folded_8cf898) := by
  have nd := sc__law_folded.nd
  exact (hs_cons (hs_setLc (ps_setLc (i := 1) (own := [("_law_k", 2)]) rfl nd rfl rfl (sw_true rfl rfl rfl (by decide +kernel)) (hi_rng1 (by rfl) T.n_range (hpa_cons (opd_e (hp_k pe_int fun _ => .int _)) hpa_nil)) (blkOk_by (own := [("_law_k", 2)]) (N := ["_law_script", "_law_found", "_law_k", "_law_cell"]) (sc := defScope s__law_folded) (by decide +kernel)) (fun _ _ _ _ _ => (hg_name (pg_name (i := 2) nd rfl (by first | exact .inl rfl | exact .inr rfl)))) (fun _ _ _ _ _ => pts_yes) (fun _ _ _ _ _ => (hp_op op_addAll (opd_e (hp_k pe_int fun _ => .int _)) (opd_v 2 (pv 2)) op_addW))) (by decide) gl_name)
    (hs_cons (hs_for PassesOwn.never rfl (hi_enum (by rfl) T.n_enumerate (hpa_cons (opd_e (hp_v 0 (pv 0))) hpa_nil)) (hg_pair (pg_tup rfl (pgs_cons (pg_name (i := 2) nd rfl (by first | exact .inl rfl | exact .inr rfl)) (pgs_cons (pg_name (i := 3) nd rfl (by first | exact .inl rfl | exact .inr rfl)) pgs_nil)))) (hs_one (hs_setL (ps_asg (hp_op op_mod (opd_e (hp_op op_addAll (opd_e (hp_op op_mulAll (opd_e (hp_ix ix_seq (opd_v 1 (pv 1)) (opd_e (hp_op op_mod (opd_v 2 (pv 2)) (opd_e (hp_k pe_int fun _ => .int _)) op_modWW)) op_ixW (fun _ _ => rfl))) (opd_e (hp_k pe_int fun _ => .int _)) op_mulW')) (opd_v 3 (pv 3)) op_addW)) (opd_e (hp_k pe_int fun _ => .int _)) op_modWW) (pg_sub (pv 1) (hp_op op_mod (opd_v 2 (pv 2)) (opd_e (hp_k pe_int fun _ => .int _)) op_modWW) set_list)))))
    (hs_cons (hs_for PassesOwn.never rfl (hi_rng2 (by rfl) T.n_range (hpa_cons (opd_e (hp_k pe_int fun _ => .int _)) (hpa_cons (opd_e (hp_k pe_int fun _ => .int _)) hpa_nil))) (hg_name (pg_name (i := 2) nd rfl (by first | exact .inl rfl | exact .inr rfl))) (hs_one (hs_setL (ps_asg (hp_op op_mod (opd_e (hp_op op_addAll (opd_e (hp_ix ix_seq (opd_v 1 (pv 1)) (opd_v 2 (pv 2)) op_ixW (fun _ _ => rfl))) (opd_e (hp_op op_mulAll (opd_e (hp_ix ix_seq (opd_v 1 (pv 1)) (opd_e (hp_op op_sub (opd_v 2 (pv 2)) (opd_e (hp_k pe_int fun _ => .int _)) op_subW)) op_ixW (fun _ _ => rfl))) (opd_e (hp_k pe_int fun _ => .int _)) op_mulW')) op_addW)) (opd_e (hp_k pe_int fun _ => .int _)) op_modWW) (pg_sub (pv 1) (hp_v 2 (pv 2)) set_list)))))
    (hs_one (hs_ret (hp_m 1 (pv 1)))))))
theorem has__law_folded (T : Tops K mg)  {fa : Addr} {fd : FuncData} (Fn : Fun K "_law_folded" "_law_folded" s__law_folded fa fd) (hm : mg "_law_folded" = some (.ref fa)) : Has P w TB K mg base 1 "_law_folded" 1 sp__law_folded_8cf898 :=
  Has.mk' (ps := ["_law_script"]) Fn hm (Fn.binds fun _ _ _ _ _ _ us hl => match us, hl with | [_], _ => rfl) sc__law_folded (fun _ ecd _ _ _ _ _ hgd hr => d__law_folded T  hgd hr) rd__law_folded_8cf898
abbrev s__law_words : Stmt := topS 33
theorem sc__law_words : FnScope ["_law_m", "_law_many", "_law_letters", "_law_start", "_law_way", "_law_size", "_law_at", "_law_stride", "_law_base", "_law_j", "_law_found", "_law_k", "_law_mark", "_law_bars", "_law_word"] ["_law_m", "_law_many"] (defScope s__law_words) := ⟨rfl, rfl, rfl, by decide +kernel, rfl, by decide +kernel, by decide +kernel⟩
theorem d__law_words (T : Tops K mg) (g__law_draw : Has P w TB K mg base 2 "_law_draw" 2 sp__law_draw_a6e186) {fa : Addr} {cdv : Value} {A : Around} {outer : List Env} {s : Shared} {H : Hp} {E : XK} (hgd : (A.deeper (envOfC "_law_words" (defScope s__law_words) s.heap.objs.size fa cdv)).guards = some []) (hr : Room 2 (A.deeper (envOfC "_law_words" (defScope s__law_words) s.heap.objs.size fa cdv))) :
    PSs (cxOf CX0 P w K mg base ["_law_m", "_law_many", "_law_letters", "_law_start", "_law_way", "_law_size", "_law_at", "_law_stride", "_law_base", "_law_j", "_law_found", "_law_k", "_law_mark", "_law_bars", "_law_word"] "_law_words" (defScope s__law_words) fa cdv A outer s H E).nox (defBody s__law_words) (lfS K (f0 w TB) h__law_words_aaf2f6) := by
  have nd := sc__law_words.nd
  exact (hs_cons (hs_set (i := 2) nd rfl (.inr rfl) (hp_k pe_str fun _ => .str _))
    (hs_cons (hs_unp (hp_tup (hpa_cons (opd_e (hp_callH g__law_draw hgd (hr.mono (by decide)) (by rfl) (hpa_cons (opd_v 0 (pv 0)) (hpa_cons (opd_e (hp_k pe_int fun _ => .int _)) hpa_nil)))) (hpa_cons (opd_e (hp_callH g__law_draw hgd (hr.mono (by decide)) (by rfl) (hpa_cons (opd_v 0 (pv 0)) (hpa_cons (opd_e (hp_k pe_int fun _ => .int _)) hpa_nil)))) hpa_nil))) (hg_pair (pg_tup rfl (pgs_cons (pg_name (i := 3) nd rfl (by first | exact .inl rfl | exact .inr rfl)) (pgs_cons (pg_name (i := 4) nd rfl (by first | exact .inl rfl | exact .inr rfl)) pgs_nil)))))
    (hs_cons (hs_set (i := 5) nd rfl (.inl rfl) (hp_op op_addAll (opd_e (hp_k pe_int fun _ => .int _)) (opd_e (hp_callH g__law_draw hgd (hr.mono (by decide)) (by rfl) (hpa_cons (opd_v 0 (pv 0)) (hpa_cons (opd_e (hp_k pe_int fun _ => .int _)) hpa_nil)))) op_addW))
    (hs_cons (hs_set (i := 6) nd rfl (.inl rfl) (hp_callH g__law_draw hgd (hr.mono (by decide)) (by rfl) (hpa_cons (opd_v 0 (pv 0)) (hpa_cons (opd_v 5 (pv 5)) hpa_nil))))
    (hs_cons (hs_set (i := 7) nd rfl (.inl rfl) (hp_ix ix_seq (opd_e (hp_lst (hpa_cons (opd_e (hp_k pe_int fun _ => .int _)) (hpa_cons (opd_e (hp_k pe_int fun _ => .int _)) (hpa_cons (opd_e (hp_k pe_int fun _ => .int _)) (hpa_cons (opd_e (hp_k pe_int fun _ => .int _)) (hpa_cons (opd_e (hp_k pe_int fun _ => .int _)) (hpa_cons (opd_e (hp_k pe_int fun _ => .int _)) hpa_nil)))))))) (opd_e (hp_callH g__law_draw hgd (hr.mono (by decide)) (by rfl) (hpa_cons (opd_v 0 (pv 0)) (hpa_cons (opd_e (hp_k pe_int fun _ => .int _)) hpa_nil)))) op_ixW (fun _ _ => rfl)))
    (hs_cons (hs_set (i := 8) nd rfl (.inl rfl) (hp_join pe_str (opd_e (hp_lc (pe_lc (own := [("_law_j", 9)]) rfl nd (hi_rng1 (by rfl) T.n_range (hpa_cons (opd_e (hp_k pe_int fun _ => .int _)) hpa_nil)) (blkOk_by (own := [("_law_j", 9)]) (N := ["_law_m", "_law_many", "_law_letters", "_law_start", "_law_way", "_law_size", "_law_at", "_law_stride", "_law_base", "_law_j", "_law_found", "_law_k", "_law_mark", "_law_bars", "_law_word"]) (sc := defScope s__law_words) (by decide +kernel)) (fun _ _ _ _ _ => (hg_name (pg_name (i := 9) nd rfl (by first | exact .inl rfl | exact .inr rfl)))) (fun _ _ _ _ _ => pts_yes) (fun _ _ _ _ _ => (hp_ix ix_seq (opd_v 2 (pv 2)) (opd_e (hp_op op_mod (opd_e (hp_op op_addAll (opd_v 3 (pv 3)) (opd_e (hp_op op_mulAll (opd_e (hp_k pe_int fun _ => .int _)) (opd_v 9 (pv 9)) op_mulW')) op_addW)) (opd_e (hp_k pe_int fun _ => .int _)) op_modWW)) op_ixW (fun _ _ => rfl)))) (by decide) gl_name))))
    (hs_cons (hs_set (i := 10) nd rfl (.inl rfl) (hp_lst hpa_nil))
    (hs_cons (hs_for PassesOwn.never rfl (hi_rng1 (by rfl) T.n_range (hpa_cons (opd_v 1 (pv 1)) hpa_nil)) (hg_name (pg_name (i := 11) nd rfl (by first | exact .inl rfl | exact .inr rfl))) (hs_cons (hs_set (i := 12) nd rfl (.inl rfl) (hp_ix ix_seq (opd_v 2 (pv 2)) (opd_e (hp_op op_mod (opd_e (hp_op op_addAll (opd_v 3 (pv 3)) (opd_e (hp_op op_mulAll (opd_v 7 (pv 7)) (opd_v 11 (pv 11)) op_mulW')) op_addW)) (opd_e (hp_k pe_int fun _ => .int _)) op_modWW)) op_ixW (fun _ _ => rfl)))
    (hs_one (hs_if (ht_cmp (op_eqP (u64 hr)) (opd_v 4 (pv 4)) (opd_e (hp_k pe_int fun _ => .int _)) op_eqPW (nomark _)) (hs_one (hs_drop (hp_app (hp_op op_addAll (opd_v 12 (pv 12)) (opd_e (hp_sl (pv 8) ho_none (ho_some (hp_op op_mod (opd_e (hp_op op_mulAll (opd_v 11 (pv 11)) (opd_v 7 (pv 7)) op_mulW')) (opd_e (hp_k pe_int fun _ => .int _)) op_modWW)))) op_addW) (fun h => pe_bm PySem.F.plainAttrs_list PySem.F.slot_list_append PySem.F.type_list_append mt_append (pv 10) h)))) (hs_one (hs_drop (hp_app (hp_op op_addAll (opd_e (hp_op op_addAll (opd_e (hp_sl (pv 8) ho_none (ho_some (hp_v 6 (pv 6))))) (opd_v 12 (pv 12)) op_addW)) (opd_e (hp_sl (pv 8) (ho_some (hp_op op_addAll (opd_v 6 (pv 6)) (opd_e (hp_k pe_int fun _ => .int _)) op_addW)) (ho_some (hp_v 5 (pv 5))))) op_addW) (fun h => pe_bm PySem.F.plainAttrs_list PySem.F.slot_list_append PySem.F.type_list_append mt_append (pv 10) h))))))))
    (hs_cons (hs_set (i := 13) nd rfl (.inr rfl) (hp_lst (hpa_cons (opd_e (hp_k pe_str fun _ => .str _)) (hpa_cons (opd_e (hp_k pe_str fun _ => .str _)) (hpa_cons (opd_e (hp_k pe_str fun _ => .str _)) (hpa_cons (opd_e (hp_k pe_str fun _ => .str _)) (hpa_cons (opd_e (hp_k pe_str fun _ => .str _)) (hpa_cons (opd_e (hp_k pe_str fun _ => .str _)) (hpa_cons (opd_e (hp_k pe_str fun _ => .str _)) hpa_nil)))))))))
    (hs_one (hs_ret (hp_lc (pe_lc (own := [("_law_word", 14)]) rfl nd (hi_list (hp_v 10 (pv 10))) (blkOk_by (own := [("_law_word", 14)]) (N := ["_law_m", "_law_many", "_law_letters", "_law_start", "_law_way", "_law_size", "_law_at", "_law_stride", "_law_base", "_law_j", "_law_found", "_law_k", "_law_mark", "_law_bars", "_law_word"]) (sc := defScope s__law_words) (by decide +kernel)) (fun _ _ _ _ _ => (hg_name (pg_name (i := 14) nd rfl (by first | exact .inl rfl | exact .inr rfl)))) (fun _ _ _ _ _ => pts_yes) (fun _ _ _ _ _ => (hp_if (ht_cmp (op_ninP (u64 hr)) (opd_v 14 (pv 14)) (opd_v 13 (pv 13)) op_inPW (by first | exact nobehind _ (by decide) (by decide) | rfl)) (hp_v 14 (pv 14)) (hp_op op_addAll (opd_e (hp_op op_addAll (opd_e (hp_k pe_str fun _ => .str _)) (opd_e (hp_sl (pv 14) ho_none (ho_some (hp_k pe_int fun _ => .int _)))) op_addW)) (opd_e (hp_k pe_str fun _ => .str _)) op_addW)))) (by decide) gl_name))))))))))))
theorem has__law_words (T : Tops K mg) (g__law_draw : Has P w TB K mg base 2 "_law_draw" 2 sp__law_draw_a6e186) {fa : Addr} {fd : FuncData} (Fn : Fun K "_law_words" "_law_words" s__law_words fa fd) (hm : mg "_law_words" = some (.ref fa)) : Has P w TB K mg base 3 "_law_words" 2 sp__law_words_aaf2f6 :=
  Has.mk' (ps := ["_law_m", "_law_many"]) Fn hm (Fn.binds fun _ _ _ _ _ _ us hl => match us, hl with | [_, _], _ => rfl) sc__law_words (fun _ ecd _ _ _ _ _ hgd hr => d__law_words T g__law_draw hgd hr) rd__law_words_aaf2f6
abbrev s__law_set : Stmt := topS 34
theorem sc__law_set : FnScope ["_law_m", "_law_deeds", "_law_deed"] ["_law_m", "_law_deeds"] (defScope s__law_set) := ⟨rfl, rfl, rfl, by decide +kernel, rfl, by decide +kernel, by decide +kernel⟩
theorem d__law_set (T : Tops K mg) (g__law_draw : Has P w TB K mg base 2 "_law_draw" 2 sp__law_draw_a6e186) {fa : Addr} {cdv : Value} {A : Around} {outer : List Env} {s : Shared} {H : Hp} {E : XK} (hgd : (A.deeper (envOfC "_law_set" (defScope s__law_set) s.heap.objs.size fa cdv)).guards = some []) (hr : Room 2 (A.deeper (envOfC "_law_set" (defScope s__law_set) s.heap.objs.size fa cdv))) :
    PSs (cxOf CX0 P w K mg base ["_law_m", "_law_deeds", "_law_deed"] "_law_set" (defScope s__law_set) fa cdv A outer s H E).nox (defBody s__law_set) (lfS K (f0 w TB) h__law_set_82be62) := by
  have nd := sc__law_set.nd
  exact (hs_one (hs_ret (hp_callTy call_tuple_of op_tupW (by rfl) T.n_tuple (by decide +kernel) (hpa_cons (opd_e (hp_callB (cr_sortG (α := Str) (u64 hr) (by decide)) op_sortA (by rfl) T.n_sorted (by decide +kernel) (hpa_cons (opd_e (hp_lc (pe_lc (own := [("_law_deed", 2)]) rfl nd (hi_list (hp_v 1 (pv 1))) (blkOk_by (own := [("_law_deed", 2)]) (N := ["_law_m", "_law_deeds", "_law_deed"]) (sc := defScope s__law_set) (by decide +kernel)) (fun _ _ _ _ _ => (hg_name (pg_name (i := 2) nd rfl (by first | exact .inl rfl | exact .inr rfl)))) (fun _ _ _ _ _ => (pts_one (ht_cmp (op_eqP (u64 hr)) (opd_e (hp_callH g__law_draw hgd (hr.mono (by decide)) (by rfl) (hpa_cons (opd_v 0 (pv 0)) (hpa_cons (opd_e (hp_k pe_int fun _ => .int _)) hpa_nil)))) (opd_e (hp_k pe_int fun _ => .int _)) op_eqPW (nomark _)))) (fun _ _ _ _ _ => (hp_v 2 (pv 2)))) (by decide) gl_name)) hpa_nil))) hpa_nil))))
theorem has__law_set (T : Tops K mg) (g__law_draw : Has P w TB K mg base 2 "_law_draw" 2 sp__law_draw_a6e186) {fa : Addr} {fd : FuncData} (Fn : Fun K "_law_set" "_law_set" s__law_set fa fd) (hm : mg "_law_set" = some (.ref fa)) : Has P w TB K mg base 3 "_law_set" 2 sp__law_set_82be62 :=
  Has.mk' (ps := ["_law_m", "_law_deeds"]) Fn hm (Fn.binds fun _ _ _ _ _ _ us hl => match us, hl with | [_, _], _ => rfl) sc__law_set (fun _ ecd _ _ _ _ _ hgd hr => d__law_set T g__law_draw hgd hr) rd__law_set_82be62
abbrev s__law_machine : Stmt := topS 35
theorem sc__law_machine : FnScope ["_law_m", "_law_most", "_law_deeds", "_law_many", "_law_hidden", "_law_found", "_law_k", "_law_row", "_law_j", "_law_is_own", "_law_deed"] ["_law_m", "_law_most", "_law_deeds"] (defScope s__law_machine) := ⟨rfl, rfl, rfl, by decide +kernel, rfl, by decide +kernel, by decide +kernel⟩
theorem d__law_machine (T : Tops K mg) (g__law_draw : Has P w TB K mg base 2 "_law_draw" 2 sp__law_draw_a6e186) {fa : Addr} {cdv : Value} {A : Around} {outer : List Env} {s : Shared} {H : Hp} {E : XK} (hgd : (A.deeper (envOfC "_law_machine" (defScope s__law_machine) s.heap.objs.size fa cdv)).guards = some []) (hr : Room 2 (A.deeper (envOfC "_law_machine" (defScope s__law_machine) s.heap.objs.size fa cdv))) :
    PSs (cxOf CX0 P w K mg base ["_law_m", "_law_most", "_law_deeds", "_law_many", "_law_hidden", "_law_found", "_law_k", "_law_row", "_law_j", "_law_is_own", "_law_deed"] "_law_machine" (defScope s__law_machine) fa cdv A outer s H E).nox (defBody s__law_machine) (lfS K (f0 w TB) h__law_machine_5d3daf) := by
  have nd := sc__law_machine.nd
  exact (hs_cons (hs_par (fun h => ps_par (i := 3) (j := 4) rfl nd rfl rfl (by decide) rfl rfl h (by rfl)) (hpa_cons (opd_e (hp_op op_addAll (opd_e (hp_k pe_int fun _ => .int _)) (opd_e (hp_callH g__law_draw hgd (hr.mono (by decide)) (by rfl) (hpa_cons (opd_v 0 (pv 0)) (hpa_cons (opd_v 1 (pv 1)) hpa_nil)))) op_addW)) (hpa_cons (opd_e (hp_callH g__law_draw hgd (hr.mono (by decide)) (by rfl) (hpa_cons (opd_v 0 (pv 0)) (hpa_cons (opd_e (hp_k pe_int fun _ => .int _)) hpa_nil)))) hpa_nil)))
    (hs_cons (hs_set (i := 5) nd rfl (.inl rfl) (hp_lst hpa_nil))
    (hs_cons (hs_for PassesOwn.never rfl (hi_rng1 (by rfl) T.n_range (hpa_cons (opd_v 3 (pv 3)) hpa_nil)) (hg_name (pg_name (i := 6) nd rfl (by first | exact .inl rfl | exact .inr rfl))) (hs_cons (hs_set (i := 7) nd rfl (.inl rfl) (hp_lst hpa_nil))
    (hs_cons (hs_for PassesOwn.never rfl (hi_rng1 (by rfl) T.n_range (hpa_cons (opd_e (hp_ix ix_seq (opd_e (hp_lst (hpa_cons (opd_e (hp_k pe_int fun _ => .int _)) (hpa_cons (opd_e (hp_k pe_int fun _ => .int _)) (hpa_cons (opd_e (hp_k pe_int fun _ => .int _)) (hpa_cons (opd_e (hp_k pe_int fun _ => .int _)) (hpa_cons (opd_e (hp_k pe_int fun _ => .int _)) (hpa_cons (opd_e (hp_k pe_int fun _ => .int _)) (hpa_cons (opd_e (hp_k pe_int fun _ => .int _)) (hpa_cons (opd_e (hp_k pe_int fun _ => .int _)) hpa_nil)))))))))) (opd_e (hp_callH g__law_draw hgd (hr.mono (by decide)) (by rfl) (hpa_cons (opd_v 0 (pv 0)) (hpa_cons (opd_e (hp_k pe_int fun _ => .int _)) hpa_nil)))) op_ixW (fun _ _ => rfl))) hpa_nil)) (hg_name (pg_name (i := 8) nd rfl (by first | exact .inl rfl | exact .inr rfl))) (hs_cons (hs_set (i := 9) nd rfl (.inl rfl) (hp_orV (hp_cmp (op_eqP (u64 hr)) (opd_v 2 (pv 2)) (opd_e (hp_lst hpa_nil)) op_eqPW (nomark _)) (pe_one (hp_cmp op_lt (opd_e (hp_callH g__law_draw hgd (hr.mono (by decide)) (by rfl) (hpa_cons (opd_v 0 (pv 0)) (hpa_cons (opd_e (hp_k pe_int fun _ => .int _)) hpa_nil)))) (opd_v 4 (pv 4)) op_ltW (nomark _)))))
    (hs_cons (hs_set (i := 10) nd rfl (.inl rfl) (hp_if (hp_test (hp_v 9 (pv 9))) (hp_k pe_str fun _ => .str _) (hp_ix ix_seq (opd_v 2 (pv 2)) (opd_e (hp_callH g__law_draw hgd (hr.mono (by decide)) (by rfl) (hpa_cons (opd_v 0 (pv 0)) (hpa_cons (opd_e (hp_callB call_lenAll op_lenW (by rfl) T.n_len (by decide +kernel) (hpa_cons (opd_v 2 (pv 2)) hpa_nil))) hpa_nil)))) op_ixW (fun _ _ => rfl))))
    (hs_one (hs_drop (hp_app (hp_tup (hpa_cons (opd_e (hp_v 10 (pv 10))) (hpa_cons (opd_e (hp_ix ix_seq (opd_e (hp_lst (hpa_cons (opd_e (hp_op op_mod (opd_e (hp_op op_addAll (opd_v 6 (pv 6)) (opd_e (hp_k pe_int fun _ => .int _)) op_addW)) (opd_v 3 (pv 3)) op_modWW)) (hpa_cons (opd_e (hp_callH g__law_draw hgd (hr.mono (by decide)) (by rfl) (hpa_cons (opd_v 0 (pv 0)) (hpa_cons (opd_v 3 (pv 3)) hpa_nil)))) hpa_nil)))) (opd_e (hp_callH g__law_draw hgd (hr.mono (by decide)) (by rfl) (hpa_cons (opd_v 0 (pv 0)) (hpa_cons (opd_e (hp_k pe_int fun _ => .int _)) hpa_nil)))) op_ixW (fun _ _ => rfl))) hpa_nil))) (fun h => pe_bm PySem.F.plainAttrs_list PySem.F.slot_list_append PySem.F.type_list_append mt_append (pv 7) h)))))))
    (hs_one (hs_drop (hp_app (hp_callTy call_tuple_of op_tupW (by rfl) T.n_tuple (by decide +kernel) (hpa_cons (opd_e (hp_sortUT (α := Str) (β := Int) rfl (u64 hr) (by rfl) T.n_sorted (by rfl) T.n_set (opd_v 7 (pv 7)))) hpa_nil)) (fun h => pe_bm PySem.F.plainAttrs_list PySem.F.slot_list_append PySem.F.type_list_append mt_append (pv 5) h)))))))
    (hs_one (hs_ret (hp_callTy call_tuple_of op_tupW (by rfl) T.n_tuple (by decide +kernel) (hpa_cons (opd_v 5 (pv 5)) hpa_nil)))))))
theorem has__law_machine (T : Tops K mg) (g__law_draw : Has P w TB K mg base 2 "_law_draw" 2 sp__law_draw_a6e186) {fa : Addr} {fd : FuncData} (Fn : Fun K "_law_machine" "_law_machine" s__law_machine fa fd) (hm : mg "_law_machine" = some (.ref fa)) : Has P w TB K mg base 3 "_law_machine" 3 sp__law_machine_5d3daf :=
  Has.mk' (ps := ["_law_m", "_law_most", "_law_deeds"]) Fn hm (Fn.binds fun _ _ _ _ _ _ us hl => match us, hl with | [_, _, _], _ => rfl) sc__law_machine (fun _ ecd _ _ _ _ _ hgd hr => d__law_machine T g__law_draw hgd hr) rd__law_machine_5d3daf
abbrev s__law_pair_moves : Stmt := topS 36
theorem sc__law_pair_moves : FnScope ["_law_one", "_law_deeds", "_law_other", "_law_pair", "_law_found", "_law_deed", "_law_node", "_law_by", "_law_there"] ["_law_one", "_law_deeds", "_law_other", "_law_pair"] (defScope s__law_pair_moves) := ⟨rfl, rfl, rfl, by decide +kernel, rfl, by decide +kernel, by decide +kernel⟩
theorem d__law_pair_moves (T : Tops K mg)  {fa : Addr} {cdv : Value} {A : Around} {outer : List Env} {s : Shared} {H : Hp} {E : XK} (hgd : (A.deeper (envOfC "_law_pair_moves" (defScope s__law_pair_moves) s.heap.objs.size fa cdv)).guards = some []) (hr : Room 0 (A.deeper (envOfC "_law_pair_moves" (defScope s__law_pair_moves) s.heap.objs.size fa cdv))) :
    PSs (cxOf CX0 P w K mg base ["_law_one", "_law_deeds", "_law_other", "_law_pair", "_law_found", "_law_deed", "_law_node", "_law_by", "_law_there"] "_law_pair_moves" (defScope s__law_pair_moves) fa cdv A outer s H E).nox (defBody s__law_pair_moves) (lfS K (f0 w TB) h__law_pair_moves_ac7fb4) := by
  have nd := sc__law_pair_moves.nd
  exact (hs_cons (hs_set (i := 4) nd rfl (.inl rfl) (hp_dnewG rfl))
    (hs_cons (hs_for PassesOwn.never rfl (hi_tup (hp_ix ix_seq (opd_v 0 (pv 0)) (opd_e (hp_ix ix_seq (opd_v 3 (pv 3)) (opd_e (hp_k pe_int fun _ => .int _)) op_ixW (fun _ _ => rfl))) op_ixW (fun _ _ => rfl))) (hg_pair (pg_tup rfl (pgs_cons (pg_name (i := 5) nd rfl (by first | exact .inl rfl | exact .inr rfl)) (pgs_cons (pg_name (i := 6) nd rfl (by first | exact .inl rfl | exact .inr rfl)) pgs_nil)))) (hs_cons (hs_if (ht_cmp (op_ninP (u64 hr)) (opd_v 5 (pv 5)) (opd_v 1 (pv 1)) op_inPW (by first | exact nobehind _ (by decide) (by decide) | rfl)) (hs_one (hs_dputG rfl (ps_gput (u64 hr) (pv 4) (hp_tup (hpa_cons (opd_e (hp_v 5 (pv 5))) (hpa_cons (opd_e (hp_tup (hpa_cons (opd_e (hp_v 6 (pv 6))) (hpa_cons (opd_e (hp_ix ix_seq (opd_v 3 (pv 3)) (opd_e (hp_k pe_int fun _ => .int _)) op_ixW (fun _ _ => rfl))) hpa_nil)))) hpa_nil))) (hp_k pe_bl fun _ => .bl _) rfl))) hs_nil)
    (hs_one (hs_for PassesOwn.never rfl (hi_tup (hp_ix ix_seq (opd_v 2 (pv 2)) (opd_e (hp_ix ix_seq (opd_v 3 (pv 3)) (opd_e (hp_k pe_int fun _ => .int _)) op_ixW (fun _ _ => rfl))) op_ixW (fun _ _ => rfl))) (hg_pair (pg_tup rfl (pgs_cons (pg_name (i := 7) nd rfl (by first | exact .inl rfl | exact .inr rfl)) (pgs_cons (pg_name (i := 8) nd rfl (by first | exact .inl rfl | exact .inr rfl)) pgs_nil)))) (hs_one (hs_if (PW.pt (ht_and (ht_cmp (op_eqP (u64 hr)) (opd_v 5 (pv 5)) (opd_v 7 (pv 7)) op_eqPW (nomark _)) (ht_and1 (ht_cmp (op_inP (u64 hr)) (opd_v 5 (pv 5)) (opd_v 1 (pv 1)) op_inPW (by first | exact nobehind _ (by decide) (by decide) | rfl))))) (hs_one (hs_dputG rfl (ps_gput (u64 hr) (pv 4) (hp_tup (hpa_cons (opd_e (hp_v 5 (pv 5))) (hpa_cons (opd_e (hp_tup (hpa_cons (opd_e (hp_v 6 (pv 6))) (hpa_cons (opd_e (hp_v 8 (pv 8))) hpa_nil)))) hpa_nil))) (hp_k pe_bl fun _ => .bl _) rfl))) hs_nil))))))
    (hs_cons (hs_for PassesOwn.never rfl (hi_tup (hp_ix ix_seq (opd_v 2 (pv 2)) (opd_e (hp_ix ix_seq (opd_v 3 (pv 3)) (opd_e (hp_k pe_int fun _ => .int _)) op_ixW (fun _ _ => rfl))) op_ixW (fun _ _ => rfl))) (hg_pair (pg_tup rfl (pgs_cons (pg_name (i := 5) nd rfl (by first | exact .inl rfl | exact .inr rfl)) (pgs_cons (pg_name (i := 6) nd rfl (by first | exact .inl rfl | exact .inr rfl)) pgs_nil)))) (hs_one (hs_if (ht_cmp (op_ninP (u64 hr)) (opd_v 5 (pv 5)) (opd_v 1 (pv 1)) op_inPW (by first | exact nobehind _ (by decide) (by decide) | rfl)) (hs_one (hs_dputG rfl (ps_gput (u64 hr) (pv 4) (hp_tup (hpa_cons (opd_e (hp_v 5 (pv 5))) (hpa_cons (opd_e (hp_tup (hpa_cons (opd_e (hp_ix ix_seq (opd_v 3 (pv 3)) (opd_e (hp_k pe_int fun _ => .int _)) op_ixW (fun _ _ => rfl))) (hpa_cons (opd_e (hp_v 6 (pv 6))) hpa_nil)))) hpa_nil))) (hp_k pe_bl fun _ => .bl _) rfl))) hs_nil)))
    (hs_one (hs_ret (hp_callB (cr_sortGD (α := Str × Int × Int) rfl (u64 hr) (by decide)) (op_sortGW rfl) (by rfl) T.n_sorted (by decide +kernel) (hpa_cons (opd_v 4 (pv 4)) hpa_nil)))))))
theorem has__law_pair_moves (T : Tops K mg)  {fa : Addr} {fd : FuncData} (Fn : Fun K "_law_pair_moves" "_law_pair_moves" s__law_pair_moves fa fd) (hm : mg "_law_pair_moves" = some (.ref fa)) : Has P w TB K mg base 1 "_law_pair_moves" 4 sp__law_pair_moves_ac7fb4 :=
  Has.mk' (ps := ["_law_one", "_law_deeds", "_law_other", "_law_pair"]) Fn hm (Fn.binds fun _ _ _ _ _ _ us hl => match us, hl with | [_, _, _, _], _ => rfl) sc__law_pair_moves (fun _ ecd _ _ _ _ _ hgd hr => d__law_pair_moves T  hgd hr) rd__law_pair_moves_ac7fb4
abbrev s__law_due : Stmt := topS 37
theorem sc__law_due : FnScope ["_law_one", "_law_deeds", "_law_other", "_law_nodes", "_law_places", "_law_found", "_law_row", "_law_deed", "_law_pair"] ["_law_one", "_law_deeds", "_law_other"] (defScope s__law_due) := ⟨rfl, rfl, rfl, by decide +kernel, rfl, by decide +kernel, by decide +kernel⟩
theorem d__law_due (T : Tops K mg) (g__law_pair_moves : Has P w TB K mg base 1 "_law_pair_moves" 4 sp__law_pair_moves_ac7fb4) {fa : Addr} {cdv : Value} {A : Around} {outer : List Env} {s : Shared} {H : Hp} {E : XK} (hgd : (A.deeper (envOfC "_law_due" (defScope s__law_due) s.heap.objs.size fa cdv)).guards = some []) (hr : Room 1 (A.deeper (envOfC "_law_due" (defScope s__law_due) s.heap.objs.size fa cdv))) :
    PSs (cxOf CX0 P w K mg base ["_law_one", "_law_deeds", "_law_other", "_law_nodes", "_law_places", "_law_found", "_law_row", "_law_deed", "_law_pair"] "_law_due" (defScope s__law_due) fa cdv A outer s H E).nox (defBody s__law_due) (lfS K (f0 w TB) h__law_due_10adf9) := by
  have nd := sc__law_due.nd
  exact (hs_cons (hs_par3 (by decide) (by decide) (by decide) (q_lst1 (k_tup2 (k_of pe_int fun _ => .int _) (k_of pe_int fun _ => .int _))) (q_disp1 rfl (u64 hr) (k_tup2 (k_of pe_int fun _ => .int _) (k_of pe_int fun _ => .int _)) (k_of pe_int fun _ => .int _) ⟨rfl, by decide⟩) q_lst0 (fun h => ps_par3 (i := 3) (j := 4) (l := 5) rfl nd rfl rfl rfl (by decide) (by decide) (by decide) rfl rfl rfl h (by rfl)))
    (hs_cons (hs_while PassesOwn.never (ht_cmp op_lt (opd_e (hp_callB call_lenAll op_lenW (by rfl) T.n_len (by decide +kernel) (hpa_cons (opd_v 5 (pv 5)) hpa_nil))) (opd_e (hp_callB call_lenAll op_lenW (by rfl) T.n_len (by decide +kernel) (hpa_cons (opd_v 3 (pv 3)) hpa_nil))) op_ltW (nomark _)) (hs_cons (hs_set (i := 6) nd rfl (.inl rfl) (hp_lst hpa_nil))
    (hs_cons (hs_for PassesOwn.never rfl (hi_list (hp_callH g__law_pair_moves hgd (hr.mono (by decide)) (by rfl) (hpa_cons (opd_v 0 (pv 0)) (hpa_cons (opd_v 1 (pv 1)) (hpa_cons (opd_v 2 (pv 2)) (hpa_cons (opd_e (hp_ix ix_seq (opd_v 3 (pv 3)) (opd_e (hp_callB call_lenAll op_lenW (by rfl) T.n_len (by decide +kernel) (hpa_cons (opd_v 5 (pv 5)) hpa_nil))) op_ixW (fun _ _ => rfl))) hpa_nil)))))) (hg_pair (pg_tup rfl (pgs_cons (pg_name (i := 7) nd rfl (by first | exact .inl rfl | exact .inr rfl)) (pgs_cons (pg_name (i := 8) nd rfl (by first | exact .inl rfl | exact .inr rfl)) pgs_nil)))) (hs_cons (hs_if (ht_dninG rfl (u64 hr) (opd_v 8 (pv 8)) (opd_v 4 (pv 4))) (hs_cons (hs_dputG rfl (ps_gput (u64 hr) (pv 4) (hp_v 8 (pv 8)) (hp_callB call_lenAll op_lenW (by rfl) T.n_len (by decide +kernel) (hpa_cons (opd_v 3 (pv 3)) hpa_nil)) rfl))
    (hs_one (hs_drop (hp_app (hp_v 8 (pv 8)) (fun h => pe_bm PySem.F.plainAttrs_list PySem.F.slot_list_append PySem.F.type_list_append mt_append (pv 3) h))))) hs_nil)
    (hs_one (hs_drop (hp_app (hp_tup (hpa_cons (opd_e (hp_v 7 (pv 7))) (hpa_cons (opd_e (hp_dgetG rfl (u64 hr) (opd_v 4 (pv 4)) (opd_v 8 (pv 8)) (fun _ _ => rfl))) hpa_nil))) (fun h => pe_bm PySem.F.plainAttrs_list PySem.F.slot_list_append PySem.F.type_list_append mt_append (pv 6) h))))))
    (hs_one (hs_drop (hp_app (hp_callTy call_tuple_of op_tupW (by rfl) T.n_tuple (by decide +kernel) (hpa_cons (opd_e (hp_callB (cr_sortG (α := Str × Int) (u64 hr) (by decide)) op_sortA (by rfl) T.n_sorted (by decide +kernel) (hpa_cons (opd_v 6 (pv 6)) hpa_nil))) hpa_nil)) (fun h => pe_bm PySem.F.plainAttrs_list PySem.F.slot_list_append PySem.F.type_list_append mt_append (pv 5) h)))))))
    (hs_one (hs_ret (hp_callTy call_tuple_of op_tupW (by rfl) T.n_tuple (by decide +kernel) (hpa_cons (opd_v 5 (pv 5)) hpa_nil))))))
theorem has__law_due (T : Tops K mg) (g__law_pair_moves : Has P w TB K mg base 1 "_law_pair_moves" 4 sp__law_pair_moves_ac7fb4) {fa : Addr} {fd : FuncData} (Fn : Fun K "_law_due" "_law_due" s__law_due fa fd) (hm : mg "_law_due" = some (.ref fa)) : Has P w TB K mg base 2 "_law_due" 3 sp__law_due_10adf9 :=
  Has.mk' (ps := ["_law_one", "_law_deeds", "_law_other"]) Fn hm (Fn.binds fun _ _ _ _ _ _ us hl => match us, hl with | [_, _, _], _ => rfl) sc__law_due (fun _ ecd _ _ _ _ _ hgd hr => d__law_due T g__law_pair_moves hgd hr) rd__law_due_10adf9
abbrev s__law_known_right : Stmt := topS 38
theorem sc__law_known_right : FnScope ["_law_spin", "_law_stop", "_law_a", "_law_some", "_law_two", "_law_row"] [] (defScope s__law_known_right) := ⟨rfl, rfl, rfl, by decide +kernel, rfl, by decide +kernel, by decide +kernel⟩
theorem d__law_known_right (T : Tops K mg) (g_put_beside : Has P w TB K mg base 6 "put_beside" 3 sp_put_beside_e418b7) {fa : Addr} {cdv : Value} {A : Around} {outer : List Env} {s : Shared} {H : Hp} {E : XK} (hgd : (A.deeper (envOfC "_law_known_right" (defScope s__law_known_right) s.heap.objs.size fa cdv)).guards = some []) (hr : Room 6 (A.deeper (envOfC "_law_known_right" (defScope s__law_known_right) s.heap.objs.size fa cdv))) :
    PSs (cxOf CX0 P w K mg base ["_law_spin", "_law_stop", "_law_a", "_law_some", "_law_two", "_law_row"] "_law_known_right" (defScope s__law_known_right) fa cdv A outer s H E).nox (defBody s__law_known_right) (lfS K (f0 w TB) h__law_known_right_a93679) := by
  have nd := sc__law_known_right.nd
  exact (hs_cons (hs_unp (hp_tup (hpa_cons (opd_e (hp_tup (hpa_cons (opd_e (hp_tup (hpa_cons (opd_e (hp_tup (hpa_cons (opd_e (hp_k pe_str fun _ => .str _)) (hpa_cons (opd_e (hp_k pe_int fun _ => .int _)) hpa_nil)))) hpa_nil))) hpa_nil))) (hpa_cons (opd_e (hp_tup (hpa_cons (opd_e (hp_tup hpa_nil)) hpa_nil))) (hpa_cons (opd_e (hp_tup (hpa_cons (opd_e (hp_tup (hpa_cons (opd_e (hp_tup (hpa_cons (opd_e (hp_k pe_str fun _ => .str _)) (hpa_cons (opd_e (hp_k pe_int fun _ => .int _)) hpa_nil)))) hpa_nil))) (hpa_cons (opd_e (hp_tup hpa_nil)) hpa_nil)))) hpa_nil)))) (hg_tri (pg_tup rfl (pgs_cons (pg_name (i := 0) nd rfl (by first | exact .inl rfl | exact .inr rfl)) (pgs_cons (pg_name (i := 1) nd rfl (by first | exact .inl rfl | exact .inr rfl)) (pgs_cons (pg_name (i := 2) nd rfl (by first | exact .inl rfl | exact .inr rfl)) pgs_nil))))))
    (hs_cons (hs_set (i := 3) nd rfl (.inl rfl) (hp_lst (hpa_cons (opd_e (hp_tup (hpa_cons (opd_e (hp_v 0 (pv 0))) (hpa_cons (opd_e (hp_tup hpa_nil)) (hpa_cons (opd_e (hp_v 0 (pv 0))) (hpa_cons (opd_e (hp_v 0 (pv 0))) hpa_nil)))))) (hpa_cons (opd_e (hp_tup (hpa_cons (opd_e (hp_v 1 (pv 1))) (hpa_cons (opd_e (hp_tup hpa_nil)) (hpa_cons (opd_e (hp_v 1 (pv 1))) (hpa_cons (opd_e (hp_v 1 (pv 1))) hpa_nil)))))) (hpa_cons (opd_e (hp_tup (hpa_cons (opd_e (hp_v 2 (pv 2))) (hpa_cons (opd_e (hp_tup (hpa_cons (opd_e (hp_k pe_str fun _ => .str _)) hpa_nil))) (hpa_cons (opd_e (hp_v 1 (pv 1))) (hpa_cons (opd_e (hp_v 1 (pv 1))) hpa_nil)))))) (hpa_cons (opd_e (hp_tup (hpa_cons (opd_e (hp_v 2 (pv 2))) (hpa_cons (opd_e (hp_tup hpa_nil)) (hpa_cons (opd_e (hp_v 1 (pv 1))) (hpa_cons (opd_e (hp_v 2 (pv 2))) hpa_nil)))))) hpa_nil))))))
    (hs_cons (hs_drop (hp_app (hp_tup (hpa_cons (opd_e (hp_v 2 (pv 2))) (hpa_cons (opd_e (hp_tup (hpa_cons (opd_e (hp_k pe_str fun _ => .str _)) hpa_nil))) (hpa_cons (opd_e (hp_v 2 (pv 2))) (hpa_cons (opd_e (hp_v 2 (pv 2))) hpa_nil))))) (fun h => pe_bm PySem.F.plainAttrs_list PySem.F.slot_list_append PySem.F.type_list_append mt_append (pv 3) h)))
    (hs_cons (hs_drop (hp_app (hp_tup (hpa_cons (opd_e (hp_v 2 (pv 2))) (hpa_cons (opd_e (hp_tup hpa_nil)) (hpa_cons (opd_e (hp_v 2 (pv 2))) (hpa_cons (opd_e (hp_tup (hpa_cons (opd_e (hp_tup (hpa_cons (opd_e (hp_tup (hpa_cons (opd_e (hp_k pe_str fun _ => .str _)) (hpa_cons (opd_e (hp_k pe_int fun _ => .int _)) hpa_nil)))) (hpa_cons (opd_e (hp_tup (hpa_cons (opd_e (hp_k pe_str fun _ => .str _)) (hpa_cons (opd_e (hp_k pe_int fun _ => .int _)) hpa_nil)))) hpa_nil)))) (hpa_cons (opd_e (hp_tup (hpa_cons (opd_e (hp_tup (hpa_cons (opd_e (hp_k pe_str fun _ => .str _)) (hpa_cons (opd_e (hp_k pe_int fun _ => .int _)) hpa_nil)))) hpa_nil))) (hpa_cons (opd_e (hp_tup (hpa_cons (opd_e (hp_tup (hpa_cons (opd_e (hp_k pe_str fun _ => .str _)) (hpa_cons (opd_e (hp_k pe_int fun _ => .int _)) hpa_nil)))) hpa_nil))) (hpa_cons (opd_e (hp_tup hpa_nil)) hpa_nil)))))) hpa_nil))))) (fun h => pe_bm PySem.F.plainAttrs_list PySem.F.slot_list_append PySem.F.type_list_append mt_append (pv 3) h)))
    (hs_cons (hs_drop (hp_app (hp_tup (hpa_cons (opd_e (hp_tup (hpa_cons (opd_e (hp_tup (hpa_cons (opd_e (hp_tup (hpa_cons (opd_e (hp_k pe_str fun _ => .str _)) (hpa_cons (opd_e (hp_k pe_int fun _ => .int _)) hpa_nil)))) hpa_nil))) hpa_nil))) (hpa_cons (opd_e (hp_tup (hpa_cons (opd_e (hp_k pe_str fun _ => .str _)) hpa_nil))) (hpa_cons (opd_e (hp_v 2 (pv 2))) (hpa_cons (opd_e (hp_v 2 (pv 2))) hpa_nil))))) (fun h => pe_bm PySem.F.plainAttrs_list PySem.F.slot_list_append PySem.F.type_list_append mt_append (pv 3) h)))
    (hs_cons (hs_drop (hp_app (hp_tup (hpa_cons (opd_e (hp_tup (hpa_cons (opd_e (hp_tup (hpa_cons (opd_e (hp_tup (hpa_cons (opd_e (hp_k pe_str fun _ => .str _)) (hpa_cons (opd_e (hp_k pe_int fun _ => .int _)) hpa_nil)))) (hpa_cons (opd_e (hp_tup (hpa_cons (opd_e (hp_k pe_str fun _ => .str _)) (hpa_cons (opd_e (hp_k pe_int fun _ => .int _)) hpa_nil)))) hpa_nil)))) hpa_nil))) (hpa_cons (opd_e (hp_tup (hpa_cons (opd_e (hp_k pe_str fun _ => .str _)) hpa_nil))) (hpa_cons (opd_e (hp_v 2 (pv 2))) (hpa_cons (opd_e (hp_tup (hpa_cons (opd_e (hp_tup (hpa_cons (opd_e (hp_tup (hpa_cons (opd_e (hp_k pe_str fun _ => .str _)) (hpa_cons (opd_e (hp_k pe_int fun _ => .int _)) hpa_nil)))) (hpa_cons (opd_e (hp_tup (hpa_cons (opd_e (hp_k pe_str fun _ => .str _)) (hpa_cons (opd_e (hp_k pe_int fun _ => .int _)) hpa_nil)))) hpa_nil)))) (hpa_cons (opd_e (hp_tup (hpa_cons (opd_e (hp_tup (hpa_cons (opd_e (hp_k pe_str fun _ => .str _)) (hpa_cons (opd_e (hp_k pe_int fun _ => .int _)) hpa_nil)))) hpa_nil))) hpa_nil)))) hpa_nil))))) (fun h => pe_bm PySem.F.plainAttrs_list PySem.F.slot_list_append PySem.F.type_list_append mt_append (pv 3) h)))
    (hs_cons (hs_set (i := 4) nd rfl (.inl rfl) (hp_tup (hpa_cons (opd_e (hp_tup (hpa_cons (opd_e (hp_tup (hpa_cons (opd_e (hp_k pe_str fun _ => .str _)) (hpa_cons (opd_e (hp_k pe_int fun _ => .int _)) hpa_nil)))) (hpa_cons (opd_e (hp_tup (hpa_cons (opd_e (hp_k pe_str fun _ => .str _)) (hpa_cons (opd_e (hp_k pe_int fun _ => .int _)) hpa_nil)))) hpa_nil)))) (hpa_cons (opd_e (hp_tup hpa_nil)) (hpa_cons (opd_e (hp_tup hpa_nil)) hpa_nil)))))
    (hs_cons (hs_drop (hp_app (hp_tup (hpa_cons (opd_e (hp_v 4 (pv 4))) (hpa_cons (opd_e (hp_tup (hpa_cons (opd_e (hp_k pe_str fun _ => .str _)) hpa_nil))) (hpa_cons (opd_e (hp_v 4 (pv 4))) (hpa_cons (opd_e (hp_tup (hpa_cons (opd_e (hp_tup (hpa_cons (opd_e (hp_tup (hpa_cons (opd_e (hp_k pe_str fun _ => .str _)) (hpa_cons (opd_e (hp_k pe_int fun _ => .int _)) hpa_nil)))) (hpa_cons (opd_e (hp_tup (hpa_cons (opd_e (hp_k pe_str fun _ => .str _)) (hpa_cons (opd_e (hp_k pe_int fun _ => .int _)) hpa_nil)))) (hpa_cons (opd_e (hp_tup (hpa_cons (opd_e (hp_k pe_str fun _ => .str _)) (hpa_cons (opd_e (hp_k pe_int fun _ => .int _)) hpa_nil)))) (hpa_cons (opd_e (hp_tup (hpa_cons (opd_e (hp_k pe_str fun _ => .str _)) (hpa_cons (opd_e (hp_k pe_int fun _ => .int _)) hpa_nil)))) hpa_nil)))))) (hpa_cons (opd_e (hp_tup hpa_nil)) (hpa_cons (opd_e (hp_tup hpa_nil)) (hpa_cons (opd_e (hp_tup hpa_nil)) (hpa_cons (opd_e (hp_tup hpa_nil)) hpa_nil))))))) hpa_nil))))) (fun h => pe_bm PySem.F.plainAttrs_list PySem.F.slot_list_append PySem.F.type_list_append mt_append (pv 3) h)))
    (hs_cons (hs_drop (hp_app (hp_tup (hpa_cons (opd_e (hp_tup (hpa_cons (opd_e (hp_tup (hpa_cons (opd_e (hp_tup (hpa_cons (opd_e (hp_k pe_str fun _ => .str _)) (hpa_cons (opd_e (hp_k pe_int fun _ => .int _)) hpa_nil)))) hpa_nil))) (hpa_cons (opd_e (hp_tup (hpa_cons (opd_e (hp_tup (hpa_cons (opd_e (hp_k pe_str fun _ => .str _)) (hpa_cons (opd_e (hp_k pe_int fun _ => .int _)) hpa_nil)))) hpa_nil))) hpa_nil)))) (hpa_cons (opd_e (hp_tup (hpa_cons (opd_e (hp_k pe_str fun _ => .str _)) hpa_nil))) (hpa_cons (opd_e (hp_v 2 (pv 2))) (hpa_cons (opd_e (hp_tup (hpa_cons (opd_e (hp_tup (hpa_cons (opd_e (hp_tup (hpa_cons (opd_e (hp_k pe_str fun _ => .str _)) (hpa_cons (opd_e (hp_k pe_int fun _ => .int _)) hpa_nil)))) hpa_nil))) (hpa_cons (opd_e (hp_tup (hpa_cons (opd_e (hp_tup (hpa_cons (opd_e (hp_k pe_str fun _ => .str _)) (hpa_cons (opd_e (hp_k pe_int fun _ => .int _)) hpa_nil)))) hpa_nil))) (hpa_cons (opd_e (hp_tup (hpa_cons (opd_e (hp_tup (hpa_cons (opd_e (hp_k pe_str fun _ => .str _)) (hpa_cons (opd_e (hp_k pe_int fun _ => .int _)) hpa_nil)))) hpa_nil))) (hpa_cons (opd_e (hp_tup hpa_nil)) hpa_nil)))))) hpa_nil))))) (fun h => pe_bm PySem.F.plainAttrs_list PySem.F.slot_list_append PySem.F.type_list_append mt_append (pv 3) h)))
    (hs_one (hs_ret (hp_cmp (op_eqP (u64 hr)) (opd_e (hp_lc (pe_lc (own := [("_law_row", 5)]) rfl nd (hi_list (hp_v 3 (pv 3))) (blkOk_by (own := [("_law_row", 5)]) (N := ["_law_spin", "_law_stop", "_law_a", "_law_some", "_law_two", "_law_row"]) (sc := defScope s__law_known_right) (by decide +kernel)) (fun _ _ _ _ _ => (hg_name (pg_name (i := 5) nd rfl (by first | exact .inl rfl | exact .inr rfl)))) (fun _ _ _ _ _ => (pts_one (ht_cmp (op_neP (u64 hr)) (opd_e (hp_callB (call_repr hgd (u150 hr)) op_reprW (by rfl) T.n_repr (by decide +kernel) (hpa_cons (opd_e (hp_callH g_put_beside hgd (hr.mono (by decide)) (by rfl) (hpa_cons (opd_e (hp_ix ix_seq (opd_v 5 (pv 5)) (opd_e (hp_k pe_int fun _ => .int _)) op_ixW (fun _ _ => rfl))) (hpa_cons (opd_e (hp_ix ix_seq (opd_v 5 (pv 5)) (opd_e (hp_k pe_int fun _ => .int _)) op_ixW (fun _ _ => rfl))) (hpa_cons (opd_e (hp_ix ix_seq (opd_v 5 (pv 5)) (opd_e (hp_k pe_int fun _ => .int _)) op_ixW (fun _ _ => rfl))) hpa_nil))))) hpa_nil))) (opd_e (hp_callB (call_repr hgd (u150 hr)) op_reprW (by rfl) T.n_repr (by decide +kernel) (hpa_cons (opd_e (hp_ix ix_seq (opd_v 5 (pv 5)) (opd_e (hp_k pe_int fun _ => .int _)) op_ixW (fun _ _ => rfl))) hpa_nil))) op_eqPW (nomark _)))) (fun _ _ _ _ _ => (hp_v 5 (pv 5)))) (by decide) gl_name)) (opd_e (hp_lst hpa_nil)) op_eqPW (nomark _)))))))))))))
theorem has__law_known_right (T : Tops K mg) (g_put_beside : Has P w TB K mg base 6 "put_beside" 3 sp_put_beside_e418b7) {fa : Addr} {fd : FuncData} (Fn : Fun K "_law_known_right" "_law_known_right" s__law_known_right fa fd) (hm : mg "_law_known_right" = some (.ref fa)) : Has P w TB K mg base 7 "_law_known_right" 0 sp__law_known_right_a93679 :=
  Has.mk' (ps := []) Fn hm (Fn.binds fun _ _ _ _ _ _ us hl => match us, hl with | [], _ => rfl) sc__law_known_right (fun _ ecd _ _ _ _ _ hgd hr => d__law_known_right T g_put_beside hgd hr) rd__law_known_right_a93679
abbrev s_law : Stmt := topS 39
theorem sc_law : FnScope ["_law_script", "_law_m", "_law_deeds", "_law_k", "_law_one", "_law_other", "_law_sets", "_law_turn", "_law_some"] ["_law_script"] (defScope s_law) := ⟨rfl, rfl, rfl, by decide +kernel, rfl, by decide +kernel, by decide +kernel⟩
theorem d_law (T : Tops K mg) {fb : Addr} {fdb : FuncData} (Gb : GnOk P w K mg base CX0 2 fb fdb ["_law_script"] (spBegun K)) (hb : mg "_law_begun" = some (.ref fb)) (kb : PySem.W.keepIn K (.ref fb) = true) (bb : Binds K fdb ["_law_script"] []) (g__law_known_right : Has P w TB K mg base 7 "_law_known_right" 0 sp__law_known_right_a93679) (g_put_beside : Has P w TB K mg base 6 "put_beside" 3 sp_put_beside_e418b7) (g__law_due : Has P w TB K mg base 2 "_law_due" 3 sp__law_due_10adf9) (g__law_set : Has P w TB K mg base 3 "_law_set" 2 sp__law_set_82be62) (g__law_draw : Has P w TB K mg base 2 "_law_draw" 2 sp__law_draw_a6e186) (g__law_machine : Has P w TB K mg base 3 "_law_machine" 3 sp__law_machine_5d3daf) (g__law_words : Has P w TB K mg base 3 "_law_words" 2 sp__law_words_aaf2f6) {fa : Addr} {cdv : Value} {A : Around} {outer : List Env} {s : Shared} {H : Hp} {E : XK} (hgd : (A.deeper (envOfC "law" (defScope s_law) s.heap.objs.size fa cdv)).guards = some []) (hr : Room 7 (A.deeper (envOfC "law" (defScope s_law) s.heap.objs.size fa cdv))) :
    PSs (cxOf CX0 P w K mg base ["_law_script", "_law_m", "_law_deeds", "_law_k", "_law_one", "_law_other", "_law_sets", "_law_turn", "_law_some"] "law" (defScope s_law) fa cdv A outer s H E).nox (defBody s_law) (tSeq (tAsg (tCall (spBegun K) [] E0 (tCons (tVar 0) tNil)) (gName 1)) (lfS K (f0 w TB) h_law_448b52)) := by
  have nd := sc_law.nd
  exact pss_cons (ps_set (i := 1) nd rfl (.inl rfl) (pe_callG Gb hgd (hr.mono (by decide)) (by rfl) hb kb bb pass0 (pa_cons (pv 0) pa_nil)))
    (hs_cons (hs_set (i := 2) nd rfl (.inl rfl) (hp_callH g__law_words hgd (hr.mono (by decide)) (by rfl) (hpa_cons (opd_v 1 (pv 1)) (hpa_cons (opd_e (hp_callH g__law_draw hgd (hr.mono (by decide)) (by rfl) (hpa_cons (opd_v 1 (pv 1)) (hpa_cons (opd_e (hp_k pe_int fun _ => .int _)) hpa_nil)))) hpa_nil))))
    (hs_cons (hs_for PassesOwn.never rfl (hi_rng1 (by rfl) T.n_range (hpa_cons (opd_e (hp_k pe_int fun _ => .int _)) hpa_nil)) (hg_name (pg_name (i := 3) nd rfl (by first | exact .inl rfl | exact .inr rfl))) (hs_cons (hs_set (i := 4) nd rfl (.inl rfl) (hp_callH g__law_machine hgd (hr.mono (by decide)) (by rfl) (hpa_cons (opd_v 1 (pv 1)) (hpa_cons (opd_e (hp_k pe_int fun _ => .int _)) (hpa_cons (opd_v 2 (pv 2)) hpa_nil)))))
    (hs_cons (hs_set (i := 5) nd rfl (.inl rfl) (hp_if (ht_cmp (op_eqP (u64 hr)) (opd_e (hp_callH g__law_draw hgd (hr.mono (by decide)) (by rfl) (hpa_cons (opd_v 1 (pv 1)) (hpa_cons (opd_e (hp_k pe_int fun _ => .int _)) hpa_nil)))) (opd_e (hp_k pe_int fun _ => .int _)) op_eqPW (nomark _)) (hp_v 4 (pv 4)) (hp_callH g__law_machine hgd (hr.mono (by decide)) (by rfl) (hpa_cons (opd_v 1 (pv 1)) (hpa_cons (opd_e (hp_k pe_int fun _ => .int _)) (hpa_cons (opd_v 2 (pv 2)) hpa_nil))))))
    (hs_cons (hs_set (i := 6) nd rfl (.inl rfl) (hp_lst (hpa_cons (opd_e (hp_callH g__law_set hgd (hr.mono (by decide)) (by rfl) (hpa_cons (opd_v 1 (pv 1)) (hpa_cons (opd_v 2 (pv 2)) hpa_nil)))) (hpa_cons (opd_e (hp_ix ix_seq (opd_e (hp_lst (hpa_cons (opd_e (hp_callH g__law_set hgd (hr.mono (by decide)) (by rfl) (hpa_cons (opd_v 1 (pv 1)) (hpa_cons (opd_v 2 (pv 2)) hpa_nil)))) (hpa_cons (opd_e (hp_tup hpa_nil)) (hpa_cons (opd_e (hp_callTy call_tuple_of op_tupW (by rfl) T.n_tuple (by decide +kernel) (hpa_cons (opd_e (hp_callB (cr_sortG (α := Str) (u64 hr) (by decide)) op_sortA (by rfl) T.n_sorted (by decide +kernel) (hpa_cons (opd_v 2 (pv 2)) hpa_nil))) hpa_nil))) hpa_nil))))) (opd_e (hp_callH g__law_draw hgd (hr.mono (by decide)) (by rfl) (hpa_cons (opd_v 1 (pv 1)) (hpa_cons (opd_e (hp_k pe_int fun _ => .int _)) hpa_nil)))) op_ixW (fun _ _ => rfl))) hpa_nil))))
    (hs_one (hs_for PassesOwn.never rfl (hi_rng1 (by rfl) T.n_range (hpa_cons (opd_e (hp_k pe_int fun _ => .int _)) hpa_nil)) (hg_name (pg_name (i := 7) nd rfl (by first | exact .inl rfl | exact .inr rfl))) (hs_cons (hs_set (i := 8) nd rfl (.inl rfl) (hp_ix ix_seq (opd_v 6 (pv 6)) (opd_e (hp_op op_mod (opd_v 7 (pv 7)) (opd_e (hp_k pe_int fun _ => .int _)) op_modWW)) op_ixW (fun _ _ => rfl)))
    (hs_cons (hs_if (ht_cmp (op_neP (u64 hr)) (opd_e (hp_callB (call_repr hgd (u150 hr)) op_reprW (by rfl) T.n_repr (by decide +kernel) (hpa_cons (opd_e (hp_callH g_put_beside hgd (hr.mono (by decide)) (by rfl) (hpa_cons (opd_v 4 (pv 4)) (hpa_cons (opd_v 8 (pv 8)) (hpa_cons (opd_v 5 (pv 5)) hpa_nil))))) hpa_nil))) (opd_e (hp_callB (call_repr hgd (u150 hr)) op_reprW (by rfl) T.n_repr (by decide +kernel) (hpa_cons (opd_e (hp_callH g__law_due hgd (hr.mono (by decide)) (by rfl) (hpa_cons (opd_v 4 (pv 4)) (hpa_cons (opd_v 8 (pv 8)) (hpa_cons (opd_v 5 (pv 5)) hpa_nil))))) hpa_nil))) op_eqPW (nomark _)) (hs_one (hs_ret (hp_k pe_bl fun _ => .bl _))) hs_nil)
    (hs_one (hs_if (ht_cmp (op_neP (u64 hr)) (opd_e (hp_callB (call_repr hgd (u150 hr)) op_reprW (by rfl) T.n_repr (by decide +kernel) (hpa_cons (opd_e (hp_callH g_put_beside hgd (hr.mono (by decide)) (by rfl) (hpa_cons (opd_v 5 (pv 5)) (hpa_cons (opd_v 8 (pv 8)) (hpa_cons (opd_v 4 (pv 4)) hpa_nil))))) hpa_nil))) (opd_e (hp_callB (call_repr hgd (u150 hr)) op_reprW (by rfl) T.n_repr (by decide +kernel) (hpa_cons (opd_e (hp_callH g__law_due hgd (hr.mono (by decide)) (by rfl) (hpa_cons (opd_v 5 (pv 5)) (hpa_cons (opd_v 8 (pv 8)) (hpa_cons (opd_v 4 (pv 4)) hpa_nil))))) hpa_nil))) op_eqPW (nomark _)) (hs_one (hs_ret (hp_k pe_bl fun _ => .bl _))) hs_nil))))))))))
    (hs_one (hs_ret (hp_callH0 g__law_known_right hgd (hr.mono (by decide)) (by rfl))))))
theorem dX_deeds_by (T : Tops K mg)  {fa : Addr} {cdv : Value} {A : Around} {outer : List Env} {s : Shared} {H : Hp} {E : XK} {en : Ent} {Z : HX} (hgd : (A.deeper (envOfC "deeds_by" (defScope s_deeds_by) s.heap.objs.size fa cdv)).guards = some []) (hr : Room 0 (A.deeper (envOfC "deeds_by" (defScope s_deeds_by) s.heap.objs.size fa cdv))) (tk : Takes (cxOf (L2.CX P w) P w K mg base ["rows", "found", "row", "deed", "node"] "deeds_by" (defScope s_deeds_by) fa cdv A outer s H E) (fun cls d _ H => E cls d H)) (lk : Lk K (fun cls d _ H => E cls d H) w TB en Z) :
    PSs (cxOf (L2.CX P w) P w K mg base ["rows", "found", "row", "deed", "node"] "deeds_by" (defScope s_deeds_by) fa cdv A outer s H E) (defBody s_deeds_by) (lfS K (f1 w TB (some en)) (hX_deeds_by_079b22 Z)) := by
  have nd := sc_deeds_by.nd
  exact (hs_cons (hs_set (i := 1) nd rfl (.inl rfl) (hp_dnew pe_dnewK))
    (hs_cons (hs_for (passes_of rfl) rfl (hi_list (hp_v 0 (pv 0))) (hg_name (pg_name (i := 2) nd rfl (by first | exact .inl rfl | exact .inr rfl))) (hs_one (hs_drop (hp_upd (fun h => pe_bm PySem.F.plainAttrs_dict PySem.F.slot_dict_update PySem.F.type_dict_update mt_update (pv 1) h) (hp_callTy (call_dictP rfl) op_dictW (by rfl) T.n_dict (by decide +kernel) (hpa_cons (opd_e (hp_lc (pe_lc (own := [("deed", 3), ("node", 4)]) rfl nd (hi_tup (hp_v 2 (pv 2))) (blkOk_by (own := [("deed", 3), ("node", 4)]) (N := ["rows", "found", "row", "deed", "node"]) (sc := defScope s_deeds_by) (by decide +kernel)) (fun _ _ _ _ _ => (hg_pair (pg_tup rfl (pgs_cons (pg_name (i := 3) nd rfl (by first | exact .inl rfl | exact .inr rfl)) (pgs_cons (pg_name (i := 4) nd rfl (by first | exact .inl rfl | exact .inr rfl)) pgs_nil))))) (fun _ _ _ _ _ => (pts_one (ht_cmp (op_neP (u64 hr)) (opd_v 3 (pv 3)) (opd_e (hp_c T.c_HIDDEN (by rfl))) op_eqPW (nomark _)))) (fun _ _ _ _ _ => (hp_tup (hpa_cons (opd_e (hp_v 3 (pv 3))) (hpa_cons (opd_e (hp_k pe_bl fun _ => .bl _)) hpa_nil))))) (by decide) gl_pair)) hpa_nil))))))
    (hs_one (hs_ret (hp_callB (cr_sortD (α := Str) rfl) op_sortDW (by rfl) T.n_sorted (by decide +kernel) (hpa_cons (opd_v 1 (pv 1)) hpa_nil))))))
theorem hasX_deeds_by (T : Tops K mg)  {fa : Addr} {fd : FuncData} (Fn : Fun K "deeds_by" "deeds_by" s_deeds_by fa fd) (hm : mg "deeds_by" = some (.ref fa)) : HasX P w TB K mg base 1 "deeds_by" 1 spX_deeds_by_079b22 :=
  HasX.mk' (ps := ["rows"]) Fn hm (Fn.binds fun _ _ _ _ _ _ us hl => match us, hl with | [_], _ => rfl) sc_deeds_by (fun _ _ _ _ _ _ _ _ _ hgd hr tk lk => dX_deeds_by T  hgd hr tk lk) rdX_deeds_by_079b22
end
section
variable {P : Program} {w : World} {TB : Tbs} {K : PySem.W.Frag} {mg : Str → Option Value} {base : Heap}
abbrev s__law_draw : Stmt := topS 31
theorem sc__law_draw : FnScope ["_law_m", "_law_many", "_law_k", "_law_at", "_law_cell"] ["_law_m", "_law_many"] (defScope s__law_draw) := ⟨rfl, rfl, rfl, by decide +kernel, rfl, by decide +kernel, by decide +kernel⟩
theorem d__law_draw {P : Program} {w : World} {T : Tbs} {K : PySem.W.Frag} {mg : Str → Option Value} {base : Heap} (zl : mg "len" = none) (g__law_mixed : Has P w T K mg base 1 "_law_mixed" 2 spMixed) {fa : Addr} {cdv : Value} {A : Around} {outer : List Env} {s : Shared} {H : Hp} {E : XK} (hgd : (A.deeper (envOfC "_law_draw" (defScope s__law_draw) s.heap.objs.size fa cdv)).guards = some []) (hr : Room 1 (A.deeper (envOfC "_law_draw" (defScope s__law_draw) s.heap.objs.size fa cdv))) :
    PSs (cxOf CX0 P w K mg base ["_law_m", "_law_many", "_law_k", "_law_at", "_law_cell"] "_law_draw" (defScope s__law_draw) fa cdv A outer s H E).nox (defBody s__law_draw) (t_draw K w T) := by
  have nd := sc__law_draw.nd
  obtain ⟨fm, fd, ps, _, G, hm, kp, b⟩ := g__law_mixed.ex
  exact pss_cons (ps_set (i := 2) nd rfl (.inl rfl) (pe_dget (u1 hr) (pv 0) pe_str (fun _ _ => rfl)))
    (pss_cons (ps_dput (u1 hr) (pv 0) pe_str (pe_op op_add (pv 2) pe_int) rfl)
    (pss_cons (ps_if (pt_cmpR (op_neP (u64 hr)) (pe_dget (u1 hr) (pv 0) pe_str (fun _ _ => rfl)) (pe_lst pa_nil) (nomark _))
        (pss_cons (ps_set (i := 3) nd rfl (.inl rfl) (pe_op op_mod (pv 2) (pe_callB call_len_seq (by rfl) zl PySem.boot_len (pa_cons (pe_dget (u1 hr) (pv 0) pe_str (fun _ _ => rfl)) pa_nil))))
        (pss_cons (ps_set (i := 4) nd rfl (.inl rfl) (pe_ix ix_list (pe_dget (u1 hr) (pv 0) pe_str (fun _ _ => rfl)) (pv 3) (fun _ _ => rfl)))
        (pss_one (ps_if (pt_cmpR op_gt (pv 4) pe_int (nomark _))
          (pss_cons (ps_asg (pe_op op_fdivW (pv 4) (pv 1)) (pg_sub (pe_dget (u1 hr) (pv 0) pe_str (fun _ _ => rfl)) (pv 3) set_list))
          (pss_one (ps_ret (pe_op op_mod (pv 4) (pv 1))))) pss_nil)))) pss_nil)
    (pss_one (ps_ret (pe_op op_mod (pe_callG G hgd (hr.mono (by decide)) (by rfl) hm kp b pass0 (pa_cons (pe_callG G hgd (hr.mono (by decide)) (by rfl) hm kp b pass0 (pa_cons (pe_op op_add (pe_ix ix_list (pe_dget (u1 hr) (pv 0) pe_str (fun _ _ => rfl)) (pe_op op_mod (pv 2) pe_int) (fun _ _ => rfl)) (pe_op op_mulW pe_int (pe_op op_fdivW (pv 2) pe_int))) (pa_cons (pv 2) pa_nil))) (pa_cons (pe_op op_add (pv 2) pe_int) pa_nil))) (pv 1))))))

abbrev s__law_begun : Stmt := topS 32
theorem sc__law_begun : FnScope ["_law_script", "_law_m", "_law_cell"] ["_law_script"] (defScope s__law_begun) := ⟨rfl, rfl, rfl, by decide +kernel, rfl, by decide +kernel, by decide +kernel⟩
theorem d__law_begun {P : Program} {w : World} {K : PySem.W.Frag} {mg : Str → Option Value} {base : Heap} (g__law_folded : Has P w [] K mg base 1 "_law_folded" 1 spFolded) {fa : Addr} {cdv : Value} {A : Around} {outer : List Env} {s : Shared} {H : Hp} {E : XK} (hgd : (A.deeper (envOfC "_law_begun" (defScope s__law_begun) s.heap.objs.size fa cdv)).guards = some []) (hr : Room 1 (A.deeper (envOfC "_law_begun" (defScope s__law_begun) s.heap.objs.size fa cdv))) :
    PSs (cxOf CX0 P w K mg base ["_law_script", "_law_m", "_law_cell"] "_law_begun" (defScope s__law_begun) fa cdv A outer s H E).nox (defBody s__law_begun) (t_begun K w [(tC (.str "room"), tC (.int 12))]) := by
  have nd := sc__law_begun.nd
  obtain ⟨fm, fd, ps, _, G, hm, kp, b⟩ := g__law_folded.ex
  exact pss_cons (ps_set (i := 1) nd rfl (.inl rfl) (pe_disp (pps_cons pe_str (pe_callG G hgd (hr.mono (by decide)) (by rfl) hm kp b pass0 (pa_cons (pv 0) pa_nil)) (pps_cons pe_str (pe_lst pa_nil) (pps_cons pe_str pe_int (pps_cons pe_str pe_int pps_nil)))) (by rfl) (by rfl) (fun z => by cases z) (by decide)))
    (pss_cons (ps_dput (u1 hr) (pv 1) pe_str (hp_lc (pe_lc (own := [("_law_cell", 2)]) rfl nd (hi_list (hp_v 0 (pv 0))) (blkOk_by (own := [("_law_cell", 2)]) (N := ["_law_script", "_law_m", "_law_cell"]) (sc := defScope s__law_begun) (by decide +kernel)) (fun _ _ _ _ _ => (hg_name (pg_name (i := 2) nd rfl (.inl rfl)))) (fun _ _ _ _ _ => pts_yes)
      (fun _ _ _ _ _ => (hp_if (ht_cmp op_ge (opd_v 2 (pv 2)) (opd_e (hp_op op_pow (opd_e (hp_k pe_int fun _ => .int _)) (opd_e (hp_k pe_int fun _ => .int _)) op_powW)) op_geW (nomark _)) (hp_v 2 (pv 2)) (hp_k pe_int fun _ => .int _)))) (by decide) gl_name) rfl)
    (pss_one (ps_ret (pv 1))))

theorem all_mk {w : World} {K : PySem.W.Frag} {h : Heap} {mg : Str → Option Value} {fa : Addr} (X : K.In h) (G : h.Ns mainGlobals mg) (hfa : mg "law" = some (.ref fa))
    {f0 : Addr} {od0 an0 : Option Addr} {sl0 : Array (Option Value)} {oc0 kV0 dc0 pm0 cd0 ct0 : Value} (a0 : PySem.W.nsIn K mainGlobals "is_word" = some (some (.ref f0))) (l0 : K.lookup f0 = some ⟨oc0, od0, .func (PySem.W.fnOf "is_word" "is_word" (defArgs s_is_word) (defBody s_is_word) (defScope s_is_word) .none kV0 dc0 pm0 an0 cd0 ct0), sl0⟩) (c0 : PySem.W.codeIn K cd0 "is_word" = true) (k0 : PySem.W.keepIn K (.ref f0) = true)
    {f1 : Addr} {od1 an1 : Option Addr} {sl1 : Array (Option Value)} {oc1 kV1 dc1 pm1 cd1 ct1 : Value} (a1 : PySem.W.nsIn K mainGlobals "is_row" = some (some (.ref f1))) (l1 : K.lookup f1 = some ⟨oc1, od1, .func (PySem.W.fnOf "is_row" "is_row" (defArgs s_is_row) (defBody s_is_row) (defScope s_is_row) .none kV1 dc1 pm1 an1 cd1 ct1), sl1⟩) (c1 : PySem.W.codeIn K cd1 "is_row" = true) (k1 : PySem.W.keepIn K (.ref f1) = true)
    {f2 : Addr} {od2 an2 : Option Addr} {sl2 : Array (Option Value)} {oc2 kV2 dc2 pm2 cd2 ct2 : Value} (a2 : PySem.W.nsIn K mainGlobals "is_rising" = some (some (.ref f2))) (l2 : K.lookup f2 = some ⟨oc2, od2, .func (PySem.W.fnOf "is_rising" "is_rising" (defArgs s_is_rising) (defBody s_is_rising) (defScope s_is_rising) .none kV2 dc2 pm2 an2 cd2 ct2), sl2⟩) (c2 : PySem.W.codeIn K cd2 "is_rising" = true) (k2 : PySem.W.keepIn K (.ref f2) = true)
    {f3 : Addr} {od3 an3 : Option Addr} {sl3 : Array (Option Value)} {oc3 kV3 dc3 pm3 cd3 ct3 : Value} (a3 : PySem.W.nsIn K mainGlobals "is_set" = some (some (.ref f3))) (l3 : K.lookup f3 = some ⟨oc3, od3, .func (PySem.W.fnOf "is_set" "is_set" (defArgs s_is_set) (defBody s_is_set) (defScope s_is_set) .none kV3 dc3 pm3 an3 cd3 ct3), sl3⟩) (c3 : PySem.W.codeIn K cd3 "is_set" = true) (k3 : PySem.W.keepIn K (.ref f3) = true)
    {f4 : Addr} {od4 an4 : Option Addr} {sl4 : Array (Option Value)} {oc4 kV4 dc4 pm4 cd4 ct4 : Value} (a4 : PySem.W.nsIn K mainGlobals "need_set" = some (some (.ref f4))) (l4 : K.lookup f4 = some ⟨oc4, od4, .func (PySem.W.fnOf "need_set" "need_set" (defArgs s_need_set) (defBody s_need_set) (defScope s_need_set) .none kV4 dc4 pm4 an4 cd4 ct4), sl4⟩) (c4 : PySem.W.codeIn K cd4 "need_set" = true) (k4 : PySem.W.keepIn K (.ref f4) = true)
    {f5 : Addr} {od5 an5 : Option Addr} {sl5 : Array (Option Value)} {oc5 kV5 dc5 pm5 cd5 ct5 : Value} (a5 : PySem.W.nsIn K mainGlobals "set_of" = some (some (.ref f5))) (l5 : K.lookup f5 = some ⟨oc5, od5, .func (PySem.W.fnOf "set_of" "set_of" (defArgs s_set_of) (defBody s_set_of) (defScope s_set_of) .none kV5 dc5 pm5 an5 cd5 ct5), sl5⟩) (c5 : PySem.W.codeIn K cd5 "set_of" = true) (k5 : PySem.W.keepIn K (.ref f5) = true)
    {f6 : Addr} {od6 an6 : Option Addr} {sl6 : Array (Option Value)} {oc6 kV6 dc6 pm6 cd6 ct6 : Value} (a6 : PySem.W.nsIn K mainGlobals "is_number" = some (some (.ref f6))) (l6 : K.lookup f6 = some ⟨oc6, od6, .func (PySem.W.fnOf "is_number" "is_number" (defArgs s_is_number) (defBody s_is_number) (defScope s_is_number) .none kV6 dc6 pm6 an6 cd6 ct6), sl6⟩) (c6 : PySem.W.codeIn K cd6 "is_number" = true) (k6 : PySem.W.keepIn K (.ref f6) = true)
    {f7 : Addr} {od7 an7 : Option Addr} {sl7 : Array (Option Value)} {oc7 kV7 dc7 pm7 cd7 ct7 : Value} (a7 : PySem.W.nsIn K mainGlobals "is_move" = some (some (.ref f7))) (l7 : K.lookup f7 = some ⟨oc7, od7, .func (PySem.W.fnOf "is_move" "is_move" (defArgs s_is_move) (defBody s_is_move) (defScope s_is_move) .none kV7 dc7 pm7 an7 cd7 ct7), sl7⟩) (c7 : PySem.W.codeIn K cd7 "is_move" = true) (k7 : PySem.W.keepIn K (.ref f7) = true)
    {f8 : Addr} {od8 an8 : Option Addr} {sl8 : Array (Option Value)} {oc8 kV8 dc8 pm8 cd8 ct8 : Value} (a8 : PySem.W.nsIn K mainGlobals "is_node_row" = some (some (.ref f8))) (l8 : K.lookup f8 = some ⟨oc8, od8, .func (PySem.W.fnOf "is_node_row" "is_node_row" (defArgs s_is_node_row) (defBody s_is_node_row) (defScope s_is_node_row) .none kV8 dc8 pm8 an8 cd8 ct8), sl8⟩) (c8 : PySem.W.codeIn K cd8 "is_node_row" = true) (k8 : PySem.W.keepIn K (.ref f8) = true)
    {f9 : Addr} {od9 an9 : Option Addr} {sl9 : Array (Option Value)} {oc9 kV9 dc9 pm9 cd9 ct9 : Value} (a9 : PySem.W.nsIn K mainGlobals "deeds_by" = some (some (.ref f9))) (l9 : K.lookup f9 = some ⟨oc9, od9, .func (PySem.W.fnOf "deeds_by" "deeds_by" (defArgs s_deeds_by) (defBody s_deeds_by) (defScope s_deeds_by) .none kV9 dc9 pm9 an9 cd9 ct9), sl9⟩) (c9 : PySem.W.codeIn K cd9 "deeds_by" = true) (k9 : PySem.W.keepIn K (.ref f9) = true)
    {f10 : Addr} {od10 an10 : Option Addr} {sl10 : Array (Option Value)} {oc10 kV10 dc10 pm10 cd10 ct10 : Value} (a10 : PySem.W.nsIn K mainGlobals "is_machine" = some (some (.ref f10))) (l10 : K.lookup f10 = some ⟨oc10, od10, .func (PySem.W.fnOf "is_machine" "is_machine" (defArgs s_is_machine) (defBody s_is_machine) (defScope s_is_machine) .none kV10 dc10 pm10 an10 cd10 ct10), sl10⟩) (c10 : PySem.W.codeIn K cd10 "is_machine" = true) (k10 : PySem.W.keepIn K (.ref f10) = true)
    {f11 : Addr} {od11 an11 : Option Addr} {sl11 : Array (Option Value)} {oc11 kV11 dc11 pm11 cd11 ct11 : Value} (a11 : PySem.W.nsIn K mainGlobals "need_machine" = some (some (.ref f11))) (l11 : K.lookup f11 = some ⟨oc11, od11, .func (PySem.W.fnOf "need_machine" "need_machine" (defArgs s_need_machine) (defBody s_need_machine) (defScope s_need_machine) .none kV11 dc11 pm11 an11 cd11 ct11), sl11⟩) (c11 : PySem.W.codeIn K cd11 "need_machine" = true) (k11 : PySem.W.keepIn K (.ref f11) = true)
    {f12 : Addr} {od12 an12 : Option Addr} {sl12 : Array (Option Value)} {oc12 kV12 dc12 pm12 cd12 ct12 : Value} (a12 : PySem.W.nsIn K mainGlobals "numbered" = some (some (.ref f12))) (l12 : K.lookup f12 = some ⟨oc12, od12, .func (PySem.W.fnOf "numbered" "numbered" (defArgs s_numbered) (defBody s_numbered) (defScope s_numbered) .none kV12 dc12 pm12 an12 cd12 ct12), sl12⟩) (c12 : PySem.W.codeIn K cd12 "numbered" = true) (k12 : PySem.W.keepIn K (.ref f12) = true)
    {f13 : Addr} {od13 an13 : Option Addr} {sl13 : Array (Option Value)} {oc13 kV13 dc13 pm13 cd13 ct13 : Value} (a13 : PySem.W.nsIn K mainGlobals "pair_moves" = some (some (.ref f13))) (l13 : K.lookup f13 = some ⟨oc13, od13, .func (PySem.W.fnOf "pair_moves" "pair_moves" (defArgs s_pair_moves) (defBody s_pair_moves) (defScope s_pair_moves) .none kV13 dc13 pm13 an13 cd13 ct13), sl13⟩) (c13 : PySem.W.codeIn K cd13 "pair_moves" = true) (k13 : PySem.W.keepIn K (.ref f13) = true)
    {f14 : Addr} {od14 an14 : Option Addr} {sl14 : Array (Option Value)} {oc14 kV14 dc14 pm14 cd14 ct14 : Value} (a14 : PySem.W.nsIn K mainGlobals "put_beside" = some (some (.ref f14))) (l14 : K.lookup f14 = some ⟨oc14, od14, .func (PySem.W.fnOf "put_beside" "put_beside" (defArgs s_put_beside) (defBody s_put_beside) (defScope s_put_beside) .none kV14 dc14 pm14 an14 cd14 ct14), sl14⟩) (c14 : PySem.W.codeIn K cd14 "put_beside" = true) (k14 : PySem.W.keepIn K (.ref f14) = true)
    {f15 : Addr} {od15 an15 : Option Addr} {sl15 : Array (Option Value)} {oc15 kV15 dc15 pm15 cd15 ct15 : Value} (a15 : PySem.W.nsIn K mainGlobals "_law_mixed" = some (some (.ref f15))) (l15 : K.lookup f15 = some ⟨oc15, od15, .func (PySem.W.fnOf "_law_mixed" "_law_mixed" (defArgs s__law_mixed) (defBody s__law_mixed) (defScope s__law_mixed) .none kV15 dc15 pm15 an15 cd15 ct15), sl15⟩) (c15 : PySem.W.codeIn K cd15 "_law_mixed" = true) (k15 : PySem.W.keepIn K (.ref f15) = true)
    {f16 : Addr} {od16 an16 : Option Addr} {sl16 : Array (Option Value)} {oc16 kV16 dc16 pm16 cd16 ct16 : Value} (a16 : PySem.W.nsIn K mainGlobals "_law_folded" = some (some (.ref f16))) (l16 : K.lookup f16 = some ⟨oc16, od16, .func (PySem.W.fnOf "_law_folded" "_law_folded" (defArgs s__law_folded) (defBody s__law_folded) (defScope s__law_folded) .none kV16 dc16 pm16 an16 cd16 ct16), sl16⟩) (c16 : PySem.W.codeIn K cd16 "_law_folded" = true) (k16 : PySem.W.keepIn K (.ref f16) = true)
    {f17 : Addr} {od17 an17 : Option Addr} {sl17 : Array (Option Value)} {oc17 kV17 dc17 pm17 cd17 ct17 : Value} (a17 : PySem.W.nsIn K mainGlobals "_law_draw" = some (some (.ref f17))) (l17 : K.lookup f17 = some ⟨oc17, od17, .func (PySem.W.fnOf "_law_draw" "_law_draw" (defArgs s__law_draw) (defBody s__law_draw) (defScope s__law_draw) .none kV17 dc17 pm17 an17 cd17 ct17), sl17⟩) (c17 : PySem.W.codeIn K cd17 "_law_draw" = true) (k17 : PySem.W.keepIn K (.ref f17) = true)
    {f18 : Addr} {od18 an18 : Option Addr} {sl18 : Array (Option Value)} {oc18 kV18 dc18 pm18 cd18 ct18 : Value} (a18 : PySem.W.nsIn K mainGlobals "_law_begun" = some (some (.ref f18))) (l18 : K.lookup f18 = some ⟨oc18, od18, .func (PySem.W.fnOf "_law_begun" "_law_begun" (defArgs s__law_begun) (defBody s__law_begun) (defScope s__law_begun) .none kV18 dc18 pm18 an18 cd18 ct18), sl18⟩) (c18 : PySem.W.codeIn K cd18 "_law_begun" = true) (k18 : PySem.W.keepIn K (.ref f18) = true)
    {f19 : Addr} {od19 an19 : Option Addr} {sl19 : Array (Option Value)} {oc19 kV19 dc19 pm19 cd19 ct19 : Value} (a19 : PySem.W.nsIn K mainGlobals "_law_words" = some (some (.ref f19))) (l19 : K.lookup f19 = some ⟨oc19, od19, .func (PySem.W.fnOf "_law_words" "_law_words" (defArgs s__law_words) (defBody s__law_words) (defScope s__law_words) .none kV19 dc19 pm19 an19 cd19 ct19), sl19⟩) (c19 : PySem.W.codeIn K cd19 "_law_words" = true) (k19 : PySem.W.keepIn K (.ref f19) = true)
    {f20 : Addr} {od20 an20 : Option Addr} {sl20 : Array (Option Value)} {oc20 kV20 dc20 pm20 cd20 ct20 : Value} (a20 : PySem.W.nsIn K mainGlobals "_law_set" = some (some (.ref f20))) (l20 : K.lookup f20 = some ⟨oc20, od20, .func (PySem.W.fnOf "_law_set" "_law_set" (defArgs s__law_set) (defBody s__law_set) (defScope s__law_set) .none kV20 dc20 pm20 an20 cd20 ct20), sl20⟩) (c20 : PySem.W.codeIn K cd20 "_law_set" = true) (k20 : PySem.W.keepIn K (.ref f20) = true)
    {f21 : Addr} {od21 an21 : Option Addr} {sl21 : Array (Option Value)} {oc21 kV21 dc21 pm21 cd21 ct21 : Value} (a21 : PySem.W.nsIn K mainGlobals "_law_machine" = some (some (.ref f21))) (l21 : K.lookup f21 = some ⟨oc21, od21, .func (PySem.W.fnOf "_law_machine" "_law_machine" (defArgs s__law_machine) (defBody s__law_machine) (defScope s__law_machine) .none kV21 dc21 pm21 an21 cd21 ct21), sl21⟩) (c21 : PySem.W.codeIn K cd21 "_law_machine" = true) (k21 : PySem.W.keepIn K (.ref f21) = true)
    {f22 : Addr} {od22 an22 : Option Addr} {sl22 : Array (Option Value)} {oc22 kV22 dc22 pm22 cd22 ct22 : Value} (a22 : PySem.W.nsIn K mainGlobals "_law_pair_moves" = some (some (.ref f22))) (l22 : K.lookup f22 = some ⟨oc22, od22, .func (PySem.W.fnOf "_law_pair_moves" "_law_pair_moves" (defArgs s__law_pair_moves) (defBody s__law_pair_moves) (defScope s__law_pair_moves) .none kV22 dc22 pm22 an22 cd22 ct22), sl22⟩) (c22 : PySem.W.codeIn K cd22 "_law_pair_moves" = true) (k22 : PySem.W.keepIn K (.ref f22) = true)
    {f23 : Addr} {od23 an23 : Option Addr} {sl23 : Array (Option Value)} {oc23 kV23 dc23 pm23 cd23 ct23 : Value} (a23 : PySem.W.nsIn K mainGlobals "_law_due" = some (some (.ref f23))) (l23 : K.lookup f23 = some ⟨oc23, od23, .func (PySem.W.fnOf "_law_due" "_law_due" (defArgs s__law_due) (defBody s__law_due) (defScope s__law_due) .none kV23 dc23 pm23 an23 cd23 ct23), sl23⟩) (c23 : PySem.W.codeIn K cd23 "_law_due" = true) (k23 : PySem.W.keepIn K (.ref f23) = true)
    {f24 : Addr} {od24 an24 : Option Addr} {sl24 : Array (Option Value)} {oc24 kV24 dc24 pm24 cd24 ct24 : Value} (a24 : PySem.W.nsIn K mainGlobals "_law_known_right" = some (some (.ref f24))) (l24 : K.lookup f24 = some ⟨oc24, od24, .func (PySem.W.fnOf "_law_known_right" "_law_known_right" (defArgs s__law_known_right) (defBody s__law_known_right) (defScope s__law_known_right) .none kV24 dc24 pm24 an24 cd24 ct24), sl24⟩) (c24 : PySem.W.codeIn K cd24 "_law_known_right" = true) (k24 : PySem.W.keepIn K (.ref f24) = true)
    {f25 : Addr} {od25 an25 : Option Addr} {sl25 : Array (Option Value)} {oc25 kV25 dc25 pm25 cd25 ct25 : Value} (a25 : PySem.W.nsIn K mainGlobals "law" = some (some (.ref f25))) (l25 : K.lookup f25 = some ⟨oc25, od25, .func (PySem.W.fnOf "law" "law" (defArgs s_law) (defBody s_law) (defScope s_law) .none kV25 dc25 pm25 an25 cd25 ct25), sl25⟩) (c25 : PySem.W.codeIn K cd25 "law" = true) (k25 : PySem.W.keepIn K (.ref f25) = true)
    (z0 : PySem.W.nsIn K mainGlobals "all" = some none)
    (z1 : PySem.W.nsIn K mainGlobals "bool" = some none)
    (z2 : PySem.W.nsIn K mainGlobals "dict" = some none)
    (z3 : PySem.W.nsIn K mainGlobals "enumerate" = some none)
    (z4 : PySem.W.nsIn K mainGlobals "int" = some none)
    (z5 : PySem.W.nsIn K mainGlobals "isinstance" = some none)
    (z6 : PySem.W.nsIn K mainGlobals "len" = some none)
    (z7 : PySem.W.nsIn K mainGlobals "list" = some none)
    (z8 : PySem.W.nsIn K mainGlobals "range" = some none)
    (z9 : PySem.W.nsIn K mainGlobals "repr" = some none)
    (z10 : PySem.W.nsIn K mainGlobals "set" = some none)
    (z11 : PySem.W.nsIn K mainGlobals "sorted" = some none)
    (z12 : PySem.W.nsIn K mainGlobals "str" = some none)
    (z13 : PySem.W.nsIn K mainGlobals "tuple" = some none)
    (z14 : PySem.W.nsIn K mainGlobals "zip" = some none)
    {b0 : Addr} {o0 : Obj} (u0 : PySem.W.nsIn K mainGlobals "BARS" = some (some (.ref b0))) (w0 : K.lookup b0 = some o0) (t0 : TupK o0 [V.str "stop", V.str "spin", V.str "out", V.str "own", V.str "beside", V.str "hide", V.str "as"])
    {b1 : Value} (u1 : PySem.W.nsIn K mainGlobals "HIDDEN" = some (some b1)) (w1 : RelV (V.str "") b1)
    {b2 : Value} (u2 : PySem.W.nsIn K mainGlobals "LETTERS" = some (some b2)) (w2 : RelV (V.str "abcdefghijklmnopqrstuvwxyz") b2)
    {b3 : Value} (u3 : PySem.W.nsIn K mainGlobals "MOST_DEEDS" = some (some b3)) (w3 : RelV (V.int 8) b3)
    {b4 : Value} (u4 : PySem.W.nsIn K mainGlobals "MOST_LETTERS" = some (some b4)) (w4 : RelV (V.int 6) b4)
    {b5 : Value} (u5 : PySem.W.nsIn K mainGlobals "MOST_NODES" = some (some b5)) (w5 : RelV (V.int 300) b5)
    {C_TooGreat : Addr} (xc_TooGreat : PySem.W.nsIn K mainGlobals "TooGreat" = some (some (.ref C_TooGreat)))
    (xo_BadDeeds : exOk K "BadDeeds" = true)
    (xo_BadHand : exOk K "BadHand" = true)
    (xo_BadHouse : exOk K "BadHouse" = true)
    (xo_BadMachine : exOk K "BadMachine" = true)
    (xo_BadNode : exOk K "BadNode" = true)
    (xo_BadRow : exOk K "BadRow" = true)
    (xo_BadWay : exOk K "BadWay" = true)
    (xo_BadPaper : exOk K "BadPaper" = true)
    (xo_NoName : exOk K "NoName" = true)
    (xo_TooGreat : exOk K "TooGreat" = true)
    (xo_non : exNon K = true)
    (tb : ∀ y ∈ (["put_beside"] : List Str), DefTab mg h y) (nt : noTab K = true)
    : ∃ (fd : FuncData) (cs : List (Addr × Addr)), (∀ p ∈ cs, h.get? p.2 = some tab0) ∧ (∀ p ∈ cs, K.lookup p.2 = none) ∧ (∀ p ∈ cs, PySem.W.CodeHd h p.1 p.2) ∧ (∀ (s : Shared) (v : Value), BindsTo s fd ⟨[v], []⟩ [("_law_script", v)]) ∧ ∀ base : Heap, K.In base → base.Ns mainGlobals mg → (∀ p ∈ cs, LamX.TabB base mg p.1 p.2) → GnOk P w K mg base CX0 8 fa fd ["_law_script"] (spLaw K (tbsOf cs ["put_beside.<locals>.<lambda>"])) := by
  have e := hfa.symm.trans (PySem.W.mg_of X G a25)
  cases e
  have T : Tops K mg := { n_all := PySem.W.mg_none_of X G z0, n_bool := PySem.W.mg_none_of X G z1, n_dict := PySem.W.mg_none_of X G z2, n_enumerate := PySem.W.mg_none_of X G z3, n_int := PySem.W.mg_none_of X G z4, n_isinstance := PySem.W.mg_none_of X G z5, n_len := PySem.W.mg_none_of X G z6, n_list := PySem.W.mg_none_of X G z7, n_range := PySem.W.mg_none_of X G z8, n_repr := PySem.W.mg_none_of X G z9, n_set := PySem.W.mg_none_of X G z10, n_sorted := PySem.W.mg_none_of X G z11, n_str := PySem.W.mg_none_of X G z12, n_tuple := PySem.W.mg_none_of X G z13, n_zip := PySem.W.mg_none_of X G z14, c_BARS := cst_t X G u0 w0 t0 fun G => .cons (.str _) (.cons (.str _) (.cons (.str _) (.cons (.str _) (.cons (.str _) (.cons (.str _) (.cons (.str _) (.nil))))))), c_HIDDEN := cst_v X G u1 w1 fun G => .str _, c_LETTERS := cst_v X G u2 w2 fun G => .str _, c_MOST_DEEDS := cst_v X G u3 w3 fun G => .int _, c_MOST_LETTERS := cst_v X G u4 w4 fun G => .int _, c_MOST_NODES := cst_v X G u5 w5 fun G => .int _, ex_TooGreat := ⟨_, xc_TooGreat, PySem.W.mg_of X G xc_TooGreat⟩, xt := ⟨fun x hx => by (simp only [exNames, List.mem_cons, List.not_mem_nil, or_false] at hx; rcases hx with rfl | rfl | rfl | rfl | rfl | rfl | rfl | rfl | rfl | rfl <;> assumption), xo_non⟩ }
  have F0 := fun_mk (st := s_is_word) l0 c0 k0
  have F1 := fun_mk (st := s_is_row) l1 c1 k1
  have F2 := fun_mk (st := s_is_rising) l2 c2 k2
  have F3 := fun_mk (st := s_is_set) l3 c3 k3
  have F4 := fun_mk (st := s_need_set) l4 c4 k4
  have F5 := fun_mk (st := s_set_of) l5 c5 k5
  have F6 := fun_mk (st := s_is_number) l6 c6 k6
  have F7 := fun_mk (st := s_is_move) l7 c7 k7
  have F8 := fun_mk (st := s_is_node_row) l8 c8 k8
  have F9 := fun_mk (st := s_deeds_by) l9 c9 k9
  have F10 := fun_mk (st := s_is_machine) l10 c10 k10
  have F11 := fun_mk (st := s_need_machine) l11 c11 k11
  have F12 := fun_mk (st := s_numbered) l12 c12 k12
  have F13 := fun_mk (st := s_pair_moves) l13 c13 k13
  have F14 := fun_mk (st := s_put_beside) l14 c14 k14
  have F15 := fun_mk (st := s__law_mixed) l15 c15 k15
  have F16 := fun_mk (st := s__law_folded) l16 c16 k16
  have F17 := fun_mk (st := s__law_draw) l17 c17 k17
  have F18 := fun_mk (st := s__law_begun) l18 c18 k18
  have F19 := fun_mk (st := s__law_words) l19 c19 k19
  have F20 := fun_mk (st := s__law_set) l20 c20 k20
  have F21 := fun_mk (st := s__law_machine) l21 c21 k21
  have F22 := fun_mk (st := s__law_pair_moves) l22 c22 k22
  have F23 := fun_mk (st := s__law_due) l23 c23 k23
  have F24 := fun_mk (st := s__law_known_right) l24 c24 k24
  have F25 := fun_mk (st := s_law) l25 c25 k25
  obtain ⟨C14, Z14, e14, j14, t14, m14⟩ := tab_of (tb "put_beside" (by simp)) X (PySem.W.mg_of X G a14) l14 c14
  refine ⟨PySem.W.fnOf "law" "law" (defArgs s_law) (defBody s_law) (defScope s_law) .none kV25 dc25 pm25 an25 cd25 ct25, [(C14, Z14)], (fun p hp => by (simp only [List.mem_cons, List.not_mem_nil, or_false] at hp; rcases hp with rfl; exact t14)), (fun p hp => by (simp only [List.mem_cons, List.not_mem_nil, or_false] at hp; rcases hp with rfl; exact noTab_at nt X t14)), (fun p hp => by (simp only [List.mem_cons, List.not_mem_nil, or_false] at hp; rcases hp with rfl; exact j14)), fun s v => .of_eq rfl, fun base _ _ tbb => ?_⟩
  have g_is_word := has_is_word (P := P) (w := w) (TB := [(Z14, ("put_beside.<locals>.<lambda>" : Str))]) (base := base) T  F0 (PySem.W.mg_of X G a0)
  have g_is_rising := has_is_rising (P := P) (w := w) (TB := [(Z14, ("put_beside.<locals>.<lambda>" : Str))]) (base := base) T  F2 (PySem.W.mg_of X G a2)
  have g_set_of := has_set_of (P := P) (w := w) (TB := [(Z14, ("put_beside.<locals>.<lambda>" : Str))]) (base := base) T  F5 (PySem.W.mg_of X G a5)
  have g_is_number := has_is_number (P := P) (w := w) (TB := [(Z14, ("put_beside.<locals>.<lambda>" : Str))]) (base := base) T  F6 (PySem.W.mg_of X G a6)
  have g_deeds_by := has_deeds_by (P := P) (w := w) (TB := [(Z14, ("put_beside.<locals>.<lambda>" : Str))]) (base := base) T  F9 (PySem.W.mg_of X G a9)
  have g_pair_moves := has_pair_moves (P := P) (w := w) (TB := [(Z14, ("put_beside.<locals>.<lambda>" : Str))]) (base := base) T  F13 (PySem.W.mg_of X G a13)
  have g__law_mixed := has__law_mixed (P := P) (w := w) (TB := [(Z14, ("put_beside.<locals>.<lambda>" : Str))]) (base := base) T  F15 (PySem.W.mg_of X G a15)
  have g__law_folded := has__law_folded (P := P) (w := w) (TB := [(Z14, ("put_beside.<locals>.<lambda>" : Str))]) (base := base) T  F16 (PySem.W.mg_of X G a16)
  have g__law_pair_moves := has__law_pair_moves (P := P) (w := w) (TB := [(Z14, ("put_beside.<locals>.<lambda>" : Str))]) (base := base) T  F22 (PySem.W.mg_of X G a22)
  have gX_deeds_by := hasX_deeds_by (P := P) (w := w) (TB := [(Z14, ("put_beside.<locals>.<lambda>" : Str))]) (base := base) T  F9 (PySem.W.mg_of X G a9)
  have g_is_row := has_is_row (P := P) (w := w) (TB := [(Z14, ("put_beside.<locals>.<lambda>" : Str))]) (base := base) T g_is_word F1 (PySem.W.mg_of X G a1)
  have g_is_move := has_is_move (P := P) (w := w) (TB := [(Z14, ("put_beside.<locals>.<lambda>" : Str))]) (base := base) T g_is_word g_is_number F7 (PySem.W.mg_of X G a7)
  have g__law_draw : Has P w [(Z14, ("put_beside.<locals>.<lambda>" : Str))] K mg base 2 "_law_draw" 2 spDraw := has_draw (k := 1) (by decide) F17 (PySem.W.mg_of X G a17) rfl (F17.binds fun _ _ _ _ _ _ us hl => match us, hl with | [_, _], _ => rfl) sc__law_draw (fun _ _ _ _ _ _ _ hgd hr => d__law_draw T.n_len g__law_mixed hgd hr) fun _ _ _ _ h => rd_draw h
  have g__law_due := has__law_due (P := P) (w := w) (TB := [(Z14, ("put_beside.<locals>.<lambda>" : Str))]) (base := base) T g__law_pair_moves F23 (PySem.W.mg_of X G a23)
  have g_is_set := has_is_set (P := P) (w := w) (TB := [(Z14, ("put_beside.<locals>.<lambda>" : Str))]) (base := base) T g_is_row g_is_rising F3 (PySem.W.mg_of X G a3)
  have g_is_node_row := has_is_node_row (P := P) (w := w) (TB := [(Z14, ("put_beside.<locals>.<lambda>" : Str))]) (base := base) T g_is_move F8 (PySem.W.mg_of X G a8)
  have gC_numbered := hasC_numbered (P := P) (w := w) (TB := [(Z14, ("put_beside.<locals>.<lambda>" : Str))]) (base := base) T g_set_of gX_deeds_by F12 (PySem.W.mg_of X G a12)
  have g__law_words := has__law_words (P := P) (w := w) (TB := [(Z14, ("put_beside.<locals>.<lambda>" : Str))]) (base := base) T g__law_draw F19 (PySem.W.mg_of X G a19)
  have g__law_set := has__law_set (P := P) (w := w) (TB := [(Z14, ("put_beside.<locals>.<lambda>" : Str))]) (base := base) T g__law_draw F20 (PySem.W.mg_of X G a20)
  have g__law_machine := has__law_machine (P := P) (w := w) (TB := [(Z14, ("put_beside.<locals>.<lambda>" : Str))]) (base := base) T g__law_draw F21 (PySem.W.mg_of X G a21)
  have g_need_set := has_need_set (P := P) (w := w) (TB := [(Z14, ("put_beside.<locals>.<lambda>" : Str))]) (base := base) T g_is_set F4 (PySem.W.mg_of X G a4)
  have g_is_machine := has_is_machine (P := P) (w := w) (TB := [(Z14, ("put_beside.<locals>.<lambda>" : Str))]) (base := base) T g_is_node_row g_deeds_by F10 (PySem.W.mg_of X G a10)
  have g_need_machine := has_need_machine (P := P) (w := w) (TB := [(Z14, ("put_beside.<locals>.<lambda>" : Str))]) (base := base) T g_is_machine F11 (PySem.W.mg_of X G a11)
  have g_put_beside := has_put_beside (P := P) (w := w) (TB := [(Z14, ("put_beside.<locals>.<lambda>" : Str))]) (base := base) T g_pair_moves g_need_machine g_need_set gC_numbered (tbb (C14, Z14) (by simp)) (by simp) (fun p hp e => by
    simp only [List.mem_cons, List.not_mem_nil, or_false] at hp
    rcases hp with rfl
    · rfl) e14 F14 (PySem.W.mg_of X G a14)
  have g__law_known_right := has__law_known_right (P := P) (w := w) (TB := [(Z14, ("put_beside.<locals>.<lambda>" : Str))]) (base := base) T g_put_beside F24 (PySem.W.mg_of X G a24)
  have g0__law_folded := has__law_folded (P := P) (w := w) (TB := []) (base := base) T F16 (PySem.W.mg_of X G a16)
  have Gb : GnOk P w K mg base CX0 2 f18 _ ["_law_script"] (spBegun K) := begun_ok F18 sc__law_begun (fun _ _ _ _ _ _ _ hgd hr => d__law_begun g0__law_folded hgd hr) fun _ _ _ _ h => rd_begun (kv := [("room", 12)]) (by decide) (fun _ _ => rfl) h
  exact ok_law (T := [(Z14, ("put_beside.<locals>.<lambda>" : Str))]) (n := 7) F25 sc_law rfl (fun _ _ _ _ _ _ _ hgd hr => d_law T Gb (PySem.W.mg_of X G a18) F18.kp (F18.binds fun _ _ _ _ _ _ us hl => match us, hl with | [_], _ => rfl) g__law_known_right g_put_beside g__law_due g__law_set g__law_draw g__law_machine g__law_words hgd hr) rd_law_448b52
end
end Sk
open PySem PySem.W PyProof.Rows
set_option maxHeartbeats 0 in
theorem PySem.Challenge.cw_standhouse_k17_put_beside_holds : PySem.Challenge.rw_standhouse_k17_put_beside.Holds := by
  w_on; o_law; k_head; (case hw => w_witness2)
  k_fill
  refine Sk.walk_ofGT (l := PySem.Challenge.rw_standhouse_k17_put_beside) (n := 63) (k := 8) (x := "_law_script") (spw := fun w cs => Sk.spLaw _ (Sk.tbsOf cs ["put_beside.<locals>.<lambda>"])) ["put_beside"] rfl (by decide) rfl ⟨rfl, by decide, by decide⟩ (by decide +kernel) (fun w h Y => PySem.W.km_in_of Y) ?F (fun w cs H a ns hl hT hS => ⟨Sk.tbsOf_mem hT, a, ns, rfl, hS, hl, fun _ => rfl⟩)
  case F =>
    intro w mg fa h KX G hmg tb
    refine' Sk.all_mk KX G hmg ?a0 ?l0 ?c0 ?k0 ?a1 ?l1 ?c1 ?k1 ?a2 ?l2 ?c2 ?k2 ?a3 ?l3 ?c3 ?k3 ?a4 ?l4 ?c4 ?k4 ?a5 ?l5 ?c5 ?k5 ?a6 ?l6 ?c6 ?k6 ?a7 ?l7 ?c7 ?k7 ?a8 ?l8 ?c8 ?k8 ?a9 ?l9 ?c9 ?k9 ?a10 ?l10 ?c10 ?k10 ?a11 ?l11 ?c11 ?k11 ?a12 ?l12 ?c12 ?k12 ?a13 ?l13 ?c13 ?k13 ?a14 ?l14 ?c14 ?k14 ?a15 ?l15 ?c15 ?k15 ?a16 ?l16 ?c16 ?k16 ?a17 ?l17 ?c17 ?k17 ?a18 ?l18 ?c18 ?k18 ?a19 ?l19 ?c19 ?k19 ?a20 ?l20 ?c20 ?k20 ?a21 ?l21 ?c21 ?k21 ?a22 ?l22 ?c22 ?k22 ?a23 ?l23 ?c23 ?k23 ?a24 ?l24 ?c24 ?k24 ?a25 ?l25 ?c25 ?k25 ?z0 ?z1 ?z2 ?z3 ?z4 ?z5 ?z6 ?z7 ?z8 ?z9 ?z10 ?z11 ?z12 ?z13 ?z14 ?u0 ?w0 ?t0 ?u1 ?w1 ?u2 ?w2 ?u3 ?w3 ?u4 ?w4 ?u5 ?w5 ?xc_TooGreat ?xo_BadDeeds ?xo_BadHand ?xo_BadHouse ?xo_BadMachine ?xo_BadNode ?xo_BadRow ?xo_BadWay ?xo_BadPaper ?xo_NoName ?xo_TooGreat ?xo_non tb ?nt
    (case a0 => k_is)
    (case l0 => k_is)
    (case c0 => k_is)
    (case k0 => k_is)
    (case a1 => k_is)
    (case l1 => k_is)
    (case c1 => k_is)
    (case k1 => k_is)
    (case a2 => k_is)
    (case l2 => k_is)
    (case c2 => k_is)
    (case k2 => k_is)
    (case a3 => k_is)
    (case l3 => k_is)
    (case c3 => k_is)
    (case k3 => k_is)
    (case a4 => k_is)
    (case l4 => k_is)
    (case c4 => k_is)
    (case k4 => k_is)
    (case a5 => k_is)
    (case l5 => k_is)
    (case c5 => k_is)
    (case k5 => k_is)
    (case a6 => k_is)
    (case l6 => k_is)
    (case c6 => k_is)
    (case k6 => k_is)
    (case a7 => k_is)
    (case l7 => k_is)
    (case c7 => k_is)
    (case k7 => k_is)
    (case a8 => k_is)
    (case l8 => k_is)
    (case c8 => k_is)
    (case k8 => k_is)
    (case a9 => k_is)
    (case l9 => k_is)
    (case c9 => k_is)
    (case k9 => k_is)
    (case a10 => k_is)
    (case l10 => k_is)
    (case c10 => k_is)
    (case k10 => k_is)
    (case a11 => k_is)
    (case l11 => k_is)
    (case c11 => k_is)
    (case k11 => k_is)
    (case a12 => k_is)
    (case l12 => k_is)
    (case c12 => k_is)
    (case k12 => k_is)
    (case a13 => k_is)
    (case l13 => k_is)
    (case c13 => k_is)
    (case k13 => k_is)
    (case a14 => k_is)
    (case l14 => k_is)
    (case c14 => k_is)
    (case k14 => k_is)
    (case a15 => k_is)
    (case l15 => k_is)
    (case c15 => k_is)
    (case k15 => k_is)
    (case a16 => k_is)
    (case l16 => k_is)
    (case c16 => k_is)
    (case k16 => k_is)
    (case a17 => k_is)
    (case l17 => k_is)
    (case c17 => k_is)
    (case k17 => k_is)
    (case a18 => k_is)
    (case l18 => k_is)
    (case c18 => k_is)
    (case k18 => k_is)
    (case a19 => k_is)
    (case l19 => k_is)
    (case c19 => k_is)
    (case k19 => k_is)
    (case a20 => k_is)
    (case l20 => k_is)
    (case c20 => k_is)
    (case k20 => k_is)
    (case a21 => k_is)
    (case l21 => k_is)
    (case c21 => k_is)
    (case k21 => k_is)
    (case a22 => k_is)
    (case l22 => k_is)
    (case c22 => k_is)
    (case k22 => k_is)
    (case a23 => k_is)
    (case l23 => k_is)
    (case c23 => k_is)
    (case k23 => k_is)
    (case a24 => k_is)
    (case l24 => k_is)
    (case c24 => k_is)
    (case k24 => k_is)
    (case a25 => k_is)
    (case l25 => k_is)
    (case c25 => k_is)
    (case k25 => k_is)
    (case z0 => k_is)
    (case z1 => k_is)
    (case z2 => k_is)
    (case z3 => k_is)
    (case z4 => k_is)
    (case z5 => k_is)
    (case z6 => k_is)
    (case z7 => k_is)
    (case z8 => k_is)
    (case z9 => k_is)
    (case z10 => k_is)
    (case z11 => k_is)
    (case z12 => k_is)
    (case z13 => k_is)
    (case z14 => k_is)
    (case u0 => k_is)
    (case w0 => k_is)
    (case t0 => exact ⟨_, _, rfl, rfl, by decide, .cons ⟨_, rfl⟩ (.cons ⟨_, rfl⟩ (.cons ⟨_, rfl⟩ (.cons ⟨_, rfl⟩ (.cons ⟨_, rfl⟩ (.cons ⟨_, rfl⟩ (.cons ⟨_, rfl⟩ (.nil)))))))⟩)
    (case u1 => k_is)
    (case w1 => exact ⟨_, rfl⟩)
    (case u2 => k_is)
    (case w2 => exact ⟨_, rfl⟩)
    (case u3 => k_is)
    (case w3 => exact ⟨_, rfl⟩)
    (case u4 => k_is)
    (case w4 => exact ⟨_, rfl⟩)
    (case u5 => k_is)
    (case w5 => exact ⟨_, rfl⟩)
    (case xc_TooGreat => k_is)
    (case xo_BadDeeds => first | kernel_rfl | exact rfl)
    (case xo_BadHand => first | kernel_rfl | exact rfl)
    (case xo_BadHouse => first | kernel_rfl | exact rfl)
    (case xo_BadMachine => first | kernel_rfl | exact rfl)
    (case xo_BadNode => first | kernel_rfl | exact rfl)
    (case xo_BadRow => first | kernel_rfl | exact rfl)
    (case xo_BadWay => first | kernel_rfl | exact rfl)
    (case xo_BadPaper => first | kernel_rfl | exact rfl)
    (case xo_NoName => first | kernel_rfl | exact rfl)
    (case xo_TooGreat => first | kernel_rfl | exact rfl)
    (case xo_non => first | kernel_rfl | exact rfl)
    (case nt => first | kernel_rfl | exact rfl)
