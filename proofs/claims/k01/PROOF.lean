import PyProof.Rows.All
import Wide.All
import OpenK.AllK
import Wide.FinOn
import PyProof.ReprRoads
import HandS.ForMost
import HandS.EndBits
import HandS.Flow
import HandS.Style
import HandS.More
import HandS.Conv
import HandS.NoneIn
import HandS.Wide
import HandS.WideBits
import HandS.Slots
import HandS.SlotsOwn
import HandS.ClsMeth
import HandS.MakeKw
import HandS.MakeKwOnly
import HandS.Defaults
import HandS.FStr
import HandS.StrSplit
import HandS.SortInts
import HandS.IsInst
import HandS.RaiseMore
import HandS.Small
import HandS.TupAny
import HandS.Zip
import HandS.TupMul
import HandS.Deep
import HandS.Evl
import HandS.Iter
import HandS.Property
import HandS.Walk
import HandS.DictTup
import HandS.SortRule
import KE.GoesMore
import KE.KDictPairs
import HandS.DictEq
import HandS.Lambda
import HandS.EndTab
import HandS.TryMany
import HandS.ExcInit
import HandS.ExcField
import HandS.ExcIs
import HandS.HotCalls
import KE.KExcInit
import KE.KExcIs
import KE.DataFind
import KE.KEqNest
import KE.OsRunLaw
import HandS.ReplaceList
import HandS.ExcValue
import PySem.Challenge.RW_lamprounds_k01_limits_and_errors
set_option Elab.async false
set_option linter.all false
set_option maxRecDepth 100000
set_option maxHeartbeats 4000000
/-! ## Defs that are known to run with no repr around them (A.guards = some []): FnG, its rules, the end -/
namespace Gd
open PySem PySem.Spec PyProof.Rows L2

/-- as FnOk, where moreover no guard is known to stand around -/
structure FnG (P : Program) (w : World) (K : PySem.W.Frag) (mg : Str → Option Value) (base : Heap) (CX : CXT) (k : Nat) (f : Addr) (fd : FuncData) (ps : List Str) (sp : Sp) : Prop where
  many : ∀ vs H Q E, sp vs H Q E → vs.length = ps.length
  goes : ∀ (A : Around) (outer : List Env) (s : Shared) (H : Hp) (args : Args) (us : List Value) (vs : List V) (Q : VK) (E : XK),
    A.guards = some [] → Room k A → Env0 P w K mg base A outer s H → BindsTo s fd args (ps.zip us) → Vals vs us → sp vs H Q E →
    codeAny (model P w) A (.call (.ref f) args) (CR CX outer P w H s Q E) s

section
variable {P : Program} {w : World} {K : PySem.W.Frag} {mg : Str → Option Value} {base : Heap} {CX : CXT} {k : Nat} {f : Addr} {fd : FuncData} {ps : List Str} {sp : Sp}
theorem FnG.of (F : FnOk P w K mg base CX k f fd ps sp) : FnG P w K mg base CX k f fd ps sp :=
  ⟨F.len, fun A o s H a us vs Q E _ => F.run A o s H a us vs Q E⟩

/-- what a body's reading gives of the def, at one place of call -/
theorem go_body {qual : Str} {scope : Scope} {N : List Str} {A : Around} {outer : List Env} {s : Shared} {H : Hp} {Q : VK} {E : XK} {f : Addr} {cdv : Value} {body : List Stmt} {t : TS} {vs : List V} {s1 : Shared}
    (ht : PSs (cxOf CX P w K mg base N qual scope f cdv A outer s H E) body t) (hq : t { nx := fun _ H' => Q .non H', rt := Q } (start N vs) H)
    (I : Inv (cxOf CX P w K mg base N qual scope f cdv A outer s H E) [] (start N vs) H s1) :
    wpAny (model P w) (A.deeper (envOfC qual scope s.heap.objs.size f cdv)) (execs body (envOfC qual scope s.heap.objs.size f cdv))
      (fun fl s' => match fl with
        | .ret u => CE outer P w H s Q u s'
        | .next => CE outer P w H s Q Value.none s'
        | _ => False)
      (cxOf CX P w K mg base N qual scope f cdv A outer s H E).xe s1 := by
  refine thn (ht.run [] s1 _ H _ I hq) ?_
  intro fl s' z
  cases fl with
  | next =>
    obtain ⟨σ', H', J, q⟩ := z
    exact ⟨V.non, H', J.os, J.bare, J.base, J.hok, rfl, q⟩
  | ret u =>
    obtain ⟨v, σ', H', J, rv, q⟩ := z
    exact ⟨v, H', J.os, J.bare, J.base, J.hok, rv, q⟩
  | brk => exact z.elim fun _ z => z.elim fun _ z => z.2.elim
  | cont => exact z.elim fun _ z => z.elim fun _ z => z.2.elim

/-- the rule for a def of the text -/
theorem okG {x qual : Str} {st : Stmt} {N : List Str} (F : Fun K x qual st f fd) (S : FnScope N ps (defScope st)) (many : ∀ vs H Q E, sp vs H Q E → vs.length = ps.length)
    (hbody : ∀ (cdv : Value) (A : Around) (outer : List Env) (s : Shared) (H : Hp) (vs : List V) (Q : VK) (E : XK), A.guards = some [] → Room k (A.deeper (envOfC qual (defScope st) s.heap.objs.size f cdv)) → sp vs H Q E →
      ∃ t, PSs (cxOf CX P w K mg base N qual (defScope st) f cdv A outer s H E) (defBody st) t ∧ t { nx := fun _ H' => Q .non H', rt := Q } (start N vs) H) :
    FnG P w K mg base CX (k + 1) f fd ps sp := by
  obtain ⟨oc, od, kV, doc, pm, an, cdv, ct, osl, rfl, lk, hcd⟩ := F.ex
  refine ⟨many, ?_⟩
  intro A outer s H args us vs Q E hg hr e0 hb r hsp
  have there : ∀ b o, base.get? b = some o → s.heap.get? b = some o := fun b o e => (e0.bs b o e).1
  have KX : K.In s.heap := e0.mod.kin.keeps there
  have par : ∀ y ∈ ps.zip us, (defScope st).names.lookup y.1 = some .local ∨ ((defScope st).names.lookup y.1 = some .cell ∧ ((cellsFrom (s.heap.objs.size + 1) (defScope st).names []).lookup y.1).isSome = true) := by
    rintro ⟨n, v⟩ hy
    exact (S.par n (List.of_mem_zip hy).1).elim .inl fun q => .inr ⟨q, PySem.W.cellsFrom_some _ _ _ (.inl q)⟩
  have enter := hb
  refine codeAny_call_function hr.depth (KX _ _ lk) rfl S.co S.gen rfl (PySem.W.codeRec_of KX hcd) (hb _ _ _ _ ?_)
  refine wpAny_newFunctionEnv_cells S.kind par ?_
  intro env he s1 x
  subst he
  refine ⟨(e0.mod.nolimit.keeps there).keeps x.toInCall.keep, codeAny_func ?_⟩
  obtain ⟨t, ht, hq⟩ := hbody cdv A outer s H vs Q E hg (hr.deeper _) hsp
  have I := inv_start (N := N) (CX := CX) (E := E) S hr.hd e0 (many _ _ _ _ hsp) r x
  refine wpAny_mono (go_body ht hq I) ?_ fun e s' z => z
  intro fl s' z
  cases fl with
  | next => exact z
  | ret u => exact z
  | brk => exact z.elim
  | cont => exact z.elim
end

section
variable {X : Cx} {CX : CXT} {k : Nat} {f : Addr} {fd : FuncData} {ps : List Str} {sp : Sp} {E : XK} {x : Str} {p pos : Pos} {e : Expr} {es : List Expr} {t : TA}
theorem runG {pins : List (Addr × Obj)} {σ : L2.St} {H : Hp} {s : Shared} {Q : VK} {us : List Value} {vs : List V} (F : FnG X.prog X.w X.K X.mg X.base CX k f fd ps sp) (hg : X.A.guards = some []) (hr : Room k X.A) (hb : Binds X.K fd ps []) (hx : Passes CX X E)
    (I : Inv X pins σ H s) (r : Vals vs us) (h : sp vs H Q E) : wpAny (model X.prog X.w) X.A (call (.ref f) us) (EP X pins σ Q) X.xe s := by
  have hl : (us ++ []).length = ps.length := by
    rw [List.append_nil, ← r.length]
    exact F.many _ _ _ _ h
  have bt := hb s us I.kIn hl
  rw [List.append_nil] at bt
  refine wpAny_call (codeAny_mono (F.goes X.A X.stack s H ⟨us, []⟩ us vs Q E hg hr I.env0 bt r h) ?_)
  intro res s' z
  match res, z with
  | .error e, z => exact hx pins σ H s e s' I z
  | .ok (.ret u), z => exact I.after z
/-- f(e, ..), f a def that asks for repr -/
theorem pe_callG (F : FnG X.prog X.w X.K X.mg X.base CX k f fd ps sp) (hgd : X.A.guards = some []) (hr : Room k X.A) (hg : Gl X x) (hm : X.mg x = some (.ref f)) (hk : PySem.W.keepIn X.K (.ref f) = true) (hb : Binds X.K fd ps []) (hx : Passes CX X E)
    (ha : PA X (e :: es) t) (hdb : (x == ("__debug__" : Str)) = false := by decide) (he : starEach (e :: es) X.env = (false, eval e X.env) :: starEach es X.env := by rfl) (hpl : (backTo pos (starEach es X.env)).any (·.1) = false := by rfl) :
    PE X (.Call (.Name x p) (e :: es) [] pos) (tCall sp [] E t) := by
  refine ⟨fun pins s σ H Q I h => wpAny_Call_Name_kw (ld_glob I hg hm ?_ hdb)⟩
  refine PySem.W.callWith_K (h₀ := X.base) I.ok.mod.kin hk (thn (ha.run pos pins s σ H _ I h) ?_) he hpl
  rintro us s1 ⟨vs, H1, I1, r, q⟩
  have q' : sp (vs ++ []) H1 Q E := q
  rw [List.append_nil] at q'
  exact ⟨I1.kIn, runG F hgd hr hb hx I1 r q'⟩

/-- repr of data -/
def rRepr (K : PySem.W.Frag) : List V → Hp → VK → Prop := fun xs H Q => ∃ (a : Addr) (d : PyData), xs = [.ref a] ∧ Dp K H (.ref a) d ∧ d.showable = true ∧ d.hasDict = false ∧ d.depth ≤ 40 ∧ d.shown.length ≤ sizeLine ∧ Q (.str d.shown) H
theorem call_repr (hgd : X.A.guards = some []) (hr : Room k X.A) : CallR X (.builtin "repr") (rRepr X.K) := by
  intro pins s σ H xs us Q I r h
  obtain ⟨a, d, rfl, hd, hs, hn, hdp, hz, q⟩ := h
  obtain ⟨u, rfl, ru⟩ := vals1 r
  obtain ⟨as, rd⟩ := Dp.reads I d (.ref a) u hd ru
  obtain rfl : u = Value.ref a := ru
  refine repr_of_reads' rd hs (PyData.noDict_hsm hn) hgd ?_ (fun _ _ z => z) ?_ hz
  · have := hr.un
    omega
  · intro h' u tk kp
    exact ⟨.str d.shown, H, I.kept (t' := tk) kp, ⟨_, rfl⟩, q⟩
end

/-! ### the end: the law's def is called on the script -/
section
variable {P : Program} {w : World} {K : PySem.W.Frag} {mg mb : Str → Option Value} {k : Nat} {fa a : Addr} {fd : FuncData} {x : Str} {sp : Sp} {s1 : Shared} {vs : List Value} {ns : List Int}
/-- a heap in which nothing but the script is tracked, as it stands -/
structure Alone (K : PySem.W.Frag) (H : Hp) (a : Addr) (vs : List Value) (ns : List Int) : Prop where
  seq : SqL K H a (ns.map V.int)
  only : ∀ b u, H b = some u → b = a ∧ u = .frz { cls := .type "list", data := .seq vs.toArray } (.lst (ns.map V.int)) ∧ K.lookup a = none
/-- as SqL, where it is known that it is not written -/
def LstK (K : PySem.W.Frag) (H : Hp) (a : Addr) (xs : List V) : Prop :=
  (∃ o, H a = some (.frz o (.lst xs))) ∨
    ∃ (o : Obj) (its : Array Value) (n : Nat), K.lookup a = some o ∧ o.cls = .type "list" ∧ o.dict = none ∧ o.data = .seq its n ∧ its.size ≤ sizeLine ∧ Vals xs its.toList
theorem Alone.lk {H : Hp} (h : Alone K H a vs ns) : LstK K H a (ns.map V.int) := by
  rcases h.seq with (z | z) | z
  · have e := (h.only _ _ z).2.1
    cases e
  · exact .inl z
  · exact .inr z
theorem alone (hk : K.In s1.heap) (ha : s1.heap.get? a = some { cls := .type "list", data := .seq vs.toArray }) (rv : Vals (ns.map V.int) vs) (hl : ns.length ≤ sizeLine) : ∃ H, Alone K H a vs ns := by
  cases e : K.lookup a with
  | none =>
    refine ⟨fun b => if b = a then some (.frz { cls := .type "list", data := .seq vs.toArray } (.lst (ns.map V.int))) else none, .inl (.inr ⟨_, if_pos rfl⟩), ?_⟩
    intro b u z
    by_cases hb : b = a
    · have z' : some (HO.frz { cls := .type "list", data := .seq vs.toArray } (.lst (ns.map V.int))) = some u := (if_pos hb).symm.trans z
      exact ⟨hb, (Option.some.inj z').symm, e⟩
    · have z' : (none : Option HO) = some u := (if_neg hb).symm.trans z
      cases z'
  | some o =>
    have z := hk a o e
    rw [ha] at z
    cases z
    have lv := rv.length
    rw [List.length_map] at lv
    refine ⟨fun _ => none, .inr ⟨_, vs.toArray, _, e, rfl, rfl, rfl, ?_, ?_⟩, ?_⟩
    · rw [List.size_toArray, ← lv]
      exact hl
    · simpa using rv
    · intro b u z
      have z' : (none : Option HO) = some u := z
      cases z'
theorem law_endG (KX : K.In s1.heap) (hns : s1.heap.Ns mainGlobals mg) (hb : s1.heap.Ns builtinsNs mb) (hbb : ∀ x : Str, x ≠ "__name__" → mb x = bootBuiltins x) (hlim : s1.heap.NoLimit) (hg : s1.gens = #[])
    (ha : s1.heap.get? a = some { cls := .type "list", data := .seq vs.toArray }) (hi : IntsAre vs ns) (hl : ns.length ≤ sizeLine) (hr : Room k callerA)
    (F : ∀ base : Heap, K.In base → base.Ns mainGlobals mg → FnG P w K mg base CX0 k fa fd [x] sp) (hbind : ∀ (s : Shared) (u : Value), BindsTo s fd ⟨[u], []⟩ [(x, u)])
    (hsp : ∀ H : Hp, LstK K H a (ns.map V.int) → sp [.ref a] H (fun v _ => v = .bl true) E0) :
    codeAny (model P w) callerA (.call (.ref fa) ⟨[.ref a], []⟩) (fun r s' => r = .ok (.ret (.bool true)) ∧ OldK s1.heap s'.heap ∧ s'.os = s1.os ∧ AllBare s'.gens) s1 := by
  have rv : Vals (ns.map V.int) vs := vals_ints hi
  obtain ⟨H, hH⟩ := alone KX ha rv hl
  have keep : ∀ {b : Addr} {o : Obj}, s1.heap.get? b = some o → (b = a → K.lookup a ≠ none ∨ o.data ≠ .seq vs.toArray) → (hidT s1.heap H).get? b = some o := by
    intro b o e h1
    refine hidT_get e ?_
    cases q : H b with
    | none => rfl
    | some u =>
      obtain ⟨eb, _, en⟩ := hH.only b u q
      subst eb
      rw [ha] at e
      cases e
      rcases h1 rfl with z | z
      · exact absurd en z
      · exact absurd rfl z
  have nsk : ∀ {b : Addr} {m : Str → Option Value}, s1.heap.Ns b m → (hidT s1.heap H).Ns b m := by
    rintro b m ⟨o, es, ep, e, d, z⟩
    refine ⟨o, es, ep, keep e fun _ => .inr ?_, d, z⟩
    rw [d]
    intro c
    cases c
  have kb : K.In (hidT s1.heap H) := by
    intro b o e
    refine keep (KX b o e) fun eb => .inl ?_
    rw [← eb, e]
    intro c
    cases c
  have md : Mod K mg (hidT s1.heap H) := by
    obtain ⟨mc, h1, h2⟩ := hlim
    exact ⟨kb, nsk hns, ⟨mb, nsk hb, hbb⟩, mc, nsk h1, h2⟩
  have hok : HOk P w H s1.heap := by
    intro b u z
    obtain ⟨e1, e2, _⟩ := hH.only b u z
    subst e1
    subst e2
    refine ⟨ha, ?_, vs, _, rv, ha⟩
    rw [List.length_map]
    exact hl
  have e0 : Env0 P w K mg (hidT s1.heap H) callerA [] s1 H := by
    refine ⟨rfl, md, fun b o e => of_hidT e, Nat.le_of_eq (hidT_size _ _), trivial, ?_, hok, .of_eq hg⟩
    intro b z
    cases (show b ∈ ([] : List Addr) from z)
  have main := (F _ kb (nsk hns)).goes callerA [] s1 H ⟨[.ref a], []⟩ [.ref a] [.ref a] _ _ rfl hr e0 (hbind s1 (.ref a)) (.cons rfl .nil) (hsp H hH.lk)
  refine codeAny_mono main ?_
  intro r s' z
  match r, z with
  | .error e, z => exact False.elim z
  | .ok (.ret u), z =>
    obtain ⟨v, H', os, bare, un, hok', r', q⟩ := z
    have q' : v = .bl true := q
    subst q'
    obtain rfl : u = Value.bool true := r'
    refine ⟨rfl, OldK.of_keep ?_, os, bare⟩
    intro b o e
    cases q : H b with
    | none => exact un.keep b o e q (fun z => nomatch (show b ∈ ([] : List Addr) from z)) (fun z => nomatch z)
    | some u =>
      obtain ⟨eb, eu, _⟩ := hH.only b u q
      subst eb
      subst eu
      have z2 := hok' _ _ (un.frzs _ _ _ q)
      rw [ha] at e
      cases e
      exact z2.1
/-- the goal that k_head leaves, from the law's promise -/
theorem walkG {l : PySem.W.OpenLaw} {q : Program} {loose : List Str} {XP : (Str → Option Value) → Heap → Prop} {YP : World → Heap → Prop} {d : DefRec} {K : Params → PySem.W.Frag} {sp : PySem.W.Frag → Sp} (hn : l.most = some 63) (hdf : d.params.defaults = []) (hr : Room k callerA)
    (hY : ∀ (w : World) (h : Heap), YP w h → (K w.params).In h)
    (F : ∀ (w : World) (mg : Str → Option Value) (fa : Addr) (h : Heap), (K w.params).In h → h.Ns mainGlobals mg → mg d.name = some (.ref fa) →
      ∃ fd : FuncData, (∀ (s : Shared) (u : Value), BindsTo s fd ⟨[u], []⟩ [(x, u)]) ∧ ∀ base : Heap, (K w.params).In base → base.Ns mainGlobals mg → FnG l.prog w (K w.params) mg base CX0 k fa fd [x] (sp (K w.params)))
    (hsp : ∀ (K : PySem.W.Frag) (H : Hp) (a : Addr) (ns : List Int), ns.length ≤ 63 → (∀ z ∈ ns, Builtin.Int.intBits z ≤ 1048576) → LstK K H a (ns.map V.int) → sp K [.ref a] H (fun v _ => v = .bl true) E0) :
    PySem.W.WalkO q loose XP YP l.row.toRowW d [] (fun f vs => PySem.call f vs) := by
  refine Att.attach_callB hn hdf ?_
  intro w s₀ s1 mg mb fa o pm cd doc a vs ns G Y ho hd hcd hmg hobj hints hlen hbits hg
  have KX := hY w _ Y
  obtain ⟨fd, hb, hF⟩ := F w mg fa _ KX G.T.g hmg
  exact law_endG KX G.T.g G.T.b G.T.builtins G.T.nolimit hg hobj hints (Nat.le_trans hlen (by decide)) hr hF hb fun H hS => hsp _ H a ns hlen hbits hS
end
end Gd

/-! ## Words of ours: what stays, what is read, steps -/
namespace Lamp
open PySem PySem.Spec PyProof.Rows L2
/-- the parts of a reading that answer themselves -/
local macro_rules | `(tactic| walk_at "n") => `(tactic| first | (show (0 : Int) < _; first | assumption | decide | omega) | (refine Or.inl ⟨?_, ?_⟩ <;> first | decide | omega) | (refine Or.inr ⟨?_, ?_⟩ <;> first | decide | omega) | (refine ⟨?_, ?_⟩ <;> first | decide | omega) | (refine ⟨?_, ?_, ?_⟩ <;> first | decide | omega) | omega | decide)
local macro_rules | `(tactic| walk_at "h") => `(tactic| first | assumption | exact L2.upd_same | exact L2.SqL.of (by assumption) | exact L2.SqT.of (by assumption) | exact L2.SqL.of L2.upd_same | exact L2.SqT.of L2.upd_same | exact Or.inl (Or.inr ⟨_, by assumption⟩))
local macro_rules | `(tactic| walk_at "g1") => `(tactic| first
  | (refine ⟨_, rfl, ?_⟩)
  | (refine ⟨_, _, rfl, rfl, (show L2.CMul _ _ from by walk_at "n"), ?_⟩)
  | (refine ⟨_, _, rfl, rfl, (show L2.CDiv _ _ from by walk_at "n"), ?_⟩)
  | (refine ⟨_, _, rfl, rfl, (show L2.CPow _ _ from by walk_at "n"), ?_⟩)
  | (refine ⟨_, _, rfl, rfl, (show (0 : Int) < _ from by walk_at "n"), ?_⟩)
  | (refine ⟨_, _, rfl, rfl, ?_⟩)
  | (refine Or.inl ⟨_, rfl, ?_⟩)
  | (refine ⟨_, _, _, _, rfl, rfl, (by walk_at "h"), (by assumption), ?_⟩)
  | (refine ⟨_, _, _, _, rfl, rfl, (by walk_at "h"), by rfl, ?_⟩)
  | (refine ⟨_, _, rfl, Or.inl (by walk_at "h"), ?_⟩)
  | (refine ⟨_, _, rfl, Or.inr (by walk_at "h"), ?_⟩)
  | (refine ⟨(show L2.scal _ _ = true from rfl), ?_⟩)
  | (refine ⟨_, _, _, _, _, _, _, rfl, (by assumption), (by assumption), (by assumption), rfl, ?_⟩)
  | (refine ⟨(show Nat.log2 _ < _ from by assumption), ?_⟩)
  | (refine ⟨(show PySem.Str.length _ ≤ _ from by assumption), ?_⟩)
  | (refine ⟨⟨_, rfl⟩, ?_⟩)
  | (refine ⟨(show _ = L2.V.non from rfl), ?_⟩)
  | (refine ⟨_, _, _, _, true, rfl, L2.ClsV.ty _, L2.TyX.base (.int _), L2.kit_ty (by decide +kernel), ?_⟩)
  | (refine ⟨_, _, _, _, true, rfl, L2.ClsV.ty _, L2.TyX.base (.tup (by walk_at "h")), L2.kit_ty (by decide +kernel), ?_⟩)
  | (refine ⟨_, _, _, _, true, rfl, L2.ClsV.ty _, L2.TyX.base (.str _), L2.kit_ty (by decide +kernel), ?_⟩)
  | (refine ⟨_, _, _, _, true, rfl, L2.ClsV.ty _, L2.TyX.base (.lst (by walk_at "h")), L2.kit_ty (by decide +kernel), ?_⟩)
  | (refine ⟨_, _, _, _, false, rfl, L2.ClsV.ty _, L2.TyX.base (.int _), L2.kit_ty (by decide +kernel), ?_⟩)
  | (refine ⟨_, _, _, _, false, rfl, L2.ClsV.ty _, L2.TyX.base (.tup (by walk_at "h")), L2.kit_ty (by decide +kernel), ?_⟩)
  | (refine ⟨_, _, _, _, false, rfl, L2.ClsV.ty _, L2.TyX.base (.str _), L2.kit_ty (by decide +kernel), ?_⟩)
  | (refine ⟨_, _, _, _, false, rfl, L2.ClsV.ty _, L2.TyX.base (.lst (by walk_at "h")), L2.kit_ty (by decide +kernel), ?_⟩)
  | (refine ⟨_, _, _, _, true, rfl, L2.ClsV.ty _, L2.TyX.fTuple (by assumption), L2.kit_ty (by decide +kernel), ?_⟩)
  | (refine ⟨_, _, _, _, false, rfl, L2.ClsV.ty _, L2.TyX.fTuple (by assumption), L2.kit_ty (by decide +kernel), ?_⟩)
  | fail "g")
local macro_rules | `(tactic| walk_at "g") => `(tactic| repeat' (walk_at "g1"))
/-- as "g", where what is known of a comparison decides it -/
local macro_rules | `(tactic| walk_at "d1") => `(tactic| first
  | (refine ⟨true, congrArg L2.V.bl (decide_eq_true (by assumption)), ?_⟩)
  | (refine ⟨false, congrArg L2.V.bl (decide_eq_false (by assumption)), ?_⟩)
  | (refine ⟨true, congrArg L2.V.bl (by assumption), ?_⟩)
  | (refine ⟨false, congrArg L2.V.bl (by assumption), ?_⟩)
  | (refine ⟨false, congrArg L2.V.bl (congrArg Bool.not (by assumption)), ?_⟩)
  | (refine ⟨true, congrArg L2.V.bl (congrArg Bool.not (by assumption)), ?_⟩)
  | walk_at "g1"
  | fail "d")
local macro_rules | `(tactic| walk_at "d") => `(tactic| repeat' (walk_at "d1"))
/-- all but what stands at a is as it was -/
def Oth (a : Addr) (H H' : Hp) : Prop := ∀ b o, H b = some o → b ≠ a → H' b = some o
theorem Oth.refl {a : Addr} (H : Hp) : Oth a H H := fun _ _ h _ => h
theorem Oth.trans {a : Addr} {H H1 H2 : Hp} (x : Oth a H H1) (y : Oth a H1 H2) : Oth a H H2 := fun b o h n => y b o (x b o h n) n
theorem Oth.of {a : Addr} {H H' : Hp} (s : Same H H') : Oth a H H' := fun b o h _ => s b o h
theorem Oth.put {a : Addr} {H H' : Hp} {o : HO} (x : Oth a H H') : Oth a H (upd H' a o) := fun b u h n => by
  rw [upd_ne n]
  exact x b u h n
theorem Same.new {H : Hp} {p : Addr} {o : HO} (h : H p = none) : Same H (upd H p o) := fun b u e => by
  rw [upd_ne (ne_of_none e h)]
  exact e
end Lamp

/-! ## Tables, pictures, rounds as they stand in the heap -/
namespace Lamp
open PySem PySem.Spec PyProof.Rows L2
theorem op_mulI {X : Cx} : OpR X (binaryOp .Mult) (rI IntMulOk fun i j => .int (i * j)) := opI fun _ _ _ _ _ _ _ hc q => mul_int q hc
theorem mul_ok_bits {i j : Int} (hi : Builtin.Int.intBits i ≤ 4000000) (hj : Builtin.Int.intBits j ≤ 4000000) : IntMulOk i j := by
  have e : bitsLine = 134217728 := by decide
  unfold IntMulOk
  intro z
  rw [Bool.and_eq_true] at z
  have z2 := z.2
  unfold Builtin.Int.intTooBig at z2
  have z3 := of_decide_eq_true z2
  rw [e] at z3
  omega
theorem Oth.ne {a b : Addr} {H H' : Hp} {o u : HO} (x : Oth a H H') (ha : H a = some u) (hb : H b = some o) (h : o ≠ u) : H' b = some o :=
  x b o hb fun e => h (by rw [e, ha] at hb; exact (Option.some.inj hb).symm)
/-! tables: int keys, int values -/
def dI (t : List (Int × Int)) : List (Key × V) := t.map fun ab => (Sum.inl ab.1, V.int ab.2)
def tget (t : List (Int × Int)) (k : Int) : Option Int := (t.find? fun ab => decide (ab.1 = k)).map (·.2)
def thas (t : List (Int × Int)) (k : Int) : Bool := t.any fun ab => decide (ab.1 = k)
def tput (t : List (Int × Int)) (k v : Int) : List (Int × Int) := if thas t k = true then t.map (fun ab => if ab.1 = k then (ab.1, v) else ab) else t ++ [(k, v)]
def tdel (t : List (Int × Int)) (k : Int) : List (Int × Int) := t.filter fun ab => decide (ab.1 ≠ k)
def keysOf (t : List (Int × Int)) : List Int := t.map (·.1)
theorem thas_mem {t : List (Int × Int)} {k : Int} : thas t k = true ↔ k ∈ keysOf t := by
  unfold thas keysOf
  rw [List.any_eq_true, List.mem_map]
  constructor
  · rintro ⟨ab, h, e⟩
    exact ⟨ab, h, of_decide_eq_true e⟩
  · rintro ⟨ab, h, e⟩
    exact ⟨ab, h, decide_eq_true e⟩
theorem keys_tput (t : List (Int × Int)) (k v : Int) : keysOf (tput t k v) = if thas t k = true then keysOf t else keysOf t ++ [k] := by
  unfold tput
  by_cases h : thas t k = true
  · rw [if_pos h, if_pos h]
    unfold keysOf
    rw [List.map_map]
    congr 1
    funext ab
    show (if ab.1 = k then (ab.1, v) else ab).1 = ab.1
    split <;> rfl
  · rw [if_neg h, if_neg h]
    unfold keysOf
    rw [List.map_append]
    rfl
theorem nodup_tput {t : List (Int × Int)} (k v : Int) (h : (keysOf t).Nodup) : (keysOf (tput t k v)).Nodup := by
  rw [keys_tput]
  by_cases e : thas t k = true
  · rw [if_pos e]
    exact h
  · rw [if_neg e]
    exact nd_snoc h fun m => e (thas_mem.mpr m)
theorem mem_tput {t : List (Int × Int)} {k v : Int} {ab : Int × Int} (h : ab ∈ tput t k v) : ab ∈ t ∨ ab = (k, v) := by
  unfold tput at h
  split at h
  · obtain ⟨cd, hc, e⟩ := List.mem_map.mp h
    by_cases q : cd.1 = k
    · rw [if_pos q] at e
      right
      rw [← e, q]
    · rw [if_neg q] at e
      left
      rw [← e]
      exact hc
  · rcases List.mem_append.mp h with h | h
    · exact .inl h
    · exact .inr (List.mem_singleton.mp h)
theorem tget_mem {t : List (Int × Int)} {k v : Int} (h : tget t k = some v) : (k, v) ∈ t := by
  unfold tget at h
  cases e : t.find? fun ab => decide (ab.1 = k) with
  | none =>
    rw [e] at h
    cases h
  | some ab =>
    rw [e] at h
    have h1 := List.find?_some e
    have h2 : ab.1 = k := of_decide_eq_true h1
    have h3 : ab.2 = v := Option.some.inj h
    rw [← h2, ← h3]
    exact List.mem_of_find?_eq_some e
/-! pictures: tuples of pairs; the tuple itself is a plain object that stays as it is -/
def plainT (its : List Value) : Obj := { cls := .type "tuple", data := .seq its.toArray }
def TupF (H : Hp) (t : Addr) (vs : List V) : Prop := ∃ its : List Value, H t = some (.frz (plainT its) (.tup vs))
def At2 (H : Hp) (v : V) (ab : Int × Int) : Prop := ∃ q, v = .ref q ∧ H q = some (.tup [.int ab.1, .int ab.2])
def Pic (H : Hp) (t : Addr) (ls : List (Int × Int)) : Prop := ∃ vs, TupF H t vs ∧ Paired (At2 H) vs ls
theorem At2.same {H H' : Hp} {v : V} {ab : Int × Int} (s : Same H H') (h : At2 H v ab) : At2 H' v ab := by
  obtain ⟨q, e, h⟩ := h
  exact ⟨q, e, s _ _ h⟩
theorem Pic.same {H H' : Hp} {t : Addr} {ls : List (Int × Int)} (s : Same H H') (h : Pic H t ls) : Pic H' t ls := by
  obtain ⟨vs, ⟨its, h1⟩, h2⟩ := h
  exact ⟨vs, ⟨its, s _ _ h1⟩, Paired.mapP h2 fun _ _ => At2.same s⟩
/-- a right picture of p levels, its places of moderate size -/
structure Good (p : Int) (ls : List (Int × Int)) : Prop where
  asc : (keysOf ls).Pairwise (· < ·)
  lev : ∀ ab ∈ ls, 0 < ab.2 ∧ ab.2 < p
/-- numbers whose texts fit -/
def Fin1 (i : Int) : Prop := -(10 ^ 200) < i ∧ i < 10 ^ 200
end Lamp
namespace Lamp
open PySem PySem.Spec PyProof.Rows L2
theorem Paired.snoc {α β : Type} {F : α → β → Prop} : ∀ {l₁ : List α} {l₂ : List β} {a : α} {b : β}, Paired F l₁ l₂ → F a b → Paired F (l₁ ++ [a]) (l₂ ++ [b])
  | _, _, _, _, .nil, h => .cons h .nil
  | _, _, _, _, .cons r t, h => .cons r (Paired.snoc t h)
/-- a list at D, new since H0, that holds new pairs -/
structure Grow (H0 : Hp) (D : Addr) (H : Hp) (vs : List V) (ls : List (Int × Int)) : Prop where
  new : H0 D = none
  lst : H D = some (.lst vs)
  all : Paired (At2 H) vs ls
  same : Same H0 H
theorem Grow.start {H0 : Hp} {D : Addr} (h : H0 D = none) : Grow H0 D (upd H0 D (.lst [])) [] [] := ⟨h, upd_same, .nil, Same.new h⟩
theorem Grow.more {H0 H : Hp} {D : Addr} {vs : List V} {ls : List (Int × Int)} (g : Grow H0 D H vs ls) {q : Addr} (hq : H q = none) (a b : Int) :
    Grow H0 D (upd (upd H q (.tup [.int a, .int b])) D (.lst (vs ++ [.ref q]))) (vs ++ [.ref q]) (ls ++ [(a, b)]) := by
  have nDq : q ≠ D := (ne_of_none g.lst hq).symm
  refine ⟨g.new, upd_same, Paired.snoc (Paired.mapP g.all ?_) ⟨q, rfl, ?_⟩, ?_⟩
  · rintro v ab ⟨r, e, h⟩
    refine ⟨r, e, ?_⟩
    have n1 : r ≠ D := ne_of h g.lst (fun c => by cases c)
    have n2 : r ≠ q := ne_of_none h hq
    rw [upd_ne n1, upd_ne n2]
    exact h
  · rw [upd_ne nDq, upd_same]
  · intro b o e
    have n1 : b ≠ D := ne_of_none e g.new
    have n2 : b ≠ q := ne_of_none (g.same _ _ e) hq
    rw [upd_ne n1, upd_ne n2]
    exact g.same _ _ e
theorem Paired.len {α β : Type} {F : α → β → Prop} {l₁ : List α} {l₂ : List β} (h : Paired F l₁ l₂) : l₁.length = l₂.length := PySem.Paired.length h
end Lamp

/-! ## Texts of numbers and of rounds -/
namespace Lamp
open PySem PySem.Spec PyProof.Rows L2 TL
theorem Fin1.nat {i : Int} (h : Fin1 i) : i.natAbs < 10 ^ 200 := by
  obtain ⟨h1, h2⟩ := h
  have e : ((10 ^ 200 : Nat) : Int) = 10 ^ 200 := by decide +kernel
  omega
theorem log_lt {n k : Nat} (h : n < 2 ^ k) (hk : 0 < k) : n.log2 < k := PySem.Flt.log2_lt_of hk h
theorem Fin1.log {i : Int} (h : Fin1 i) : i.natAbs.log2 < 1920 := by
  refine Nat.lt_of_lt_of_le (log_lt (k := 700) (Nat.lt_of_lt_of_le h.nat ?_) (by decide)) (by decide)
  decide +kernel
/-! the words of a round -/
end Lamp

/-! ## Instances with slots: str, len, repr, truth, != by their own defs -/
namespace Lamp
open PySem PySem.Spec PyProof.Rows L2 SlX
section
variable {M : Model} {prog : Program} {w : World} {A : Around} {E : Value → Shared → Prop} {s : Shared} {K : PySem.W.Frag} {x C f : Addr} {ox : Obj} {od : Option Obj} {b tb : Value}
end
section
variable {X : Cx} {CX : CXT} {C g : Addr} {n : Nat} {sp : Sp} {E : XK}
end
end Lamp

/-! ## enumerate over a tuple -/
namespace Lamp
open PySem PySem.Spec PyProof.Rows L2
end Lamp

namespace Lamp
open PySem PySem.Spec PyProof.Rows L2
section
variable {X : Cx} {K : PySem.W.Frag}
/-! rules that name the library part itself: within comprehensions -/
end
open TL
theorem len_app (a b : Str) : (a ++ b).length = a.length + b.length := by
  rw [len_tl, len_tl, len_tl, TL.tl_append, List.length_append]
theorem sz_le {n : Nat} (h : n ≤ 1000000) : n ≤ sizeLine := Nat.le_trans h (by decide)
theorem Lv.fin {p : Int} (h : p = 2 ∨ p = 3 ∨ p = 5 ∨ p = 7) : Fin1 p := by
  constructor
  · have : -(10 ^ 200 : Int) < 0 := by decide +kernel
    omega
  · have : (7 : Int) < 10 ^ 200 := by decide +kernel
    omega
theorem small1M {n : Nat} (h : n ≤ 1000000) : n < sizeLine := Nat.lt_of_le_of_lt h (by decide)
theorem Same.put {H0 H : Hp} {D : Addr} {o : HO} (s : Same H0 H) (hD : H0 D = none) : Same H0 (upd H D o) := fun b u h => by
  rw [upd_ne (ne_of_none h hD)]
  exact s b u h
theorem back {H H' : Hp} {a : Addr} (s : Same H H') (h : H' a = none) : H a = none := by
  cases e : H a with
  | none => rfl
  | some o =>
    rw [s _ _ e] at h
    cases h
theorem Grow.call {H0 H H3 : Hp} {D r : Addr} {vs : List V} {ls : List (Int × Int)} (g : Grow H0 D H vs ls) (s : Same H H3) (hr : H r = none) {a b : Int} (h3 : H3 r = some (.tup [.int a, .int b])) :
    Grow H0 D (upd H3 D (.lst (vs ++ [.ref r]))) (vs ++ [.ref r]) (ls ++ [(a, b)]) := by
  have hDr : r ≠ D := (ne_of_none g.lst hr).symm
  refine ⟨g.new, upd_same, Paired.snoc (Paired.mapP g.all ?_) ⟨r, rfl, by rw [upd_ne hDr]; exact h3⟩, Same.put (g.same.trans s) g.new⟩
  rintro v ab ⟨q, e, h⟩
  refine ⟨q, e, ?_⟩
  rw [upd_ne (ne_of h g.lst fun c => by cases c)]
  exact s _ _ h
end Lamp

/-! ## What is read as data: pictures, parts, texts -/
namespace Lamp
open PySem PySem.Spec PyProof.Rows L2 TL
def dPair (ab : Int × Int) : PyData := .tuple [.int ab.1, .int ab.2]
theorem Dp.pairs {K : PySem.W.Frag} {H : Hp} : ∀ {vs : List V} {ls : List (Int × Int)}, Paired (At2 H) vs ls → DpAll K H vs (ls.map dPair)
  | _, _, .nil => .nil
  | _, _, .cons ⟨q, e, h⟩ t => by
    subst e
    exact .cons (.tup (SqT.of h) (.cons (.int _) (.cons (.int _) .nil))) (Dp.pairs t)
/-! shown texts -/
theorem Fin1.show {i : Int} (h : Fin1 i) : PyData.showable (.int i) = true := decide_eq_true h.log
/-- what repr asks of a data -/
structure Rp (d : PyData) : Prop where
  sh : d.showable = true
  nd : d.hasDict = false
  dp : d.depth ≤ 40
  ln : d.shown.length ≤ sizeLine
theorem Rp.of {d : PyData} (h1 : d.showable = true) (h2 : d.hasDict = false) (h3 : d.depth ≤ 40) (h4 : d.leavesShort 201 = true) (h5 : d.bulk ≤ 60000) : Rp d := by
  refine ⟨h1, h2, h3, ?_⟩
  have h := PyData.shown_le_bulk 201 (by decide) d h4
  have e : sizeLine = 16777216 := by decide
  omega
/-- texts of plain signs, not too long -/
def Plain (y : Str) (n : Nat) : Prop := y.length ≤ n ∧ ∀ c ∈ tl y, c < 128
theorem Plain.mono {y : Str} {m n : Nat} (h : Plain y m) (hl : m ≤ n) : Plain y n := ⟨Nat.le_trans h.1 hl, h.2⟩
theorem Plain.app {a b : Str} {m n : Nat} (x : Plain a m) (y : Plain b n) : Plain (a ++ b) (m + n) := by
  refine ⟨by rw [len_app]; have := x.1; have := y.1; omega, ?_⟩
  rw [tl_append]
  intro c hc
  rcases List.mem_append.mp hc with hc | hc
  · exact x.2 c hc
  · exact y.2 c hc
end Lamp

/-! ## The word of a number, taken apart -/
namespace Lamp
open PySem PySem.Spec PyProof.Rows L2 TL
end Lamp

/-! ## C.m(name = e): a classmethod with one keyword argument alone -/
namespace Lamp
open PySem PySem.Spec PyProof.Rows L2 ClX
section
variable {X : Cx} {CX : CXT} {k : Nat} {C p g : Addr} {mc : Value} {sp : Sp} {E : XK} {o : Expr} {m pn pc : Str} {pos apos : Pos} {ta tk : TE} {pl : Sem Bool} {fd : FuncData} {kw : Keyword} {tks : TA}
end
end Lamp

/-! ## Instances with slots: len, repr, bool by their own defs -/
namespace Lamp
open PySem PySem.Spec PyProof.Rows L2 SlX
section
variable {prog : Program} {w : World} {A : Around} {E : Value → Shared → Prop} {s : Shared} {K : PySem.W.Frag} {x C f : Addr} {ox : Obj} {od : Option Obj}
end
section
variable {X : Cx} {CX : CXT} {C g : Addr} {n : Nat} {sp : Sp} {E : XK}
end
end Lamp

namespace Lamp
open PySem PySem.Spec PyProof.Rows L2
section
variable {P : Program} {w : World} {K : PySem.W.Frag} {mg : Str → Option Value} {base : Heap}
end
end Lamp

/-! ## tuple(list): the new tuple is a plain object -/
namespace Lamp
open PySem PySem.Spec PyProof.Rows L2
end Lamp
namespace Lamp
open PySem PySem.Spec PyProof.Rows L2
/-! ## dict(tuple of pairs) -/
section
variable {X : Cx}
end
end Lamp

/-! ## sorted(d.items()), d a table of ints -/
namespace Lamp
open PySem PySem.Spec PyProof.Rows L2 L2.DX
section
variable {X : Cx}
end
end Lamp

/-! ## Tables put together: what a round behind another one lights -/
namespace Lamp
open PySem PySem.Spec PyProof.Rows L2
/-- the level at a place -/
def lv (t : List (Int × Int)) (k : Int) : Int := (tget t k).getD 0
theorem tget_cons (ab : Int × Int) (r : List (Int × Int)) (k : Int) : tget (ab :: r) k = if ab.1 = k then some ab.2 else tget r k := by
  unfold tget
  rw [List.find?_cons]
  by_cases h : ab.1 = k
  · rw [if_pos h, decide_eq_true h]
    rfl
  · rw [if_neg h, decide_eq_false h]
theorem tget_none {t : List (Int × Int)} {k : Int} (h : k ∉ keysOf t) : tget t k = none := by
  cases e : tget t k with
  | none => rfl
  | some v => exact absurd (List.mem_map.mpr ⟨_, tget_mem e, rfl⟩) h
theorem nodup_tdel {t : List (Int × Int)} (k : Int) (h : (keysOf t).Nodup) : (keysOf (tdel t k)).Nodup := by
  unfold keysOf tdel
  exact h.sublist (List.filter_sublist.map _)
theorem mem_tdel {t : List (Int × Int)} {k : Int} {ab : Int × Int} (h : ab ∈ tdel t k) : ab ∈ t := (List.mem_filter.mp h).1
/-- one lamp more -/
def addS (p m c : Int) (acc : List (Int × Int)) (ab : Int × Int) : List (Int × Int) :=
  if (lv acc (ab.1 + m) + c * ab.2) % p = 0 then tdel acc (ab.1 + m) else tput acc (ab.1 + m) ((lv acc (ab.1 + m) + c * ab.2) % p)
def addT (p : Int) (one other : List (Int × Int)) (m c : Int) : List (Int × Int) := other.foldl (addS p m c) one
/-- a table of p levels: each place once, each level between -/
structure Tab (p : Int) (t : List (Int × Int)) : Prop where
  nd : (keysOf t).Nodup
  lev : ∀ ab ∈ t, 0 < ab.2 ∧ ab.2 < p
theorem Good.tab {p : Int} {ls : List (Int × Int)} (h : Good p ls) : Tab p ls := ⟨h.asc.imp fun h => Int.ne_of_lt h, h.lev⟩
theorem Tab.lv {p : Int} {t : List (Int × Int)} (h : Tab p t) (hp : 0 < p) (k : Int) : 0 ≤ Lamp.lv t k ∧ Lamp.lv t k < p := by
  unfold Lamp.lv
  cases e : tget t k with
  | none => exact ⟨Int.le_refl 0, hp⟩
  | some v =>
    have := h.lev _ (tget_mem e)
    exact ⟨Int.le_of_lt this.1, this.2⟩
theorem Tab.addS {p m c : Int} {acc : List (Int × Int)} {ab : Int × Int} (hp : 0 < p) (h : Tab p acc) : Tab p (addS p m c acc ab) := by
  unfold Lamp.addS
  split
  · exact ⟨nodup_tdel _ h.nd, fun cd hc => h.lev cd (mem_tdel hc)⟩
  · rename_i hne
    refine ⟨nodup_tput _ _ h.nd, fun cd hc => ?_⟩
    rcases mem_tput hc with hc | rfl
    · exact h.lev cd hc
    · have h1 := Int.emod_nonneg (Lamp.lv acc (ab.1 + m) + c * ab.2) (Int.ne_of_gt hp)
      have h2 := Int.emod_lt_of_pos (Lamp.lv acc (ab.1 + m) + c * ab.2) hp
      exact ⟨by show 0 < _ % p; omega, h2⟩
theorem Tab.addT {p m c : Int} (hp : 0 < p) : ∀ {other acc : List (Int × Int)}, Tab p acc → Tab p (addT p acc other m c)
  | [], _, h => h
  | ab :: r, acc, h => Tab.addT (other := r) hp (h.addS hp)
theorem lv_cons (ab : Int × Int) (r : List (Int × Int)) (k : Int) : lv (ab :: r) k = if ab.1 = k then ab.2 else lv r k := by
  unfold lv
  rw [tget_cons]
  split <;> rfl
theorem lv_out {ls : List (Int × Int)} {k : Int} (h : k ∉ keysOf ls) : lv ls k = 0 := by
  unfold lv
  rw [tget_none h]
  rfl
/-- two right pictures that light the same are the same -/
theorem Good.ext {p : Int} : ∀ {ls ms : List (Int × Int)}, Good p ls → Good p ms → (∀ k, lv ls k = lv ms k) → ls = ms
  | [], [], _, _, _ => rfl
  | [], b :: m, _, h2, e => by
    have h := (h2.lev b (List.mem_cons_self ..)).1
    have e1 := e b.1
    rw [lv_cons, if_pos rfl, lv_out (by simp [keysOf])] at e1
    omega
  | a :: l, [], h1, _, e => by
    have h := (h1.lev a (List.mem_cons_self ..)).1
    have e1 := e a.1
    rw [lv_cons, if_pos rfl, lv_out (by simp [keysOf])] at e1
    omega
  | a :: l, b :: m, h1, h2, e => by
    have p1 := List.pairwise_cons.mp (show (a.1 :: keysOf l).Pairwise (· < ·) from h1.asc)
    have p2 := List.pairwise_cons.mp (show (b.1 :: keysOf m).Pairwise (· < ·) from h2.asc)
    have la := (h1.lev a (List.mem_cons_self ..)).1
    have lb := (h2.lev b (List.mem_cons_self ..)).1
    have na : ∀ k, k < a.1 → lv (a :: l) k = 0 := fun k hk => lv_out fun m => by
      rcases List.mem_cons.mp (show k ∈ a.1 :: keysOf l from m) with q | q
      · omega
      · have := p1.1 k q
        omega
    have nb : ∀ k, k < b.1 → lv (b :: m) k = 0 := fun k hk => lv_out fun m => by
      rcases List.mem_cons.mp (show k ∈ b.1 :: keysOf _ from m) with q | q
      · omega
      · have := p2.1 k q
        omega
    have ea := e a.1
    have eb := e b.1
    rw [lv_cons, if_pos rfl] at ea
    rw [lv_cons b m b.1, if_pos rfl] at eb
    have e1 : a.1 = b.1 := by
      rcases Int.lt_trichotomy a.1 b.1 with q | q | q
      · rw [nb _ q] at ea
        omega
      · exact q
      · rw [na _ q] at eb
        omega
    rw [lv_cons, if_pos e1.symm] at ea
    have eab : a = b := Prod.ext e1 ea
    subst eab
    congr 1
    refine Good.ext ⟨p1.2, fun ab h => h1.lev ab (List.mem_cons_of_mem _ h)⟩ ⟨p2.2, fun ab h => h2.lev ab (List.mem_cons_of_mem _ h)⟩ fun k => ?_
    by_cases hk : a.1 = k
    · subst hk
      rw [lv_out fun m => Int.lt_irrefl _ (p1.1 _ m), lv_out fun m => Int.lt_irrefl _ (p2.1 _ m)]
    · have := e k
      rw [lv_cons, lv_cons, if_neg hk, if_neg hk] at this
      exact this
end Lamp

/-! ## f(name = e, ..): keywords alone -/
namespace Lamp
open PySem PySem.Spec PyProof.Rows L2
section
variable {X : Cx} {CX : CXT} {k : Nat} {f : Addr} {fd : FuncData} {ps ks : List Str} {sp : Sp} {E : XK} {x : Str} {p pos : Pos} {kws : List Keyword} {tk : TA} {g : List Value → List Value → List Value} {gV : List V → List V → List V}
end
end Lamp

/-! ## // and products of numbers of some size -/
namespace Lamp
open PySem PySem.Spec PyProof.Rows L2
def CDivW (_ j : Int) : Prop := j ≠ 0 ∧ j.natAbs.log2 < 9000
theorem op_fdivW {X : Cx} : OpR X (binaryOp .FloorDiv) (rI CDivW fun i j => .int (i.fdiv j)) := opI fun _ _ _ _ _ _ _ hc q => floordiv_int hc.1 q (.inl (PyProof.noPylong_of_log2 hc.2))
theorem Fin1.bits {i : Int} (h : Fin1 i) : Builtin.Int.intBits i ≤ 4000000 := by
  have h1 := h.log
  unfold Builtin.Int.intBits
  split <;> omega
end Lamp

/-! ## The mirror: data without addresses, and how a heap bears them -/
namespace Mi
open PySem PySem.Spec PyProof.Rows L2 Lamp SlX

inductive D where
  | non | bl (b : Bool) | int (i : Int) | str (s : Str)
  | tup (ds : List D) | lst (ds : List D) | dic (kvs : List (D × D))
  | obj (c : Nat) (fs : List D) | cel (n : Nat)
  | scr (ns : List Int) | pr (ds : List D)
  | tab (n : Nat) | pin (a : Addr)
  | exo (c : Nat) (f : Str) (x : D) | ex0 (c : Nat) | kup (ns : List Int)

def D.scal : D → Bool
  | .non => true | .bl _ => true | .int _ => true | .str _ => true | _ => false
def flat (ds : List D) : Bool := !ds.isEmpty && ds.all D.scal
def keyD : Key → D
  | .inl i => .int i
  | .inr s => .str s

/-- the classes of the text: where they stand, whether they have slots, their fields -/
structure Wd where
  K : PySem.W.Frag
  cC : Nat → Addr
  slots : Nat → Bool
  fld : Nat → List Str
  tabs : Nat → Addr × Str
  eC : Nat → Addr

def TupAt (H : Hp) (a : Addr) (ds : List D) (xs : List V) : Prop :=
  if flat ds = true then H a = some (.tup xs) else ∃ its, H a = some (.frz (plainT its) (.tup xs))
def LstAt (K : PySem.W.Frag) (H : Hp) (a : Addr) (xs : List V) : Prop :=
  (∃ o, H a = some (.frz o (.lst xs))) ∨
    ∃ (o : Obj) (its : Array Value) (n : Nat), K.lookup a = some o ∧ o.cls = .type "list" ∧ o.dict = none ∧ o.data = .seq its n ∧ its.size ≤ sizeLine ∧ Vals xs its.toList
theorem LstAt.seq {K : PySem.W.Frag} {H : Hp} {a : Addr} {xs : List V} (h : LstAt K H a xs) : SqL K H a xs := by
  rcases h with ⟨o, h⟩ | h
  · exact .inl (.inr ⟨o, h⟩)
  · exact .inr h
theorem TupAt.seq {K : PySem.W.Frag} {H : Hp} {a : Addr} {ds : List D} {xs : List V} (h : TupAt H a ds xs) : SqT K H a xs := by
  unfold TupAt at h
  split at h
  · exact SqT.of h
  · obtain ⟨its, h⟩ := h
    exact .inl (.inr ⟨_, h⟩)

/-- the fields of an instance with its own dict -/
structure Flds (W : Wd) (c : Nat) (ys : List (Str × V)) (vs : List V) : Prop where
  at_ : ∀ (i : Nat) (f : Str), (W.fld c)[i]? = some f → ys.lookup f = vs[i]?
  no : ∀ f, f ∉ W.fld c → ys.lookup f = none
  len : (W.fld c).length = vs.length
  bnd : ys.length ≤ 100

mutual
inductive Rep (W : Wd) (ρ : List Addr) (H : Hp) : D → V → Prop
  | non : Rep W ρ H .non .non
  | bl (b : Bool) : Rep W ρ H (.bl b) (.bl b)
  | int (i : Int) : Rep W ρ H (.int i) (.int i)
  | str (s : Str) : Rep W ρ H (.str s) (.str s)
  | tup {a : Addr} {ds : List D} {xs : List V} (h : TupAt H a ds xs) (r : Reps W ρ H ds xs) : Rep W ρ H (.tup ds) (.ref a)
  | lst {a : Addr} {o : Obj} {ds : List D} {xs : List V} (h : H a = some (.frz o (.lst xs))) (r : Reps W ρ H ds xs) : Rep W ρ H (.lst ds) (.ref a)
  | scr {a : Addr} {ns : List Int} (h : LstAt W.K H a (ns.map V.int)) : Rep W ρ H (.scr ns) (.ref a)
  | pr {a : Addr} {ds : List D} {xs : List V} (h : H a = some (.tup xs)) (r : Reps W ρ H ds xs) : Rep W ρ H (.pr ds) (.ref a)
  | dic {a : Addr} {o : Obj} {kvs : List (D × D)} {kys : List (Key × V)} (h : H a = some (.frz o (.dK kys))) (r : RepK W ρ H kvs kys) : Rep W ρ H (.dic kvs) (.ref a)
  | dit {a : Addr} {o : Obj} {kvs : List (D × D)} {kys : List (List Key × V)} (h : H a = some (.frz o (.dT kys))) (n : kvs ≠ []) (r : RepT W ρ H kvs kys) : Rep W ρ H (.dic kvs) (.ref a)
  | sob {a dx : Addr} {o : Obj} {c : Nat} {fs : List D} {vs : List V} (s : W.slots c = true) (h : H a = some (.frz o (SlO a (W.cC c) dx (vs.map some)))) (h' : H dx = some (.xd [])) (r : Reps W ρ H fs vs) : Rep W ρ H (.obj c fs) (.ref a)
  | pob {a dx : Addr} {o : Obj} {c : Nat} {fs : List D} {vs : List V} {ys : List (Str × V)} (s : W.slots c = false) (h : H a = some (.frz o (.ins (W.cC c) dx ys))) (f : Flds W c ys vs) (r : Reps W ρ H fs vs) : Rep W ρ H (.obj c fs) (.ref a)
  | cel {n : Nat} {a : Addr} (h : ρ[n]? = some a) : Rep W ρ H (.cel n) (.ref a)
  | tab {n : Nat} {a : Addr} : Rep W ρ H (.tab n) (.ref a)
  | pin {a : Addr} : Rep W ρ H (.pin a) (.ref a)
  | exo {a dx : Addr} {o o' : Obj} {c : Nat} {f : Str} {x : D} {v : V} (h : H a = some (.frz o (L2.exo a (W.eC c) (some dx)))) (h' : H dx = some (.frz o' (L2.exd dx [(f, v)]))) (r : Rep W ρ H x v) : Rep W ρ H (.exo c f x) (.ref a)
  | ex0 {a : Addr} {o : Obj} {c : Nat} (h : H a = some (.frz o (L2.exo a (W.eC c) none))) : Rep W ρ H (.ex0 c) (.ref a)
  | kup {a : Addr} {ns : List Int} (h : ∃ (o : Obj) (its : Array Value) (n : Nat), W.K.lookup a = some o ∧ o.cls = .type "tuple" ∧ o.data = .seq its n ∧ its.size ≤ sizeLine ∧ Vals (ns.map V.int) its.toList) : Rep W ρ H (.kup ns) (.ref a)
inductive Reps (W : Wd) (ρ : List Addr) (H : Hp) : List D → List V → Prop
  | nil : Reps W ρ H [] []
  | cons {d : D} {ds : List D} {x : V} {xs : List V} (h : Rep W ρ H d x) (t : Reps W ρ H ds xs) : Reps W ρ H (d :: ds) (x :: xs)
inductive RepK (W : Wd) (ρ : List Addr) (H : Hp) : List (D × D) → List (Key × V) → Prop
  | nil : RepK W ρ H [] []
  | cons {kd d : D} {k : Key} {r : List (D × D)} {x : V} {ys : List (Key × V)} (e : kd = keyD k) (h : Rep W ρ H d x) (t : RepK W ρ H r ys) : RepK W ρ H ((kd, d) :: r) ((k, x) :: ys)
inductive RepT (W : Wd) (ρ : List Addr) (H : Hp) : List (D × D) → List (List Key × V) → Prop
  | nil : RepT W ρ H [] []
  | cons {kd d : D} {k : List Key} {r : List (D × D)} {x : V} {ys : List (List Key × V)} (e : kd = .tup (k.map keyD)) (n : k ≠ []) (h : Rep W ρ H d x) (t : RepT W ρ H r ys) : RepT W ρ H ((kd, d) :: r) ((k, x) :: ys)
end

/-- what is never written once it is known -/
def Per : HO → Prop
  | .tup _ => True | .frz _ _ => True | .xd _ => True | .rng _ _ => True | .met _ _ => True | .ext φ => ∃ c q, HO.ext φ = LamX.CodeO c q | _ => False
def Frz (H H' : Hp) : Prop := ∀ b o, H b = some o → Per o → H' b = some o
theorem Frz.refl (H : Hp) : Frz H H := fun _ _ h _ => h
theorem Frz.trans {H H1 H2 : Hp} (x : Frz H H1) (y : Frz H1 H2) : Frz H H2 := fun b o h p => y b o (x b o h p) p
theorem Frz.of {H H' : Hp} (s : Same H H') : Frz H H' := fun b o h _ => s b o h
theorem Frz.upd {H : Hp} {a : Addr} {o : HO} (m : ∀ u, H a = some u → ¬ Per u) : Frz H (upd H a o) := fun b u h p => by
  rw [upd_ne (fun e => by subst e; exact m u h p)]
  exact h
theorem Frz.put {H : Hp} {a : Addr} {o u : HO} (h : H a = some u) (m : ¬ Per u) : Frz H (L2.upd H a o) := Frz.upd fun w e => by
  rw [h] at e
  cases e
  exact m
/-- an instance with slots is no code object -/
theorem slO_np {a C dx : Addr} {vs : List (Option V)} : ¬ Per (SlO a C dx vs) := by
  rintro ⟨c, q, e⟩
  unfold LamX.CodeO at e
  injection e with e
  have h := congrFun e ⟨Array.replicate (a + c + 1) ⟨.none, none, .fields #[.none, .str q 0], #[]⟩, {}⟩
  have g : ∀ b, b < a + c + 1 → Heap.get? ⟨Array.replicate (a + c + 1) ⟨.none, none, .fields #[.none, .str q 0], #[]⟩, {}⟩ b = some ⟨.none, none, .fields #[.none, .str q 0], #[]⟩ := fun b hb => by
    unfold Heap.get?
    simp only [Array.getElem?_replicate, if_pos hb]
  have t : ∃ (oc : Obj) (vs : Array Value) (t : Tok), Heap.get? ⟨Array.replicate (a + c + 1) ⟨.none, none, .fields #[.none, .str q 0], #[]⟩, {}⟩ c = some oc ∧ oc.data = .fields vs ∧ vs[1]? = some (.str q t) := ⟨_, _, _, g c (Nat.lt_succ_of_le (Nat.le_add_left c a)), rfl, rfl⟩
  rw [← h] at t
  obtain ⟨sl, h1, _⟩ := t
  rw [g a (Nat.lt_succ_of_le (Nat.le_add_right a c))] at h1
  injection h1 with h1
  have := congrArg Obj.data h1
  simp [PySem.W.instObj] at this
theorem Frz.new {H : Hp} {a : Addr} {o : HO} (h : H a = none) : Frz H (L2.upd H a o) := Frz.upd fun w e => by
  rw [h] at e
  cases e

theorem pre_get {α : Type} {l l' : List α} (h : l <+: l') {n : Nat} {x : α} (e : l[n]? = some x) : l'[n]? = some x := by
  obtain ⟨t, rfl⟩ := h
  have hn : n < l.length := by
    rcases Nat.lt_or_ge n l.length with c | c
    · exact c
    · rw [List.getElem?_eq_none c] at e
      cases e
  rw [List.getElem?_append_left hn]
  exact e
section
variable {W : Wd} {ρ ρ' : List Addr} {H H' : Hp}
theorem TupAt.mono (f : Frz H H') {a : Addr} {ds : List D} {xs : List V} (h : TupAt H a ds xs) : TupAt H' a ds xs := by
  unfold TupAt at h ⊢
  split
  · rename_i c
    rw [if_pos c] at h
    exact f _ _ h trivial
  · rename_i c
    rw [if_neg c] at h
    obtain ⟨its, h⟩ := h
    exact ⟨its, f _ _ h trivial⟩
theorem LstAt.mono (f : Frz H H') {K : PySem.W.Frag} {a : Addr} {xs : List V} (h : LstAt K H a xs) : LstAt K H' a xs := by
  rcases h with ⟨o, h⟩ | h
  · exact .inl ⟨o, f _ _ h trivial⟩
  · exact .inr h
mutual
theorem Rep.mono (f : Frz H H') (q : ρ <+: ρ') : ∀ {d : D} {v : V}, Rep W ρ H d v → Rep W ρ' H' d v
  | _, _, .non => .non
  | _, _, .bl b => .bl b
  | _, _, .int i => .int i
  | _, _, .str s => .str s
  | _, _, .tup h r => .tup (h.mono f) (Reps.mono f q r)
  | _, _, .lst h r => .lst (f _ _ h trivial) (Reps.mono f q r)
  | _, _, .scr h => .scr (h.mono f)
  | _, _, .pr h r => .pr (f _ _ h trivial) (Reps.mono f q r)
  | _, _, .dic h r => .dic (f _ _ h trivial) (RepK.mono f q r)
  | _, _, .dit h n r => .dit (f _ _ h trivial) n (RepT.mono f q r)
  | _, _, .sob s h h' r => .sob s (f _ _ h trivial) (f _ _ h' trivial) (Reps.mono f q r)
  | _, _, .pob s h l r => .pob s (f _ _ h trivial) l (Reps.mono f q r)
  | _, _, .cel h => .cel (pre_get q h)
  | _, _, .tab => .tab
  | _, _, .pin => .pin
  | _, _, .exo h h' r => .exo (f _ _ h trivial) (f _ _ h' trivial) (r.mono f q)
  | _, _, .ex0 h => .ex0 (f _ _ h trivial)
  | _, _, .kup h => .kup h
theorem Reps.mono (f : Frz H H') (q : ρ <+: ρ') : ∀ {ds : List D} {xs : List V}, Reps W ρ H ds xs → Reps W ρ' H' ds xs
  | _, _, .nil => .nil
  | _, _, .cons h t => .cons (Rep.mono f q h) (Reps.mono f q t)
theorem RepK.mono (f : Frz H H') (q : ρ <+: ρ') : ∀ {kvs : List (D × D)} {kys : List (Key × V)}, RepK W ρ H kvs kys → RepK W ρ' H' kvs kys
  | _, _, .nil => .nil
  | _, _, .cons e h t => .cons e (Rep.mono f q h) (RepK.mono f q t)
theorem RepT.mono (f : Frz H H') (q : ρ <+: ρ') : ∀ {kvs : List (D × D)} {kys : List (List Key × V)}, RepT W ρ H kvs kys → RepT W ρ' H' kvs kys
  | _, _, .nil => .nil
  | _, _, .cons e n h t => .cons e n (Rep.mono f q h) (RepT.mono f q t)
end
end

/-- a thing that may still be written, and is known to one alone -/
inductive Own (W : Wd) (ρ : List Addr) (H : Hp) : D → Addr → Prop
  | lst {a : Addr} {ds : List D} {xs : List V} (h : H a = some (.lst xs)) (r : Reps W ρ H ds xs) : Own W ρ H (.lst ds) a
  | dic {a : Addr} {kvs : List (D × D)} {kys : List (Key × V)} (h : H a = some (.dK kys)) (r : RepK W ρ H kvs kys) : Own W ρ H (.dic kvs) a
  | dit {a : Addr} {kvs : List (D × D)} {kys : List (List Key × V)} (h : H a = some (.dT kys)) (n : kvs ≠ []) (r : RepT W ρ H kvs kys) : Own W ρ H (.dic kvs) a
  | sob {a dx : Addr} {c : Nat} {fs : List D} {vs : List V} (s : W.slots c = true) (h : H a = some (SlO a (W.cC c) dx (vs.map some))) (h' : H dx = some (.xd [])) (r : Reps W ρ H fs vs) : Own W ρ H (.obj c fs) a
  | pob {a dx : Addr} {c : Nat} {fs : List D} {vs : List V} {ys : List (Str × V)} (s : W.slots c = false) (h : H a = some (.ins (W.cC c) dx ys)) (f : Flds W c ys vs) (r : Reps W ρ H fs vs) : Own W ρ H (.obj c fs) a
theorem Own.at_ {W : Wd} {ρ : List Addr} {H : Hp} {d : D} {a : Addr} : Own W ρ H d a → ∃ u, H a = some u ∧ ¬ Per u
  | .lst h _ => ⟨_, h, fun p => p⟩
  | .dic h _ => ⟨_, h, fun p => p⟩
  | .dit h _ _ => ⟨_, h, fun p => p⟩
  | .sob _ h _ _ => ⟨_, h, slO_np⟩
  | .pob _ h _ _ => ⟨_, h, fun p => p⟩
/-- what it is, is kept where its own place is -/
theorem Own.mono {W : Wd} {ρ ρ' : List Addr} {H H' : Hp} (f : Frz H H') (q : ρ <+: ρ') {d : D} {a : Addr} (k : ∀ u, H a = some u → H' a = some u) : Own W ρ H d a → Own W ρ' H' d a
  | .lst h r => .lst (k _ h) (r.mono f q)
  | .dic h r => .dic (k _ h) (r.mono f q)
  | .dit h n r => .dit (k _ h) n (r.mono f q)
  | .sob s h h' r => .sob s (k _ h) (f _ _ h' trivial) (r.mono f q)
  | .pob s h l r => .pob s (k _ h) l (r.mono f q)
/-- .. once locked, it is known to all -/
theorem Own.lock {W : Wd} {ρ : List Addr} {H : Hp} {d : D} {a : Addr} (x : Own W ρ H d a) : ∃ u, H a = some u ∧ (Mut (some u) ∧ ¬ Per u) ∧ ∀ o, Rep W ρ (upd H a (.frz o u)) d (.ref a) := by
  have key : ∀ {u : HO}, H a = some u → ¬ Per u → ∀ o, Frz H (upd H a (.frz o u)) := fun h m o => Frz.put h m
  cases x with
  | lst h r => exact ⟨_, h, ⟨trivial, fun p => p⟩, fun o => .lst upd_same (r.mono (key h (fun p => p) o) (List.prefix_refl _))⟩
  | dic h r => exact ⟨_, h, ⟨trivial, fun p => p⟩, fun o => .dic upd_same (r.mono (key h (fun p => p) o) (List.prefix_refl _))⟩
  | dit h n r => exact ⟨_, h, ⟨trivial, fun p => p⟩, fun o => .dit upd_same n (r.mono (key h (fun p => p) o) (List.prefix_refl _))⟩
  | sob s h h' r => exact ⟨_, h, ⟨trivial, slO_np⟩, fun o => .sob s upd_same (key h slO_np o _ _ h' trivial) (r.mono (key h slO_np o) (List.prefix_refl _))⟩
  | pob s h l r => exact ⟨_, h, ⟨trivial, fun p => p⟩, fun o => .pob s upd_same l (r.mono (key h (fun p => p) o) (List.prefix_refl _))⟩

/-- a dict locked while a loop walks it -/
inductive Lkd (W : Wd) (ρ : List Addr) (H : Hp) : D → Addr → Prop
  | dic {a : Addr} {o : Obj} {kvs : List (D × D)} {kys : List (Key × V)} (h : H a = some (.frz o (.dK kys))) (r : RepK W ρ H kvs kys) : Lkd W ρ H (.dic kvs) a
  | dit {a : Addr} {o : Obj} {kvs : List (D × D)} {kys : List (List Key × V)} (h : H a = some (.frz o (.dT kys))) (n : kvs ≠ []) (r : RepT W ρ H kvs kys) : Lkd W ρ H (.dic kvs) a
theorem Lkd.rep {W : Wd} {ρ : List Addr} {H : Hp} {d : D} {a : Addr} : Lkd W ρ H d a → Rep W ρ H d (.ref a)
  | .dic h r => .dic h r
  | .dit h n r => .dit h n r
theorem Lkd.mono {W : Wd} {ρ ρ' : List Addr} {H H' : Hp} (f : Frz H H') (q : ρ <+: ρ') {d : D} {a : Addr} : Lkd W ρ H d a → Lkd W ρ' H' d a
  | .dic h r => .dic (f _ _ h trivial) (r.mono f q)
  | .dit h n r => .dit (f _ _ h trivial) n (r.mono f q)
theorem Lkd.at_ {W : Wd} {ρ : List Addr} {H : Hp} {d : D} {a : Addr} : Lkd W ρ H d a → ∃ u, H a = some u
  | .dic h _ => ⟨_, h⟩
  | .dit h _ _ => ⟨_, h⟩

/-! ### the state of a body: its names' contents, the changeable things -/
inductive Slot where
  | no | sh (d : D) | ow (d : D) | lk (d : D) | lz (d : D) | self (me : Addr) (c : Nat) (fs : List (Option D))
def Slot.owned : Slot → Bool
  | .no => false | .sh _ => false | _ => true
def Slot.rd : Slot → Option D
  | .sh d => some d | .ow d => some d | .lk d => some d | .lz d => some d | _ => none
structure PS where
  env : List Slot
  st : List D
/-- a value: known to all; fresh; or what the name at a slot holds -/
inductive RV where
  | sh (d : D) | fr (d : D) | pl (i : Nat)
structure Ex where
  c : Nat
  fs : List (Str × D)
inductive ER where
  | val (r : RV) (p : PS) | exc (x : Ex) (st : List D)
abbrev EM := PS → Option ER

structure Gh where
  ρ : List Addr
  hid : List (Addr × HO)
/-- a body: the classes, the heap and the changeable things at its entry, what is wanted of an exception -/
structure Bd where
  W : Wd
  H0 : Hp
  ρ0 : List Addr
  E : XK

/-- a new instance within its own __init__: the fields stored so far -/
def lack (fs : List (Option D)) : Nat := (fs.filter Option.isNone).length
def SelfAt (W : Wd) (ρ : List Addr) (H : Hp) (c : Nat) (fs : List (Option D)) (a : Addr) : Prop := fs.length = (W.fld c).length ∧
  ((W.slots c = true ∧ ∃ dx vs, dx ≠ a ∧ H a = some (SlO a (W.cC c) dx vs) ∧ H dx = some (.xd []) ∧ vs.length ≤ fs.length ∧ ∀ (i : Nat) (d : D), fs[i]? = some (some d) → ∃ v, vs[i]? = some (some v) ∧ Rep W ρ H d v) ∨
  (W.slots c = false ∧ ∃ dx ys, H a = some (.ins (W.cC c) dx ys) ∧ (∀ f, f ∉ W.fld c → ys.lookup f = none) ∧ ys.length + lack fs ≤ 100 ∧ ∀ (i : Nat) (d : D), fs[i]? = some (some d) → ∃ f v, (W.fld c)[i]? = some f ∧ ys.lookup f = some v ∧ Rep W ρ H d v))

def SlotOk (W : Wd) (ρ : List Addr) (H : Hp) (σ : L2.St) (i : Nat) : Slot → Prop
  | .no => True
  | .sh d => ∃ v, σ[i]? = some (some v) ∧ Rep W ρ H d v
  | .ow d => ∃ a, σ[i]? = some (some (.ref a)) ∧ Own W ρ H d a
  | .lk d => ∃ a, σ[i]? = some (some (.ref a)) ∧ Own W ρ H d a
  | .lz d => ∃ a, σ[i]? = some (some (.ref a)) ∧ Lkd W ρ H d a
  | .self me c fs => ∃ a, σ[i]? = some (some (.ref a)) ∧ SelfAt W ρ H c fs a ∧ a = me
def OwnAt (p : PS) (σ : L2.St) (a : Addr) (i : Nat) : Prop := ∃ s, p.env[i]? = some s ∧ s.owned = true ∧ σ[i]? = some (some (.ref a))

/-- a code object's table, and its code objects -/
def TabAt (W : Wd) (H : Hp) (n : Nat) (a : Addr) : Prop := a = (W.tabs n).1 ∧ LamX.TabS H a (W.tabs n).2
theorem TabAt.mono {W : Wd} {H H' : Hp} (f : Frz H H') {n : Nat} {a : Addr} (k : ∀ u, H a = some u → H' a = some u) (h : TabAt W H n a) : TabAt W H' n a := by
  obtain ⟨e, ps, h1, h2, h3⟩ := h
  exact ⟨e, ps, k _ h1, h2, fun pos cv hc => let ⟨c, e1, e2⟩ := h3 pos cv hc; ⟨c, e1, f _ _ e2 ⟨_, _, rfl⟩⟩⟩
/-- what stands at a changeable thing -/
inductive Cel (W : Wd) (ρ : List Addr) (H : Hp) : D → Addr → Prop
  | own {d : D} {a : Addr} (h : Own W ρ H d a) : Cel W ρ H d a
  | tab {n : Nat} {a : Addr} (h : TabAt W H n a) : Cel W ρ H (.tab n) a
theorem Cel.mono {W : Wd} {ρ ρ' : List Addr} {H H' : Hp} (f : Frz H H') (q : ρ <+: ρ') {d : D} {a : Addr} (k : ∀ u, H a = some u → H' a = some u) : Cel W ρ H d a → Cel W ρ' H' d a
  | .own h => .own (h.mono f q k)
  | .tab h => .tab (h.mono f k)
theorem Cel.at_ {W : Wd} {ρ : List Addr} {H : Hp} {d : D} {a : Addr} : Cel W ρ H d a → ∃ u, H a = some u ∧ ¬ Per u
  | .own h => h.at_
  | .tab ⟨_, _, h, _⟩ => ⟨_, h, fun p => p⟩
theorem Cel.repB {W : Wd} {ρ : List Addr} {H : Hp} {d : D} {a : Addr} : Cel W ρ H d a → Rep W ρ H d (.ref a) ∨ ∃ b, V.ref a = .ref b ∧ Own W ρ H d b
  | .own h => .inr ⟨_, rfl, h⟩
  | .tab _ => .inl .tab
structure Rel (B : Bd) (g : Gh) (σ : L2.St) (H : Hp) (p : PS) : Prop where
  slot : ∀ (i : Nat) (s : Slot), p.env[i]? = some s → SlotOk B.W g.ρ H σ i s
  dis : ∀ i j a, OwnAt p σ a i → OwnAt p σ a j → i = j
  new : ∀ i a, OwnAt p σ a i → a ∉ g.ρ ∧ (∀ u, (a, u) ∉ g.hid) ∧ B.H0 a = none
  cel : ∀ (n : Nat) (d : D), p.st[n]? = some d → ∃ a, g.ρ[n]? = some a ∧ Cel B.W g.ρ H d a
  cln : p.st.length = g.ρ.length
  cnd : g.ρ.Nodup
  pre : B.ρ0 <+: g.ρ
  cnw : ∀ (n : Nat) (a : Addr), g.ρ[n]? = some a → B.ρ0.length ≤ n → B.H0 a = none
  hid : ∀ x ∈ g.hid, H x.1 = some x.2 ∧ ¬ Per x.2 ∧ x.1 ∉ g.ρ ∧ B.H0 x.1 = none
  hnd : (g.hid.map (·.1)).Nodup
  keep : ∀ b o, B.H0 b = some o → b ∉ B.ρ0 → H b = some o
  len : p.env.length ≤ σ.length

def RepR (B : Bd) (g : Gh) (σ : L2.St) (H : Hp) (p : PS) : RV → V → Prop
  | .sh d, v => Rep B.W g.ρ H d v
  | .fr d, v => ∃ a, v = .ref a ∧ Own B.W g.ρ H d a ∧ (∀ i, ¬ OwnAt p σ a i) ∧ a ∉ g.ρ ∧ (∀ u, (a, u) ∉ g.hid) ∧ B.H0 a = none
  | .pl i, v => σ[i]? = some (some v)

/-- what is raised, as it lies behind a body -/
def ExcAt (B : Bd) (x : Ex) (st : List D) : Prop := (∀ (H' : Hp) (ρ' : List Addr) (d : Addr) (fs : List (Str × V)), B.ρ0 <+: ρ' → ρ'.Nodup → st.length = ρ'.length → (∀ (n : Nat) (d : D), st[n]? = some d → ∃ a, ρ'[n]? = some a ∧ Cel B.W ρ' H' d a) →
  (∀ (n : Nat) (a : Addr), ρ'[n]? = some a → B.ρ0.length ≤ n → B.H0 a = none) → (∀ b o, B.H0 b = some o → b ∉ B.ρ0 → H' b = some o) →
  H' d = some (.xd fs) → B.H0 d = none → fs.map (·.1) = x.fs.map (·.1) → Reps B.W ρ' H' (x.fs.map (·.2)) (fs.map (·.2)) → B.E (.ref (B.W.eC x.c)) (some d) H') ∧
  (x.fs = [] → ∀ (H' : Hp) (ρ' : List Addr), B.ρ0 <+: ρ' → ρ'.Nodup → st.length = ρ'.length → (∀ (n : Nat) (d : D), st[n]? = some d → ∃ a, ρ'[n]? = some a ∧ Cel B.W ρ' H' d a) →
  (∀ (n : Nat) (a : Addr), ρ'[n]? = some a → B.ρ0.length ≤ n → B.H0 a = none) → (∀ b o, B.H0 b = some o → b ∉ B.ρ0 → H' b = some o) → B.E (.ref (B.W.eC x.c)) none H')

def Post (B : Bd) (g : Gh) (σ : L2.St) (H : Hp) (Q : VK) : Option ER → Prop
  | none => False
  | some (.val r p) => ∀ v H' ρ', Rel B ⟨ρ', g.hid⟩ σ H' p → g.ρ <+: ρ' → Frz H H' → RepR B ⟨ρ', g.hid⟩ σ H' p r v → Q v H'
  | some (.exc x st) => ExcAt B x st
/-- the reading of an expression that the mirror m tells -/
def rdE (B : Bd) (m : EM) : TE := fun σ H Q => ∃ g p, Rel B g σ H p ∧ Post B g σ H Q (m p)

theorem _root_.L2.PE.imp {X : Cx} {e : Expr} {t t' : TE} (h : PE X e t) (i : ∀ σ H Q, t' σ H Q → t σ H Q) : PE X e t' := ⟨fun pins s σ H Q I q => h.run pins s σ H Q I (i σ H Q q)⟩
end Mi

/-! ## The mirror: what stays of a state -/
namespace Mi
open PySem PySem.Spec PyProof.Rows L2 Lamp SlX

theorem SelfAt.mono {W : Wd} {ρ ρ' : List Addr} {H H' : Hp} (f : Frz H H') (q : ρ <+: ρ') {c : Nat} {fs : List (Option D)} {a : Addr} (k : ∀ u, H a = some u → H' a = some u) (h : SelfAt W ρ H c fs a) : SelfAt W ρ' H' c fs a := by
  obtain ⟨l0, h⟩ := h
  refine ⟨l0, ?_⟩
  rcases h with ⟨s, dx, vs, ne, h, hx, l, r⟩ | ⟨s, dx, ys, h, no, l, r⟩
  · refine .inl ⟨s, dx, vs, ne, k _ h, f _ _ hx trivial, l, fun i d e => ?_⟩
    obtain ⟨v, e1, e2⟩ := r i d e
    exact ⟨v, e1, e2.mono f q⟩
  · refine .inr ⟨s, dx, ys, k _ h, no, l, fun i d e => ?_⟩
    obtain ⟨x, v, e0, e1, e2⟩ := r i d e
    exact ⟨x, v, e0, e1, e2.mono f q⟩
theorem SelfAt.at_ {W : Wd} {ρ : List Addr} {H : Hp} {c : Nat} {fs : List (Option D)} {a : Addr} (h : SelfAt W ρ H c fs a) : ∃ u, H a = some u ∧ ¬ Per u := by
  rcases h.2 with ⟨_, _, _, _, h, _⟩ | ⟨_, _, _, h, _⟩
  · exact ⟨_, h, slO_np⟩
  · exact ⟨_, h, fun p => p⟩
theorem SlotOk.mono {W : Wd} {ρ ρ' : List Addr} {H H' : Hp} {σ : L2.St} {i : Nat} {s : Slot} (f : Frz H H') (q : ρ <+: ρ') (k : ∀ a, s.owned = true → σ[i]? = some (some (.ref a)) → ∀ u, H a = some u → H' a = some u) (h : SlotOk W ρ H σ i s) : SlotOk W ρ' H' σ i s := by
  cases s with
  | no => trivial
  | sh d => obtain ⟨v, e, r⟩ := h; exact ⟨v, e, r.mono f q⟩
  | ow d => obtain ⟨a, e, r⟩ := h; exact ⟨a, e, r.mono f q (k a rfl e)⟩
  | lk d => obtain ⟨a, e, r⟩ := h; exact ⟨a, e, r.mono f q (k a rfl e)⟩
  | lz d => obtain ⟨v, e, r⟩ := h; exact ⟨v, e, r.mono f q⟩
  | self me c fs => obtain ⟨a, e, r, z⟩ := h; exact ⟨a, e, r.mono f q (k a rfl e), z⟩
theorem SlotOk.there {W : Wd} {ρ : List Addr} {H : Hp} {σ : L2.St} {i : Nat} {s : Slot} {a : Addr} (o : s.owned = true) (l : σ[i]? = some (some (.ref a))) (h : SlotOk W ρ H σ i s) : ∃ u, H a = some u := by
  cases s with
  | no => cases o
  | sh d => cases o
  | ow d => obtain ⟨b, e, r⟩ := h; rw [l] at e; cases e; obtain ⟨u, h, _⟩ := r.at_; exact ⟨u, h⟩
  | lk d => obtain ⟨b, e, r⟩ := h; rw [l] at e; cases e; obtain ⟨u, h, _⟩ := r.at_; exact ⟨u, h⟩
  | lz d => obtain ⟨b, e, r⟩ := h; rw [l] at e; cases e; exact r.at_
  | self me c fs => obtain ⟨b, e, r, _⟩ := h; rw [l] at e; cases e; obtain ⟨u, h, _⟩ := r.at_; exact ⟨u, h⟩

section
variable {B : Bd} {g : Gh} {σ : L2.St} {H H' : Hp} {p : PS}
theorem Rel.there (R : Rel B g σ H p) {a : Addr} {i : Nat} (h : OwnAt p σ a i) : ∃ u, H a = some u := by
  obtain ⟨s, e, o, l⟩ := h
  exact (R.slot i s e).there o l
theorem Rel.thereC (R : Rel B g σ H p) {a : Addr} (h : a ∈ g.ρ) : ∃ u, H a = some u ∧ ¬ Per u := by
  obtain ⟨n, hn, e⟩ := List.mem_iff_getElem.mp h
  have hn' : n < p.st.length := by rw [R.cln]; exact hn
  obtain ⟨b, e1, e2⟩ := R.cel n _ (List.getElem?_eq_getElem hn')
  rw [List.getElem?_eq_getElem hn, e] at e1
  cases e1
  exact e2.at_
/-- an address that is free is no one's -/
structure Free (B : Bd) (g : Gh) (σ : L2.St) (p : PS) (a : Addr) : Prop where
  own : ∀ i, ¬ OwnAt p σ a i
  cel : a ∉ g.ρ
  hid : ∀ u, (a, u) ∉ g.hid
  new : B.H0 a = none
theorem Rel.free (R : Rel B g σ H p) {a : Addr} (h : H a = none) : Free B g σ p a := by
  refine ⟨fun i o => ?_, fun c => ?_, fun u c => ?_, ?_⟩
  · obtain ⟨u, e⟩ := R.there o
    rw [h] at e; cases e
  · obtain ⟨u, e, _⟩ := R.thereC c
    rw [h] at e; cases e
  · have e := (R.hid _ c).1
    rw [h] at e; cases e
  · cases e : B.H0 a with
    | none => rfl
    | some o =>
      by_cases c : a ∈ B.ρ0
      · obtain ⟨u, q, _⟩ := R.thereC (a := a) (R.pre.subset c)
        rw [h] at q; cases q
      · have q := R.keep a o e c
        rw [h] at q; cases q
/-- all that was tracked is as it was -/
theorem Rel.same (R : Rel B g σ H p) (s : Same H H') : Rel B g σ H' p :=
  ⟨fun i t e => (R.slot i t e).mono (.of s) (List.prefix_refl _) fun a _ _ u h => s _ _ h, R.dis, R.new,
   fun n d e => let ⟨a, e1, e2⟩ := R.cel n d e; ⟨a, e1, e2.mono (.of s) (List.prefix_refl _) fun u h => s _ _ h⟩, R.cln, R.cnd, R.pre, R.cnw,
   fun x h => ⟨s _ _ (R.hid x h).1, (R.hid x h).2⟩, R.hnd, fun b o e n => s _ _ (R.keep b o e n), R.len⟩
/-- what stands at a place that is no one's is put otherwise -/
theorem Rel.upd (R : Rel B g σ H p) {a : Addr} (o : HO) (f : Free B g σ p a) (m : ∀ u, H a = some u → ¬ Per u) : Rel B g σ (upd H a o) p := by
  have F : Frz H (L2.upd H a o) := Frz.upd m
  refine ⟨fun i t e => (R.slot i t e).mono F (List.prefix_refl _) fun b ow l u h => ?_, R.dis, R.new, fun n d e => ?_, R.cln, R.cnd, R.pre, R.cnw, fun x h => ⟨?_, (R.hid x h).2⟩, R.hnd, fun b u e n => ?_, R.len⟩
  · rw [upd_ne fun z => f.own i ⟨t, e, ow, by rw [← z]; exact l⟩]
    exact h
  · obtain ⟨b, e1, e2⟩ := R.cel n d e
    refine ⟨b, e1, e2.mono F (List.prefix_refl _) fun u h => ?_⟩
    rw [upd_ne fun z => f.cel (by rw [← z]; exact List.mem_of_getElem? e1)]
    exact h
  · rw [upd_ne fun z => f.hid x.2 (by rw [← z]; exact h)]
    exact (R.hid x h).1
  · rw [upd_ne fun z => by rw [z, f.new] at e; cases e]
    exact R.keep b u e n
theorem ownAt_set {a : Addr} {i j : Nat} {s : Slot} (h : OwnAt { p with env := p.env.set i s } σ a j) (ns : s.owned = false) : OwnAt p σ a j := by
  obtain ⟨t, e, o, l⟩ := h
  by_cases c : i = j
  · subst c
    by_cases hl : i < p.env.length
    · rw [List.getElem?_set_self hl] at e
      cases e
      rw [ns] at o; cases o
    · rw [List.set_eq_of_length_le (by omega)] at e
      exact ⟨t, e, o, l⟩
  · rw [List.getElem?_set_ne c] at e
    exact ⟨t, e, o, l⟩
theorem set_get {α : Type} {l : List α} {i j : Nat} {s t : α} (e : (l.set i s)[j]? = some t) : (i = j ∧ t = s ∧ j < l.length) ∨ (i ≠ j ∧ l[j]? = some t) := by
  by_cases c : i = j
  · subst c
    by_cases hl : i < l.length
    · rw [List.getElem?_set_self hl] at e
      cases e
      exact .inl ⟨rfl, rfl, hl⟩
    · rw [List.set_eq_of_length_le (by omega), List.getElem?_eq_none (by omega)] at e
      cases e
  · rw [List.getElem?_set_ne c] at e
    exact .inr ⟨c, e⟩
/-- the slot's thing is put otherwise, the slot stays owned -/
theorem Rel.put (R : Rel B g σ H p) {i : Nat} {s s' : Slot} {a : Addr} {o : HO} (e : p.env[i]? = some s) (ow : s.owned = true) (l : σ[i]? = some (some (.ref a))) (m : ∀ u, H a = some u → ¬ Per u) (k : SlotOk B.W g.ρ (L2.upd H a o) σ i s') :
    Rel B g σ (L2.upd H a o) { p with env := p.env.set i s' } := by
  have F : Frz H (L2.upd H a o) := Frz.upd m
  have oi : OwnAt p σ a i := ⟨s, e, ow, l⟩
  have back : ∀ {b : Addr} {j : Nat}, OwnAt { p with env := p.env.set i s' } σ b j → OwnAt p σ b j := by
    rintro b j ⟨t, e1, o1, l1⟩
    rcases set_get e1 with ⟨rfl, rfl, hl⟩ | ⟨c, e1⟩
    · exact ⟨s, e, ow, l1⟩
    · exact ⟨t, e1, o1, l1⟩
  have nw := R.new i a oi
  refine ⟨fun j t e1 => ?_, fun j l' b x y => R.dis j l' b (back x) (back y), fun j b x => R.new j b (back x), fun n d e1 => ?_, R.cln, R.cnd, R.pre, R.cnw, fun x h => ⟨?_, (R.hid x h).2⟩, R.hnd, fun b u e1 n => ?_, by simpa using R.len⟩
  · rcases set_get e1 with ⟨rfl, rfl, hl⟩ | ⟨c, e1⟩
    · exact k
    · refine (R.slot j t e1).mono F (List.prefix_refl _) fun b ow' l' u h => ?_
      rw [upd_ne fun z => c (R.dis i j a oi ⟨t, e1, ow', by rw [← z]; exact l'⟩)]
      exact h
  · obtain ⟨b, e1, e2⟩ := R.cel n d e1
    refine ⟨b, e1, e2.mono F (List.prefix_refl _) fun u h => ?_⟩
    rw [upd_ne fun z => nw.1 (by rw [← z]; exact List.mem_of_getElem? e1)]
    exact h
  · rw [upd_ne fun z => nw.2.1 x.2 (by rw [← z]; exact h)]
    exact (R.hid x h).1
  · rw [upd_ne fun z => by rw [z, nw.2.2] at e1; cases e1]
    exact R.keep b u e1 n
/-- a name is stored: a value that is known to all -/
theorem Rel.store (R : Rel B g σ H p) {i : Nat} {v : V} {s : Slot} (ns : s.owned = false) (k : i < σ.length → SlotOk B.W g.ρ H (σ.set i (some v)) i s) : Rel B g (σ.set i (some v)) H { p with env := p.env.set i s } := by
  have back : ∀ {b : Addr} {j : Nat}, OwnAt { p with env := p.env.set i s } (σ.set i (some v)) b j → OwnAt p σ b j := by
    rintro b j ⟨t, e1, o1, l1⟩
    rcases set_get e1 with ⟨rfl, rfl, _⟩ | ⟨c, e1⟩
    · rw [ns] at o1; cases o1
    · rw [List.getElem?_set_ne c] at l1
      exact ⟨t, e1, o1, l1⟩
  refine ⟨fun j t e1 => ?_, fun j l' b x y => R.dis j l' b (back x) (back y), fun j b x => R.new j b (back x), R.cel, R.cln, R.cnd, R.pre, R.cnw, R.hid, R.hnd, R.keep, by simpa using R.len⟩
  rcases set_get e1 with ⟨rfl, rfl, hl⟩ | ⟨c, e1⟩
  · exact k (Nat.lt_of_lt_of_le hl R.len)
  · have q := R.slot j t e1
    have es : (σ.set i (some v))[j]? = σ[j]? := List.getElem?_set_ne c
    cases t with
    | no => trivial
    | sh d => obtain ⟨v, e, r⟩ := q; exact ⟨v, es.trans e, r⟩
    | ow d => obtain ⟨v, e, r⟩ := q; exact ⟨v, es.trans e, r⟩
    | lk d => obtain ⟨v, e, r⟩ := q; exact ⟨v, es.trans e, r⟩
    | lz d => obtain ⟨v, e, r⟩ := q; exact ⟨v, es.trans e, r⟩
    | self me c fs => obtain ⟨v, e, r⟩ := q; exact ⟨v, es.trans e, r⟩
/-- .. a fresh thing, known to this name alone from now on -/
theorem Rel.storeO (R : Rel B g σ H p) {i : Nat} {a : Addr} {s : Slot} (f : Free B g σ p a) (k : i < σ.length → SlotOk B.W g.ρ H (σ.set i (some (.ref a))) i s) : Rel B g (σ.set i (some (.ref a))) H { p with env := p.env.set i s } := by
  have back : ∀ {b : Addr} {j : Nat}, OwnAt { p with env := p.env.set i s } (σ.set i (some (.ref a))) b j → (j = i ∧ b = a) ∨ (j ≠ i ∧ OwnAt p σ b j) := by
    rintro b j ⟨t, e1, o1, l1⟩
    rcases set_get e1 with ⟨rfl, rfl, hl⟩ | ⟨c, e1⟩
    · rw [List.getElem?_set_self (Nat.lt_of_lt_of_le hl R.len)] at l1
      cases l1
      exact .inl ⟨rfl, rfl⟩
    · rw [List.getElem?_set_ne c] at l1
      exact .inr ⟨Ne.symm c, t, e1, o1, l1⟩
  refine ⟨fun j t e1 => ?_, fun j l' b x y => ?_, fun j b x => ?_, R.cel, R.cln, R.cnd, R.pre, R.cnw, R.hid, R.hnd, R.keep, by simpa using R.len⟩
  · rcases set_get e1 with ⟨rfl, rfl, hl⟩ | ⟨c, e1⟩
    · exact k (Nat.lt_of_lt_of_le hl R.len)
    · have q := R.slot j t e1
      have es : (σ.set i (some (V.ref a)))[j]? = σ[j]? := List.getElem?_set_ne c
      cases t with
      | no => trivial
      | sh d => obtain ⟨v, e, r⟩ := q; exact ⟨v, es.trans e, r⟩
      | ow d => obtain ⟨v, e, r⟩ := q; exact ⟨v, es.trans e, r⟩
      | lk d => obtain ⟨v, e, r⟩ := q; exact ⟨v, es.trans e, r⟩
      | lz d => obtain ⟨v, e, r⟩ := q; exact ⟨v, es.trans e, r⟩
      | self me c fs => obtain ⟨v, e, r⟩ := q; exact ⟨v, es.trans e, r⟩
  · rcases back x with ⟨r1, z1⟩ | ⟨n1, x1⟩ <;> rcases back y with ⟨r2, z2⟩ | ⟨n2, y1⟩
    · exact r1.trans r2.symm
    · exact (f.own _ (by rw [← z1]; exact y1)).elim
    · exact (f.own _ (by rw [← z2]; exact x1)).elim
    · exact R.dis _ _ _ x1 y1
  · rcases back x with ⟨r1, z1⟩ | ⟨n1, x1⟩
    · rw [z1]; exact ⟨f.cel, f.hid, f.new⟩
    · exact R.new _ _ x1
theorem Free.of (R : Rel B g σ H p) {a : Addr} {i : Nat} (h : OwnAt p σ a i) : Free B g σ { p with env := p.env.set i .no } a := by
  refine ⟨fun j o => ?_, (R.new i a h).1, (R.new i a h).2.1, (R.new i a h).2.2⟩
  have q := ownAt_set o rfl
  have e := R.dis _ _ _ q h
  subst e
  obtain ⟨t, e1, o1, _⟩ := o
  rcases set_get e1 with ⟨_, rfl, _⟩ | ⟨c, _⟩
  · cases o1
  · exact c rfl
end
end Mi

/-! ## The mirror: expressions -/
namespace Mi
open PySem PySem.Spec PyProof.Rows L2 Lamp SlX

/-- known to all, or one's own: it may be read -/
def RepB (W : Wd) (ρ : List Addr) (H : Hp) (d : D) (v : V) : Prop := Rep W ρ H d v ∨ ∃ a, v = .ref a ∧ Own W ρ H d a
def get0 (p : PS) : RV → Option D
  | .sh d => some d
  | .fr _ => none
  | .pl i => match p.env[i]? with
    | some s => s.rd
    | none => none
/-- a changeable thing is read as what it is now -/
def deref (p : PS) : D → Option D
  | .cel n => p.st[n]?
  | d => some d
def get (p : PS) (r : RV) : Option D := (get0 p r).bind (deref p)
section
variable {B : Bd} {g : Gh} {σ : L2.St} {H H' : Hp} {p p' : PS} {ρ' : List Addr} {Q : VK}
theorem RepR.later {r : RV} {v : V} {d : D} (f : Frz H H') (q : g.ρ <+: ρ') (n : get p' r = some d) (h : RepR B g σ H p r v) : RepR B ⟨ρ', g.hid⟩ σ H' p' r v := by
  cases r with
  | sh d => exact Rep.mono f q h
  | fr d => cases n
  | pl i => exact h
theorem get0_rep (R : Rel B g σ H p) {r : RV} {v : V} {d : D} (h : RepR B g σ H p r v) (e : get0 p r = some d) : RepB B.W g.ρ H d v := by
  cases r with
  | sh d' => cases e; exact .inl h
  | fr d' => cases e
  | pl i =>
    have h' : σ[i]? = some (some v) := h
    unfold get0 at e
    cases c : p.env[i]? with
    | none => simp [c] at e
    | some s =>
      simp only [c] at e
      have k := R.slot i s c
      cases s with
      | no => cases e
      | sh d => cases e; obtain ⟨w, e1, r⟩ := k; rw [h'] at e1; cases e1; exact .inl r
      | ow d => cases e; obtain ⟨w, e1, r⟩ := k; rw [h'] at e1; cases e1; exact .inr ⟨_, rfl, r⟩
      | lk d => cases e; obtain ⟨w, e1, r⟩ := k; rw [h'] at e1; cases e1; exact .inr ⟨_, rfl, r⟩
      | lz d => cases e; obtain ⟨w, e1, r⟩ := k; rw [h'] at e1; cases e1; exact .inl r.rep
      | self me c fs => cases e
theorem get_rep (R : Rel B g σ H p) {r : RV} {v : V} {d : D} (h : RepR B g σ H p r v) (e : get p r = some d) : RepB B.W g.ρ H d v := by
  unfold get at e
  cases c : get0 p r with
  | none => rw [c] at e; cases e
  | some d0 =>
    rw [c] at e
    have k := get0_rep R h c
    cases d0 with
    | cel n =>
      have e' : p.st[n]? = some d := e
      rcases k with k | ⟨a, _, o⟩
      · cases k with
        | cel hn =>
          obtain ⟨b, e1, e2⟩ := R.cel n d e'
          rw [hn] at e1
          cases e1
          exact e2.repB
      · cases o
    | _ => cases e; exact k
theorem Post.later {r : Option ER} (q : g.ρ <+: ρ') (f : Frz H H') (h : Post B g σ H Q r) : Post B ⟨ρ', g.hid⟩ σ H' Q r := by
  cases r with
  | none => exact h
  | some r =>
    cases r with
    | val r p => exact fun v H2 ρ2 R q2 f2 rr => h v H2 ρ2 R (q.trans q2) (f.trans f2) rr
    | exc x st => exact h
theorem Post.imp {r : Option ER} {Q' : VK} (i : ∀ v H, Q v H → Q' v H) (h : Post B g σ H Q r) : Post B g σ H Q' r := by
  cases r with
  | none => exact h
  | some r =>
    cases r with
    | val r p => exact fun v H2 ρ2 R q2 f2 rr => i _ _ (h v H2 ρ2 R q2 f2 rr)
    | exc x st => exact h

/-- what a built-in operation hands back -/
def PPost (W : Wd) (ρ : List Addr) (H : Hp) (Q : VK) : Option RV → Prop
  | none => False
  | some (.sh d) => ∀ v H', Same H H' → Rep W ρ H' d v → Q v H'
  | some (.fr d) => ∀ a H', Same H H' → H a = none → Own W ρ H' d a → Q (.ref a) H'
  | some (.pl _) => False
def ret (p : PS) : Option RV → Option ER
  | none => none
  | some r => some (.val r p)
theorem PPost.of (R : Rel B g σ H p) {r : Option RV} (h : Post B g σ H Q (ret p r)) : PPost B.W g.ρ H Q r ∨ ∃ i, r = some (.pl i) := by
  cases r with
  | none => exact .inl h
  | some r =>
    cases r with
    | sh d => exact .inl fun v H' s rr => h v H' g.ρ (R.same s) (List.prefix_refl _) (.of s) rr
    | fr d =>
      refine .inl fun a H' s n o => h (.ref a) H' g.ρ (R.same s) (List.prefix_refl _) (.of s) ⟨a, rfl, o, ?_⟩
      have f := R.free n
      exact ⟨f.own, f.cel, f.hid, f.new⟩
    | pl i => exact .inr ⟨i, rfl⟩
end

/-! ### the combinators -/
def bindE (m : EM) (k : RV → PS → Option ER) : EM := fun p => match m p with
  | none => none
  | some (.val r p') => k r p'
  | some (.exc x st) => some (.exc x st)
theorem bind_rd {B : Bd} {m : EM} {k : RV → PS → Option ER} {σ : L2.St} {H : Hp} {Q : VK} (h : rdE B (bindE m k) σ H Q) {Q' : VK}
    (i : ∀ g p' r v H', Rel B g σ H' p' → RepR B g σ H' p' r v → Post B g σ H' Q (k r p') → Q' v H') : rdE B m σ H Q' := by
  obtain ⟨g, p, R, hp⟩ := h
  refine ⟨g, p, R, ?_⟩
  unfold bindE at hp
  cases e : m p with
  | none => rw [e] at hp; exact hp
  | some r =>
    rw [e] at hp
    cases r with
    | val r p' => exact fun v H' ρ' R' q f rr => i ⟨ρ', g.hid⟩ p' r v H' R' rr (Post.later q f hp)
    | exc x st => exact hp
/-- what the name at a slot holds, to be read -/
def eBor (i : Nat) : EM := fun p => match get0 p (.pl i) with
  | some _ => some (.val (.pl i) p)
  | none => none
def eC (d : D) : EM := fun p => some (.val (.sh d) p)
/-- made known to all -/
def know (p : PS) : RV → Option ER
  | .sh d => some (.val (.sh d) p)
  | .fr d => some (.val (.sh d) p)
  | .pl i => match p.env[i]? with
    | some (.sh d) => some (.val (.sh d) p)
    | some (.ow d) => some (.val (.sh d) { p with env := p.env.set i (.sh d) })
    | _ => none
def fz (m : EM) : EM := bindE m fun r p => know p r
def eVar (i : Nat) : EM := fz (eBor i)
/-- a built-in operation on two values, on one -/
def op2 (pr : D → D → Option RV) (p : PS) (r1 r2 : RV) : Option ER := match get p r1, get p r2 with
  | some d1, some d2 => ret p (pr d1 d2)
  | _, _ => none
def op1 (pr : D → Option RV) (p : PS) (r1 : RV) : Option ER := match get p r1 with
  | some d1 => ret p (pr d1)
  | none => none
def mOp (pr : D → D → Option RV) (ma mb : EM) : EM := bindE ma fun r1 => bindE mb fun r2 p => op2 pr p r1 r2
def mUn (pr : D → Option RV) (ma : EM) : EM := bindE ma fun r1 p => op1 pr p r1
def noPl : Option RV → Prop
  | some (.pl _) => False
  | _ => True
/-- the mirror of an operation on two values -/
structure P2 (W : Wd) (r : R2) (pr : D → D → Option RV) : Prop where
  ok : ∀ ρ H d1 d2 v1 v2 Q, RepB W ρ H d1 v1 → RepB W ρ H d2 v2 → PPost W ρ H Q (pr d1 d2) → r v1 v2 H Q
  np : ∀ d1 d2, noPl (pr d1 d2)
structure P1 (W : Wd) (r : V → Hp → VK → Prop) (pr : D → Option RV) : Prop where
  ok : ∀ ρ H d1 v1 Q, RepB W ρ H d1 v1 → PPost W ρ H Q (pr d1) → r v1 H Q
  np : ∀ d1, noPl (pr d1)
section
variable {B : Bd} {g : Gh} {σ : L2.St} {H H' : Hp} {p p' : PS} {ρ' : List Addr} {Q : VK}
theorem PPost.of' (R : Rel B g σ H p) {r : Option RV} (n : noPl r) (h : Post B g σ H Q (ret p r)) : PPost B.W g.ρ H Q r := by
  rcases PPost.of R h with h | ⟨i, rfl⟩
  · exact h
  · exact n.elim
theorem op2_ok {r : R2} {pr : D → D → Option RV} (hp : P2 B.W r pr) (R : Rel B g σ H p) {r1 r2 : RV} {v1 v2 : V} (a1 : RepR B g σ H p r1 v1) (a2 : RepR B g σ H p r2 v2) (h : Post B g σ H Q (op2 pr p r1 r2)) : r v1 v2 H Q := by
  unfold op2 at h
  cases e1 : get p r1 with
  | none => rw [e1] at h; exact h.elim
  | some d1 =>
    cases e2 : get p r2 with
    | none => rw [e1, e2] at h; exact h.elim
    | some d2 =>
      rw [e1, e2] at h
      exact hp.ok _ _ _ _ _ _ _ (get_rep R a1 e1) (get_rep R a2 e2) (PPost.of' R (hp.np _ _) h)
theorem op1_ok {r : V → Hp → VK → Prop} {pr : D → Option RV} (hp : P1 B.W r pr) (R : Rel B g σ H p) {r1 : RV} {v1 : V} (a1 : RepR B g σ H p r1 v1) (h : Post B g σ H Q (op1 pr p r1)) : r v1 H Q := by
  unfold op1 at h
  cases e1 : get p r1 with
  | none => rw [e1] at h; exact h.elim
  | some d1 =>
    rw [e1] at h
    exact hp.ok _ _ _ _ _ (get_rep R a1 e1) (PPost.of' R (hp.np _) h)
/-- a value that was reckoned before another one -/
theorem RepR.on {r : RV} {v : V} (n : ∀ d, r ≠ .fr d) (f : Frz H H') (q : g.ρ <+: ρ') (h : RepR B g σ H p r v) : RepR B ⟨ρ', g.hid⟩ σ H' p' r v := by
  cases r with
  | sh d => exact Rep.mono f q h
  | fr d => exact (n d rfl).elim
  | pl i => exact h
theorem mOp_rd {r : R2} {pr : D → D → Option RV} {ma mb : EM} (hp : P2 B.W r pr) (h : rdE B (mOp pr ma mb) σ H Q) : tOp r (rdE B ma) (rdE B mb) σ H Q := by
  refine bind_rd h fun g p1 r1 v1 H1 R1 a1 h1 => ?_
  refine ⟨g, p1, R1, ?_⟩
  unfold bindE at h1
  cases e : mb p1 with
  | none => rw [e] at h1; exact h1
  | some w =>
    rw [e] at h1
    cases w with
    | exc x st => exact h1
    | val r2 p2 =>
      intro v2 H2 ρ2 R2 q2 f2 a2
      have h2 := Post.later q2 f2 h1
      by_cases n : ∃ d, r1 = .fr d
      · obtain ⟨d, rfl⟩ := n
        exact (show False from h2).elim
      · exact op2_ok hp R2 (a1.on (fun d e => n ⟨d, e⟩) f2 q2) a2 h2
theorem mUn_rd {r : V → Hp → VK → Prop} {pr : D → Option RV} {ma : EM} (hp : P1 B.W r pr) (h : rdE B (mUn pr ma) σ H Q) : tUn r (rdE B ma) σ H Q :=
  bind_rd h fun g p1 r1 v1 H1 R1 a1 h1 => op1_ok hp R1 a1 h1
end

section
variable {X : Cx} {B : Bd} {a b c e : Expr} {ma mb mc : EM} {pos : Pos}
theorem sim_op {op : Operator} {r : R2} {pr : D → D → Option RV} (ho : OpR X (binaryOp op) r) (hp : P2 B.W r pr) (ha : PE X a (rdE B ma)) (hb : PE X b (rdE B mb)) : PE X (.BinOp a op b pos) (rdE B (mOp pr ma mb)) :=
  (pe_op ho ha hb).imp fun _ _ _ h => mOp_rd hp h
theorem sim_un {op : UnaryOp} {r : V → Hp → VK → Prop} {pr : D → Option RV} (ho : UnR X (unaryOp op) r) (hp : P1 B.W r pr) (ha : PE X a (rdE B ma)) : PE X (.UnaryOp op a pos) (rdE B (mUn pr ma)) :=
  (pe_un ho ha).imp fun _ _ _ h => mUn_rd hp h
theorem sim_cmp {op : CmpOp} {r : R2} {pr : D → D → Option RV} (ho : OpR X (compareOp op) r) (hp : P2 B.W r pr) (ha : PE X a (rdE B ma)) (hb : PE X b (rdE B mb)) (hm : behindInMarks op b = false) : PE X (.Compare a [op] [b] pos) (rdE B (mOp pr ma mb)) :=
  (pe_cmpR ho ha hb hm).imp fun _ _ _ h => mOp_rd hp h
abbrev rdT (B : Bd) (m : EM) : TT := tTest (rdE B m)
theorem _root_.L2.PT.imp {X : Cx} {e : Expr} {t t' : TT} (h : PT X e t) (i : ∀ σ H Q, t' σ H Q → t σ H Q) : PT X e t' := ⟨fun pins s σ H Q I q => h.run pins s σ H Q I (i σ H Q q)⟩
theorem _root_.L2.PW.imp {X : Cx} {e : Expr} {t t' : TT} (h : PW X e t) (i : ∀ σ H Q, t' σ H Q → t σ H Q) : PW X e t' := ⟨fun w pins s σ H Q I q => h.run w pins s σ H Q I (i σ H Q q)⟩
theorem simt_cmp {op : CmpOp} {r : R2} {pr : D → D → Option RV} (ho : OpR X (compareOp op) r) (hp : P2 B.W r pr) (ha : PE X a (rdE B ma)) (hb : PE X b (rdE B mb)) (hm : behindInMarks op b = false) : PT X (.Compare a [op] [b] pos) (rdT B (mOp pr ma mb)) :=
  (pt_cmpR ho ha hb hm).imp fun _ _ _ h => mOp_rd hp h
theorem sim_bor (i : Nat) {x : Str} (hN : X.N[i]? = some x) (hv : Vis X.env.scope x) (hd : (x == ("__debug__" : Str)) = false := by decide) (hcd : (x == ("__classdict__" : Str)) = false := by decide) : PE X (.Name x pos) (rdE B (eBor i)) :=
  (pe_var hN hv hd hcd).imp fun σ H Q h => by
    obtain ⟨g, p, R, h⟩ := h
    unfold eBor at h
    cases e : get0 p (.pl i) with
    | none => rw [e] at h; exact h.elim
    | some d =>
      rw [e] at h
      have key : ∃ v, σ[i]? = some (some v) := by
        unfold get0 at e
        cases c : p.env[i]? with
        | none => simp [c] at e
        | some s =>
          simp only [c] at e
          have k := R.slot i s c
          cases s with
          | no => cases e
          | sh d => obtain ⟨w, e1, r⟩ := k; exact ⟨_, e1⟩
          | ow d => obtain ⟨w, e1, r⟩ := k; exact ⟨_, e1⟩
          | lk d => obtain ⟨w, e1, r⟩ := k; exact ⟨_, e1⟩
          | lz d => obtain ⟨w, e1, r⟩ := k; exact ⟨_, e1⟩
          | self me c fs => cases e
      obtain ⟨v, hv⟩ := key
      exact ⟨v, hv, h v H g.ρ R (List.prefix_refl _) (Frz.refl H) hv⟩
theorem sim_c {d : D} {v : V} (h : PE X e (tC v)) (k : ∀ ρ H, Rep B.W ρ H d v) : PE X e (rdE B (eC d)) :=
  h.imp fun σ H Q h => by
    obtain ⟨g, p, R, h⟩ := h
    exact h v H g.ρ R (List.prefix_refl _) (Frz.refl H) (k _ _)
theorem sim_int {i j pos} : PE X (.Constant (.int i) j pos) (rdE B (eC (.int i))) := sim_c pe_int fun _ _ => .int i
theorem sim_bl {b j pos} : PE X (.Constant (.bool b) j pos) (rdE B (eC (.bl b))) := sim_c pe_bl fun _ _ => .bl b
theorem sim_non {j pos} : PE X (.Constant .none j pos) (rdE B (eC .non)) := sim_c pe_non fun _ _ => .non
theorem sim_str {x j pos} : PE X (.Constant (.str x) j pos) (rdE B (eC (.str x))) := sim_c pe_str fun _ _ => .str x
/-- what is fresh or one's own is made known to all -/
theorem sim_fz {m : EM} (h : PE X e (rdE B m)) : PE X e (rdE B (fz m)) := by
  refine ⟨fun pins s σ H Q I q => ?_⟩
  refine thn (h.run pins s σ H (fun v H' => ∃ g p r, Rel B g σ H' p ∧ RepR B g σ H' p r v ∧ Post B g σ H' Q (know p r)) I (bind_rd q fun g p' r v H' R a k => ⟨g, p', r, R, a, k⟩)) ?_
  rintro u s1 ⟨v, H1, I1, rv, g, p, r, R, a, k⟩
  cases r with
  | sh d => exact ⟨v, H1, I1, rv, k v H1 g.ρ R (List.prefix_refl _) (Frz.refl _) a⟩
  | fr d =>
    obtain ⟨ad, rfl, o, n1, n2, n3, n4⟩ := a
    obtain ⟨w, hw, mw, hl⟩ := o.lock
    obtain ⟨od, I2⟩ := I1.lock hw mw.1
    refine ⟨.ref ad, _, I2, rv, k (.ref ad) _ g.ρ (R.upd _ ⟨n1, n2, n3, n4⟩ fun z e => ?_) (List.prefix_refl _) (Frz.put hw mw.2) (hl od)⟩
    rw [hw] at e
    cases e
    exact mw.2
  | pl i =>
    have a' : σ[i]? = some (some v) := a
    unfold know at k
    cases c : p.env[i]? with
    | none => simp [c] at k; exact k.elim
    | some t =>
      have ks := R.slot i t c
      cases t with
      | sh d =>
        simp only [c] at k
        obtain ⟨w, e1, rr⟩ := ks
        rw [a'] at e1
        cases e1
        exact ⟨v, H1, I1, rv, k v H1 g.ρ R (List.prefix_refl _) (Frz.refl _) rr⟩
      | ow d =>
        simp only [c] at k
        obtain ⟨ad, e1, o⟩ := ks
        rw [a'] at e1
        cases e1
        obtain ⟨w, hw, mw, hl⟩ := o.lock
        obtain ⟨od, I2⟩ := I1.lock hw mw.1
        have R2 := R.put (s' := .sh d) (o := .frz od w) c rfl a' (fun z e => by rw [hw] at e; cases e; exact mw.2) ⟨.ref ad, a', hl od⟩
        exact ⟨.ref ad, _, I2, rv, k (.ref ad) _ g.ρ R2 (List.prefix_refl _) (Frz.put hw mw.2) (hl od)⟩
      | no => simp only [c] at k; exact k.elim
      | lk d => simp only [c] at k; exact k.elim
      | lz d => simp only [c] at k; exact k.elim
      | self me cc fs => simp only [c] at k; exact k.elim
theorem sim_var (i : Nat) {x : Str} (hN : X.N[i]? = some x) (hv : Vis X.env.scope x) (hd : (x == ("__debug__" : Str)) = false := by decide) (hcd : (x == ("__classdict__" : Str)) = false := by decide) : PE X (.Name x pos) (rdE B (eVar i)) :=
  sim_fz (sim_bor i hN hv hd hcd)
end
end Mi

/-! ## The mirror: tests, several values, built-in calls -/
namespace Mi
open PySem PySem.Spec PyProof.Rows L2 Lamp SlX

/-! ### truth -/
def asB (p : PS) : RV → Option Bool
  | .sh (.bl b) => some b
  | _ => none
def mIf (mc ma mb : EM) : EM := bindE mc fun r p => match asB p r with
  | some true => ma p
  | some false => mb p
  | none => none
def mAnd (ma mb : EM) : EM := mIf ma mb (eC (.bl false))
def mOr (ma mb : EM) : EM := mIf ma (eC (.bl true)) mb
def mNot (ma : EM) : EM := mIf ma (eC (.bl false)) (eC (.bl true))
/-- truth of a value -/
def tru : D → Option RV
  | .non => some (.sh (.bl false))
  | .bl b => some (.sh (.bl b))
  | .int i => some (.sh (.bl (i != 0)))
  | .str y => if y.length ≤ sizeLine then some (.sh (.bl ((y.length : Int) != 0))) else none
  | .lst ds => some (.sh (.bl (!ds.isEmpty)))
  | .tup ds => some (.sh (.bl (!ds.isEmpty)))
  | _ => none
def mTru (ma : EM) : EM := mUn tru ma
section
variable {B : Bd} {g : Gh} {σ : L2.St} {H H' : Hp} {p p' : PS} {ρ' : List Addr} {Q : VK}
theorem asB_rep {r : RV} {v : V} {b : Bool} (h : RepR B g σ H p r v) (e : asB p r = some b) : v = .bl b := by
  unfold asB at e
  split at e
  · cases e; cases (show Rep _ _ _ _ _ from h); rfl
  · cases e
theorem mIf_post {mc ma mb : EM} (h : rdE B (mIf mc ma mb) σ H Q) : rdE B mc σ H (fun v H1 => ∃ b, v = .bl b ∧ if b = true then rdE B ma σ H1 Q else rdE B mb σ H1 Q) := by
  refine bind_rd h fun g p1 r v H1 R a k => ?_
  cases e : asB p1 r with
  | none => rw [e] at k; exact k.elim
  | some b =>
    rw [e] at k
    refine ⟨b, asB_rep a e, ?_⟩
    cases b with
    | true => exact ⟨g, p1, R, k⟩
    | false => exact ⟨g, p1, R, k⟩
theorem rdC {d : D} (h : rdE B (eC d) σ H Q) {v : V} (k : ∀ ρ, Rep B.W ρ H d v) : Q v H := by
  obtain ⟨g, p, R, h⟩ := h
  exact h v H g.ρ R (List.prefix_refl _) (Frz.refl H) (k _)
end
theorem Reps.len {W : Wd} {ρ : List Addr} {H : Hp} : ∀ {ds : List D} {xs : List V}, Reps W ρ H ds xs → ds.length = xs.length
  | _, _, .nil => rfl
  | _, _, .cons _ t => congrArg (· + 1) t.len
theorem Reps.emp {W : Wd} {ρ : List Addr} {H : Hp} {ds : List D} {xs : List V} : Reps W ρ H ds xs → ds.isEmpty = xs.isEmpty
  | .nil => rfl
  | .cons _ _ => rfl
theorem Reps.get {W : Wd} {ρ : List Addr} {H : Hp} : ∀ {ds : List D} {xs : List V} {i : Nat} {d : D}, Reps W ρ H ds xs → ds[i]? = some d → ∃ x, xs[i]? = some x ∧ Rep W ρ H d x
  | _, _, i, d, .nil, e => by simp at e
  | _, _, 0, d, .cons h _, e => by cases e; exact ⟨_, rfl, h⟩
  | _, _, i + 1, d, .cons _ t, e => by
    obtain ⟨x, e1, e2⟩ := Reps.get (i := i) t (by simpa using e)
    exact ⟨x, by simpa using e1, e2⟩
theorem RepK.len {W : Wd} {ρ : List Addr} {H : Hp} : ∀ {ds : List (D × D)} {xs : List (Key × V)}, RepK W ρ H ds xs → ds.length = xs.length
  | _, _, .nil => rfl
  | _, _, .cons _ _ t => congrArg (· + 1) t.len
theorem RepT.len {W : Wd} {ρ : List Addr} {H : Hp} : ∀ {ds : List (D × D)} {xs : List (List Key × V)}, RepT W ρ H ds xs → ds.length = xs.length
  | _, _, .nil => rfl
  | _, _, .cons _ _ _ t => congrArg (· + 1) t.len
/-- what is read of a list, a tuple -/
theorem RepB.lstR {W : Wd} {ρ : List Addr} {H : Hp} {ds : List D} {v : V} (h : RepB W ρ H (.lst ds) v) : ∃ a xs, v = .ref a ∧ Rd H a (.lst xs) ∧ Reps W ρ H ds xs := by
  rcases h with h | ⟨a, rfl, h⟩
  · cases h with
    | lst h r => exact ⟨_, _, rfl, .inr ⟨_, h⟩, r⟩
  · cases h with
    | lst h r => exact ⟨_, _, rfl, .inl h, r⟩
theorem RepB.lst {W : Wd} {ρ : List Addr} {H : Hp} {ds : List D} {v : V} (h : RepB W ρ H (.lst ds) v) : ∃ a xs, v = .ref a ∧ SqL W.K H a xs ∧ Reps W ρ H ds xs := by
  obtain ⟨a, xs, e, r, q⟩ := h.lstR
  exact ⟨a, xs, e, .inl r, q⟩
theorem RepB.scr {W : Wd} {ρ : List Addr} {H : Hp} {ns : List Int} {v : V} (h : RepB W ρ H (.scr ns) v) : ∃ a, v = .ref a ∧ SqL W.K H a (ns.map V.int) := by
  rcases h with h | ⟨a, rfl, h⟩
  · cases h with
    | scr h => exact ⟨_, rfl, h.seq⟩
  · cases h
theorem RepB.tup {W : Wd} {ρ : List Addr} {H : Hp} {ds : List D} {v : V} (h : RepB W ρ H (.tup ds) v) : ∃ a xs, v = .ref a ∧ SqT W.K H a xs ∧ Reps W ρ H ds xs := by
  rcases h with h | ⟨a, rfl, h⟩
  · cases h with
    | tup h r => exact ⟨_, _, rfl, h.seq, r⟩
  · cases h
theorem RepB.int {W : Wd} {ρ : List Addr} {H : Hp} {i : Int} {v : V} (h : RepB W ρ H (.int i) v) : v = .int i := by
  rcases h with h | ⟨a, rfl, h⟩
  · cases h; rfl
  · cases h
theorem RepB.bl {W : Wd} {ρ : List Addr} {H : Hp} {b : Bool} {v : V} (h : RepB W ρ H (.bl b) v) : v = .bl b := by
  rcases h with h | ⟨a, rfl, h⟩
  · cases h; rfl
  · cases h
theorem RepB.str {W : Wd} {ρ : List Addr} {H : Hp} {s : Str} {v : V} (h : RepB W ρ H (.str s) v) : v = .str s := by
  rcases h with h | ⟨a, rfl, h⟩
  · cases h; rfl
  · cases h
theorem RepB.non {W : Wd} {ρ : List Addr} {H : Hp} {v : V} (h : RepB W ρ H .non v) : v = .non := by
  rcases h with h | ⟨a, rfl, h⟩
  · cases h; rfl
  · cases h
/-- a scalar handed back -/
theorem PPost.bl {W : Wd} {ρ : List Addr} {H : Hp} {Q : VK} {b : Bool} (h : PPost W ρ H Q (some (.sh (.bl b)))) : Q (.bl b) H := h _ _ (fun _ _ z => z) (.bl b)
theorem PPost.int {W : Wd} {ρ : List Addr} {H : Hp} {Q : VK} {b : Int} (h : PPost W ρ H Q (some (.sh (.int b)))) : Q (.int b) H := h _ _ (fun _ _ z => z) (.int b)
theorem PPost.str {W : Wd} {ρ : List Addr} {H : Hp} {Q : VK} {b : Str} (h : PPost W ρ H Q (some (.sh (.str b)))) : Q (.str b) H := h _ _ (fun _ _ z => z) (.str b)
theorem PPost.non {W : Wd} {ρ : List Addr} {H : Hp} {Q : VK} (h : PPost W ρ H Q (some (.sh .non))) : Q .non H := h _ _ (fun _ _ z => z) .non
theorem PPost.part {W : Wd} {ρ : List Addr} {H : Hp} {Q : VK} {d : D} {v : V} (h : PPost W ρ H Q (some (.sh d))) (r : Rep W ρ H d v) : Q v H := h _ _ (fun _ _ z => z) r
/-- a new list, .. -/
theorem PPost.new {W : Wd} {ρ : List Addr} {H : Hp} {Q : VK} {ds : List D} {xs : List V} (h : PPost W ρ H Q (some (.fr (.lst ds)))) (r : Reps W ρ H ds xs) {a : Addr} (n : H a = none) : Q (.ref a) (upd H a (.lst xs)) :=
  h a _ (Same.new n) n (.lst upd_same (r.mono (.of (Same.new n)) (List.prefix_refl _)))
theorem PPost.newT {W : Wd} {ρ : List Addr} {H : Hp} {Q : VK} {ds : List D} {xs : List V} (h : PPost W ρ H Q (some (.sh (.tup ds)))) (f : flat ds = true) (r : Reps W ρ H ds xs) {a : Addr} (n : H a = none) : Q (.ref a) (upd H a (.tup xs)) :=
  h (.ref a) _ (Same.new n) (.tup (by unfold TupAt; rw [if_pos f]; exact upd_same) (r.mono (.of (Same.new n)) (List.prefix_refl _)))
theorem PPost.newF {W : Wd} {ρ : List Addr} {H : Hp} {Q : VK} {ds : List D} {xs : List V} {its : List Value} (h : PPost W ρ H Q (some (.sh (.tup ds)))) (f : flat ds = false) (r : Reps W ρ H ds xs) {a : Addr} (n : H a = none) : Q (.ref a) (upd H a (.frz (plainT its) (.tup xs))) :=
  h (.ref a) _ (Same.new n) (.tup (by unfold TupAt; rw [if_neg (by rw [f]; decide)]; exact ⟨its, upd_same⟩) (r.mono (.of (Same.new n)) (List.prefix_refl _)))
theorem PPost.newD {W : Wd} {ρ : List Addr} {H : Hp} {Q : VK} {kvs : List (D × D)} {kys : List (Key × V)} (h : PPost W ρ H Q (some (.fr (.dic kvs)))) (r : RepK W ρ H kvs kys) {a : Addr} (n : H a = none) : Q (.ref a) (upd H a (.dK kys)) :=
  h a _ (Same.new n) n (.dic upd_same (r.mono (.of (Same.new n)) (List.prefix_refl _)))

section
variable {X : Cx} {B : Bd} {a b c e : Expr} {ma mb mc : EM} {pos : Pos} {rest : List Expr}
theorem p_tru (hK : X.K = B.W.K) : P1 B.W (fun x H Q => ∃ k, TruV X.K x H k ∧ Q (.bl k) H) tru := by
  refine ⟨fun ρ H d v Q r h => ?_, fun d => ?_⟩
  · cases d with
    | non => rw [r.non]; exact ⟨_, rfl, h.bl⟩
    | bl b => rw [r.bl]; exact ⟨_, rfl, h.bl⟩
    | int i => rw [r.int]; exact ⟨_, rfl, h.bl⟩
    | str s =>
      rw [r.str]
      by_cases c : s.length ≤ sizeLine
      · rw [show tru (.str s) = some (.sh (.bl ((s.length : Int) != 0))) from if_pos c] at h
        exact ⟨_, ⟨c, rfl⟩, h.bl⟩
      · rw [show tru (.str s) = none from if_neg c] at h
        exact h.elim
    | lst ds => obtain ⟨a, xs, rfl, s, rr⟩ := r.lst; exact ⟨_, .inl ⟨xs, by rw [hK]; exact s, rfl⟩, by rw [← rr.emp]; exact h.bl⟩
    | tup ds => obtain ⟨a, xs, rfl, s, rr⟩ := r.tup; exact ⟨_, .inr (.inl ⟨xs, by rw [hK]; exact s, rfl⟩), by rw [← rr.emp]; exact h.bl⟩
    | dic kvs => exact h.elim
    | obj c fs => exact h.elim
    | cel n => exact h.elim
    | scr ns => exact h.elim
    | pr ds => exact h.elim
    | tab n => exact h.elim
    | pin n => exact h.elim
    | exo c f x => exact h.elim
    | ex0 c => exact h.elim
    | kup ns => exact h.elim
  · cases d <;> first | trivial | (rename_i s; by_cases c : s.length ≤ sizeLine; (rw [show tru (.str s) = some (.sh (.bl ((s.length : Int) != 0))) from if_pos c]; trivial); (rw [show tru (.str s) = none from if_neg c]; trivial))
theorem simt_tru (hK : X.K = B.W.K) (ha : PE X a (rdE B ma)) (he : ∀ whole, isTrue a X.env whole = (do let v ← whole; standAt a.pos; holding [v] (truthy v)) := by exact fun _ => rfl) : PT X a (rdT B (mTru ma)) :=
  (pt_truth ha he).imp fun σ H Q h => by
    refine bind_rd (k := fun r p => op1 tru p r) h fun g p1 r1 v1 H1 R1 a1 h1 => ?_
    obtain ⟨k, z, w, e, q⟩ := op1_ok (p_tru (X := X) hK) R1 a1 h1
    cases e
    exact ⟨_, z, q⟩
theorem sim_if (hc : PT X c (rdT B mc)) (ha : PE X a (rdE B ma)) (hb : PE X b (rdE B mb)) : PE X (.IfExp c a b pos) (rdE B (mIf mc ma mb)) :=
  (pe_ifExp hc ha hb).imp fun σ H Q h => mIf_post h
theorem simt_and1 (ha : PT X a (rdT B ma)) : PW X (.BoolOp .And [a] pos) (rdT B ma) := pw_and1 ha
theorem simt_or1 (ha : PT X a (rdT B ma)) : PW X (.BoolOp .Or [a] pos) (rdT B ma) := pw_or1 ha
theorem mIfT {mc ma mb : EM} {σ : L2.St} {H : Hp} {Q : Bool → Hp → Prop} (h : rdT B (mIf mc ma mb) σ H Q) : rdT B mc σ H fun c H1 => if c = true then rdT B ma σ H1 Q else rdT B mb σ H1 Q := by
  have := mIf_post (B := B) h
  refine bind_rd (k := fun r p => match asB p r with
    | some true => ma p
    | some false => mb p
    | none => none) h fun g p1 r v H1 R a k => ?_
  cases e : asB p1 r with
  | none => rw [e] at k; exact k.elim
  | some b =>
    rw [e] at k
    refine ⟨b, asB_rep a e, ?_⟩
    cases b with
    | true => exact ⟨g, p1, R, k⟩
    | false => exact ⟨g, p1, R, k⟩
theorem simt_and (ha : PT X a (rdT B ma)) (hb : PW X (.BoolOp .And (b :: rest) pos) (rdT B mb)) : PW X (.BoolOp .And (a :: b :: rest) pos) (rdT B (mAnd ma mb)) :=
  (pw_and ha hb).imp fun σ H Q h => by
    obtain ⟨g, p, R, k⟩ := mIfT h
    refine ⟨g, p, R, Post.imp (fun v H1 z => ?_) k⟩
    obtain ⟨b, e, z⟩ := z
    refine ⟨b, e, ?_⟩
    cases b with
    | true => exact z
    | false =>
      obtain ⟨c, e, q⟩ := rdC z fun ρ => .bl false
      cases e
      exact q
theorem simt_or (ha : PT X a (rdT B ma)) (hb : PW X (.BoolOp .Or (b :: rest) pos) (rdT B mb)) : PW X (.BoolOp .Or (a :: b :: rest) pos) (rdT B (mOr ma mb)) :=
  (pw_or ha hb).imp fun σ H Q h => by
    obtain ⟨g, p, R, k⟩ := mIfT h
    refine ⟨g, p, R, Post.imp (fun v H1 z => ?_) k⟩
    obtain ⟨b, e, z⟩ := z
    refine ⟨b, e, ?_⟩
    cases b with
    | false => exact z
    | true =>
      obtain ⟨c, e, q⟩ := rdC z fun ρ => .bl true
      cases e
      exact q
theorem simt_not (ha : PT X a (rdT B ma)) : PT X (.UnaryOp .Not a pos) (rdT B (mNot ma)) :=
  (pt_not ha).imp fun σ H Q h => by
    obtain ⟨g, p, R, k⟩ := mIfT h
    refine ⟨g, p, R, Post.imp (fun v H1 z => ?_) k⟩
    obtain ⟨b, e, z⟩ := z
    refine ⟨b, e, ?_⟩
    cases b with
    | true => obtain ⟨c, e, q⟩ := rdC z fun ρ => .bl false; cases e; exact q
    | false => obtain ⟨c, e, q⟩ := rdC z fun ρ => .bl true; cases e; exact q
end
end Mi

/-! ## The mirror: several values, built-in calls and methods, subscripts, displays -/
namespace Mi
open PySem PySem.Spec PyProof.Rows L2 Lamp SlX

inductive AR where
  | vals (rs : List RV) (p : PS) | exc (x : Ex) (st : List D)
/-- from the left; what is fresh must have been made known -/
def args : List EM → PS → Option AR
  | [], p => some (.vals [] p)
  | m :: ms, p => match m p with
    | none => none
    | some (.exc x st) => some (.exc x st)
    | some (.val (.fr _) _) => none
    | some (.val r p1) => match args ms p1 with
      | none => none
      | some (.exc x st) => some (.exc x st)
      | some (.vals rs p2) => some (.vals (r :: rs) p2)
def gets (p : PS) : List RV → Option (List D)
  | [] => some []
  | r :: rs => match get p r, gets p rs with
    | some d, some ds => some (d :: ds)
    | _, _ => none
inductive RepRs (B : Bd) (g : Gh) (σ : L2.St) (H : Hp) (p : PS) : List RV → List V → Prop
  | nil : RepRs B g σ H p [] []
  | cons {r : RV} {rs : List RV} {v : V} {vs : List V} (n : ∀ d, r ≠ .fr d) (h : RepR B g σ H p r v) (t : RepRs B g σ H p rs vs) : RepRs B g σ H p (r :: rs) (v :: vs)
inductive RepBs (W : Wd) (ρ : List Addr) (H : Hp) : List D → List V → Prop
  | nil : RepBs W ρ H [] []
  | cons {d : D} {ds : List D} {v : V} {vs : List V} (h : RepB W ρ H d v) (t : RepBs W ρ H ds vs) : RepBs W ρ H (d :: ds) (v :: vs)
def PostA (B : Bd) (g : Gh) (σ : L2.St) (H : Hp) (Q : List V → Hp → Prop) : Option AR → Prop
  | none => False
  | some (.vals rs p) => ∀ vs H' ρ', Rel B ⟨ρ', g.hid⟩ σ H' p → g.ρ <+: ρ' → Frz H H' → RepRs B ⟨ρ', g.hid⟩ σ H' p rs vs → Q vs H'
  | some (.exc x st) => ExcAt B x st
def rdA (B : Bd) (ms : List EM) : TA := fun σ H Q => ∃ g p, Rel B g σ H p ∧ PostA B g σ H Q (args ms p)
theorem _root_.L2.PA.imp {X : Cx} {e : List Expr} {t t' : TA} (h : PA X e t) (i : ∀ σ H Q, t' σ H Q → t σ H Q) : PA X e t' := ⟨fun pos pins s σ H Q I q => h.run pos pins s σ H Q I (i σ H Q q)⟩
section
variable {B : Bd} {g : Gh} {σ : L2.St} {H H' : Hp} {p p' : PS} {ρ' : List Addr}
theorem gets_rep (R : Rel B g σ H p) : ∀ {rs : List RV} {vs : List V} {ds : List D}, RepRs B g σ H p rs vs → gets p rs = some ds → RepBs B.W g.ρ H ds vs
  | _, _, ds, .nil, e => by cases e; exact .nil
  | r :: rs, _, ds, .cons n h t, e => by
    unfold gets at e
    cases e1 : get p r with
    | none => rw [e1] at e; cases e
    | some d =>
      cases e2 : gets p rs with
      | none => rw [e1, e2] at e; cases e
      | some ds' =>
        rw [e1, e2] at e
        cases e
        exact .cons (get_rep R h e1) (gets_rep R t e2)
theorem RepRs.reps : ∀ {rs : List RV} {vs : List V} {ds : List D}, RepRs B g σ H p rs vs → rs = ds.map RV.sh → Reps B.W g.ρ H ds vs
  | _, _, ds, .nil, e => by
    cases ds with
    | nil => exact .nil
    | cons d ds => cases e
  | r :: rs, _, ds, .cons n h t, e => by
    cases ds with
    | nil => cases e
    | cons d ds =>
      injection e with e1 e2
      subst e1
      exact .cons h (t.reps e2)
theorem args_cons {m : EM} {ms : List EM} {Q : List V → Hp → Prop} (h : rdA B (m :: ms) σ H Q) : rdE B m σ H fun x H1 => rdA B ms σ H1 fun xs H2 => Q (x :: xs) H2 := by
  obtain ⟨g, p, R, k⟩ := h
  refine ⟨g, p, R, ?_⟩
  unfold args at k
  cases e : m p with
  | none => rw [e] at k; exact k
  | some r =>
    rw [e] at k
    cases r with
    | exc x st => exact k
    | val r p1 =>
      intro v H1 ρ1 R1 q1 f1 a1
      refine ⟨⟨ρ1, g.hid⟩, p1, R1, ?_⟩
      by_cases n : ∃ d, r = .fr d
      · obtain ⟨d, rfl⟩ := n
        exact (show False from k).elim
      have n' : ∀ d, r ≠ .fr d := fun d z => n ⟨d, z⟩
      have k' : PostA B g σ H Q (match args ms p1 with
        | none => none
        | some (.exc x st) => some (.exc x st)
        | some (.vals rs p2) => some (.vals (r :: rs) p2)) := by
        cases r with
        | sh d => exact k
        | fr d => exact (n' d rfl).elim
        | pl i => exact k
      cases e2 : args ms p1 with
      | none => rw [e2] at k'; exact k'
      | some w =>
        rw [e2] at k'
        cases w with
        | exc x st => exact k'
        | vals rs p2 => exact fun vs H2 ρ2 R2 q2 f2 a2 => k' (v :: vs) H2 ρ2 R2 (q1.trans q2) (f1.trans f2) (.cons n' (RepR.on (g := ⟨ρ1, g.hid⟩) (ρ' := ρ2) n' f2 q2 a1) a2)
end
section
variable {X : Cx} {B : Bd} {e : Expr} {es : List Expr} {m : EM} {ms : List EM}
theorem sim_nil : PA X [] (rdA B []) := pa_nil.imp fun σ H Q h => by
  obtain ⟨g, p, R, k⟩ := h
  exact k [] H g.ρ R (List.prefix_refl _) (Frz.refl H) .nil
theorem sim_cons (ha : PE X e (rdE B m)) (hr : PA X es (rdA B ms)) (hs : starEach (e :: es) X.env = (false, eval e X.env) :: starEach es X.env := by rfl) : PA X (e :: es) (rdA B (m :: ms)) :=
  (pa_cons ha hr hs).imp fun σ H Q h => args_cons h
end

/-- several values and what is made of them -/
def bindA (ms : List EM) (k : List RV → PS → Option ER) : EM := fun p => match args ms p with
  | none => none
  | some (.exc x st) => some (.exc x st)
  | some (.vals rs p') => k rs p'
theorem bindA_rd {B : Bd} {ms : List EM} {k : List RV → PS → Option ER} {σ : L2.St} {H : Hp} {Q : VK} (h : rdE B (bindA ms k) σ H Q) {Q' : List V → Hp → Prop}
    (i : ∀ g p' rs vs H', Rel B g σ H' p' → RepRs B g σ H' p' rs vs → Post B g σ H' Q (k rs p') → Q' vs H') : rdA B ms σ H Q' := by
  obtain ⟨g, p, R, hp⟩ := h
  refine ⟨g, p, R, ?_⟩
  unfold bindA at hp
  cases e : args ms p with
  | none => rw [e] at hp; exact hp
  | some r =>
    rw [e] at hp
    cases r with
    | vals rs p' => exact fun v H' ρ' R' q f rr => i ⟨ρ', g.hid⟩ p' rs v H' R' rr (Post.later q f hp)
    | exc x st => exact hp
def opN (pr : List D → Option RV) (p : PS) (rs : List RV) : Option ER := match gets p rs with
  | some ds => ret p (pr ds)
  | none => none
def mPrim (pr : List D → Option RV) (ms : List EM) : EM := bindA ms fun rs p => opN pr p rs
structure PN (W : Wd) (r : List V → Hp → VK → Prop) (pr : List D → Option RV) : Prop where
  ok : ∀ ρ H ds vs Q, RepBs W ρ H ds vs → PPost W ρ H Q (pr ds) → r vs H Q
  np : ∀ ds, noPl (pr ds)
theorem opN_ok {B : Bd} {g : Gh} {σ : L2.St} {H : Hp} {p : PS} {Q : VK} {r : List V → Hp → VK → Prop} {pr : List D → Option RV} (hp : PN B.W r pr) (R : Rel B g σ H p) {rs : List RV} {vs : List V} (a : RepRs B g σ H p rs vs) (h : Post B g σ H Q (opN pr p rs)) : r vs H Q := by
  unfold opN at h
  cases e : gets p rs with
  | none => rw [e] at h; exact h.elim
  | some ds =>
    rw [e] at h
    exact hp.ok _ _ _ _ _ (gets_rep R a e) (PPost.of' R (hp.np _) h)
theorem mPrim_rd {B : Bd} {σ : L2.St} {H : Hp} {Q : VK} {r : List V → Hp → VK → Prop} {pr : List D → Option RV} {ms : List EM} (hp : PN B.W r pr) (h : rdE B (mPrim pr ms) σ H Q) : tCB r (rdA B ms) σ H Q :=
  bindA_rd h fun g p rs vs H1 R a k => opN_ok hp R a k
section
variable {X : Cx} {B : Bd} {x : Str} {p pos : Pos} {e : Expr} {es : List Expr} {ms : List EM} {id T : String} {r : List V → Hp → VK → Prop} {pr : List D → Option RV}
theorem sim_callB (hc : CallR X (.builtin id) r) (hp : PN B.W r pr) (hm : X.mg x = none) (hg : Gl X x) (hv : bootBuiltins x = some (.builtin id)) (ha : PA X (e :: es) (rdA B ms)) (hn : x ≠ "__name__" := by decide) (hdb : (x == ("__debug__" : Str)) = false := by decide)
    (he : starEach (e :: es) X.env = (false, eval e X.env) :: starEach es X.env := by rfl) (hpl : (backTo pos (starEach es X.env)).any (·.1) = false := by rfl) : PE X (.Call (.Name x p) (e :: es) [] pos) (rdE B (mPrim pr ms)) :=
  (pe_callB hc hg hm hv ha hn hdb he hpl).imp fun σ H Q h => mPrim_rd hp h
theorem sim_callTy (hc : CallR X (.type T) r) (hp : PN B.W r pr) (hm : X.mg x = none) (hg : Gl X x) (hv : bootBuiltins x = some (.type T)) (ha : PA X (e :: es) (rdA B ms)) (hn : x ≠ "__name__" := by decide) (hdb : (x == ("__debug__" : Str)) = false := by decide)
    (he : starEach (e :: es) X.env = (false, eval e X.env) :: starEach es X.env := by rfl) (hpl : (backTo pos (starEach es X.env)).any (·.1) = false := by rfl) : PE X (.Call (.Name x p) (e :: es) [] pos) (rdE B (mPrim pr ms)) :=
  (pe_callTy hc hg hm hv ha hn hdb he hpl).imp fun σ H Q h => mPrim_rd hp h
end

/-! ### methods of built-in types that only read -/
def tyName : D → String
  | .lst _ => "list" | .dic _ => "dict" | .str _ => "str" | _ => ""
structure PM (W : Wd) (r : V → List V → Hp → VK → Prop) (pr : D → List D → Option RV) : Prop where
  ok : ∀ ρ H d v ds vs Q, RepB W ρ H d v → RepBs W ρ H ds vs → PPost W ρ H Q (pr d ds) → r v vs H Q
  np : ∀ d ds, noPl (pr d ds)
def isTy (T : String) (p : PS) (r : RV) : Bool := match get p r with
  | some d => tyName d == T && T != ""
  | none => false
def opM (pr : D → List D → Option RV) (p : PS) (ro : RV) (rs : List RV) : Option ER := match get p ro, gets p rs with
  | some d, some ds => ret p (pr d ds)
  | _, _ => none
def mMeth (T : String) (pr : D → List D → Option RV) (mo : EM) (ms : List EM) : EM := bindE mo fun ro p1 => if isTy T p1 ro then bindA ms (fun rs p => opM pr p ro rs) p1 else none
section
variable {X : Cx} {B : Bd} {o e : Expr} {es : List Expr} {name : Str} {id T : String} {r : V → List V → Hp → VK → Prop} {pr : D → List D → Option RV} {mo : EM} {ms : List EM} {apos cpos : Pos}
end

/-! ### subscripts, slices -/
section
variable {X : Cx} {B : Bd} {a b e : Expr} {ma mb mc : EM} {pos p2 : Pos}
theorem sim_ix {r : R2} {pr : D → D → Option RV} (hr : IxR X r) (hp : P2 B.W r pr) (ha : PE X a (rdE B ma)) (hb : PE X b (rdE B mb)) (hs : PlainIx b := by exact fun _ _ => rfl) : PE X (.Subscript a b pos) (rdE B (mOp pr ma mb)) :=
  (pe_ix hr ha hb hs).imp fun _ _ _ h => mOp_rd hp h
end
/-- a slice's parts: given or left out -/
def mPart : Option EM → EM
  | none => eC .non
  | some m => m
def asPart : Bool → RV → Option (Option Int)
  | false, .sh .non => some none
  | true, .sh (.int i) => some (some i)
  | _, _ => none
def isFr : RV → Bool
  | .fr _ => true | _ => false
structure PSl (W : Wd) (r : V → Option Int → Option Int → Hp → VK → Prop) (pr : D → Option Int → Option Int → Option RV) : Prop where
  ok : ∀ ρ H d v lo hi Q, RepB W ρ H d v → PPost W ρ H Q (pr d lo hi) → r v lo hi H Q
  np : ∀ d lo hi, noPl (pr d lo hi)
def mSl (pr : D → Option Int → Option Int → Option RV) (mo : EM) (lo hi : Option EM) : EM :=
  bindE mo fun ro p0 => if isFr ro then none else bindE (mPart lo) (fun rl p1 => match asPart lo.isSome rl with
    | none => none
    | some l => bindE (mPart hi) (fun rh p => match get p ro, asPart hi.isSome rh with
      | some d, some h => ret p (pr d l h)
      | _, _ => none) p1) p0
structure SimO (X : Cx) (B : Bd) (e : Option Expr) (m : Option EM) : Prop where
  ok : (e = none ∧ m = none) ∨ ∃ e' m', e = some e' ∧ m = some m' ∧ PE X e' (rdE B m')
theorem so_none {X : Cx} {B : Bd} : SimO X B none none := ⟨.inl ⟨rfl, rfl⟩⟩
theorem so_some {X : Cx} {B : Bd} {e : Expr} {m : EM} (h : PE X e (rdE B m)) : SimO X B (some e) (some m) := ⟨.inr ⟨e, m, rfl, rfl, h⟩⟩
/-- what a part asks -/
def tOf (B : Bd) (m : Option EM) : TO := fun σ H Q => rdE B (mPart m) σ H fun x H1 => (x = .non ∧ m = none ∧ Q none H1) ∨ ∃ i, x = .int i ∧ m ≠ none ∧ Q (some i) H1
theorem po_of {X : Cx} {B : Bd} {e : Option Expr} {m : Option EM} (h : SimO X B e m) : PO X e (tOf B m) := by
  rcases h.ok with ⟨rfl, rfl⟩ | ⟨e', m', rfl, rfl, hp⟩
  · refine ⟨fun pins s σ H Q I q => po_none.run pins s σ H Q I ?_⟩
    have q' : rdE B (eC .non) σ H _ := q
    rcases rdC q' (v := .non) fun ρ => .non with ⟨_, _, z⟩ | ⟨i, z, _⟩
    · exact z
    · cases z
  · refine ⟨fun pins s σ H Q I q => (po_some hp).run pins s σ H Q I ?_⟩
    have q' : rdE B m' σ H _ := q
    obtain ⟨g, p, R, k⟩ := q'
    refine ⟨g, p, R, Post.imp (fun v H1 z => ?_) k⟩
    rcases z with ⟨_, z, _⟩ | ⟨i, z, _, w⟩
    · cases z
    · exact ⟨i, z, w⟩
theorem asPart_rep {B : Bd} {g : Gh} {σ : L2.St} {H : Hp} {p : PS} {r : RV} {v : V} {m : Option EM} {o : Option Int} (h : RepR B g σ H p r v) (e : asPart m.isSome r = some o) {Q : Option Int → Hp → Prop} (q : Q o H) :
    (v = .non ∧ m = none ∧ Q none H) ∨ ∃ i, v = .int i ∧ m ≠ none ∧ Q (some i) H := by
  cases m with
  | none =>
    cases r with
    | sh d =>
      cases d with
      | non => cases e; cases (show Rep _ _ _ _ _ from h); exact .inl ⟨rfl, rfl, q⟩
      | _ => cases e
    | fr d => cases e
    | pl i => cases e
  | some m =>
    cases r with
    | sh d =>
      cases d with
      | int i => cases e; cases (show Rep _ _ _ _ _ from h); exact .inr ⟨_, rfl, (fun z => nomatch z), q⟩
      | _ => cases e
    | fr d => cases e
    | pl i => cases e
end Mi

/-! ## The mirror: statements -/
namespace Mi
open PySem PySem.Spec PyProof.Rows L2 Lamp SlX

inductive SR where
  | next (p : PS) | brk (p : PS) | cont (p : PS) | ret (r : RV) (p : PS) | exc (x : Ex) (st : List D)
abbrev SM := PS → Option SR
def PostS (B : Bd) (g : Gh) (_σ : L2.St) (H : Hp) (N : Ends) : Option SR → Prop
  | none => False
  | some (.next p) => ∀ σ' H' ρ', Rel B ⟨ρ', g.hid⟩ σ' H' p → g.ρ <+: ρ' → Frz H H' → N.nx σ' H'
  | some (.brk p) => ∀ σ' H' ρ', Rel B ⟨ρ', g.hid⟩ σ' H' p → g.ρ <+: ρ' → Frz H H' → N.bk σ' H'
  | some (.cont p) => ∀ σ' H' ρ', Rel B ⟨ρ', g.hid⟩ σ' H' p → g.ρ <+: ρ' → Frz H H' → N.ct σ' H'
  | some (.ret r p) => ∀ v σ' H' ρ', Rel B ⟨ρ', g.hid⟩ σ' H' p → g.ρ <+: ρ' → Frz H H' → RepR B ⟨ρ', g.hid⟩ σ' H' p r v → N.rt v H'
  | some (.exc x st) => ExcAt B x st
def rdS (B : Bd) (m : SM) : TS := fun N σ H => ∃ g p, Rel B g σ H p ∧ PostS B g σ H N (m p)
theorem _root_.L2.PS.imp {X : Cx} {e : Stmt} {t t' : TS} (h : L2.PS X e t) (i : ∀ N σ H, t' N σ H → t N σ H) : L2.PS X e t' := ⟨fun pins s σ H N I q => h.run pins s σ H N I (i N σ H q)⟩
theorem _root_.L2.PSs.imp {X : Cx} {e : List Stmt} {t t' : TS} (h : PSs X e t) (i : ∀ N σ H, t' N σ H → t N σ H) : PSs X e t' := ⟨fun pins s σ H N I q => h.run pins s σ H N I (i N σ H q)⟩
theorem _root_.L2.PG.imp {X : Cx} {e : Expr} {t t' : TG} (h : PG X e t) (i : ∀ v σ H Q, t' v σ H Q → t v σ H Q) : PG X e t' := ⟨fun pins s σ H v u Q I r q => h.run pins s σ H v u Q I r (i v σ H Q q)⟩
theorem _root_.L2.PGs.imp {X : Cx} {e : List Expr} {t t' : TGs} (h : PGs X e t) (i : ∀ v σ H Q, t' v σ H Q → t v σ H Q) : PGs X e t' := ⟨fun pins s σ H v u Q I r q => h.run pins s σ H v u Q I r (i v σ H Q q)⟩
section
variable {B : Bd} {g : Gh} {σ σ' : L2.St} {H H' : Hp} {p p' : PS} {ρ' : List Addr} {N N' : Ends}
theorem PostS.later {r : Option SR} (q : g.ρ <+: ρ') (f : Frz H H') (h : PostS B g σ H N r) : PostS B ⟨ρ', g.hid⟩ σ' H' N r := by
  cases r with
  | none => exact h
  | some r =>
    cases r with
    | next p => exact fun σ2 H2 ρ2 R q2 f2 => h σ2 H2 ρ2 R (q.trans q2) (f.trans f2)
    | brk p => exact fun σ2 H2 ρ2 R q2 f2 => h σ2 H2 ρ2 R (q.trans q2) (f.trans f2)
    | cont p => exact fun σ2 H2 ρ2 R q2 f2 => h σ2 H2 ρ2 R (q.trans q2) (f.trans f2)
    | ret r p => exact fun v σ2 H2 ρ2 R q2 f2 a => h v σ2 H2 ρ2 R (q.trans q2) (f.trans f2) a
    | exc x st => exact h
end
/-- a statement made of an expression's value -/
def bindS (m : EM) (k : RV → PS → Option SR) : SM := fun p => match m p with
  | none => none
  | some (.val r p') => k r p'
  | some (.exc x st) => some (.exc x st)
theorem bindS_rd {B : Bd} {m : EM} {k : RV → PS → Option SR} {σ : L2.St} {H : Hp} {N : Ends} (h : rdS B (bindS m k) N σ H) {Q' : VK}
    (i : ∀ g p' r v H', Rel B g σ H' p' → RepR B g σ H' p' r v → PostS B g σ H' N (k r p') → Q' v H') : rdE B m σ H Q' := by
  obtain ⟨g, p, R, hp⟩ := h
  refine ⟨g, p, R, ?_⟩
  unfold bindS at hp
  cases e : m p with
  | none => rw [e] at hp; exact hp
  | some r =>
    rw [e] at hp
    cases r with
    | val r p' => exact fun v H' ρ' R' q f rr => i ⟨ρ', g.hid⟩ p' r v H' R' rr (PostS.later q f hp)
    | exc x st => exact hp
def sSeq (a b : SM) : SM := fun p => match a p with
  | some (.next p') => b p'
  | r => r
def sNil : SM := fun p => some (.next p)
def sIf (c : EM) (a b : SM) : SM := bindS c fun r p => match asB p r with
  | some true => a p
  | some false => b p
  | none => none
def sExpr (m : EM) : SM := bindS m fun _ p => some (.next p)
def sRet (m : EM) : SM := bindS m fun r p => match r with
  | .pl _ => none
  | r => some (.ret r p)
def sRetN : SM := fun p => some (.ret (.sh .non) p)
/-! ### targets -/
abbrev GM := RV → PS → Option PS
/-- a name may be stored, unless a loop walks what it holds -/
def openAt (p : PS) (i : Nat) : Bool := match p.env[i]? with
  | some (.lk _) => false | some (.lz _) => false | some (.self _ _ _) => false | _ => true
def gNm (i : Nat) : GM := fun r p => if openAt p i then match r with
    | .sh d => some { p with env := p.env.set i (.sh d) }
    | .fr d => some { p with env := p.env.set i (.ow d) }
    | .pl _ => none
  else none
/-- the slots at ts alone have been stored -/
def Touch (ts : List Nat) (σ σ' : L2.St) : Prop := ∀ vs : List Nat, (∀ i ∈ ts, i ∈ vs) → wipe σ' vs = wipe σ vs
theorem wipe_set {σ : L2.St} {i : Nat} {x : Option V} : ∀ {vs : List Nat}, i ∈ vs → wipe (σ.set i x) vs = wipe σ vs
  | v :: vs, h => by
    show (wipe (σ.set i x) vs).set v none = (wipe σ vs).set v none
    by_cases m : i ∈ vs
    · rw [wipe_set m]
    · have e : i = v := (List.mem_cons.mp h).resolve_right m
      subst e
      have key : ∀ {ws : List Nat} {τ : L2.St}, i ∉ ws → wipe (τ.set i x) ws = (wipe τ ws).set i x := by
        intro ws
        induction ws with
        | nil => intro τ _; rfl
        | cons w ws ih =>
          intro τ hn
          show (wipe (τ.set i x) ws).set w none = ((wipe τ ws).set w none).set i x
          rw [ih fun z => hn (List.mem_cons_of_mem _ z), List.set_comm]
          exact fun z => hn (by rw [z]; exact List.mem_cons_self)
      rw [key m, List.set_set]
theorem Touch.set {σ : L2.St} {i : Nat} {x : Option V} : Touch [i] σ (σ.set i x) := fun vs h => wipe_set (h i (List.mem_singleton.mpr rfl))
theorem Touch.refl {σ : L2.St} {ts : List Nat} : Touch ts σ σ := fun _ _ => rfl
theorem Touch.trans {σ σ1 σ2 : L2.St} {ts us : List Nat} (a : Touch ts σ σ1) (b : Touch us σ1 σ2) : Touch (ts ++ us) σ σ2 := fun vs h => (b vs fun i m => h i (List.mem_append_right _ m)).trans (a vs fun i m => h i (List.mem_append_left _ m))
def PostG (B : Bd) (ts : List Nat) (g : Gh) (σ : L2.St) (H : Hp) (Q : L2.St → Hp → Prop) : Option PS → Prop
  | none => False
  | some p => ∀ σ' H' ρ', Touch ts σ σ' → Rel B ⟨ρ', g.hid⟩ σ' H' p → g.ρ <+: ρ' → Frz H H' → Q σ' H'
def rdG (B : Bd) (ts : List Nat) (m : GM) : TG := fun v σ H Q => ∃ g p r, Rel B g σ H p ∧ RepR B g σ H p r v ∧ PostG B ts g σ H Q (m r p)
def gAll : List GM → List D → PS → Option PS
  | [], [], p => some p
  | m :: ms, d :: ds, p => match m (.sh d) p with
    | some p1 => gAll ms ds p1
    | none => none
  | _, _, _ => none
def rdGs (B : Bd) (ts : List Nat) (ms : List GM) : TGs := fun vs σ H Q => ∃ g p ds, Rel B g σ H p ∧ Reps B.W g.ρ H ds vs ∧ PostG B ts g σ H Q (gAll ms ds p)
def gTp (ms : List GM) : GM := fun r p => match r with
  | .sh (.tup ds) => if ds.length = ms.length then gAll ms ds p else none
  | .sh (.lst ds) => if ds.length = ms.length then gAll ms ds p else none
  | .sh (.pr ds) => if ds.length = ms.length then gAll ms ds p else none
  | _ => none
section
variable {B : Bd} {g : Gh} {σ σ' : L2.St} {H H' : Hp} {p p' : PS} {ρ' : List Addr} {Q : L2.St → Hp → Prop}
theorem PostG.later {ts us : List Nat} {r : Option PS} (t : Touch us σ σ') (q : g.ρ <+: ρ') (f : Frz H H') (h : PostG B (us ++ ts) g σ H Q r) : PostG B ts ⟨ρ', g.hid⟩ σ' H' Q r := by
  cases r with
  | none => exact h
  | some p => exact fun σ2 H2 ρ2 t2 R q2 f2 => h σ2 H2 ρ2 (t.trans t2) R (q.trans q2) (f.trans f2)
/-- storing a value at a slot -/
theorem Rel.bindTo (R : Rel B g σ H p) {i : Nat} {r : RV} {v : V} (a : RepR B g σ H p r v) (e : gNm i r p = some p') : Rel B g (σ.set i (some v)) H p' := by
  unfold gNm at e
  split at e
  · cases r with
    | sh d =>
      cases e
      exact R.store rfl fun hl => ⟨v, by rw [List.getElem?_set_self hl], a⟩
    | fr d =>
      cases e
      obtain ⟨ad, rfl, o, n1, n2, n3, n4⟩ := a
      exact R.storeO ⟨n1, n2, n3, n4⟩ fun hl => ⟨ad, by rw [List.getElem?_set_self hl], o⟩
    | pl j => cases e
  · cases e
theorem gAll_cons {ts us : List Nat} {m : GM} {ms : List GM} {d : D} {ds : List D} {v : V} {vs : List V} (R : Rel B g σ H p) (hd : Rep B.W g.ρ H d v) (ht : Reps B.W g.ρ H ds vs) (k : PostG B (us ++ ts) g σ H Q (gAll (m :: ms) (d :: ds) p)) :
    rdG B us m v σ H fun σ' H' => rdGs B ts ms vs σ' H' Q := by
  refine ⟨g, p, .sh d, R, hd, ?_⟩
  unfold gAll at k
  cases e : m (.sh d) p with
  | none => simp only [e] at k; exact k
  | some p1 =>
    simp only [e] at k
    exact fun σ1 H1 ρ1 t1 R1 q1 f1 => ⟨⟨ρ1, g.hid⟩, p1, ds, R1, ht.mono f1 q1, PostG.later t1 q1 f1 k⟩
end
section
variable {X : Cx} {B : Bd} {e : Expr} {es : List Expr} {pos : Pos}
theorem simg_name (i : Nat) {x : Str} (hN : X.N.Nodup) (hi : X.N[i]? = some x) (hx : Loc X.env.scope x) (hf : X.fn x = true ∨ X.env.scope.names.lookup x = some .local := by first | exact .inl rfl | exact .inr rfl | assumption) : PG X (.Name x pos) (rdG B [i] (gNm i)) :=
  (pg_name hN hi hx hf).imp fun v σ H Q h => by
    obtain ⟨g, p, r, R, a, k⟩ := h
    cases e : gNm i r p with
    | none => rw [e] at k; exact k.elim
    | some p' => rw [e] at k; exact k _ H g.ρ Touch.set (R.bindTo a e) (List.prefix_refl _) (Frz.refl H)
theorem simg_nil : PGs X [] (rdGs B [] []) := pgs_nil.imp fun vs σ H Q h => by
  obtain ⟨g, p, ds, R, a, k⟩ := h
  cases a with
  | nil => exact ⟨rfl, k σ H g.ρ Touch.refl R (List.prefix_refl _) (Frz.refl H)⟩
  | cons _ _ => exact k.elim
theorem simg_cons {ts us : List Nat} {m : GM} {ms : List GM} (h1 : PG X e (rdG B us m)) (h2 : PGs X es (rdGs B ts ms)) (hs : (assignEach (e :: es) X.env).map (·.2) = assign e X.env :: (assignEach es X.env).map (·.2) := by rfl) : PGs X (e :: es) (rdGs B (us ++ ts) (m :: ms)) :=
  (pgs_cons h1 h2 hs).imp fun vs σ H Q h => by
    obtain ⟨g, p, ds, R, a, k⟩ := h
    cases a with
    | nil => exact k.elim
    | cons hd ht => exact ⟨_, _, rfl, gAll_cons R hd ht k⟩
theorem simg_tup {ts : List Nat} {ms : List GM} {n : Nat} {kk : Nat} (hK : X.K = B.W.K) (hc : X.calm = true) (h : PGs X es (rdGs B ts ms)) (hl : ms.length = n) (hn : (assignEach es X.env).length = n := by rfl) (hst : (assignEach es X.env).findIdx? (·.1) = none := by rfl) : PG X (.Tuple es kk pos) (rdG B ts (gTp ms)) := by
  refine ⟨fun pins s σ H v u Q I r q => ?_⟩
  obtain ⟨g, p, rv, R, a, k⟩ := q
  cases rv with
  | fr d => exact k.elim
  | pl i => exact k.elim
  | sh d =>
    have a' : Rep B.W g.ρ H d v := a
    cases d with
    | tup ds =>
      cases a' with
      | tup ht rr =>
        refine (pg_tup hc h hn hst).run pins s σ H _ u Q I r ⟨_, _, rfl, ht.seq, ?_, ?_⟩
        · unfold gTp at k
          by_cases c : ds.length = ms.length
          · rw [← rr.len, c, hl]
          · simp only [c, if_false] at k; exact k.elim
        · unfold gTp at k
          by_cases c : ds.length = ms.length
          · simp only [c, if_true] at k; exact ⟨g, p, ds, R, rr, k⟩
          · simp only [c, if_false] at k; exact k.elim
    | lst ds =>
      cases a' with
      | lst ht rr =>
        refine (pg_unl hc h hn hst).run pins s σ H _ u Q I r ⟨_, _, rfl, .inl (.inr ⟨_, ht⟩), ?_, ?_⟩
        · unfold gTp at k
          by_cases c : ds.length = ms.length
          · rw [← rr.len, c, hl]
          · simp only [c, if_false] at k; exact k.elim
        · unfold gTp at k
          by_cases c : ds.length = ms.length
          · simp only [c, if_true] at k; exact ⟨g, p, ds, R, rr, k⟩
          · simp only [c, if_false] at k; exact k.elim
    | pr ds =>
      cases a' with
      | pr ht rr =>
        refine (pg_tup hc h hn hst).run pins s σ H _ u Q I r ⟨_, _, rfl, SqT.of ht, ?_, ?_⟩
        · unfold gTp at k
          by_cases c : ds.length = ms.length
          · rw [← rr.len, c, hl]
          · simp only [c, if_false] at k; exact k.elim
        · unfold gTp at k
          by_cases c : ds.length = ms.length
          · simp only [c, if_true] at k; exact ⟨g, p, ds, R, rr, k⟩
          · simp only [c, if_false] at k; exact k.elim
    | _ => exact k.elim
end
/-- target = value -/
def sAsg (m : EM) (gm : GM) : SM := bindS m fun r p => match gm r p with
  | some p' => some (.next p')
  | none => none
section
variable {X : Cx} {B : Bd} {st : Stmt} {rest : List Stmt} {a b : List Stmt} {e c tg : Expr} {m mc : EM} {ma mb : SM} {gm : GM} {pos : Pos}
theorem sAsg_rd {ts : List Nat} {σ : L2.St} {H : Hp} {N : Ends} (h : rdS B (sAsg m gm) N σ H) : tAsg (rdE B m) (rdG B ts gm) N σ H := by
  refine bindS_rd (N := N) h fun g p r v H1 R a k => ⟨g, p, r, R, a, ?_⟩
  cases e : gm r p with
  | none => rw [e] at k; exact k
  | some p' => rw [e] at k; exact fun σ' H' ρ' _ R q f => k σ' H' ρ' R q f
theorem sims_nil : PSs X [] (rdS B sNil) := pss_nil.imp fun N σ H h => by
  obtain ⟨g, p, R, k⟩ := h
  exact k σ H g.ρ R (List.prefix_refl _) (Frz.refl H)
theorem sims_one (h : L2.PS X st (rdS B ma)) : PSs X [st] (rdS B ma) := pss_one h
theorem sims_cons (h1 : L2.PS X st (rdS B ma)) (h2 : PSs X rest (rdS B mb)) : PSs X (st :: rest) (rdS B (sSeq ma mb)) :=
  (pss_cons h1 h2).imp fun N σ H h => by
    obtain ⟨g, p, R, k⟩ := h
    refine ⟨g, p, R, ?_⟩
    unfold sSeq at k
    cases e : ma p with
    | none => rw [e] at k; exact k
    | some r =>
      rw [e] at k
      cases r with
      | next p1 => exact fun σ1 H1 ρ1 R1 q1 f1 => ⟨⟨ρ1, g.hid⟩, p1, R1, PostS.later q1 f1 k⟩
      | brk p1 => exact k
      | cont p1 => exact k
      | ret r p1 => exact k
      | exc x st => exact k
theorem sims_set (i : Nat) {x : Str} {pos' : Pos} (hN : X.N.Nodup) (hi : X.N[i]? = some x) (hx : Loc X.env.scope x) (he : PE X e (rdE B m)) (hs : swapsWith e (some (.Name x pos')) pos.line X.env = pure false := by rfl) (hf : X.fn x = true ∨ X.env.scope.names.lookup x = some .local := by first | exact .inl rfl | exact .inr rfl | assumption) :
    L2.PS X (.Assign [.Name x pos'] e pos) (rdS B (sAsg m (gNm i))) :=
  (ps_set hN hi hx he hs hf).imp fun N σ H h => by
    obtain ⟨g, p, R, k⟩ := sAsg_rd (ts := [i]) h
    refine ⟨g, p, R, Post.imp (fun v H1 z => ?_) k⟩
    obtain ⟨g, p, r, R, a, k⟩ := z
    cases e : gNm i r p with
    | none => rw [e] at k; exact k.elim
    | some p' => rw [e] at k; exact k _ H1 g.ρ Touch.set (R.bindTo a e) (List.prefix_refl _) (Frz.refl H1)
theorem sims_asg {ts : List Nat} (he : PE X e (rdE B m)) (hg : PG X tg (rdG B ts gm)) (hs : swapsWithSole [tg] e pos.line X.env = pure false := by rfl) (hw : swappedStores [tg] e X.env = pure none := by rfl)
    (h1 : (assignEach [tg] X.env).map (·.2) = [assign tg X.env] := by rfl) : L2.PS X (.Assign [tg] e pos) (rdS B (sAsg m gm)) :=
  (ps_asg he hg hs hw h1).imp fun N σ H h => sAsg_rd h
theorem sims_ret (he : PE X e (rdE B m)) : L2.PS X (.Return (some e) pos) (rdS B (sRet m)) :=
  (ps_ret he).imp fun N σ H h => bindS_rd (N := N) h fun g p r v H1 R a k => by
    cases r with
    | pl i => exact k.elim
    | sh d => exact k v σ H1 g.ρ R (List.prefix_refl _) (Frz.refl H1) a
    | fr d => exact k v σ H1 g.ρ R (List.prefix_refl _) (Frz.refl H1) a
theorem sims_if (hc : PT X c (rdT B mc)) (ha : PSs X a (rdS B ma)) (hb : PSs X b (rdS B mb)) : L2.PS X (.If c a b pos) (rdS B (sIf mc ma mb)) :=
  (ps_if hc ha hb).imp fun N σ H h => bindS_rd (N := N) h fun g p r v H1 R a k => by
    cases e : asB p r with
    | none => rw [e] at k; exact k.elim
    | some b =>
      rw [e] at k
      refine ⟨b, asB_rep a e, ?_⟩
      cases b with
      | true => exact ⟨g, p, R, k⟩
      | false => exact ⟨g, p, R, k⟩
end

/-! ### loops -/
section
variable {X : Cx} {B : Bd} {c : Expr} {body : List Stmt} {mc : EM} {mb : SM} {pos : Pos}
end

/-- a for over items; chk: what must hold ahead of each turn (the thing walked is still locked) -/
def forL (gm : GM) (b : SM) (chk : PS → Bool) : List D → SM
  | [] => fun p => if chk p then some (.next p) else none
  | d :: ds => fun p => if chk p then match gm (.sh d) p with
      | some p1 => match b p1 with
        | some (.next p2) => forL gm b chk ds p2
        | some (.cont p2) => forL gm b chk ds p2
        | some (.brk p2) => some (.next p2)
        | r => r
      | none => none
    else none
/-- what an iterator yields, as items -/
structure SrcOk (B : Bd) (hid : List (Addr × HO)) (ρ0 : List Addr) (H0 : Hp) (chk : PS → Bool) (J : It) (ds : List D) : Prop where
  stop : ∀ ρ σ H p, Rel B ⟨ρ, hid⟩ σ H p → ρ0 <+: ρ → Frz H0 H → chk p = true → J.stop ds.length H
  go : ∀ (i : Nat) d ρ σ H p, ds[i]? = some d → Rel B ⟨ρ, hid⟩ σ H p → ρ0 <+: ρ → Frz H0 H → chk p = true → J.go i H ∧ ∀ x H', J.yld i H x H' → Same H H' ∧ Rep B.W ρ H' d x
theorem for_post {ts : List Nat} {B : Bd} {g : Gh} {σ : L2.St} {H : Hp} {p : PS} {N : Ends} {J : It} {ds : List D} {gm : GM} {mb : SM} {chk : PS → Bool} (S : SrcOk B g.hid g.ρ H chk J ds) (R : Rel B g σ H p) (k : PostS B g σ H N (forL gm mb chk ds p)) :
    ∃ W : Nat → Nat → L2.St → Hp → Prop, (∃ m, W 0 m σ H) ∧ ∀ i m σ H, W i m σ H →
      (J.stop i H ∧ N.nx σ H) ∨ (J.go i H ∧ ∃ N2 : L2.St → Hp → Prop, (∀ σ' H', N2 σ' H' → ∃ m', m' < m ∧ W (i + 1) m' σ' H') ∧ ∀ x H', J.yld i H x H' → rdG B ts gm x σ H' fun σ2 H2 => rdS B mb { N with nx := N2, ct := N2, bk := N.nx } σ2 H2) := by
  refine ⟨fun i m σ' H' => ∃ ρ' p' es, ds = es ++ ds.drop i ∧ es.length = i ∧ m = ds.length - i ∧ Rel B ⟨ρ', g.hid⟩ σ' H' p' ∧ g.ρ <+: ρ' ∧ Frz H H' ∧ PostS B ⟨ρ', g.hid⟩ σ' H' N (forL gm mb chk (ds.drop i) p'), ⟨_, g.ρ, p, [], rfl, rfl, rfl, R, List.prefix_refl _, Frz.refl H, k⟩, ?_⟩
  rintro i m σ1 H1 ⟨ρ1, p1, es, e1, e2, rfl, R1, q1, f1, k1⟩
  cases e : ds.drop i with
  | nil =>
    rw [e] at k1 e1
    have hi : i = ds.length := by rw [← e2, e1]; simp
    unfold forL at k1
    by_cases c : chk p1 = true
    · simp only [c, if_true] at k1
      refine .inl ⟨?_, k1 σ1 H1 ρ1 R1 (List.prefix_refl _) (Frz.refl _)⟩
      rw [hi]
      exact S.stop ρ1 σ1 H1 p1 R1 q1 f1 c
    · simp only [c] at k1
      exact k1.elim
  | cons d r =>
    rw [e] at k1
    have hd : ds[i]? = some d := by
      have : (ds.drop i)[0]? = some d := by rw [e]; rfl
      rw [List.getElem?_drop] at this
      simpa using this
    have hr : ds.drop (i + 1) = r := by
      rw [← List.drop_drop, e]
      rfl
    have hlt : i < ds.length := (List.getElem?_eq_some_iff.mp hd).1
    unfold forL at k1
    by_cases c : chk p1 = true
    · simp only [c, if_true] at k1
      obtain ⟨g1, g2⟩ := S.go i d ρ1 σ1 H1 p1 hd R1 q1 f1 c
      refine .inr ⟨g1, fun σ' H' => ∃ ρ' p', Rel B ⟨ρ', g.hid⟩ σ' H' p' ∧ g.ρ <+: ρ' ∧ Frz H H' ∧ PostS B ⟨ρ', g.hid⟩ σ' H' N (forL gm mb chk r p'), ?_, fun x H' y => ?_⟩
      · rintro σ' H' ⟨ρ', p', R', q', f', k'⟩
        refine ⟨ds.length - (i + 1), by omega, ρ', p', es ++ [d], ?_, by rw [List.length_append, e2]; rfl, rfl, R', q', f', by rw [hr]; exact k'⟩
        rw [hr, List.append_assoc]
        show ds = es ++ (d :: r)
        rw [← e]
        exact e1
      · obtain ⟨s, rr⟩ := g2 x H' y
        refine ⟨⟨ρ1, g.hid⟩, p1, .sh d, R1.same s, rr, ?_⟩
        cases e3 : gm (.sh d) p1 with
        | none => simp only [e3] at k1; exact k1
        | some p2 =>
          simp only [e3] at k1
          refine fun σ2 H2 ρ2 _ R2 q2 f2 => ⟨⟨ρ2, g.hid⟩, p2, R2, ?_⟩
          have F2 : Frz H1 H2 := (Frz.of s).trans f2
          cases e4 : mb p2 with
          | none => simp only [e4] at k1; exact k1
          | some z =>
            cases z with
            | next p3 => simp only [e4] at k1; exact fun σ3 H3 ρ3 R3 q3 f3 => ⟨ρ3, p3, R3, (q1.trans q2).trans q3, (f1.trans F2).trans f3, PostS.later (g := ⟨ρ1, g.hid⟩) (ρ' := ρ3) (q2.trans q3) (F2.trans f3) k1⟩
            | cont p3 => simp only [e4] at k1; exact fun σ3 H3 ρ3 R3 q3 f3 => ⟨ρ3, p3, R3, (q1.trans q2).trans q3, (f1.trans F2).trans f3, PostS.later (g := ⟨ρ1, g.hid⟩) (ρ' := ρ3) (q2.trans q3) (F2.trans f3) k1⟩
            | brk p3 => simp only [e4] at k1; exact fun σ3 H3 ρ3 R3 q3 f3 => k1 σ3 H3 ρ3 R3 (q2.trans q3) (F2.trans f3)
            | ret rr p3 => simp only [e4] at k1; exact fun v σ3 H3 ρ3 R3 q3 f3 => k1 v σ3 H3 ρ3 R3 (q2.trans q3) (F2.trans f3)
            | exc x st => simp only [e4] at k1; exact k1
    · simp only [c] at k1
      exact k1.elim
end Mi

/-! ## The mirror: defs and their calls -/
namespace Mi
open PySem PySem.Spec PyProof.Rows L2 Lamp SlX

inductive FR where
  | ret (r : RV) (st : List D) | exc (x : Ex) (st : List D)
/-- what a def computes: from its arguments and the changeable things -/
abbrev Fn := List D → List D → Option FR

/-- the changeable things stand -/
structure Cells (W : Wd) (ρ : List Addr) (H : Hp) (st : List D) : Prop where
  at_ : ∀ (n : Nat) (d : D), st[n]? = some d → ∃ a, ρ[n]? = some a ∧ Cel W ρ H d a
  len : st.length = ρ.length
  nd : ρ.Nodup
/-- from one state to a later one: what stood stands, but for the changeable things; there may be new ones of these -/
structure Later (ρ ρ' : List Addr) (H H' : Hp) : Prop where
  pre : ρ <+: ρ'
  new : ∀ (n : Nat) (a : Addr), ρ'[n]? = some a → ρ.length ≤ n → H a = none
  keep : ∀ b o, H b = some o → b ∉ ρ → H' b = some o
theorem Cells.mut {W : Wd} {ρ : List Addr} {H : Hp} {st : List D} (c : Cells W ρ H st) {a : Addr} (h : a ∈ ρ) : ∃ u, H a = some u ∧ ¬ Per u := by
  obtain ⟨n, hn, e⟩ := List.mem_iff_getElem.mp h
  have hn' : n < st.length := by rw [c.len]; exact hn
  obtain ⟨b, e1, e2⟩ := c.at_ n _ (List.getElem?_eq_getElem hn')
  rw [List.getElem?_eq_getElem hn, e] at e1
  cases e1
  exact e2.at_
theorem Later.frz {W : Wd} {ρ ρ' : List Addr} {H H' : Hp} {st : List D} (c : Cells W ρ H st) (l : Later ρ ρ' H H') : Frz H H' := fun b o h p => l.keep b o h fun m => by
  obtain ⟨u, e, mu⟩ := c.mut m
  rw [h] at e
  cases e
  exact mu p
def FPost (W : Wd) (ρ : List Addr) (H : Hp) (Q : VK) (E : XK) : Option FR → Prop
  | none => False
  | some (.ret (.sh d) st) => ∀ v H' ρ', Later ρ ρ' H H' → Cells W ρ' H' st → Rep W ρ' H' d v → Q v H'
  | some (.ret (.fr d) st) => ∀ a H' ρ', Later ρ ρ' H H' → Cells W ρ' H' st → Own W ρ' H' d a → H a = none → a ∉ ρ' → Q (.ref a) H'
  | some (.ret (.pl _) _) => False
  | some (.exc x st) => ExcAt ⟨W, H, ρ, E⟩ x st
def fnSp (W : Wd) (n : Nat) (f : Fn) : Sp := fun vs H Q E => ∃ ρ ds st, Cells W ρ H st ∧ Reps W ρ H ds vs ∧ ds.length = n ∧ FPost W ρ H Q E (f ds st)
theorem fnSp_len {W : Wd} {n : Nat} {f : Fn} {vs : List V} {H : Hp} {Q : VK} {E : XK} (h : fnSp W n f vs H Q E) : vs.length = n := by
  obtain ⟨ρ, ds, st, c, r, l, _⟩ := h
  rw [← r.len, l]

def shs : List RV → Option (List D)
  | [] => some []
  | .sh d :: rs => match shs rs with
    | some ds => some (d :: ds)
    | none => none
  | _ => none
theorem shs_eq : ∀ {rs : List RV} {ds : List D}, shs rs = some ds → rs = ds.map RV.sh
  | [], ds, e => by cases e; rfl
  | .sh d :: rs, ds, e => by
    unfold shs at e
    cases e1 : shs rs with
    | none => rw [e1] at e; cases e
    | some ds' =>
      rw [e1] at e
      cases e
      rw [List.map_cons, ← shs_eq e1]
  | .fr d :: rs, ds, e => by cases e
  | .pl i :: rs, ds, e => by cases e
def backF (p : PS) : Option FR → Option ER
  | none => none
  | some (.ret (.sh d) st) => some (.val (.sh d) { p with st := st })
  | some (.ret (.fr d) st) => some (.val (.fr d) { p with st := st })
  | some (.ret (.pl _) _) => none
  | some (.exc x st) => some (.exc x st)
def callF (f : Fn) (p : PS) (rs : List RV) : Option ER := match shs rs with
  | some ds => backF p (f ds p.st)
  | none => none
def mCall (f : Fn) (ms : List EM) : EM := bindA ms fun rs p => callF f p rs
section
variable {B : Bd} {g : Gh} {σ : L2.St} {H H' : Hp} {p : PS} {ρ' : List Addr} {Q : VK}
theorem Rel.cells (R : Rel B g σ H p) : Cells B.W g.ρ H p.st := ⟨R.cel, R.cln, R.cnd⟩
theorem Rel.notC (R : Rel B g σ H p) {b : Addr} {o : HO} (e : B.H0 b = some o) (n : b ∉ B.ρ0) : b ∉ g.ρ := fun m => by
  obtain ⟨k, hk, e1⟩ := List.mem_iff_getElem.mp m
  have e2 : g.ρ[k]? = some b := by rw [List.getElem?_eq_getElem hk, e1]
  rcases Nat.lt_or_ge k B.ρ0.length with c | c
  · obtain ⟨t, ht⟩ := R.pre
    rw [← ht, List.getElem?_append_left c] at e2
    exact n (List.mem_of_getElem? e2)
  · rw [R.cnw k b e2 c] at e
    cases e
/-- behind a call -/
theorem Rel.called (R : Rel B g σ H p) (l : Later g.ρ ρ' H H') {st : List D} (c : Cells B.W ρ' H' st) : Rel B ⟨ρ', g.hid⟩ σ H' { p with st := st } := by
  have f : Frz H H' := l.frz R.cells
  have k : ∀ {b : Addr} {u : HO}, b ∉ g.ρ → H b = some u → H' b = some u := fun n e => l.keep _ _ e n
  have nw : ∀ {a : Addr} {u : HO}, a ∈ ρ' → a ∉ g.ρ → H a = some u → False := fun {a u} m n e => by
    obtain ⟨j, hj, e1⟩ := List.mem_iff_getElem.mp m
    have e2 : ρ'[j]? = some a := by rw [List.getElem?_eq_getElem hj, e1]
    rcases Nat.lt_or_ge j g.ρ.length with c | c
    · obtain ⟨t, ht⟩ := l.pre
      rw [← ht, List.getElem?_append_left c] at e2
      exact n (List.mem_of_getElem? e2)
    · rw [l.new j a e2 c] at e
      cases e
  have ow : ∀ {a : Addr} {i : Nat}, OwnAt { p with st := st } σ a i → OwnAt p σ a i := fun h => h
  refine ⟨fun i s e => (R.slot i s e).mono f l.pre fun a o e1 u h => k (R.new i a ⟨s, e, o, e1⟩).1 h, fun i j a x y => R.dis i j a x y, fun i a x => ?_, c.at_, c.len, c.nd, R.pre.trans l.pre, fun n a e le => ?_, fun x h => ?_, R.hnd, fun b o e n => k (R.notC e n) (R.keep b o e n), R.len⟩
  · obtain ⟨n1, n2, n3⟩ := R.new i a x
    obtain ⟨u, hu⟩ := R.there (ow x)
    exact ⟨fun m => nw m n1 hu, n2, n3⟩
  · rcases Nat.lt_or_ge n g.ρ.length with c | c
    · obtain ⟨t, ht⟩ := l.pre
      rw [← ht, List.getElem?_append_left c] at e
      exact R.cnw n a e le
    · exact (R.free (l.new n a e c)).new
  · obtain ⟨h1, h2, h3, h4⟩ := R.hid x h
    exact ⟨k h3 h1, h2, fun m => nw m h3 h1, h4⟩
theorem ExcAt.into {x : Ex} {st : List D} (R : Rel B g σ H p) (h : ExcAt B x st) : ExcAt ⟨B.W, H, g.ρ, B.E⟩ x st := by
  have nw : ∀ {H' : Hp} {ρ' : List Addr}, g.ρ <+: ρ' → (∀ (n : Nat) (a : Addr), ρ'[n]? = some a → g.ρ.length ≤ n → H a = none) → ∀ (n : Nat) (a : Addr), ρ'[n]? = some a → B.ρ0.length ≤ n → B.H0 a = none := fun {H' ρ'} pr new n a e le => by
    rcases Nat.lt_or_ge n g.ρ.length with c | c
    · obtain ⟨t, ht⟩ := pr
      rw [← ht, List.getElem?_append_left c] at e
      exact R.cnw n a e le
    · exact (R.free (new n a e c)).new
  exact ⟨fun H' ρ' d fs pr nd len cel new keep hd hn hk rr => h.1 H' ρ' d fs (R.pre.trans pr) nd len cel (nw (H' := H') pr new) (fun b o e n => keep b o (R.keep b o e n) (R.notC e n)) hd (R.free hn).new hk rr,
    fun e0 H' ρ' pr nd len cel new keep => h.2 e0 H' ρ' (R.pre.trans pr) nd len cel (nw (H' := H') pr new) (fun b o e n => keep b o (R.keep b o e n) (R.notC e n))⟩
theorem call_sp {n : Nat} {f : Fn} {rs : List RV} {vs : List V} (hn : rs.length = n) (R : Rel B g σ H p) (a : RepRs B g σ H p rs vs) (k : Post B g σ H Q (callF f p rs)) : fnSp B.W n f vs H Q B.E := by
  unfold callF at k
  cases e : shs rs with
  | none => rw [e] at k; exact k.elim
  | some ds =>
    rw [e] at k
    have er := shs_eq e
    refine ⟨g.ρ, ds, p.st, R.cells, a.reps er, by rw [← hn, er, List.length_map], ?_⟩
    simp only at k
    cases e2 : f ds p.st with
    | none => rw [e2] at k; exact k
    | some r =>
      rw [e2] at k
      cases r with
      | exc x st => exact ExcAt.into R k
      | ret r st =>
        cases r with
        | sh d => exact fun v H' ρ' l c rr => k v H' ρ' (R.called l c) l.pre (l.frz R.cells) rr
        | fr d =>
          refine fun ad H' ρ' l c o nn nr => k (.ref ad) H' ρ' (R.called l c) l.pre (l.frz R.cells) ⟨ad, rfl, o, ?_⟩
          have f := R.free nn
          exact ⟨fun i z => f.own i z, nr, f.hid, f.new⟩
        | pl i =>
          -- such a def hands back no place
          exact k.elim
end
end Mi

/-! ## The mirror: a def's promise by its body's mirror; calls by name -/
namespace Mi
open PySem PySem.Spec PyProof.Rows L2 Lamp SlX Gd

abbrev FnM (P : Program) (w : World) (W : Wd) (mg : Str → Option Value) (base : Heap) (k : Nat) (f : Addr) (fd : FuncData) (ps : List Str) (fn : Fn) : Prop :=
  FnG P w W.K mg base (L2.CX P w) k f fd ps (fnSp W ps.length fn)
/-- how a body begins -/
def enter (N : Nat) (ds st : List D) : PS := ⟨ds.map Slot.sh ++ List.replicate (N - ds.length) .no, st⟩
/-- how it ends -/
def leave : Option SR → Option FR
  | some (.ret (.sh d) p) => some (.ret (.sh d) p.st)
  | some (.ret (.fr d) p) => some (.ret (.fr d) p.st)
  | some (.next p) => some (.ret (.sh .non) p.st)
  | some (.exc x st) => some (.exc x st)
  | _ => none
def runFn (N : Nat) (m : SM) : Fn := fun ds st => leave (m (enter N ds st))
theorem reps_at {W : Wd} {ρ : List Addr} {H : Hp} {ds : List D} {vs : List V} (r : Reps W ρ H ds vs) {i : Nat} {s : Slot} (N : List Str) {st : List D} (e : (enter N.length ds st).env[i]? = some s) : s = .no ∨ ∃ d v, s = .sh d ∧ (L2.start N vs)[i]? = some (some v) ∧ Rep W ρ H d v := by
  unfold enter at e
  rcases Nat.lt_or_ge i ds.length with c | c
  · have e' : (ds.map Slot.sh)[i]? = some s := by
      rw [List.getElem?_append_left (by rw [List.length_map]; exact c)] at e
      exact e
    rw [List.getElem?_map, List.getElem?_eq_getElem c] at e'
    cases e'
    obtain ⟨v, hv, rr⟩ := r.get (List.getElem?_eq_getElem c)
    refine .inr ⟨_, v, rfl, ?_, rr⟩
    unfold L2.start
    rw [List.getElem?_append_left (by rw [List.length_map, ← r.len]; exact c), List.getElem?_map, hv]
    rfl
  · left
    rw [List.getElem?_append_right (by rw [List.length_map]; exact c)] at e
    have m := List.mem_of_getElem? e
    exact (List.mem_replicate.mp m).2
theorem rel_start {W : Wd} {ρ : List Addr} {H : Hp} {ds st : List D} {vs : List V} {E : XK} (N : List Str) (c : Cells W ρ H st) (r : Reps W ρ H ds vs) (hl : ds.length ≤ N.length) : Rel ⟨W, H, ρ, E⟩ ⟨ρ, []⟩ (L2.start N vs) H (enter N.length ds st) := by
  have no : ∀ {a : Addr} {i : Nat}, ¬ OwnAt (enter N.length ds st) (L2.start N vs) a i := by
    rintro a i ⟨s, e, o, _⟩
    rcases reps_at r N e with rfl | ⟨d, v, rfl, _⟩
    · cases o
    · cases o
  refine ⟨fun i s e => ?_, fun i j a x _ => (no x).elim, fun i a x => (no x).elim, c.at_, c.len, c.nd, List.prefix_refl _, fun n a e le => ?_, fun x h => (nomatch h), List.nodup_nil, fun b o e _ => e, ?_⟩
  · rcases reps_at r N e with rfl | ⟨d, v, rfl, e1, rr⟩
    · trivial
    · exact ⟨v, e1, rr⟩
  · have hn : n < ρ.length := (List.getElem?_eq_some_iff.mp e).1
    have le' : ρ.length ≤ n := le
    omega
  · unfold enter L2.start
    simp only [List.length_append, List.length_map, List.length_replicate]
    have := r.len
    omega
section
variable {P : Program} {w : World} {W : Wd} {mg : Str → Option Value} {base : Heap} {k : Nat} {f : Addr} {fd : FuncData} {ps : List Str}
/-- behind the body: what the caller is told -/
theorem post_leave {ρ : List Addr} {H : Hp} {Q : VK} {E : XK} {r : Option SR} {σ : L2.St} (h : FPost W ρ H Q E (leave r)) : PostS ⟨W, H, ρ, E⟩ ⟨ρ, []⟩ σ H { nx := fun _ H' => Q .non H', rt := Q } r := by
  have later : ∀ {σ' : L2.St} {H' : Hp} {ρ' : List Addr} {p : PS}, Rel ⟨W, H, ρ, E⟩ ⟨ρ', []⟩ σ' H' p → Later ρ ρ' H H' := fun R => ⟨R.pre, fun n a e le => R.cnw n a e le, fun b o e n => R.keep b o e n⟩
  cases r with
  | none => exact h
  | some r =>
    cases r with
    | next p => exact fun σ' H' ρ' R _ _ => h .non H' ρ' (later R) R.cells .non
    | brk p => exact h.elim
    | cont p => exact h.elim
    | exc x st => exact h
    | ret r p =>
      cases r with
      | sh d => exact fun v σ' H' ρ' R _ _ a => h v H' ρ' (later R) R.cells a
      | fr d =>
        intro v σ' H' ρ' R _ _ a
        obtain ⟨ad, rfl, o, n1, n2, n3, n4⟩ := a
        exact h ad H' ρ' (later R) R.cells o n4 n2
      | pl i => exact h.elim
/-- the rule for a def -/
theorem okM {x qual : Str} {st : Stmt} {N : List Str} {m : SM} (F : Fun W.K x qual st f fd) (S : FnScope N ps (defScope st)) (hN : ps.length ≤ N.length)
    (hbody : ∀ (cdv : Value) (A : Around) (outer : List Env) (s : Shared) (H : Hp) (E : XK) (ρ : List Addr), A.guards = some [] → Room k (A.deeper (envOfC qual (defScope st) s.heap.objs.size f cdv)) →
      PSs (cxOf (L2.CX P w) P w W.K mg base N qual (defScope st) f cdv A outer s H E) (defBody st) (rdS ⟨W, H, ρ, E⟩ m)) :
    FnM P w W mg base (k + 1) f fd ps (runFn N.length m) := by
  refine okG F S (fun vs H Q E h => fnSp_len h) fun cdv A outer s H vs Q E hg hr h => ?_
  obtain ⟨ρ, ds, st', c, r, l, q⟩ := h
  exact ⟨_, hbody cdv A outer s H E ρ hg hr, ⟨ρ, []⟩, _, rel_start N c r (by omega), post_leave q⟩
end
section
variable {X : Cx} {B : Bd} {k : Nat} {f : Addr} {fd : FuncData} {ps : List Str} {fn : Fn} {x : Str} {p pos : Pos} {e : Expr} {es : List Expr} {ms : List EM}
theorem args_len : ∀ {ms : List EM} {p p' : PS} {rs : List RV}, args ms p = some (.vals rs p') → rs.length = ms.length
  | [], p, p', rs, e => by cases e; rfl
  | m :: ms, p, p', rs, e => by
    unfold args at e
    cases e1 : m p with
    | none => rw [e1] at e; cases e
    | some r =>
      rw [e1] at e
      cases r with
      | exc x st => cases e
      | val r p1 =>
        have key : ∀ {rs}, (match args ms p1 with
          | none => none
          | some (.exc x st) => some (.exc x st)
          | some (.vals rs p2) => some (.vals (r :: rs) p2)) = some (AR.vals rs p') → rs.length = (m :: ms).length := fun {rs} h => by
          cases e2 : args ms p1 with
          | none => rw [e2] at h; cases h
          | some w =>
            rw [e2] at h
            cases w with
            | exc x st => cases h
            | vals rs2 p2 =>
              cases h
              rw [List.length_cons, List.length_cons, args_len e2]
        cases r with
        | sh d => exact key e
        | fr d => cases e
        | pl i => exact key e
theorem call_rd {n : Nat} {σ : L2.St} {H : Hp} {Q : VK} (hn : ms.length = n) (h : rdE B (mCall fn ms) σ H Q) : rdA B ms σ H fun vs H1 => fnSp B.W n fn vs H1 Q B.E := by
  obtain ⟨g, p, R, hp⟩ := h
  refine ⟨g, p, R, ?_⟩
  unfold mCall bindA at hp
  cases e : args ms p with
  | none => rw [e] at hp; exact hp
  | some r =>
    rw [e] at hp
    cases r with
    | vals rs p' => exact fun v H' ρ' R' q f rr => call_sp (g := ⟨ρ', g.hid⟩) (by rw [args_len e, hn]) R' rr (Post.later q f hp)
    | exc x st => exact hp
/-- f(e, ..) -/
theorem sim_call (F : FnG X.prog X.w X.K X.mg X.base (L2.CX X.prog X.w) k f fd ps (fnSp B.W ps.length fn)) (hn : ms.length = ps.length) (hgd : X.A.guards = some []) (hr : Room k X.A) (hm : X.mg x = some (.ref f)) (hk : PySem.W.keepIn X.K (.ref f) = true) (hb : Binds X.K fd ps []) (hx : Passes (L2.CX X.prog X.w) X B.E) (hg : Gl X x)
    (ha : PA X (e :: es) (rdA B ms)) (hdb : (x == ("__debug__" : Str)) = false := by decide) (he : starEach (e :: es) X.env = (false, eval e X.env) :: starEach es X.env := by rfl) (hpl : (backTo pos (starEach es X.env)).any (·.1) = false := by rfl) :
    PE X (.Call (.Name x p) (e :: es) [] pos) (rdE B (mCall fn ms)) :=
  (pe_callG F hgd hr hg hm hk hb hx ha hdb he hpl).imp fun σ H Q h => by
    have h1 := call_rd hn h
    obtain ⟨g, p, R, k⟩ := h1
    refine ⟨g, p, R, ?_⟩
    cases e : args ms p with
    | none => rw [e] at k; exact k
    | some r =>
      rw [e] at k
      cases r with
      | exc x st => exact k
      | vals rs p' =>
        refine fun vs H' ρ' R' q f rr => ?_
        show fnSp B.W ps.length fn (vs ++ []) H' Q B.E
        rw [List.append_nil]
        exact k vs H' ρ' R' q f rr
end
end Mi

/-! ## The mirror: what is walked; for -/
namespace Mi
open PySem PySem.Spec PyProof.Rows L2 Lamp SlX

abbrev yes : PS → Bool := fun _ => true
inductive SV where
  | items (ds : List D) (p : PS) | exc (x : Ex) (st : List D)
abbrev IM := PS → Option SV
def PostI (B : Bd) (g : Gh) (σ : L2.St) (H : Hp) (R : It → Hp → Prop) : Option SV → Prop
  | some (.items ds p') => ∀ H' ρ' J, Rel B ⟨ρ', g.hid⟩ σ H' p' → g.ρ <+: ρ' → Frz H H' → SrcOk B g.hid ρ' H' yes J ds → R J H'
  | some (.exc x st) => ExcAt B x st
  | none => False
def rdI (B : Bd) (m : IM) : TI := fun σ H R => ∃ g p, Rel B g σ H p ∧ PostI B g σ H R (m p)
def srcE (its : D → Option (List D)) (m : EM) : IM := fun p => match m p with
  | some (.val (.sh d) p') => match its d with
    | some ds => some (.items ds p')
    | none => none
  | some (.exc x st) => some (.exc x st)
  | _ => none
def srcA (f : List D → Option (List D)) (ms : List EM) : IM := fun p => match args ms p with
  | some (.vals rs p') => match shs rs with
    | some ds => match f ds with
      | some es => some (.items es p')
      | none => none
    | none => none
  | some (.exc x st) => some (.exc x st)
  | none => none
theorem _root_.L2.PI.imp {X : Cx} {tg e : Expr} {t t' : TI} (h : PI X tg e t) (i : ∀ σ H R, t' σ H R → t σ H R) : PI X tg e t' := ⟨fun pins s σ H R I q => h.run pins s σ H R I (i σ H R q)⟩
/-- the items of a thing that is walked as it is -/
def seqOf : D → Option (List D)
  | .lst ds => some ds
  | .tup ds => some ds
  | .scr ns => some (ns.map D.int)
  | .str s => some (s.cps.toList.map fun c => D.str ⟨#[c]⟩)
  | .dic kvs => some (kvs.map (·.1))
  | _ => none
theorem Reps.ints {W : Wd} {ρ : List Addr} {H : Hp} : ∀ (ns : List Int), Reps W ρ H (ns.map D.int) (ns.map V.int)
  | [] => .nil
  | n :: r => .cons (.int n) (Reps.ints r)
section
variable {B : Bd} {g : Gh} {σ : L2.St} {H : Hp} {p : PS} {hid : List (Addr × HO)} {ρ0 : List Addr}
theorem src_frz {a : Addr} {o : Obj} {ds : List D} {xs : List V} (h : H a = some (.frz o (.lst xs))) (r : Reps B.W ρ0 H ds xs) : SrcOk B hid ρ0 H yes (Itl B.W.K a) ds := by
  refine ⟨fun ρ σ H1 p R q f _ => ⟨xs, .inl (.inr ⟨o, f _ _ h trivial⟩), by rw [r.len]; exact Nat.le_refl _⟩, fun i d ρ σ H1 p e R q f _ => ?_⟩
  obtain ⟨x, ex, rx⟩ := r.get e
  have s : SqL B.W.K H1 a xs := .inl (.inr ⟨o, f _ _ h trivial⟩)
  refine ⟨⟨xs, x, s, ex⟩, fun y H' ⟨e1, e2⟩ => ?_⟩
  subst e1
  have := e2 xs s
  rw [ex] at this
  cases this
  exact ⟨fun _ _ z => z, rx.mono f q⟩
theorem src_scr {a : Addr} {ns : List Int} (h : LstAt B.W.K H a (ns.map V.int)) : SrcOk B hid ρ0 H yes (Itl B.W.K a) (ns.map D.int) := by
  refine ⟨fun ρ σ H1 p R q f _ => ⟨_, (h.mono f).seq, by rw [List.length_map, List.length_map]; exact Nat.le_refl _⟩, fun i d ρ σ H1 p e R q f _ => ?_⟩
  obtain ⟨x, ex, rx⟩ := (Reps.ints (W := B.W) (ρ := ρ) (H := H1) ns).get e
  have s := (h.mono f).seq
  refine ⟨⟨_, x, s, ex⟩, fun y H' ⟨e1, e2⟩ => ?_⟩
  subst e1
  have := e2 _ s
  rw [ex] at this
  cases this
  exact ⟨fun _ _ z => z, rx⟩
theorem src_tup {a : Addr} {ds : List D} {xs : List V} (h : TupAt H a ds xs) (r : Reps B.W ρ0 H ds xs) : SrcOk B hid ρ0 H yes (Itt B.W.K a) ds := by
  refine ⟨fun ρ σ H1 p R q f _ => ⟨xs, (h.mono f).seq, by rw [r.len]; exact Nat.le_refl _⟩, fun i d ρ σ H1 p e R q f _ => ?_⟩
  obtain ⟨x, ex, rx⟩ := r.get e
  have s : SqT B.W.K H1 a xs := (h.mono f).seq
  refine ⟨⟨xs, x, s, ex⟩, fun y H' ⟨e1, e2⟩ => ?_⟩
  subst e1
  have := e2 xs s
  rw [ex] at this
  cases this
  exact ⟨fun _ _ z => z, rx.mono f q⟩
theorem src_str (s : Str) : SrcOk B hid ρ0 H yes (Its s) (s.cps.toList.map fun c => D.str ⟨#[c]⟩) := by
  refine ⟨fun ρ σ H1 p R q f _ => ?_, fun i d ρ σ H1 p e R q f _ => ?_⟩
  · show s.cps.size ≤ _
    rw [List.length_map]
    exact Nat.le_refl _
  · rw [List.getElem?_map] at e
    cases e1 : s.cps.toList[i]? with
    | none => rw [e1] at e; cases e
    | some c =>
      rw [e1] at e
      cases e
      have hi : i < s.cps.size := by
        have := (List.getElem?_eq_some_iff.mp e1).1
        simpa using this
      refine ⟨hi, fun y H' ⟨e2, c', e3, e4⟩ => ?_⟩
      subst e2 e4
      have : s.cps[i]? = some c := by simpa using e1
      rw [this] at e3
      cases e3
      exact ⟨fun _ _ z => z, .str _⟩
theorem src_range (lo : Int) (n : Nat) : SrcOk B hid ρ0 H yes (Itr lo n) ((List.range n).map fun (i : Nat) => D.int (lo + i)) := by
  refine ⟨fun ρ σ H1 p R q f _ => by show n ≤ _; simp, fun i d ρ σ H1 p e R q f _ => ?_⟩
  rw [List.getElem?_map] at e
  rcases Nat.lt_or_ge i n with c | c
  · rw [List.getElem?_range c] at e
    cases e
    refine ⟨c, fun y H' ⟨e1, e2⟩ => ?_⟩
    subst e1 e2
    exact ⟨fun _ _ z => z, .int _⟩
  · rw [List.getElem?_eq_none (by simpa using c)] at e
    cases e
theorem RepK.get {W : Wd} {ρ : List Addr} {H : Hp} : ∀ {kvs : List (D × D)} {kys : List (Key × V)} {i : Nat} {kd d : D}, RepK W ρ H kvs kys → kvs[i]? = some (kd, d) → ∃ k x, kys[i]? = some (k, x) ∧ kd = keyD k ∧ Rep W ρ H d x
  | _, _, i, _, _, .nil, e => by simp at e
  | _, _, 0, _, _, .cons e0 h _, e => by cases e; exact ⟨_, _, rfl, e0, h⟩
  | _, _, i + 1, _, _, .cons _ _ t, e => by
    obtain ⟨k, x, e1, e2⟩ := RepK.get (i := i) t (by simpa using e)
    exact ⟨k, x, by simpa using e1, e2⟩
theorem rep_key {W : Wd} {ρ : List Addr} {H : Hp} : ∀ k : Key, Rep W ρ H (keyD k) (kV k)
  | .inl i => .int i
  | .inr s => .str s
theorem src_keys {a : Addr} {o : Obj} {kvs : List (D × D)} {kys : List (Key × V)} (h : H a = some (.frz o (.dK kys))) (r : RepK B.W ρ0 H kvs kys) : SrcOk B hid ρ0 H yes (Itk a o kys) (kvs.map (·.1)) := by
  refine ⟨fun ρ σ H1 p R q f _ => ⟨f _ _ h trivial, by rw [List.length_map, r.len]; exact Nat.le_refl _⟩, fun i d ρ σ H1 p e R q f _ => ?_⟩
  rw [List.getElem?_map] at e
  cases e1 : kvs[i]? with
  | none => rw [e1] at e; cases e
  | some kv =>
    rw [e1] at e
    cases e
    obtain ⟨kd, d⟩ := kv
    obtain ⟨k, x, e2, e3, rx⟩ := r.get e1
    refine ⟨⟨f _ _ h trivial, (List.getElem?_eq_some_iff.mp e2).1⟩, fun y H' ⟨e4, k', v', e5, e6⟩ => ?_⟩
    rw [e2] at e5
    cases e5
    subst e4 e6
    refine ⟨fun _ _ z => z, ?_⟩
    show Rep _ _ _ kd _
    rw [e3]
    exact rep_key k
theorem RepT.get {W : Wd} {ρ : List Addr} {H : Hp} : ∀ {kvs : List (D × D)} {kys : List (List Key × V)} {i : Nat} {kd d : D}, RepT W ρ H kvs kys → kvs[i]? = some (kd, d) → ∃ k x, kys[i]? = some (k, x) ∧ kd = .tup (k.map keyD) ∧ k ≠ [] ∧ Rep W ρ H d x
  | _, _, i, _, _, .nil, e => by simp at e
  | _, _, 0, _, _, .cons e0 n h _, e => by cases e; exact ⟨_, _, rfl, e0, n, h⟩
  | _, _, i + 1, _, _, .cons _ _ _ t, e => by
    obtain ⟨k, x, e1, e2⟩ := RepT.get (i := i) t (by simpa using e)
    exact ⟨k, x, by simpa using e1, e2⟩
theorem flat_keys {k : List Key} (n : k ≠ []) : flat (k.map keyD) = true := by
  unfold flat
  cases k with
  | nil => exact (n rfl).elim
  | cons a r =>
    simp only [List.map_cons, List.isEmpty_cons, Bool.not_false, Bool.true_and]
    rw [List.all_eq_true]
    intro d hd
    rw [← List.map_cons, List.mem_map] at hd
    obtain ⟨q, _, rfl⟩ := hd
    cases q <;> rfl
theorem reps_keys {W : Wd} {ρ : List Addr} {H : Hp} : ∀ k : List Key, Reps W ρ H (k.map keyD) (k.map kV)
  | [] => .nil
  | a :: r => .cons (rep_key a) (reps_keys r)
theorem rep_tkey {W : Wd} {ρ : List Addr} {H : Hp} {k : List Key} {a : Addr} (n : k ≠ []) (h : H a = some (.tup (k.map kV))) : Rep W ρ H (.tup (k.map keyD)) (.ref a) :=
  .tup (by unfold TupAt; rw [if_pos (flat_keys n)]; exact h) (reps_keys k)
theorem src_keysT {a : Addr} {o : Obj} {kvs : List (D × D)} {kys : List (List Key × V)} (h : H a = some (.frz o (.dT kys))) (r : RepT B.W ρ0 H kvs kys) : SrcOk B hid ρ0 H yes (Itkt a o kys) (kvs.map (·.1)) := by
  refine ⟨fun ρ σ H1 p R q f _ => ⟨f _ _ h trivial, by rw [List.length_map, r.len]; exact Nat.le_refl _⟩, fun i d ρ σ H1 p e R q f _ => ?_⟩
  rw [List.getElem?_map] at e
  cases e1 : kvs[i]? with
  | none => rw [e1] at e; cases e
  | some kv =>
    rw [e1] at e
    cases e
    obtain ⟨kd, d⟩ := kv
    obtain ⟨k, x, e2, e3, nn, rx⟩ := r.get e1
    refine ⟨⟨f _ _ h trivial, (List.getElem?_eq_some_iff.mp e2).1⟩, fun y H' ⟨e4, k', v', q', e5, e6, e7⟩ => ?_⟩
    rw [e2] at e5
    cases e5
    subst e4 e6
    refine ⟨fun _ _ z => z, ?_⟩
    show Rep _ _ _ kd _
    rw [e3]
    exact rep_tkey nn e7
end

/-- by the value that m gives -/
theorem rdI_at {B : Bd} {m : EM} {its : D → Option (List D)} {σ : L2.St} {H : Hp} {R : It → Hp → Prop} (h : rdI B (srcE its m) σ H R) :
    (∃ d ds, its d = some ds ∧ (∀ Q : VK, (∀ v H' hid ρ', Rep B.W ρ' H' d v → (∀ J, SrcOk B hid ρ' H' yes J ds → R J H') → Q v H') → rdE B m σ H Q)) ∨ ∀ Q : VK, rdE B m σ H Q := by
  obtain ⟨g, p, Rl, k⟩ := h
  unfold srcE at k
  cases e : m p with
  | none => rw [e] at k; exact k.elim
  | some r =>
    cases r with
    | exc x st => exact .inr fun Q => ⟨g, p, Rl, by rw [e]; rw [e] at k; exact k⟩
    | val r p' =>
      cases r with
      | fr d => rw [e] at k; exact k.elim
      | pl i => rw [e] at k; exact k.elim
      | sh d =>
        rw [e] at k
        cases e2 : its d with
        | none => simp only [e2] at k; exact k.elim
        | some ds =>
          simp only [e2] at k
          refine .inl ⟨d, ds, e2, fun Q i => ⟨g, p, Rl, ?_⟩⟩
          rw [e]
          exact fun v H' ρ' R' q f a => i v H' g.hid ρ' a fun J S => k H' ρ' J R' q f S
theorem rdI_args {B : Bd} {ms : List EM} {f : List D → Option (List D)} {σ : L2.St} {H : Hp} {R : It → Hp → Prop} (h : rdI B (srcA f ms) σ H R) {Q' : List V → Hp → Prop}
    (i : ∀ ds es vs H' hid ρ', f ds = some es → Reps B.W ρ' H' ds vs → (∀ J, SrcOk B hid ρ' H' yes J es → R J H') → Q' vs H') : rdA B ms σ H Q' := by
  obtain ⟨g, p, Rl, k⟩ := h
  refine ⟨g, p, Rl, ?_⟩
  unfold srcA at k
  cases e : args ms p with
  | none => rw [e] at k; exact k.elim
  | some r =>
    rw [e] at k
    cases r with
    | exc x st => exact k
    | vals rs p' =>
      intro vs H' ρ' R' q f' a
      cases e2 : shs rs with
      | none => simp only [e2] at k; exact k.elim
      | some ds =>
        simp only [e2] at k
        cases e3 : f ds with
        | none => simp only [e3] at k; exact k.elim
        | some es =>
          simp only [e3] at k
          exact i ds es vs H' g.hid ρ' e3 (a.reps (shs_eq e2)) fun J S => k H' ρ' J R' q f' S
section
variable {X : Cx} {B : Bd} {tg e e2 : Expr} {m : EM} {p pos apos cpos tpos : Pos} {elts : List Expr} {kk : Nat}
/-- a list, a tuple, a text, the keys of a dict -/
theorem simi (hK : X.K = B.W.K) (h : PE X e (rdE B m)) : PI X tg e (rdI B (srcE seqOf m)) := by
  refine ⟨fun pins s σ H R I k => ?_⟩
  rcases rdI_at k with ⟨d, ds, e1, k⟩ | k
  · cases d with
    | lst es =>
      cases e1
      exact (pi_list h).run pins s σ H R I (k _ fun v H' hid ρ' a i => by
        cases a with
        | lst h r => exact ⟨_, rfl, ⟨_, .inl (.inr ⟨_, h⟩)⟩, i _ (by rw [hK]; exact src_frz h r)⟩)
    | tup es =>
      cases e1
      exact (pi_tup h).run pins s σ H R I (k _ fun v H' hid ρ' a i => by
        cases a with
        | tup h r => exact ⟨_, rfl, ⟨_, by rw [hK]; exact h.seq⟩, i _ (by rw [hK]; exact src_tup h r)⟩)
    | scr ns =>
      cases e1
      exact (pi_list h).run pins s σ H R I (k _ fun v H' hid ρ' a i => by
        cases a with
        | scr h => exact ⟨_, rfl, ⟨_, by rw [hK]; exact h.seq⟩, i _ (by rw [hK]; exact src_scr h)⟩)
    | str z =>
      cases e1
      exact (pi_str h).run pins s σ H R I (k _ fun v H' hid ρ' a i => by
        cases a
        exact ⟨_, rfl, i _ (src_str z)⟩)
    | dic kvs =>
      cases e1
      exact (pi_keys h).run pins s σ H R I (k _ fun v H' hid ρ' a i => by
        cases a with
        | dic h r => exact ⟨_, _, rfl, .inl ⟨_, h, i _ (src_keys h r)⟩⟩
        | dit h n r => exact ⟨_, _, rfl, .inr ⟨_, h, i _ (src_keysT h r)⟩⟩)
    | _ => cases e1
  · exact (pi_list h).run pins s σ H R I (k _)
theorem no_dit {W : Wd} {ρ : List Addr} {H : Hp} {kvs : List (D × D)} {kys : List (List Key × V)} (n : kvs ≠ []) (r : RepT W ρ H kvs kys) : ¬ kvs.all (fun kv => match kv.1 with | .tup _ => false | _ => true) = true := by
  cases r with
  | nil => exact (n rfl).elim
  | cons e _ _ _ =>
    subst e
    simp
/-- range(..) -/
def rangeL (lo hi : Int) : List D := (List.range (hi - lo).toNat).map fun (i : Nat) => D.int (lo + i)
/-- sealed: the kernel shall not reckon 2^62 -/
noncomputable def rng1 : List D → Option (List D)
  | [.int j] => @ite _ (-(2 ^ 62) ≤ j ∧ j < 2 ^ 62) (Classical.propDecidable _) (some (rangeL 0 j)) none
  | _ => none
/-- sealed: the kernel shall not reckon 2^62 -/
noncomputable def rng2 : List D → Option (List D)
  | [.int i, .int j] => @ite _ (-(2 ^ 62) ≤ i ∧ i < 2 ^ 62 ∧ -(2 ^ 62) ≤ j ∧ j < 2 ^ 62) (Classical.propDecidable _) (some (rangeL i j)) none
  | _ => none
theorem reps1 {W : Wd} {ρ : List Addr} {H : Hp} {a : D} {vs : List V} (h : Reps W ρ H [a] vs) : ∃ x, vs = [x] ∧ Rep W ρ H a x := by
  cases h with
  | cons h t => cases t; exact ⟨_, rfl, h⟩
variable {a b c : Expr} {ms : List EM}
theorem simi_range1 (hm : X.mg "range" = none) (hg : Gl X "range") (ha : PA X [a] (rdA B ms)) (hs : starEach [a] X.env = [(false, eval a X.env)] := by rfl) : PI X tg (.Call (.Name "range" p) [a] [] pos) (rdI B (srcA rng1 ms)) :=
  (pi_range1 hg hm ha hs).imp fun σ H R k => rdI_args k fun ds es vs H' hid ρ' e a i => by
    unfold rng1 at e
    split at e
    · obtain ⟨x, rfl, r1⟩ := reps1 a
      cases r1
      split at e
      · rename_i j c
        cases e
        exact ⟨j, rfl, c.1, c.2, i _ (by have := src_range (B := B) (hid := hid) (ρ0 := ρ') (H := H') 0 j.toNat; unfold rangeL; rw [Int.sub_zero]; exact this)⟩
      · cases e
    · cases e
def enumL (ds : List D) : List D := (List.range ds.length).zipWith (fun (i : Nat) d => D.pr [.int i, d]) ds
def enum1 : List D → Option (List D)
  | [.lst ds] => some (enumL ds)
  | _ => none
end

/-! ### for -/
def sFor (m : IM) (gm : GM) (b : SM) : SM := fun p => match m p with
  | some (.items ds p') => forL gm b yes ds p'
  | some (.exc x st) => some (.exc x st)
  | none => none
section
variable {X : Cx} {B : Bd} {tg iter : Expr} {body : List Stmt} {m : IM} {gm : GM} {mb : SM} {ts : List Nat} {pos : Pos}
theorem sims_for (hp : PassesOwn (model X.prog X.w) X.A X.env X.xe) (hc : X.calm = true) (hi : PI X tg iter (rdI B m)) (hg : PG X tg (rdG B ts gm)) (hb : PSs X body (rdS B mb)) (hs : ∀ x, foldedSetIterable iter X.env x = pure x := by intro _; rfl) :
    L2.PS X (.For tg iter body [] pos) (rdS B (sFor m gm mb)) :=
  (ps_for hp hc hi hg hb hs).imp fun N σ H h => by
    obtain ⟨g, p, R, k⟩ := h
    refine ⟨g, p, R, ?_⟩
    unfold sFor at k
    cases e : m p with
    | none => rw [e] at k; exact k
    | some v =>
      rw [e] at k
      cases v with
      | exc x st => exact k
      | items ds p' => exact fun H' ρ' J R' q f S => for_post (g := ⟨ρ', g.hid⟩) S R' (PostS.later (σ' := σ) q f k)
end
end Mi

/-! ## The mirror: comprehensions -/
namespace Mi
open PySem PySem.Spec PyProof.Rows L2 Lamp SlX

/-- within a comprehension nothing may be raised -/
abbrev Bd.nx (B : Bd) : Bd := { B with E := E0 }
theorem Rel.nx {B : Bd} {g : Gh} {σ : L2.St} {H : Hp} {p : PS} (R : Rel B g σ H p) : Rel B.nx g σ H p :=
  ⟨R.slot, R.dis, R.new, R.cel, R.cln, R.cnd, R.pre, R.cnw, R.hid, R.hnd, R.keep, R.len⟩
theorem Rel.unx {B : Bd} {g : Gh} {σ : L2.St} {H : Hp} {p : PS} (R : Rel B.nx g σ H p) : Rel B g σ H p :=
  ⟨R.slot, R.dis, R.new, R.cel, R.cln, R.cnd, R.pre, R.cnw, R.hid, R.hnd, R.keep, R.len⟩
/-- the block's own names are forgotten -/
def wipeE (env : List Slot) : List Nat → List Slot
  | [] => env
  | v :: vs => (wipeE env vs).set v .no
theorem wipeE_len (env : List Slot) : ∀ vs : List Nat, (wipeE env vs).length = env.length
  | [] => rfl
  | v :: vs => by unfold wipeE; rw [List.length_set, wipeE_len env vs]
theorem wipeE_get {env : List Slot} {i : Nat} {s : Slot} : ∀ {vs : List Nat}, (wipeE env vs)[i]? = some s → s = .no ∨ (env[i]? = some s ∧ i ∉ vs)
  | [], h => .inr ⟨h, by simp⟩
  | v :: vs, h => by
    unfold wipeE at h
    rcases set_get h with ⟨_, rfl, _⟩ | ⟨c, h⟩
    · exact .inl rfl
    · rcases wipeE_get h with e | ⟨e, n⟩
      · exact .inl e
      · exact .inr ⟨e, fun m => (List.mem_cons.mp m).elim (fun z => c z.symm) n⟩
/-- .. and are as they were, behind the block -/
def restE (env0 : List Slot) (env : List Slot) : List Nat → List Slot
  | [] => env
  | v :: vs => (restE env0 env vs).set v ((env0[v]?).getD .no)
theorem restE_len (env0 env : List Slot) : ∀ vs : List Nat, (restE env0 env vs).length = env.length
  | [] => rfl
  | v :: vs => by unfold restE; rw [List.length_set, restE_len env0 env vs]
theorem restE_get {env0 env : List Slot} {i : Nat} {s : Slot} : ∀ {vs : List Nat}, (restE env0 env vs)[i]? = some s → (i ∈ vs ∧ s = (env0[i]?).getD .no) ∨ (env[i]? = some s ∧ i ∉ vs)
  | [], h => .inr ⟨h, by simp⟩
  | v :: vs, h => by
    unfold restE at h
    rcases set_get h with ⟨rfl, rfl, _⟩ | ⟨c, h⟩
    · exact .inl ⟨List.mem_cons_self, rfl⟩
    · rcases restE_get h with ⟨m, e⟩ | ⟨e, n⟩
      · exact .inl ⟨List.mem_cons_of_mem _ m, e⟩
      · exact .inr ⟨e, fun m => (List.mem_cons.mp m).elim (fun z => c z.symm) n⟩
def ownOk (env : List Slot) (vs : List Nat) : Bool := vs.all fun v => match env[v]? with
  | some s => !s.owned
  | none => true
section
variable {B : Bd} {g : Gh} {σ σ' : L2.St} {H H' : Hp} {p p' : PS} {ρ' : List Addr}
theorem Rel.wiped (R : Rel B g σ H p) (vs : List Nat) (hσ : σ' = wipe σ vs) : Rel B g σ' H { p with env := wipeE p.env vs } := by
  subst hσ
  have back : ∀ {a : Addr} {i : Nat}, OwnAt { p with env := wipeE p.env vs } (wipe σ vs) a i → OwnAt p σ a i := by
    rintro a i ⟨s, e, o, l⟩
    rcases wipeE_get e with rfl | ⟨e, n⟩
    · cases o
    · exact ⟨s, e, o, (wipe_some l).1⟩
  refine ⟨fun i s e => ?_, fun i j a x y => R.dis i j a (back x) (back y), fun i a x => R.new i a (back x), R.cel, R.cln, R.cnd, R.pre, R.cnw, R.hid, R.hnd, R.keep, ?_⟩
  · rcases wipeE_get e with rfl | ⟨e, n⟩
    · trivial
    · have q := R.slot i s e
      have es : (wipe σ vs)[i]? = σ[i]? := wipe_out n
      cases s with
      | no => trivial
      | sh d => obtain ⟨v, e, r⟩ := q; exact ⟨v, es.trans e, r⟩
      | ow d => obtain ⟨v, e, r⟩ := q; exact ⟨v, es.trans e, r⟩
      | lk d => obtain ⟨v, e, r⟩ := q; exact ⟨v, es.trans e, r⟩
      | lz d => obtain ⟨v, e, r⟩ := q; exact ⟨v, es.trans e, r⟩
      | self me c fs => obtain ⟨v, e, r⟩ := q; exact ⟨v, es.trans e, r⟩
  · show (wipeE p.env vs).length ≤ (wipe σ vs).length
    rw [wipeE_len, wipe_length]
    exact R.len
/-- behind a block: p0 is the state ahead of it -/
theorem Rel.rested {g0 : Gh} {H0 : Hp} {p0 : PS} {vs : List Nat} (R0 : Rel B g0 σ H0 p0) (ok : ownOk p0.env vs = true) (R : Rel B g (wipe σ vs) H p) (q : g0.ρ <+: g.ρ) (f : Frz H0 H) (hl : p.env.length ≤ p0.env.length) :
    Rel B g σ H { p with env := restE p0.env p.env vs } := by
  have notOwn : ∀ {i : Nat}, i ∈ vs → ((p0.env[i]?).getD .no).owned = false := fun {i} m => by
    have := (List.all_eq_true.mp ok) i m
    cases e : p0.env[i]? with
    | none => rfl
    | some s =>
      rw [e] at this
      simpa using this
  have back : ∀ {a : Addr} {i : Nat}, OwnAt { p with env := restE p0.env p.env vs } σ a i → OwnAt p (wipe σ vs) a i := by
    rintro a i ⟨s, e, o, l⟩
    rcases restE_get e with ⟨m, rfl⟩ | ⟨e, n⟩
    · rw [notOwn m] at o; cases o
    · exact ⟨s, e, o, by rw [wipe_out n]; exact l⟩
  refine ⟨fun i s e => ?_, fun i j a x y => R.dis i j a (back x) (back y), fun i a x => R.new i a (back x), R.cel, R.cln, R.cnd, R.pre, R.cnw, R.hid, R.hnd, R.keep, ?_⟩
  · rcases restE_get e with ⟨m, rfl⟩ | ⟨e, n⟩
    · cases e2 : p0.env[i]? with
      | none => trivial
      | some s =>
        show SlotOk _ _ _ _ _ s
        have q0 := R0.slot i s e2
        have no := notOwn m
        rw [e2] at no
        exact q0.mono f q fun a o => by rw [show s.owned = false from no] at o; cases o
    · have q := R.slot i s e
      have es : σ[i]? = (wipe σ vs)[i]? := (wipe_out n).symm
      cases s with
      | no => trivial
      | sh d => obtain ⟨v, e, r⟩ := q; exact ⟨v, es.trans e, r⟩
      | ow d => obtain ⟨v, e, r⟩ := q; exact ⟨v, es.trans e, r⟩
      | lk d => obtain ⟨v, e, r⟩ := q; exact ⟨v, es.trans e, r⟩
      | lz d => obtain ⟨v, e, r⟩ := q; exact ⟨v, es.trans e, r⟩
      | self me c fs => obtain ⟨v, e, r⟩ := q; exact ⟨v, es.trans e, r⟩
  · show (restE p0.env p.env vs).length ≤ σ.length
    rw [restE_len]
    exact Nat.le_trans hl R0.len
/-- a fresh thing is laid aside, known to the rule alone -/
theorem Rel.aside (R : Rel B g σ H p) {a : Addr} {u : HO} (n : H a = none) (m : ¬ Per u) : Rel B ⟨g.ρ, (a, u) :: g.hid⟩ σ (L2.upd H a u) p := by
  have f := R.free n
  have R1 := R.upd u f fun w e => by rw [n] at e; cases e
  refine ⟨R1.slot, R1.dis, fun i b x => ?_, R1.cel, R1.cln, R1.cnd, R1.pre, R1.cnw, fun x h => ?_, ?_, R1.keep, R1.len⟩
  · obtain ⟨n1, n2, n3⟩ := R1.new i b x
    refine ⟨n1, fun w h => ?_, n3⟩
    rcases List.mem_cons.mp h with e | h
    · injection e with e1 e2
      exact f.own i (by rw [← e1]; exact x)
    · exact n2 w h
  · rcases List.mem_cons.mp h with rfl | h
    · exact ⟨upd_same, m, f.cel, f.new⟩
    · exact R1.hid x h
  · rw [List.map_cons, List.nodup_cons]
    refine ⟨fun h => ?_, R1.hnd⟩
    obtain ⟨x, hx, e⟩ := List.mem_map.mp h
    have ex : x = (a, x.2) := by
      obtain ⟨x1, x2⟩ := x
      exact congrArg (·, x2) e
    exact f.hid x.2 (by rw [← ex]; exact hx)
/-- .. is written -/
theorem Rel.asideUpd {a : Addr} {u w : HO} {hid : List (Addr × HO)} {ρ : List Addr} (R : Rel B ⟨ρ, (a, u) :: hid⟩ σ H p) (m : ¬ Per w) : Rel B ⟨ρ, (a, w) :: hid⟩ σ (L2.upd H a w) p := by
  obtain ⟨h1, h2, h3, h4⟩ := R.hid (a, u) List.mem_cons_self
  have own : ∀ i, ¬ OwnAt p σ a i := fun i x => (R.new i a x).2.1 u List.mem_cons_self
  have F : Frz H (L2.upd H a w) := Frz.put h1 h2
  have hnd := R.hnd
  rw [List.map_cons, List.nodup_cons] at hnd
  refine ⟨fun i t e => (R.slot i t e).mono F (List.prefix_refl _) fun b ow l v h => ?_, R.dis, fun i b x => ?_, fun n d e => ?_, R.cln, R.cnd, R.pre, R.cnw, fun x h => ?_, ?_, fun b o e n => ?_, R.len⟩
  · rw [upd_ne fun z => own i ⟨t, e, ow, by rw [← z]; exact l⟩]
    exact h
  · obtain ⟨n1, n2, n3⟩ := R.new i b x
    refine ⟨n1, fun v h => ?_, n3⟩
    rcases List.mem_cons.mp h with e | h
    · injection e with e1 e2
      exact own i (by rw [← e1]; exact x)
    · exact n2 v (List.mem_cons_of_mem _ h)
  · obtain ⟨b, e1, e2⟩ := R.cel n d e
    refine ⟨b, e1, e2.mono F (List.prefix_refl _) fun v h => ?_⟩
    rw [upd_ne fun z => h3 (by rw [← z]; exact List.mem_of_getElem? e1)]
    exact h
  · rcases List.mem_cons.mp h with rfl | h
    · exact ⟨upd_same, m, h3, h4⟩
    · obtain ⟨k1, k2, k3, k4⟩ := R.hid x (List.mem_cons_of_mem _ h)
      refine ⟨?_, k2, k3, k4⟩
      rw [upd_ne fun z => hnd.1 (List.mem_map.mpr ⟨x, h, z⟩)]
      exact k1
  · rw [List.map_cons, List.nodup_cons]
    exact hnd
  · rw [upd_ne fun z => by rw [z, h4] at e; cases e]
    exact R.keep b o e n
/-- .. and comes back as a fresh thing -/
theorem Rel.unaside {a : Addr} {u : HO} {hid : List (Addr × HO)} {ρ : List Addr} (R : Rel B ⟨ρ, (a, u) :: hid⟩ σ H p) : Rel B ⟨ρ, hid⟩ σ H p ∧ H a = some u ∧ (∀ i, ¬ OwnAt p σ a i) ∧ a ∉ ρ ∧ (∀ w, (a, w) ∉ hid) ∧ B.H0 a = none := by
  obtain ⟨h1, h2, h3, h4⟩ := R.hid (a, u) List.mem_cons_self
  have hnd := R.hnd
  rw [List.map_cons, List.nodup_cons] at hnd
  refine ⟨⟨R.slot, R.dis, fun i b x => ?_, R.cel, R.cln, R.cnd, R.pre, R.cnw, fun x h => R.hid x (List.mem_cons_of_mem _ h), hnd.2, R.keep, R.len⟩, h1, fun i x => (R.new i a x).2.1 u List.mem_cons_self, h3, fun w h => hnd.1 (List.mem_map.mpr ⟨_, h, rfl⟩), h4⟩
  obtain ⟨n1, n2, n3⟩ := R.new i b x
  exact ⟨n1, fun w h => n2 w (List.mem_cons_of_mem _ h), n3⟩
end

/-! ### [elt for target in iter if ..] -/
/-- one turn: what is appended, if anything -/
def lcTurn (gm : GM) (mt me : EM) (vs : List Nat) (d : D) (p : PS) : Option (Option D × PS) := match gm (.sh d) p with
  | none => none
  | some p1 => match mt p1 with
    | some (.val r p2) => match asB p2 r with
      | some true => match me p2 with
        | some (.val (.sh y) p3) => some (some y, { p3 with env := wipeE p3.env vs })
        | _ => none
      | some false => some (none, { p2 with env := wipeE p2.env vs })
      | none => none
    | _ => none
def lcL (gm : GM) (mt me : EM) (vs : List Nat) : List D → List D → PS → Option (List D × PS)
  | [], acc, p => some (acc, p)
  | d :: ds, acc, p => match lcTurn gm mt me vs d p with
    | none => none
    | some (none, p') => lcL gm mt me vs ds acc p'
    | some (some y, p') => if acc.length < sizeLine then lcL gm mt me vs ds (acc ++ [y]) p' else none
def mLc (m : IM) (gm : GM) (mt me : EM) (vs : List Nat) : EM := fun p => match m p with
  | none => none
  | some (.exc x st) => some (.exc x st)
  | some (.items ds p1) => if ownOk p1.env vs then match lcL gm mt me vs ds [] { p1 with env := wipeE p1.env vs } with
      | some (acc, p2) => if p2.env.length ≤ p1.env.length then some (.val (.fr (.lst acc)) { p2 with env := restE p1.env p2.env vs }) else none
      | none => none
    else none
theorem Reps.snoc {W : Wd} {ρ : List Addr} {H : Hp} : ∀ {ds : List D} {xs : List V} {d : D} {x : V}, Reps W ρ H ds xs → Rep W ρ H d x → Reps W ρ H (ds ++ [d]) (xs ++ [x])
  | _, _, _, _, .nil, h => .cons h .nil
  | _, _, _, _, .cons a t, h => .cons a (t.snoc h)
theorem lc_rd {B : Bd} {m : IM} {gm : GM} {mt me : EM} {vs ts : List Nat} {σ : L2.St} {H : Hp} {Q : VK} (hv : ∀ i ∈ ts, i ∈ vs) (h : rdE B (mLc m gm mt me vs) σ H Q) :
    tLc (rdI B m) (rdG B.nx ts gm) (rdT B.nx mt) (rdE B.nx me) vs σ H Q := by
  obtain ⟨g, p, R, k⟩ := h
  refine ⟨g, p, R, ?_⟩
  unfold mLc at k
  cases e : m p with
  | none => rw [e] at k; exact k
  | some v =>
    rw [e] at k
    cases v with
    | exc x st => exact k
    | items ds p1 =>
      intro H1 ρ1 J R1 q1 f1 S
      intro D hD
      by_cases ok : ownOk p1.env vs = true
      · simp only [ok, if_true] at k
        -- the state of the block
        refine ⟨fun i n H' => ∃ ρ' p' acc xs es, ds = es ++ ds.drop i ∧ es.length = i ∧ n = ds.length - i ∧ Rel B.nx ⟨ρ', (D, .lst xs) :: g.hid⟩ (wipe σ vs) H' p' ∧ ρ1 <+: ρ' ∧ Frz H1 H' ∧ Reps B.W ρ' H' acc xs ∧
          lcL gm mt me vs ds [] { p1 with env := wipeE p1.env vs } = lcL gm mt me vs (ds.drop i) acc p', ⟨_, ρ1, _, [], [], [], rfl, rfl, rfl, ((R1.nx.aside (u := .lst []) hD (fun p => p)).wiped vs rfl), List.prefix_refl _, Frz.new hD, .nil, rfl⟩, ?_⟩
        rintro i n H2 ⟨ρ2, p2, acc, xs, es, e1, e2, rfl, R2, q2, f2, ra, eL⟩
        have R2' : Rel B ⟨ρ2, g.hid⟩ (wipe σ vs) H2 p2 := (R2.unaside.1).unx
        cases e3 : ds.drop i with
        | nil =>
          rw [e3] at eL e1
          have hi : i = ds.length := by rw [← e2, e1]; simp
          refine .inl ⟨?_, ?_⟩
          · rw [hi]
            exact S.stop ρ2 _ H2 p2 R2' q2 f2 rfl
          · rw [eL] at k
            simp only [lcL] at k
            by_cases hl : p2.env.length ≤ p1.env.length
            · simp only [hl, if_true] at k
              obtain ⟨_, h1, h2, h3, h4, h5⟩ := R2.unaside
              have Rr := R1.rested (g := ⟨ρ2, g.hid⟩) (vs := vs) ok R2' q2 f2 hl
              refine k (.ref D) H2 ρ2 Rr (q1.trans q2) (f1.trans f2) ⟨D, rfl, .lst h1 ra, fun i x => ?_, h3, h4, h5⟩
              obtain ⟨s, es', o, l⟩ := x
              rcases restE_get es' with ⟨mm, rfl⟩ | ⟨es', nn⟩
              · have := (List.all_eq_true.mp ok) i mm
                cases e9 : p1.env[i]? with
                | none => rw [e9] at o; cases o
                | some s9 => rw [e9] at this o; simp at this; rw [show s9.owned = true from o] at this; cases this
              · exact h2 i ⟨s, es', o, by rw [wipe_out nn]; exact l⟩
            · simp only [hl, if_false] at k; exact k.elim
        | cons d r =>
          have hd : ds[i]? = some d := by
            have : (ds.drop i)[0]? = some d := by rw [e3]; rfl
            rw [List.getElem?_drop] at this
            simpa using this
          have hr : ds.drop (i + 1) = r := by
            rw [← List.drop_drop, e3]
            rfl
          have hlt : i < ds.length := (List.getElem?_eq_some_iff.mp hd).1
          obtain ⟨g1, g2⟩ := S.go i d ρ2 _ H2 p2 hd R2' q2 f2 rfl
          rw [e3] at eL
          rw [eL] at k
          -- where the turn comes to
          refine .inr ⟨g1, fun H' => ∃ ρ' p' acc' xs', Rel B.nx ⟨ρ', (D, .lst xs') :: g.hid⟩ (wipe σ vs) H' p' ∧ ρ1 <+: ρ' ∧ Frz H1 H' ∧ Reps B.W ρ' H' acc' xs' ∧ lcL gm mt me vs (d :: r) acc p2 = lcL gm mt me vs r acc' p', ?_, fun x H3 y => ?_⟩
          · rintro H' ⟨ρ', p', acc', xs', R', q', f', ra', eL'⟩
            refine ⟨ds.length - (i + 1), by omega, ρ', p', acc', xs', es ++ [d], ?_, by rw [List.length_append, e2]; rfl, rfl, R', q', f', ra', by rw [hr, ← eL', eL]⟩
            rw [hr, List.append_assoc]
            show ds = es ++ (d :: r)
            rw [← e3]
            exact e1
          · obtain ⟨sm, rr⟩ := g2 x H3 y
            have R3 := R2.same sm
            refine ⟨⟨ρ2, (D, .lst xs) :: g.hid⟩, p2, .sh d, R3, rr, ?_⟩
            have turn : lcL gm mt me vs (d :: r) acc p2 = match lcTurn gm mt me vs d p2 with
              | none => none
              | some (none, p') => lcL gm mt me vs r acc p'
              | some (some y, p') => if acc.length < sizeLine then lcL gm mt me vs r (acc ++ [y]) p' else none := rfl
            have live : lcL gm mt me vs (d :: r) acc p2 ≠ none := fun z => by rw [z] at k; exact k
            unfold lcTurn at turn
            cases e5 : gm (.sh d) p2 with
            | none => rw [turn] at live; simp only [e5] at live; exact (live rfl).elim
            | some p3 =>
              simp only [e5] at turn
              intro σ3 H4 ρ4 t4 R4 q4 f4
              have tw : wipe σ3 vs = wipe σ vs := by
                have h1 := t4 vs hv
                have idem : wipe (wipe σ vs) vs = wipe σ vs := by
                  have key : ∀ (ws us : List Nat) (τ : L2.St), (∀ i ∈ ws, i ∈ us) → wipe (wipe τ us) ws = wipe τ us := by
                    intro ws
                    induction ws with
                    | nil => intro us τ _; rfl
                    | cons w ws ih =>
                      intro us τ hh
                      show (wipe (wipe τ us) ws).set w none = wipe τ us
                      rw [ih us τ fun i m => hh i (List.mem_cons_of_mem _ m)]
                      have hw : ∀ (us : List Nat), w ∈ us → (wipe τ us).set w none = wipe τ us := by
                        intro us
                        induction us with
                        | nil => intro m; cases m
                        | cons u us ih2 =>
                          intro m
                          show ((wipe τ us).set u none).set w none = (wipe τ us).set u none
                          by_cases c : w = u
                          · rw [c, List.set_set]
                          · rw [List.set_comm _ _ (fun z => c z.symm), ih2 ((List.mem_cons.mp m).resolve_left c)]
                      exact hw us (hh w List.mem_cons_self)
                  exact key vs vs σ fun i m => m
                rw [h1, idem]
              refine ⟨tw, ⟨ρ4, (D, .lst xs) :: g.hid⟩, p3, R4, ?_⟩
              cases e6 : mt p3 with
              | none => rw [turn] at live; simp only [e6] at live; exact (live rfl).elim
              | some w =>
                cases w with
                | exc x st => rw [turn] at live; simp only [e6] at live; exact (live rfl).elim
                | val rb p4 =>
                  simp only [e6] at turn
                  intro v5 H5 ρ5 R5 q5 f5 a5
                  have F5 : Frz H2 H5 := (Frz.of sm).trans (f4.trans f5)
                  have q25 : ρ2 <+: ρ5 := List.IsPrefix.trans q4 q5
                  cases e7 : asB p4 rb with
                  | none => rw [turn] at live; simp only [e7] at live; exact (live rfl).elim
                  | some b =>
                    refine ⟨b, asB_rep a5 e7, ?_⟩
                    cases b with
                    | false =>
                      simp only [e7] at turn
                      exact ⟨ρ5, _, acc, xs, R5.wiped vs tw.symm, q2.trans q25, f2.trans F5, ra.mono F5 q25, turn⟩
                    | true =>
                      simp only [e7] at turn
                      refine ⟨⟨ρ5, (D, .lst xs) :: g.hid⟩, p4, R5, ?_⟩
                      cases e8 : me p4 with
                      | none => rw [turn] at live; simp only [e8] at live; exact (live rfl).elim
                      | some w =>
                        cases w with
                        | exc x st => rw [turn] at live; simp only [e8] at live; exact (live rfl).elim
                        | val ry p5 =>
                          cases ry with
                          | fr _ => rw [turn] at live; simp only [e8] at live; exact (live rfl).elim
                          | pl _ => rw [turn] at live; simp only [e8] at live; exact (live rfl).elim
                          | sh yd =>
                            simp only [e8] at turn
                            intro v6 H6 ρ6 R6 q6 f6 a6
                            have F6 : Frz H2 H6 := F5.trans f6
                            have q26 : ρ2 <+: ρ6 := List.IsPrefix.trans q25 q6
                            by_cases sz : acc.length < sizeLine
                            · simp only [sz, if_true] at turn
                              obtain ⟨_, h1, h2, h3, h4, h5⟩ := R6.unaside
                              have fl : Frz H6 (upd H6 D (.lst (xs ++ [v6]))) := Frz.put h1 (fun p => p)
                              refine ⟨xs, h1, by rw [← ra.len]; exact sz, ρ6, _, acc ++ [yd], xs ++ [v6], (R6.asideUpd (w := .lst (xs ++ [v6])) (fun p => p)).wiped vs tw.symm, q2.trans q26, (f2.trans F6).trans fl, ?_, turn⟩
                              exact (ra.mono (F6.trans fl) q26).snoc (Rep.mono fl (List.prefix_refl _) a6)
                            · simp only [sz, if_false] at turn
                              exact (live turn).elim
      · simp only [ok] at k; exact k.elim
section
variable {X : Cx} {B : Bd} {elt tg iter : Expr} {ifs : List Expr} {scope : Scope} {own : List (Str × Nat)} {pos : Pos} {m : IM} {gm : GM} {mt me : EM} {ts : List Nat}
theorem simts_nil : PTs X [] (rdT B (eC (.bl true))) := by
  refine ⟨fun pins s σ H Q I h => pts_nil.run pins s σ H Q I ?_⟩
  obtain ⟨b, e, q⟩ := rdC h fun ρ => .bl true
  cases e
  exact q
theorem sim_lc (hc : X.calm = true) (hN : X.N.Nodup) (hi : PI X tg iter (rdI B m)) (ok : BlkOk X.N X.env.scope scope own) (hv : ∀ i ∈ ts, i ∈ own.map (·.2))
    (hg : ∀ (s : Shared) (H : Hp) (C : Addr) (cl : List (Str × Addr)) (fp : List Addr), PG (X.blk s H scope (compEnvC scope cl C X.env) fp) tg (rdG B.nx ts gm))
    (ht : ∀ (s : Shared) (H : Hp) (C : Addr) (cl : List (Str × Addr)) (fp : List Addr), PTs (X.blk s H scope (compEnvC scope cl C X.env) fp) ifs (rdT B.nx mt))
    (he : ∀ (s : Shared) (H : Hp) (C : Addr) (cl : List (Str × Addr)) (fp : List Addr), PE (X.blk s H scope (compEnvC scope cl C X.env) fp) elt (rdE B.nx me)) (hs : ∀ x, foldedSetIterable iter X.env x = pure x := by intro _; rfl) :
    PE X (.ListComp elt [⟨tg, iter, ifs, 0⟩] scope pos) (rdE B (mLc m gm mt me (own.map (·.2)))) :=
  (pe_lc hc hN hi ok hg ht he hs).imp fun σ H Q h => lc_rd hv h
theorem sims_setLc (i : Nat) {y : Str} {py spos : Pos} (hc : X.calm = true) (hN : X.N.Nodup) (hy : X.N[i]? = some y) (hyl : X.env.scope.names.lookup y = some .local)
    (hsw : swapsWith (.ListComp elt [⟨tg, iter, ifs, 0⟩] scope pos) (some (.Name y py)) spos.line X.env = pure true) (hi : PI X tg iter (rdI B m)) (ok : BlkOk X.N X.env.scope scope own) (hv : ∀ i ∈ ts, i ∈ own.map (·.2))
    (hg : ∀ (s : Shared) (H : Hp) (C : Addr) (cl : List (Str × Addr)) (fp : List Addr), PG (X.blk s H scope (compEnvC scope cl C X.env) fp) tg (rdG B.nx ts gm))
    (ht : ∀ (s : Shared) (H : Hp) (C : Addr) (cl : List (Str × Addr)) (fp : List Addr), PTs (X.blk s H scope (compEnvC scope cl C X.env) fp) ifs (rdT B.nx mt))
    (he : ∀ (s : Shared) (H : Hp) (C : Addr) (cl : List (Str × Addr)) (fp : List Addr), PE (X.blk s H scope (compEnvC scope cl C X.env) fp) elt (rdE B.nx me)) (hs : ∀ x, foldedSetIterable iter X.env x = pure x := by intro _; rfl) :
    L2.PS X (.Assign [.Name y py] (.ListComp elt [⟨tg, iter, ifs, 0⟩] scope pos) spos) (rdS B (sAsg (mLc m gm mt me (own.map (·.2))) (gNm i))) :=
  (ps_setLc hc hN hy hyl hsw hi ok hg ht he hs).imp fun N σ H h => by
    obtain ⟨g, p, R, k⟩ := sAsg_rd (ts := [i]) h
    refine lc_rd hv ⟨g, p, R, Post.imp (fun v H1 z => ?_) k⟩
    obtain ⟨g, p, r, R, a, k⟩ := z
    cases e : gNm i r p with
    | none => rw [e] at k; exact k.elim
    | some p' => rw [e] at k; exact k _ H1 g.ρ Touch.set (R.bindTo a e) (List.prefix_refl _) (Frz.refl H1)
end
end Mi

/-! ## The mirror: built-in operations -/
namespace Mi
open PySem PySem.Spec PyProof.Rows L2 Lamp SlX

/-- an operation on two values and its mirror -/
def O2 (X : Cx) (W : Wd) (f : Value → Value → Sem Value) (pr : D → D → Option RV) : Prop := ∃ r, OpR X f r ∧ P2 W r pr
def Ix2 (X : Cx) (W : Wd) (pr : D → D → Option RV) : Prop := ∃ r, IxR X r ∧ P2 W r pr
def C1 (X : Cx) (W : Wd) (f : Value) (pr : List D → Option RV) : Prop := ∃ r, CallR X f r ∧ PN W r pr
def M1 (X : Cx) (W : Wd) (id : String) (pr : D → List D → Option RV) : Prop := ∃ r, MtR X id r ∧ PM W r pr
section
variable {X : Cx} {W : Wd} {B : Bd}
theorem O2.mix {f : Value → Value → Sem Value} {p1 p2 pr : D → D → Option RV} (h1 : O2 X W f p1) (h2 : O2 X W f p2) (c : ∀ a b, pr a b = p1 a b ∨ pr a b = p2 a b) : O2 X W f pr := by
  obtain ⟨r1, o1, k1⟩ := h1
  obtain ⟨r2, o2, k2⟩ := h2
  refine ⟨_, o1.or o2, fun ρ H d1 d2 v1 v2 Q a1 a2 h => ?_, fun d1 d2 => ?_⟩
  · rcases c d1 d2 with e | e
    · exact .inl (k1.ok _ _ _ _ _ _ _ a1 a2 (by rw [← e]; exact h))
    · exact .inr (k2.ok _ _ _ _ _ _ _ a1 a2 (by rw [← e]; exact h))
  · rcases c d1 d2 with e | e
    · rw [e]; exact k1.np _ _
    · rw [e]; exact k2.np _ _
theorem Ix2.mix {p1 p2 pr : D → D → Option RV} (h1 : Ix2 X W p1) (h2 : Ix2 X W p2) (c : ∀ a b, pr a b = p1 a b ∨ pr a b = p2 a b) : Ix2 X W pr := by
  obtain ⟨r1, o1, k1⟩ := h1
  obtain ⟨r2, o2, k2⟩ := h2
  refine ⟨_, o1.or o2, fun ρ H d1 d2 v1 v2 Q a1 a2 h => ?_, fun d1 d2 => ?_⟩
  · rcases c d1 d2 with e | e
    · exact .inl (k1.ok _ _ _ _ _ _ _ a1 a2 (by rw [← e]; exact h))
    · exact .inr (k2.ok _ _ _ _ _ _ _ a1 a2 (by rw [← e]; exact h))
  · rcases c d1 d2 with e | e
    · rw [e]; exact k1.np _ _
    · rw [e]; exact k2.np _ _
theorem C1.mix {f : Value} {p1 p2 pr : List D → Option RV} (h1 : C1 X W f p1) (h2 : C1 X W f p2) (c : ∀ a, pr a = p1 a ∨ pr a = p2 a) : C1 X W f pr := by
  obtain ⟨r1, o1, k1⟩ := h1
  obtain ⟨r2, o2, k2⟩ := h2
  refine ⟨_, o1.or o2, fun ρ H ds vs Q a h => ?_, fun ds => ?_⟩
  · rcases c ds with e | e
    · exact .inl (k1.ok _ _ _ _ _ a (by rw [← e]; exact h))
    · exact .inr (k2.ok _ _ _ _ _ a (by rw [← e]; exact h))
  · rcases c ds with e | e
    · rw [e]; exact k1.np _
    · rw [e]; exact k2.np _
theorem M1.mix {id : String} {p1 p2 pr : D → List D → Option RV} (h1 : M1 X W id p1) (h2 : M1 X W id p2) (c : ∀ d a, pr d a = p1 d a ∨ pr d a = p2 d a) : M1 X W id pr := by
  obtain ⟨r1, o1, k1⟩ := h1
  obtain ⟨r2, o2, k2⟩ := h2
  refine ⟨_, o1.or o2, fun ρ H d v ds vs Q a1 a2 h => ?_, fun d ds => ?_⟩
  · rcases c d ds with e | e
    · exact .inl (k1.ok _ _ _ _ _ _ _ a1 a2 (by rw [← e]; exact h))
    · exact .inr (k2.ok _ _ _ _ _ _ _ a1 a2 (by rw [← e]; exact h))
  · rcases c d ds with e | e
    · rw [e]; exact k1.np _ _
    · rw [e]; exact k2.np _ _
variable {a b e : Expr} {ma mb : EM} {pos p : Pos}
theorem simo {op : Operator} {pr : D → D → Option RV} (h : O2 X B.W (binaryOp op) pr) (ha : PE X a (rdE B ma)) (hb : PE X b (rdE B mb)) : PE X (.BinOp a op b pos) (rdE B (mOp pr ma mb)) := let ⟨_, o, k⟩ := h; sim_op o k ha hb
theorem simc {op : CmpOp} {pr : D → D → Option RV} (h : O2 X B.W (compareOp op) pr) (ha : PE X a (rdE B ma)) (hb : PE X b (rdE B mb)) (hm : behindInMarks op b = false) : PE X (.Compare a [op] [b] pos) (rdE B (mOp pr ma mb)) := let ⟨_, o, k⟩ := h; sim_cmp o k ha hb hm
theorem simtc {op : CmpOp} {pr : D → D → Option RV} (h : O2 X B.W (compareOp op) pr) (ha : PE X a (rdE B ma)) (hb : PE X b (rdE B mb)) (hm : behindInMarks op b = false) : PT X (.Compare a [op] [b] pos) (rdT B (mOp pr ma mb)) := let ⟨_, o, k⟩ := h; simt_cmp o k ha hb hm
theorem simx {pr : D → D → Option RV} (h : Ix2 X B.W pr) (ha : PE X a (rdE B ma)) (hb : PE X b (rdE B mb)) (hs : PlainIx b := by exact fun _ _ => rfl) : PE X (.Subscript a b pos) (rdE B (mOp pr ma mb)) := let ⟨_, o, k⟩ := h; sim_ix o k ha hb hs
variable {x : Str} {es : List Expr} {ms : List EM} {id T : String} {pr : List D → Option RV}
theorem simb (h : C1 X B.W (.builtin id) pr) (hm : X.mg x = none) (hg : Gl X x) (hv : bootBuiltins x = some (.builtin id)) (ha : PA X (e :: es) (rdA B ms)) (hn : x ≠ "__name__" := by decide) (hdb : (x == ("__debug__" : Str)) = false := by decide)
    (he : starEach (e :: es) X.env = (false, eval e X.env) :: starEach es X.env := by rfl) (hpl : (backTo pos (starEach es X.env)).any (·.1) = false := by rfl) : PE X (.Call (.Name x p) (e :: es) [] pos) (rdE B (mPrim pr ms)) := let ⟨_, o, k⟩ := h; sim_callB o k hm hg hv ha hn hdb he hpl
theorem simty (h : C1 X B.W (.type T) pr) (hm : X.mg x = none) (hg : Gl X x) (hv : bootBuiltins x = some (.type T)) (ha : PA X (e :: es) (rdA B ms)) (hn : x ≠ "__name__" := by decide) (hdb : (x == ("__debug__" : Str)) = false := by decide)
    (he : starEach (e :: es) X.env = (false, eval e X.env) :: starEach es X.env := by rfl) (hpl : (backTo pos (starEach es X.env)).any (·.1) = false := by rfl) : PE X (.Call (.Name x p) (e :: es) [] pos) (rdE B (mPrim pr ms)) := let ⟨_, o, k⟩ := h; sim_callTy o k hm hg hv ha hn hdb he hpl
end

/-! ### ints -/
def i2 (c : Int → Int → Bool) (g : Int → Int → Int) : D → D → Option RV
  | .int i, .int j => if c i j then some (.sh (.int (g i j))) else none
  | _, _ => none
def b2 (g : Int → Int → Bool) : D → D → Option RV
  | .int i, .int j => some (.sh (.bl (g i j)))
  | _, _ => none
theorem P2.i2 {W : Wd} {C : Int → Int → Prop} {c : Int → Int → Bool} {g : Int → Int → Int} (hc : ∀ i j, c i j = true → C i j) : P2 W (rI C fun i j => .int (g i j)) (i2 c g) := by
  refine ⟨fun ρ H d1 d2 v1 v2 Q a1 a2 h => ?_, fun d1 d2 => ?_⟩
  · unfold Mi.i2 at h
    split at h
    · split at h
      · rename_i q
        rw [a1.int, a2.int]
        exact ⟨_, _, rfl, rfl, hc _ _ q, h.int⟩
      · exact h.elim
    · exact h.elim
  · unfold Mi.i2
    split
    · split <;> trivial
    · trivial
theorem P2.i20 {W : Wd} {g : Int → Int → Int} : P2 W (rI0 fun i j => .int (g i j)) (Mi.i2 (fun _ _ => true) g) := by
  refine ⟨fun ρ H d1 d2 v1 v2 Q a1 a2 h => ?_, fun d1 d2 => ?_⟩
  · unfold Mi.i2 at h
    split at h
    · simp only [if_true] at h
      rw [a1.int, a2.int]
      exact ⟨_, _, rfl, rfl, h.int⟩
    · exact h.elim
  · unfold Mi.i2
    split
    · simp only [if_true]; trivial
    · trivial
theorem P2.b2 {W : Wd} {g : Int → Int → Bool} : P2 W (rI0 fun i j => .bl (g i j)) (b2 g) := by
  refine ⟨fun ρ H d1 d2 v1 v2 Q a1 a2 h => ?_, fun d1 d2 => ?_⟩
  · unfold Mi.b2 at h
    split at h
    · rw [a1.int, a2.int]
      exact ⟨_, _, rfl, rfl, h.bl⟩
    · exact h.elim
  · unfold Mi.b2
    split <;> trivial
def dSub := i2 (fun _ _ => true) (· - ·)
def mulOk (i j : Int) : Bool := decide (Builtin.Int.intBits i ≤ 4000000) && decide (Builtin.Int.intBits j ≤ 4000000)
def dMulI := i2 mulOk (· * ·)
def dDiv := i2 (fun _ j => decide (j ≠ 0) && decide (j.natAbs.log2 < 9000)) Int.fdiv
def dMod := i2 (fun _ j => decide (j ≠ 0)) Int.fmod
def dPow := i2 (fun i j => decide (0 ≤ j) && decide (j ≤ 1000000) && decide (i.natAbs < 2 ^ 64)) fun i j => i ^ j.toNat
def cLtI := b2 fun i j => decide (i < j)
def cLe := b2 fun i j => decide (i ≤ j)
def cGt := b2 fun i j => decide (j < i)
def cGe := b2 fun i j => decide (j ≤ i)
section
variable {X : Cx} {W : Wd}
theorem o_mulI : O2 X W (binaryOp .Mult) dMulI := ⟨_, op_mulI, P2.i2 fun i j h => by
  unfold mulOk at h
  simp only [Bool.and_eq_true, decide_eq_true_eq] at h
  exact mul_ok_bits h.1 h.2⟩
theorem o_div : O2 X W (binaryOp .FloorDiv) dDiv := ⟨_, Lamp.op_fdivW, P2.i2 fun i j h => by
  simp only [Bool.and_eq_true, decide_eq_true_eq] at h
  exact h⟩
theorem o_mod : O2 X W (binaryOp .Mod) dMod := ⟨_, op_modN, P2.i2 fun i j h => of_decide_eq_true h⟩
theorem o_pow : O2 X W (binaryOp .Pow) dPow := ⟨_, op_pow, P2.i2 fun i j h => by
  simp only [Bool.and_eq_true, decide_eq_true_eq] at h
  exact ⟨h.1.1, h.1.2, h.2⟩⟩
theorem c_lt : O2 X W (compareOp .Lt) cLtI := ⟨_, op_lt, P2.b2⟩
theorem c_gt : O2 X W (compareOp .Gt) cGt := ⟨_, op_gt, P2.b2⟩
theorem c_ge : O2 X W (compareOp .GtE) cGe := ⟨_, op_ge, P2.b2⟩
end
def dNeg : D → Option RV
  | .int i => some (.sh (.int (-i)))
  | _ => none
theorem sim_neg {X : Cx} {B : Bd} {a : Expr} {ma : EM} {pos : Pos} (ha : PE X a (rdE B ma)) : PE X (.UnaryOp .USub a pos) (rdE B (mUn dNeg ma)) :=
  sim_un un_neg ⟨fun ρ H d v Q r h => by
    unfold dNeg at h
    split at h
    · rw [r.int]; exact ⟨_, rfl, h.int⟩
    · exact h.elim, fun d => by unfold dNeg; split <;> trivial⟩ ha

/-! ### + of texts, lists, tuples -/
theorem lstR {X : Cx} {pins : List (Addr × Obj)} {σ : L2.St} {H : Hp} {s : Shared} {l : Addr} {xs : List V} (I : Inv X pins σ H s) (h : Rd H l (.lst xs)) : xs.length ≤ sizeLine ∧ ∃ (its : List Value) (n : Nat), Vals xs its ∧ s.heap.get? l = some { cls := .type "list", data := .seq its.toArray n } := by
  have := h.ok I.hok
  exact this
def rCatL : R2 := fun x y H Q => ∃ l b xs zs, x = .ref l ∧ y = .ref b ∧ Rd H l (.lst xs) ∧ Rd H b (.lst zs) ∧ xs.length + zs.length ≤ sizeLine ∧ ∀ p, H p = none → Q (.ref p) (upd H p (.lst (xs ++ zs)))
theorem op_catL {X : Cx} : OpR X (binaryOp .Add) rCatL := by
  intro pins s σ H x y v u Q I rx ry h
  obtain ⟨l, b, xs, zs, rfl, rfl, hH, hB, hz, q⟩ := h
  cases rx
  cases ry
  obtain ⟨z, its, n, r, e⟩ := lstR I hH
  obtain ⟨z2, its2, n2, r2, e2⟩ := lstR I hB
  have hl := r.length
  have hl2 := r2.length
  refine PySem.P.add_list e e2 ?_ (by rw [List.size_toArray, List.size_toArray]; omega)
  have ea : its.toArray ++ its2.toArray = (its ++ its2).toArray := by simp
  rw [ea]
  exact ⟨.ref _, _, I.lnew (t' := s.toks) (r.append r2) (by rw [List.length_append]; omega), rfl, q _ I.fresh⟩
/-- a new tuple, of either kind -/
def NewT (H : Hp) (xs : List V) (Q : VK) : Prop := (∀ p, H p = none → Q (.ref p) (upd H p (.tup xs))) ∨ ∀ p its, H p = none → Q (.ref p) (upd H p (.frz (plainT its) (.tup xs)))
theorem newT_ok {X : Cx} {pins : List (Addr × Obj)} {σ : L2.St} {H : Hp} {s : Shared} {xs : List V} {its : List Value} {Q : VK} (I : Inv X pins σ H s) (r : Vals xs its) (hz : xs.length ≤ sizeLine) (q : NewT H xs Q) :
    EP X pins σ Q (.ref s.heap.objs.size) { s with heap := s.heap.push { cls := .type "tuple", data := .seq its.toArray } } := by
  have fr := I.hok.fresh (Nat.le_refl s.heap.objs.size)
  rcases q with q | q
  · exact ⟨.ref s.heap.objs.size, _, I.laid (t' := s.toks) (o := .tup xs) (fun b ob q => Heap.get?_push_of_some _ q) (Nat.le_refl _) ⟨hz, its, r, IsTup.new _ _⟩, rfl, q _ fr⟩
  · exact ⟨.ref s.heap.objs.size, _, I.laid (t' := s.toks) (o := .frz (plainT its) (.tup xs)) (fun b ob q => Heap.get?_push_of_some _ q) (Nat.le_refl _) ⟨Heap.get?_push_size _ rfl, hz, its, r, IsTup.new _ _⟩, rfl, q _ its fr⟩
def rCatTT (K : PySem.W.Frag) : R2 := fun x y H Q => ∃ a b xs ys, x = .ref a ∧ y = .ref b ∧ SqT K H a xs ∧ SqT K H b ys ∧ xs.length + ys.length ≤ sizeLine ∧
  (xs = [] → Q (.ref b) H) ∧ (xs ≠ [] → ys = [] → Q (.ref a) H) ∧ (xs ≠ [] → ys ≠ [] → NewT H (xs ++ ys) Q)
theorem op_catTT {X : Cx} : OpR X (binaryOp .Add) (rCatTT X.K) := by
  intro pins s σ H x y v u Q I rx ry h
  obtain ⟨a, b, xs, ys, rfl, rfl, ha, hb, hz, q0, q1, q2⟩ := h
  cases rx
  cases ry
  obtain ⟨its, r1, p1, _⟩ := I.tuple ha
  obtain ⟨its2, r2, p2, _⟩ := I.tuple hb
  by_cases hx : xs = []
  · subst hx
    cases r1
    exact cat_tup0 p1 p2 ⟨.ref b, H, I, rfl, q0 rfl⟩
  · refine HT.cat_tup p1 p2 (fun z => hx (r1.nil_iff.mp z)) (fun z => ⟨.ref a, H, I, rfl, q1 hx (r2.nil_iff.mp z)⟩) (fun z => ?_) (by rw [← r1.length, ← r2.length]; exact hz)
    exact newT_ok I (r1.append r2) (by rw [List.length_append]; exact hz) (q2 hx fun w => z (r2.nil_iff.mpr w))
theorem Reps.app {W : Wd} {ρ : List Addr} {H : Hp} : ∀ {ds es : List D} {xs ys : List V}, Reps W ρ H ds xs → Reps W ρ H es ys → Reps W ρ H (ds ++ es) (xs ++ ys)
  | _, _, _, _, .nil, h => h
  | _, _, _, _, .cons a t, h => .cons a (t.app h)
theorem newT_rep {W : Wd} {ρ : List Addr} {H : Hp} {ds : List D} {xs : List V} {Q : VK} (r : Reps W ρ H ds xs) (h : PPost W ρ H Q (some (.sh (.tup ds)))) : NewT H xs Q := by
  by_cases c : flat ds = true
  · exact .inl fun p n => h.newT c r n
  · exact .inr fun p its n => h.newF (by simpa using c) r n
def addS : D → D → Option RV
  | .str a, .str b => if a.length + b.length ≤ sizeLine then some (.sh (.str (a ++ b))) else none
  | _, _ => none
def addL : D → D → Option RV
  | .lst a, .lst b => if a.length + b.length ≤ sizeLine then some (.fr (.lst (a ++ b))) else none
  | _, _ => none
def addT : D → D → Option RV
  | .tup a, .tup b => if a.length + b.length ≤ sizeLine then some (.sh (.tup (a ++ b))) else none
  | _, _ => none
def dAdd : D → D → Option RV
  | .int i, .int j => some (.sh (.int (i + j)))
  | .str a, .str b => addS (.str a) (.str b)
  | .lst a, .lst b => addL (.lst a) (.lst b)
  | .tup a, .tup b => addT (.tup a) (.tup b)
  | _, _ => none
section
variable {X : Cx} {W : Wd}
theorem o_addS : O2 X W (binaryOp .Add) addS := ⟨_, op_add_str, fun ρ H d1 d2 v1 v2 Q a1 a2 h => by
    unfold addS at h
    split at h
    · split at h
      · rename_i c
        rw [a1.str, a2.str]
        exact ⟨_, _, rfl, rfl, c, h.str⟩
      · exact h.elim
    · exact h.elim, fun d1 d2 => by unfold addS; split <;> first | trivial | (split <;> trivial)⟩
theorem o_addL : O2 X W (binaryOp .Add) addL := ⟨_, op_catL, fun ρ H d1 d2 v1 v2 Q a1 a2 h => by
    unfold addL at h
    split at h
    · split at h
      · rename_i c
        obtain ⟨l, xs, rfl, h1, r1⟩ := a1.lstR
        obtain ⟨b, ys, rfl, h2, r2⟩ := a2.lstR
        exact ⟨l, b, xs, ys, rfl, rfl, h1, h2, by rw [← r1.len, ← r2.len]; exact c, fun p n => h.new (r1.app r2) n⟩
      · exact h.elim
    · exact h.elim, fun d1 d2 => by unfold addL; split <;> first | trivial | (split <;> trivial)⟩
theorem o_addT (hK : X.K = W.K) : O2 X W (binaryOp .Add) addT := ⟨_, op_catTT, fun ρ H d1 d2 v1 v2 Q a1 a2 h => by
    unfold addT at h
    split at h
    · split at h
      · rename_i c
        obtain ⟨l, xs, e1, h1, r1⟩ := a1.tup
        obtain ⟨b, ys, e2, h2, r2⟩ := a2.tup
        subst e1 e2
        have t1 : Rep W ρ H (.tup _) (.ref l) := a1.elim id fun ⟨_, _, z⟩ => nomatch z
        have t2 : Rep W ρ H (.tup _) (.ref b) := a2.elim id fun ⟨_, _, z⟩ => nomatch z
        refine ⟨l, b, xs, ys, rfl, rfl, by rw [hK]; exact h1, by rw [hK]; exact h2, by rw [← r1.len, ← r2.len]; exact c, fun e => ?_, fun _ e => ?_, fun _ _ => newT_rep (r1.app r2) h⟩
        · subst e
          cases r1
          exact h.part t2
        · subst e
          cases r2
          rw [List.append_nil] at h
          exact h.part t1
      · exact h.elim
    · exact h.elim, fun d1 d2 => by unfold addT; split <;> first | trivial | (split <;> trivial)⟩
theorem o_add (hK : X.K = W.K) : O2 X W (binaryOp .Add) dAdd := by
  have h0 : O2 X W (binaryOp .Add) (i2 (fun _ _ => true) (· + ·)) := ⟨_, op_add, P2.i20⟩
  refine ((h0.mix o_addS (pr := fun a b => match a, b with | .int i, .int j => some (.sh (.int (i + j))) | a, b => addS a b) fun a b => ?_).mix (o_addL.mix (o_addT hK) (pr := fun a b => match a, b with | .lst x, .lst y => addL (.lst x) (.lst y) | a, b => addT a b) fun a b => ?_)) fun a b => ?_
  · cases a <;> cases b <;> first | exact .inl rfl | exact .inr rfl
  · cases a <;> cases b <;> first | exact .inl rfl | exact .inr rfl
  · cases a <;> cases b <;> first | exact .inl rfl | exact .inr rfl
end
end Mi

/-! ## The mirror: comparisons, lengths, items, displays, conversions -/
namespace Mi
open PySem PySem.Spec PyProof.Rows L2 Lamp SlX

/-! ### data as the library's == knows it -/
mutual
def toPy : D → Option PyData
  | .non => some .none
  | .bl b => some (.bool b)
  | .int i => some (.int i)
  | .str s => some (.str s)
  | .tup ds => (toPys ds).map .tuple
  | .lst ds => (toPys ds).map .list
  | .kup ns => some (.tuple (ns.map .int))
  | _ => none
def toPys : List D → Option (List PyData)
  | [] => some []
  | d :: ds => match toPy d, toPys ds with
    | some p, some ps => some (p :: ps)
    | _, _ => none
end
theorem dpa_ints {K : PySem.W.Frag} {H : Hp} : ∀ ns : List Int, DpAll K H (ns.map V.int) (ns.map PyData.int)
  | [] => .nil
  | n :: r => .cons (.int n) (dpa_ints r)
mutual
theorem dp_of {W : Wd} {ρ : List Addr} {H : Hp} : ∀ {d : D} {v : V} {q : PyData}, Rep W ρ H d v → toPy d = some q → Dp W.K H v q
  | _, _, q, .non, e => by cases e; exact .non
  | _, _, q, .bl b, e => by cases e; exact .bl b
  | _, _, q, .int i, e => by cases e; exact .int i
  | _, _, q, .str s, e => by cases e; exact .str s
  | .tup ds, _, q, .tup h r, e => by
    unfold toPy at e
    cases e1 : toPys ds with
    | none => rw [e1] at e; cases e
    | some qs => rw [e1] at e; cases e; exact .tup h.seq (dps_of r e1)
  | .lst ds, _, q, .lst h r, e => by
    unfold toPy at e
    cases e1 : toPys ds with
    | none => rw [e1] at e; cases e
    | some qs => rw [e1] at e; cases e; exact .lst (.inl (.inr ⟨_, h⟩)) (dps_of r e1)
  | _, _, q, .dic _ _, e => by simp [toPy] at e
  | _, _, q, .dit _ _ _, e => by simp [toPy] at e
  | _, _, q, .sob _ _ _ _, e => by simp [toPy] at e
  | _, _, q, .pob _ _ _ _, e => by simp [toPy] at e
  | _, _, q, .cel _, e => by simp [toPy] at e
  | _, _, q, .scr _, e => by simp [toPy] at e
  | _, _, q, .pr _ _, e => by simp [toPy] at e
  | _, _, q, .tab, e => by simp [toPy] at e
  | _, _, q, .pin, e => by simp [toPy] at e
  | _, _, q, .exo _ _ _, e => by simp [toPy] at e
  | _, _, q, .ex0 _, e => by simp [toPy] at e
  | _, _, q, .kup h, e => by
    unfold toPy at e
    cases e
    exact .tup (.inr h) (dpa_ints _)
theorem dps_of {W : Wd} {ρ : List Addr} {H : Hp} : ∀ {ds : List D} {xs : List V} {qs : List PyData}, Reps W ρ H ds xs → toPys ds = some qs → DpAll W.K H xs qs
  | _, _, qs, .nil, e => by cases e; exact .nil
  | d :: ds, _, qs, .cons h t, e => by
    unfold toPys at e
    cases e1 : toPy d with
    | none => rw [e1] at e; cases e
    | some q =>
      cases e2 : toPys ds with
      | none => rw [e1, e2] at e; cases e
      | some qs' => rw [e1, e2] at e; cases e; exact .cons (dp_of h e1) (dps_of t e2)
end
theorem dpB_of {W : Wd} {ρ : List Addr} {H : Hp} {d : D} {v : V} {q : PyData} (h : RepB W ρ H d v) (e : toPy d = some q) : Dp W.K H v q := by
  rcases h with h | ⟨a, rfl, h⟩
  · exact dp_of h e
  · cases h with
    | lst h r =>
      unfold toPy at e
      rename_i ds xs
      cases e1 : toPys ds with
      | none => rw [e1] at e; cases e
      | some qs => rw [e1] at e; cases e; exact .lst (SqL.of h) (dps_of r e1)
    | dic _ _ => simp [toPy] at e
    | dit _ _ _ => simp [toPy] at e
    | sob _ _ _ _ => simp [toPy] at e
    | pob _ _ _ _ => simp [toPy] at e
def eqP0 (neg : Bool) (a b : D) : Option RV := match toPy a, toPy b with
  | some p, some q => if SeqAt.shaped p && SeqAt.shaped q then some (.sh (.bl (if neg then !PyData.eqv p q else PyData.eqv p q))) else none
  | _, _ => none
section
variable {X : Cx} {W : Wd}
theorem eqP0_ok {neg : Bool} {ρ : List Addr} {H : Hp} {Q : VK} {d1 d2 : D} {v1 v2 : V} (a1 : RepB W ρ H d1 v1) (a2 : RepB W ρ H d2 v2) (h : PPost W ρ H Q (eqP0 neg d1 d2)) :
    ∃ d e, Dp W.K H v1 d ∧ Dp W.K H v2 e ∧ SeqAt.shaped d = true ∧ SeqAt.shaped e = true ∧ Q (.bl (if neg then !PyData.eqv d e else PyData.eqv d e)) H := by
  unfold eqP0 at h
  cases e1 : toPy d1 with
  | none => rw [e1] at h; exact h.elim
  | some p =>
    cases e2 : toPy d2 with
    | none => rw [e1, e2] at h; exact h.elim
    | some q =>
      rw [e1, e2] at h
      by_cases c : (SeqAt.shaped p && SeqAt.shaped q) = true
      · simp only [c, if_true] at h
        rw [Bool.and_eq_true] at c
        exact ⟨p, q, dpB_of a1 e1, dpB_of a2 e2, c.1, c.2, h.bl⟩
      · simp only [c] at h; exact h.elim
theorem eqP0_np {neg : Bool} (d1 d2 : D) : noPl (eqP0 neg d1 d2) := by
  unfold eqP0
  split
  · split <;> trivial
  · trivial
theorem c_eq0 (hK : X.K = W.K) (hu : X.A.units + 64 < cLine) : O2 X W (compareOp .Eq) (eqP0 false) := ⟨_, op_eqD hu, fun ρ H d1 d2 v1 v2 Q a1 a2 h => by
  obtain ⟨d, e, h1, h2, h3, h4, h5⟩ := eqP0_ok a1 a2 h
  rw [← hK] at h1 h2
  exact ⟨d, e, h1, h2, h3, h4, h5⟩, eqP0_np⟩
theorem c_ne0 (hK : X.K = W.K) (hu : X.A.units + 64 < cLine) : O2 X W (compareOp .NotEq) (eqP0 true) := ⟨_, op_neD hu, fun ρ H d1 d2 v1 v2 Q a1 a2 h => by
  obtain ⟨d, e, h1, h2, h3, h4, h5⟩ := eqP0_ok a1 a2 h
  rw [← hK] at h1 h2
  exact ⟨d, e, h1, h2, h3, h4, h5⟩, eqP0_np⟩
end
/-- texts of any kind -/
def eqS0 (neg : Bool) : D → D → Option RV
  | .str a, .str b => some (.sh (.bl (if neg then !decide (a = b) else decide (a = b))))
  | _, _ => none
def eqP (neg : Bool) (a b : D) : Option RV := match a, b with
  | .str x, .str y => eqS0 neg (.str x) (.str y)
  | a, b => eqP0 neg a b
theorem eqP_or (neg : Bool) (a b : D) : eqP neg a b = eqS0 neg a b ∨ eqP neg a b = eqP0 neg a b := by
  unfold eqP
  split
  · exact .inl rfl
  · exact .inr rfl
section
variable {X : Cx} {W : Wd}
theorem eqS0_np {neg : Bool} (d1 d2 : D) : noPl (eqS0 neg d1 d2) := by
  unfold eqS0
  split <;> trivial
theorem c_eqS : O2 X W (compareOp .Eq) (eqS0 false) := ⟨_, op_eq, fun ρ H d1 d2 v1 v2 Q a1 a2 h => by
  unfold eqS0 at h
  split at h
  · rename_i a b
    rw [a1.str, a2.str]
    refine ⟨rfl, ?_⟩
    have e : decide (V.str a = V.str b) = decide (a = b) := by simp
    rw [e]
    exact h.bl
  · exact h.elim, eqS0_np⟩
theorem c_neS : O2 X W (compareOp .NotEq) (eqS0 true) := ⟨_, op_ne, fun ρ H d1 d2 v1 v2 Q a1 a2 h => by
  unfold eqS0 at h
  split at h
  · rename_i a b
    rw [a1.str, a2.str]
    refine ⟨rfl, ?_⟩
    have e : decide (V.str a = V.str b) = decide (a = b) := by simp
    rw [e]
    exact h.bl
  · exact h.elim, eqS0_np⟩
theorem c_eq (hK : X.K = W.K) (hu : X.A.units + 64 < cLine) : O2 X W (compareOp .Eq) (eqP false) := .mix c_eqS (c_eq0 hK hu) (eqP_or false)
theorem c_ne (hK : X.K = W.K) (hu : X.A.units + 64 < cLine) : O2 X W (compareOp .NotEq) (eqP true) := .mix c_neS (c_ne0 hK hu) (eqP_or true)
end
/-! ### is None, is True -/
def isNon : D → Option Bool
  | .non => some true
  | .bl _ => some false | .int _ => some false | .str _ => some false | .tup _ => some false | .lst _ => some false | .dic _ => some false | .obj _ _ => some false | .cel _ => some false | _ => none
def isP (neg : Bool) (a b : D) : Option RV := match b with
  | .non => (isNon a).map fun c => .sh (.bl (if neg then !c else c))
  | .bl y => match a with
    | .bl x => some (.sh (.bl (if neg then !decide (x = y) else decide (x = y))))
    | _ => none
  | _ => none
section
variable {X : Cx} {W : Wd}
end
/-! ### len -/
def dLen : List D → Option RV
  | [.lst ds] => some (.sh (.int ds.length))
  | [.tup ds] => some (.sh (.int ds.length))
  | [.scr ns] => some (.sh (.int ns.length))
  | [.str s] => if s.length ≤ sizeLine then some (.sh (.int s.length)) else none
  | [.dic kvs] => if kvs.all (fun kv => match kv.1 with | .tup _ => false | _ => true) then some (.sh (.int kvs.length)) else none
  | _ => none
theorem repBs1 {W : Wd} {ρ : List Addr} {H : Hp} {d : D} {vs : List V} (h : RepBs W ρ H [d] vs) : ∃ v, vs = [v] ∧ RepB W ρ H d v := by
  cases h with
  | cons h t => cases t; exact ⟨_, rfl, h⟩
theorem repBs2 {W : Wd} {ρ : List Addr} {H : Hp} {d e : D} {vs : List V} (h : RepBs W ρ H [d, e] vs) : ∃ v w, vs = [v, w] ∧ RepB W ρ H d v ∧ RepB W ρ H e w := by
  cases h with
  | cons h t => obtain ⟨w, rfl, r⟩ := repBs1 t; exact ⟨_, _, rfl, h, r⟩
theorem call_lenDR {X : Cx} : CallR X (.builtin "len") (fun xs H Q => ∃ a kvs, xs = [V.ref a] ∧ Rd H a (.dK kvs) ∧ Q (.int kvs.length) H) := by
  intro pins s σ H xs us Q I r h
  obtain ⟨a, kvs, rfl, hd, q⟩ := h
  obtain ⟨u, rfl, ru⟩ := vals1 r
  cases ru
  exact d_len I hd fun t s' I' => ⟨.int _, H, I', ⟨t, rfl⟩, q⟩
theorem RepB.dicK {W : Wd} {ρ : List Addr} {H : Hp} {kvs : List (D × D)} {v : V} (h : RepB W ρ H (.dic kvs) v) (c : kvs.all (fun kv => match kv.1 with | .tup _ => false | _ => true) = true) : ∃ a kys, v = .ref a ∧ Rd H a (.dK kys) ∧ RepK W ρ H kvs kys := by
  rcases h with h | ⟨a, rfl, h⟩
  · cases h with
    | dic h r => exact ⟨_, _, rfl, .inr ⟨_, h⟩, r⟩
    | dit h n r => exact (no_dit n r c).elim
  · cases h with
    | dic h r => exact ⟨_, _, rfl, .inl h, r⟩
    | dit h n r => exact (no_dit n r c).elim
section
variable {X : Cx} {W : Wd}
theorem k_len (hK : X.K = W.K) : C1 X W (.builtin "len") dLen := ⟨_, call_len.or call_lenDR, fun ρ H ds vs Q a h => by
    unfold dLen at h
    split at h
    · obtain ⟨v, rfl, r⟩ := repBs1 a
      obtain ⟨p, xs, rfl, s, rr⟩ := r.lst
      exact .inl ⟨_, _, rfl, .inl ⟨xs, by rw [hK]; exact s, rfl⟩, by rw [← rr.len]; exact h.int⟩
    · obtain ⟨v, rfl, r⟩ := repBs1 a
      obtain ⟨p, xs, rfl, s, rr⟩ := r.tup
      exact .inl ⟨_, _, rfl, .inr ⟨xs, by rw [hK]; exact s, rfl⟩, by rw [← rr.len]; exact h.int⟩
    · obtain ⟨v, rfl, r⟩ := repBs1 a
      obtain ⟨p, rfl, s⟩ := r.scr
      exact .inl ⟨_, _, rfl, .inl ⟨_, by rw [hK]; exact s, rfl⟩, by rw [List.length_map]; exact h.int⟩
    · obtain ⟨v, rfl, r⟩ := repBs1 a
      obtain rfl := r.str
      split at h
      · rename_i c
        exact .inl ⟨_, _, rfl, ⟨c, rfl⟩, h.int⟩
      · exact h.elim
    · obtain ⟨v, rfl, r⟩ := repBs1 a
      split at h
      · rename_i c
        obtain ⟨p, kys, rfl, rd, rr⟩ := r.dicK c
        exact .inr ⟨p, kys, rfl, rd, by rw [← rr.len]; exact h.int⟩
      · exact h.elim
    · exact h.elim, fun ds => by unfold dLen; split <;> first | trivial | (split <;> trivial)⟩
end
/-! ### items -/
def ixS : D → D → Option RV
  | .lst ds, .int i => (atI ds i).map .sh
  | .tup ds, .int i => (atI ds i).map .sh
  | .pr ds, .int i => (atI ds i).map .sh
  | .scr ns, .int i => (atI ns i).map fun n => .sh (.int n)
  | .str s, .int i => if s.length ≤ sizeLine then (atI s.cps.toList i).map fun c => .sh (.str ⟨#[c]⟩) else none
  | _, _ => none
theorem Reps.atI {W : Wd} {ρ : List Addr} {H : Hp} {ds : List D} {xs : List V} {i : Int} {d : D} (r : Reps W ρ H ds xs) (e : L2.atI ds i = some d) : ∃ x, L2.atI xs i = some x ∧ Rep W ρ H d x := by
  unfold L2.atI at e ⊢
  rw [← r.len]
  cases e1 : ixN ds.length i with
  | none => rw [e1] at e; cases e
  | some j =>
    rw [e1] at e
    have e' : ds[j]? = some d := e
    exact r.get e'
theorem atI_map {α β : Type} (f : α → β) (xs : List α) (i : Int) : L2.atI (xs.map f) i = (L2.atI xs i).map f := by
  unfold L2.atI
  rw [List.length_map]
  cases ixN xs.length i with
  | none => rfl
  | some j => show (xs.map f)[j]? = (xs[j]?).map f; rw [List.getElem?_map]
theorem np_map {α : Type} {o : Option α} {f : α → D} : noPl (o.map fun x => .sh (f x)) := by cases o <;> trivial
section
variable {X : Cx} {W : Wd}
theorem x_seq (hK : X.K = W.K) : Ix2 X W ixS := ⟨_, ix_seq, fun ρ H d1 d2 v1 v2 Q a1 a2 h => by
    unfold ixS at h
    split at h
    · rename_i ds i
      obtain ⟨p, xs, rfl, s, rr⟩ := a1.lst
      rw [a2.int]
      cases e : atI ds i with
      | none => rw [e] at h; exact h.elim
      | some d =>
        rw [e] at h
        obtain ⟨x, ex, rx⟩ := rr.atI e
        exact .inl ⟨p, xs, i, x, rfl, rfl, by rw [hK]; exact s, ex, PPost.part h rx⟩
    · rename_i ds i
      obtain ⟨p, xs, rfl, s, rr⟩ := a1.tup
      rw [a2.int]
      cases e : atI ds i with
      | none => rw [e] at h; exact h.elim
      | some d =>
        rw [e] at h
        obtain ⟨x, ex, rx⟩ := rr.atI e
        exact .inr (.inl ⟨p, xs, i, x, rfl, rfl, by rw [hK]; exact s, ex, PPost.part h rx⟩)
    · rename_i ds i
      rw [a2.int]
      rcases a1 with a1 | ⟨_, _, z⟩
      · cases a1 with
        | pr hp rr =>
          cases e : atI ds i with
          | none => rw [e] at h; exact h.elim
          | some d =>
            rw [e] at h
            obtain ⟨x, ex, rx⟩ := rr.atI e
            exact .inr (.inl ⟨_, _, i, x, rfl, rfl, SqT.of hp, ex, PPost.part h rx⟩)
      · cases z
    · rename_i ns i
      obtain ⟨p, rfl, s⟩ := a1.scr
      rw [a2.int]
      cases e : atI ns i with
      | none => rw [e] at h; exact h.elim
      | some n =>
        rw [e] at h
        exact .inl ⟨p, _, i, .int n, rfl, rfl, by rw [hK]; exact s, by rw [atI_map, e]; rfl, PPost.int h⟩
    · rename_i s i
      rw [a1.str, a2.int]
      split at h
      · rename_i c
        cases e : atI s.cps.toList i with
        | none => rw [e] at h; exact h.elim
        | some n =>
          rw [e] at h
          exact .inr (.inr ⟨s, i, n, rfl, rfl, c, e, PPost.str h⟩)
      · exact h.elim
    · exact h.elim, fun d1 d2 => by
      unfold ixS
      split
      · exact np_map
      · exact np_map
      · exact np_map
      · exact np_map
      · split
        · exact np_map
        · trivial
      · trivial⟩
end
/-! ### displays -/
theorem pe_tupA {X : Cx} {es : List Expr} {t : TA} {x1 : Nat} {pos : Pos} (h : PA X es t) : PE X (.Tuple es x1 pos) (fun σ H Q => t σ H fun xs H1 => xs.length ≤ sizeLine ∧ NewT H1 xs Q) := by
  refine ⟨fun pins s σ H Q I hq => ?_⟩
  refine wpAny_Tuple_spliced (thn (h.run _ pins s σ H _ I hq) fun us s1 ⟨xs, H1, I1, r, z, q⟩ => ⟨by rw [← r.length]; exact z, ?_⟩)
  exact newT_ok I1 r z q
def mTup (ms : List EM) : EM := bindA ms fun rs p => match shs rs with
  | some ds => if ds.length ≤ sizeLine then some (.val (.sh (.tup ds)) p) else none
  | none => none
def mLst (ms : List EM) : EM := bindA ms fun rs p => match shs rs with
  | some ds => if ds.length ≤ sizeLine then some (.val (.fr (.lst ds)) p) else none
  | none => none
section
variable {X : Cx} {B : Bd} {es : List Expr} {ms : List EM} {pos : Pos}
theorem sim_tup {x1 : Nat} (h : PA X es (rdA B ms)) : PE X (.Tuple es x1 pos) (rdE B (mTup ms)) :=
  (pe_tupA h).imp fun σ H Q k => bindA_rd k fun g p rs vs H1 R a k => by
    cases e : shs rs with
    | none => simp only [e] at k; exact k.elim
    | some ds =>
      simp only [e] at k
      have rr := a.reps (shs_eq e)
      by_cases c : ds.length ≤ sizeLine
      · simp only [c, if_true] at k
        exact ⟨by rw [← rr.len]; exact c, newT_rep rr (PPost.of' (r := some (.sh (.tup ds))) R trivial k)⟩
      · simp only [c, if_false] at k; exact k.elim
theorem sim_lst (h : PA X es (rdA B ms)) : PE X (.List es pos) (rdE B (mLst ms)) :=
  (pe_lst h).imp fun σ H Q k => bindA_rd k fun g p rs vs H1 R a k => by
    cases e : shs rs with
    | none => simp only [e] at k; exact k.elim
    | some ds =>
      simp only [e] at k
      have rr := a.reps (shs_eq e)
      by_cases c : ds.length ≤ sizeLine
      · simp only [c, if_true] at k
        have pp := PPost.of' (r := some (.fr (.lst ds))) R trivial k
        exact ⟨by rw [← rr.len]; exact c, fun q n => pp.new rr n⟩
      · simp only [c, if_false] at k; exact k.elim
theorem sim_dic0 : PE X (.Dict [] [] pos) (rdE B (fun p => some (.val (.fr (.dic [])) p))) :=
  pe_dnewK.imp fun σ H Q k => by
    obtain ⟨g, p, R, k⟩ := k
    intro q n
    exact (PPost.of' (r := some (.fr (.dic []))) R trivial k).newD .nil n
end
end Mi

/-! ## The mirror: slices, conversions, calls of built-in functions -/
namespace Mi
open PySem PySem.Spec PyProof.Rows L2 Lamp SlX

/-! ### slices -/
def cutL {α : Type} (xs : List α) (lo hi : Option Int) : List α := (xs.drop (HT.sIx xs.length 0 lo)).take (HT.sIx xs.length xs.length hi - HT.sIx xs.length 0 lo)
theorem cutL_map {α β : Type} (f : α → β) (xs : List α) (lo hi : Option Int) : (cutL xs lo hi).map f = cutL (xs.map f) lo hi := by
  unfold cutL
  rw [List.map_take, List.map_drop, List.length_map]
theorem Reps.drop {W : Wd} {ρ : List Addr} {H : Hp} : ∀ {ds : List D} {xs : List V} (n : Nat), Reps W ρ H ds xs → Reps W ρ H (ds.drop n) (xs.drop n)
  | _, _, 0, r => r
  | _, _, _ + 1, .nil => .nil
  | _, _, n + 1, .cons _ t => t.drop n
theorem Reps.take {W : Wd} {ρ : List Addr} {H : Hp} : ∀ {ds : List D} {xs : List V} (n : Nat), Reps W ρ H ds xs → Reps W ρ H (ds.take n) (xs.take n)
  | _, _, 0, _ => .nil
  | _, _, _ + 1, .nil => .nil
  | _, _, n + 1, .cons h t => .cons h (t.take n)
theorem Reps.cut {W : Wd} {ρ : List Addr} {H : Hp} {ds : List D} {xs : List V} (r : Reps W ρ H ds xs) (lo hi : Option Int) : Reps W ρ H (cutL ds lo hi) (cutV xs lo hi) := by
  unfold cutL cutV
  rw [← r.len]
  exact (r.drop _).take _
def rSlTT (K : PySem.W.Frag) : V → Option Int → Option Int → Hp → VK → Prop := fun x lo hi H Q => ∃ a xs, x = .ref a ∧ SqT K H a xs ∧
  (HT.sIx xs.length 0 lo = 0 ∧ HT.sIx xs.length xs.length hi = xs.length → Q (.ref a) H) ∧ (¬ (HT.sIx xs.length 0 lo = 0 ∧ HT.sIx xs.length xs.length hi = xs.length) → NewT H (cutV xs lo hi) Q)
theorem sl_tupTT {X : Cx} : SlR X (rSlTT X.K) := by
  intro pins s σ H x v vl vu lo hi sl Q I rx hs pl pu h
  obtain ⟨a, xs, rfl, hx, q1, q2⟩ := h
  cases rx
  obtain ⟨its, r, ht, hz⟩ := I.tuple hx
  have hlen : its.toArray.size = xs.length := by rw [List.size_toArray]; exact r.length.symm
  by_cases hw : HT.sIx xs.length 0 lo = 0 ∧ HT.sIx xs.length xs.length hi = xs.length
  · refine ⟨"tuple", _, PyProof.Rows.slot_tuple_getitem.lookup, ht.typeIs, ?_⟩
    exact getItem_tuple_whole ht hs pl pu (by rw [hlen]; exact hw) ⟨.ref a, H, I, rfl, q1 hw⟩
  · refine ⟨"tuple", _, PyProof.Rows.slot_tuple_getitem.lookup, ht.typeIs, ?_⟩
    refine HT.getItem_tuple_cut ht hs pl pu (by rw [hlen]; exact hw) ?_ (by rw [hlen]; exact hz)
    rw [hlen]
    exact newT_ok I ((r.drop (HT.sIx xs.length 0 lo)).take (HT.sIx xs.length xs.length hi - HT.sIx xs.length 0 lo)) (Nat.le_trans (cutV_length xs lo hi) hz) (q2 hw)
def dSl : D → Option Int → Option Int → Option RV
  | .lst ds, lo, hi => some (.fr (.lst (cutL ds lo hi)))
  | .scr ns, lo, hi => some (.fr (.lst ((cutL ns lo hi).map .int)))
  | .tup ds, lo, hi => some (.sh (.tup (cutL ds lo hi)))
  | .str s, lo, hi => if s.length ≤ sizeLine then some (.sh (.str (cutS s lo hi))) else none
  | _, _, _ => none
theorem cut_whole {α : Type} {xs : List α} {lo hi : Option Int} (h : HT.sIx xs.length 0 lo = 0 ∧ HT.sIx xs.length xs.length hi = xs.length) : cutL xs lo hi = xs := by
  unfold cutL
  rw [h.1, h.2]
  simp
section
variable {X : Cx} {W : Wd} {B : Bd}
theorem s_any (hK : X.K = W.K) : SlR X (fun x lo hi H Q => rSlL X.K x lo hi H Q ∨ rSlTT X.K x lo hi H Q ∨ rSlS x lo hi H Q) := sl_list.or (sl_tupTT.or sl_str)
theorem s_ok (hK : X.K = W.K) : PSl W (fun x lo hi H Q => rSlL X.K x lo hi H Q ∨ rSlTT X.K x lo hi H Q ∨ rSlS x lo hi H Q) dSl := by
  refine ⟨fun ρ H d v lo hi Q a h => ?_, fun d lo hi => ?_⟩
  · unfold dSl at h
    split at h
    · obtain ⟨p, xs, rfl, s, rr⟩ := a.lst
      exact .inl ⟨p, xs, rfl, by rw [hK]; exact s, fun q n => h.new (rr.cut _ _) n⟩
    · obtain ⟨p, rfl, s⟩ := a.scr
      rename_i ns
      refine .inl ⟨p, _, rfl, by rw [hK]; exact s, fun q n => ?_⟩
      have e : cutV (ns.map V.int) lo hi = (cutL ns lo hi).map V.int := (cutL_map V.int ns lo hi).symm
      rw [e]
      exact h.new (Reps.ints _) n
    · obtain ⟨p, xs, e1, s, rr⟩ := a.tup
      subst e1
      have t1 : Rep W ρ H (.tup _) (.ref p) := a.elim id fun ⟨_, _, z⟩ => nomatch z
      refine .inr (.inl ⟨p, xs, rfl, by rw [hK]; exact s, fun w => ?_, fun _ => newT_rep (rr.cut _ _) h⟩)
      rw [← rr.len] at w
      rw [cut_whole w] at h
      exact h.part t1
    · split at h
      · rename_i c
        exact .inr (.inr ⟨_, a.str, c, h.str⟩)
      · exact h.elim
    · exact h.elim
  · unfold dSl
    split <;> first | trivial | (split <;> trivial)
variable {e : Expr} {mo : EM} {lo hi : Option Expr} {ml mh : Option EM} {pos p2 : Pos}
theorem sim_sl (hK : X.K = B.W.K) (he : PE X e (rdE B mo)) (hl : SimO X B lo ml) (hh : SimO X B hi mh) : PE X (.Subscript e (.Slice lo hi none p2) pos) (rdE B (mSl dSl mo ml mh)) :=
  (pe_slice (s_any hK) he (po_of hl) (po_of hh)).imp fun σ H Q k => by
    refine bind_rd (k := fun ro p0 => if isFr ro then none else bindE (mPart ml) (fun rl p1 => match asPart ml.isSome rl with
      | none => none
      | some l => bindE (mPart mh) (fun rh p => match get p ro, asPart mh.isSome rh with
        | some d, some h => ret p (dSl d l h)
        | _, _ => none) p1) p0) k fun g p1 ro v H1 R1 a1 k1 => ?_
    by_cases n : isFr ro = true
    · simp only [n, if_true] at k1; exact k1.elim
    · simp only [n] at k1
      have nf : ∀ d, ro ≠ .fr d := fun d z => n (by rw [z]; rfl)
      refine ⟨g, p1, R1, ?_⟩
      unfold bindE at k1
      cases e1 : mPart ml p1 with
      | none => rw [e1] at k1; exact k1
      | some w =>
        rw [e1] at k1
        cases w with
        | exc x st => exact k1
        | val rl p2 =>
          intro vl H2 ρ2 R2 q2 f2 al
          have k2 := Post.later q2 f2 k1
          simp only at k2
          cases eo : asPart ml.isSome rl with
          | none => simp only [eo] at k2; exact k2.elim
          | some o =>
            simp only [eo] at k2
            refine asPart_rep (Q := fun l H2 => tOf B mh σ H2 fun u H3 => rSlL X.K v l u H3 Q ∨ rSlTT X.K v l u H3 Q ∨ rSlS v l u H3 Q) al eo ?_
            refine ⟨⟨ρ2, g.hid⟩, p2, R2, ?_⟩
            cases e2 : mPart mh p2 with
            | none => simp only [e2] at k2; exact k2
            | some w =>
              simp only [e2] at k2
              cases w with
              | exc x st => exact k2
              | val rh p3 =>
                intro vh H3 ρ3 R3 q3 f3 ah
                have k3 := Post.later (g := ⟨ρ2, g.hid⟩) (ρ' := ρ3) q3 f3 k2
                cases eh : asPart mh.isSome rh with
                | none => cases e3 : get p3 ro <;> simp only [eh, e3] at k3 <;> exact k3.elim
                | some o2 =>
                  cases e3 : get p3 ro with
                  | none => simp only [e3] at k3; exact k3.elim
                  | some d =>
                    simp only [eh, e3] at k3
                    refine asPart_rep (Q := fun u H3 => rSlL X.K v o u H3 Q ∨ rSlTT X.K v o u H3 Q ∨ rSlS v o u H3 Q) ah eh ?_
                    have aro : RepR B ⟨ρ3, g.hid⟩ σ H3 p3 ro v := RepR.on (g := g) nf (f2.trans f3) (List.IsPrefix.trans q2 q3) a1
                    exact (s_ok hK).ok _ _ _ _ _ _ _ (get_rep R3 aro e3) (PPost.of' R3 ((s_ok hK).np _ _ _) k3)
end
end Mi

/-! ## The mirror: calls of built-in functions and types -/
namespace Mi
open PySem PySem.Spec PyProof.Rows L2 Lamp SlX

def asInts : List D → Option (List Int)
  | [] => some []
  | .int i :: ds => match asInts ds with
    | some r => some (i :: r)
    | none => none
  | _ => none
def asStrs : List D → Option (List Str)
  | [] => some []
  | .str i :: ds => match asStrs ds with
    | some r => some (i :: r)
    | none => none
  | _ => none
def asBls : List D → Option (List Bool)
  | [] => some []
  | .bl i :: ds => match asBls ds with
    | some r => some (i :: r)
    | none => none
  | _ => none
theorem asInts_eq : ∀ {ds : List D} {ns : List Int}, asInts ds = some ns → ds = ns.map D.int
  | [], ns, e => by cases e; rfl
  | d :: ds, ns, e => by
    cases d with
    | int i =>
      unfold asInts at e
      cases e1 : asInts ds with
      | none => rw [e1] at e; cases e
      | some r => rw [e1] at e; cases e; rw [List.map_cons, ← asInts_eq e1]
    | _ => cases e
theorem asBls_eq : ∀ {ds : List D} {ns : List Bool}, asBls ds = some ns → ds = ns.map D.bl
  | [], ns, e => by cases e; rfl
  | d :: ds, ns, e => by
    cases d with
    | bl i =>
      unfold asBls at e
      cases e1 : asBls ds with
      | none => rw [e1] at e; cases e
      | some r => rw [e1] at e; cases e; rw [List.map_cons, ← asBls_eq e1]
    | _ => cases e
@[simp] theorem asInts_map (ns : List Int) : asInts (ns.map D.int) = some ns := by
  induction ns with
  | nil => rfl
  | cons a r ih => simp [asInts, ih]
@[simp] theorem asStrs_map (ns : List Str) : asStrs (ns.map D.str) = some ns := by
  induction ns with
  | nil => rfl
  | cons a r ih => simp [asStrs, ih]
@[simp] theorem asBls_map (ns : List Bool) : asBls (ns.map D.bl) = some ns := by
  induction ns with
  | nil => rfl
  | cons a r ih => simp [asBls, ih]
section
variable {W : Wd} {ρ : List Addr} {H : Hp}
theorem Reps.vInts : ∀ {ns : List Int} {xs : List V}, Reps W ρ H (ns.map D.int) xs → xs = ns.map V.int
  | [], _, .nil => rfl
  | n :: r, _, .cons h t => by cases h; rw [List.map_cons, ← Reps.vInts t]
theorem Reps.vBls : ∀ {ns : List Bool} {xs : List V}, Reps W ρ H (ns.map D.bl) xs → xs = ns.map V.bl
  | [], _, .nil => rfl
  | n :: r, _, .cons h t => by cases h; rw [List.map_cons, ← Reps.vBls t]
end
/-! ### list(..), tuple(..), dict(..) -/
theorem RepK.keys {W : Wd} {ρ : List Addr} {H : Hp} : ∀ {kvs : List (D × D)} {kys : List (Key × V)}, RepK W ρ H kvs kys → Reps W ρ H (kvs.map (·.1)) (kys.map fun kv => kV kv.1)
  | _, _, .nil => .nil
  | _, _, .cons e h t => .cons (by show Rep _ _ _ _ _; rw [e]; exact rep_key _) t.keys
section
variable {X : Cx} {W : Wd}
def dTuple : List D → Option RV
  | [.lst ds] => some (.sh (.tup ds))
  | [.tup ds] => some (.sh (.tup ds))
  | _ => none
end
/-- a key that a dict may have -/
def asKey : D → Option Key
  | .int i => some (.inl i)
  | .str s => some (.inr s)
  | _ => none
theorem asKey_eq {d : D} {k : Key} (e : asKey d = some k) : d = keyD k := by
  cases d <;> first | (cases e; rfl) | cases e
def kEq : D → D → Bool
  | .int i, .int j => i == j
  | .str a, .str b => decide (a = b)
  | _, _ => false
theorem kEq_key (a b : Key) : kEq (keyD a) (keyD b) = decide (a = b) := by
  cases a <;> cases b
  · rw [key_ll]; rfl
  · rw [key_lr]; rfl
  · rw [key_rl]; rfl
  · rw [key_rr]; rfl
/-- in its place, or at the end -/
def putD (kvs : List (D × D)) (k v : D) : List (D × D) := if kvs.any (fun kv => kEq kv.1 k) then kvs.map (fun kv => if kEq kv.1 k then (kv.1, v) else kv) else kvs ++ [(k, v)]
def lookD (kvs : List (D × D)) (k : D) : Option D := (kvs.find? fun kv => kEq kv.1 k).map (·.2)
def dropD (kvs : List (D × D)) (k : D) : List (D × D) := kvs.filter fun kv => !kEq kv.1 k
section
variable {W : Wd} {ρ : List Addr} {H : Hp}
theorem RepK.any (k : Key) : ∀ {kvs : List (D × D)} {kys : List (Key × V)}, RepK W ρ H kvs kys → kvs.any (fun kv => kEq kv.1 (keyD k)) = kys.any fun kv => decide (kv.1 = k)
  | _, _, .nil => rfl
  | _, _, .cons e h t => by
    rw [List.any_cons, List.any_cons, RepK.any k t]
    congr 1
    rw [e, kEq_key]
theorem RepK.cons' {p : D × D} {q : Key × V} {r : List (D × D)} {ys : List (Key × V)} (e : p.1 = keyD q.1) (h : Rep W ρ H p.2 q.2) (t : RepK W ρ H r ys) : RepK W ρ H (p :: r) (q :: ys) := .cons e h t
theorem RepK.repl (k : Key) {d : D} {x : V} (hd : Rep W ρ H d x) : ∀ {kvs : List (D × D)} {kys : List (Key × V)}, RepK W ρ H kvs kys → RepK W ρ H (kvs.map fun kv => if kEq kv.1 (keyD k) then (kv.1, d) else kv) (kys.map fun kv => if kv.1 = k then (kv.1, x) else kv)
  | _, _, .nil => .nil
  | _, _, .cons (k := k') (kd := kd) e h t => by
    rw [List.map_cons, List.map_cons]
    subst e
    have c := kEq_key k' k
    refine RepK.cons' ?_ ?_ (t.repl k hd)
    · show (if kEq (keyD k') (keyD k) = true then _ else _ : D × D).1 = keyD (if k' = k then _ else _ : Key × V).1
      rw [c]
      by_cases q : k' = k
      · rw [if_pos (decide_eq_true q), if_pos q]
      · rw [if_neg (by simp [q]), if_neg q]
    · show Rep W ρ H (if kEq (keyD k') (keyD k) = true then _ else _ : D × D).2 (if k' = k then _ else _ : Key × V).2
      rw [c]
      by_cases q : k' = k
      · rw [if_pos (decide_eq_true q), if_pos q]
        exact hd
      · rw [if_neg (by simp [q]), if_neg q]
        exact h
theorem RepK.app : ∀ {kvs kvs' : List (D × D)} {kys kys' : List (Key × V)}, RepK W ρ H kvs kys → RepK W ρ H kvs' kys' → RepK W ρ H (kvs ++ kvs') (kys ++ kys')
  | _, _, _, _, .nil, h => h
  | _, _, _, _, .cons e h t, q => .cons e h (t.app q)
theorem RepK.put (k : Key) {d : D} {x : V} (hd : Rep W ρ H d x) {kvs : List (D × D)} {kys : List (Key × V)} (r : RepK W ρ H kvs kys) : RepK W ρ H (putD kvs (keyD k) d) (putK kys k x) := by
  unfold putD putK
  rw [r.any k]
  split
  · exact r.repl k hd
  · exact r.app (.cons rfl hd .nil)
theorem RepK.look (k : Key) : ∀ {kvs : List (D × D)} {kys : List (Key × V)}, RepK W ρ H kvs kys → (lookD kvs (keyD k) = none ∧ valV kys k = none) ∨ ∃ d x, lookD kvs (keyD k) = some d ∧ valV kys k = some x ∧ Rep W ρ H d x
  | _, _, .nil => .inl ⟨rfl, rfl⟩
  | _, _, .cons (k := k') (kd := kd) (r := r) (x := x) (ys := ys) (d := d) e h t => by
    subst e
    have c := kEq_key k' k
    by_cases q : k' = k
    · right
      refine ⟨d, x, ?_, valV_pos (p := (k', x)) q, h⟩
      unfold lookD
      rw [List.find?_cons_of_pos (by rw [c, decide_eq_true q])]
      rfl
    · have e1 : lookD ((keyD k', d) :: r) (keyD k) = lookD r (keyD k) := by
        unfold lookD
        rw [List.find?_cons_of_neg (by rw [c, decide_eq_false q]; decide)]
      have e2 : valV ((k', x) :: ys) k = valV ys k := valV_neg (p := (k', x)) q
      rw [e1, e2]
      exact t.look k
theorem RepK.drop (k : Key) : ∀ {kvs : List (D × D)} {kys : List (Key × V)}, RepK W ρ H kvs kys → RepK W ρ H (dropD kvs (keyD k)) (dropK kys k)
  | _, _, .nil => .nil
  | _, _, .cons (k := k') (kd := kd) (r := r) (x := x) (ys := ys) (d := d) e h t => by
    subst e
    have c := kEq_key k' k
    unfold dropD dropK
    by_cases q : k' = k
    · rw [List.filter_cons_of_neg (by show ¬ (!kEq (keyD k') (keyD k)) = true; rw [c, decide_eq_true q]; decide), List.filter_cons_of_neg (by simp [q])]
      exact t.drop k
    · rw [List.filter_cons_of_pos (by show (!kEq (keyD k') (keyD k)) = true; rw [c, decide_eq_false q]; rfl), List.filter_cons_of_pos (by simp [q])]
      exact .cons rfl h (t.drop k)
end
def mergeD (kvs more : List (D × D)) : List (D × D) := more.foldl (fun acc kv => putD acc kv.1 kv.2) kvs
section
variable {W : Wd} {ρ : List Addr} {H : Hp}
theorem RepK.merge : ∀ {more : List (D × D)} {ms : List (Key × V)} {kvs : List (D × D)} {kys : List (Key × V)}, RepK W ρ H more ms → RepK W ρ H kvs kys → RepK W ρ H (mergeD kvs more) (mergeK kys ms)
  | _, _, _, _, .nil, r => r
  | _, _, kvs, kys, .cons (k := k) (d := d) (x := x) (r := r0) (ys := ys) e h t, r => by
    subst e
    have q : RepK W ρ H (mergeD (putD kvs (keyD k) d) r0) (mergeK (putK kys k x) ys) := RepK.merge t (r.put _ h)
    exact q
end
section
variable {X : Cx} {W : Wd}
end
end Mi

/-! ## The mirror: further calls -/
namespace Mi
open PySem PySem.Spec PyProof.Rows L2 Lamp SlX Gd

def dInt : List D → Option RV
  | [.int i] => some (.sh (.int i))
  | [.bl k] => some (.sh (.int (if k then 1 else 0)))
  | [.str s] => match PySem.intText? s with
    | some n => if s.length ≤ 640 then some (.sh (.int n)) else none
    | none => none
  | _ => none
def dAbs : List D → Option RV
  | [.int i] => some (.sh (.int (if i < 0 then -i else i)))
  | _ => none
def maxL : List Int → Int
  | [] => 0
  | [a] => a
  | a :: r => if maxL r > a then maxL r else a
def minL : List Int → Int
  | [] => 0
  | [a] => a
  | a :: r => if minL r < a then minL r else a
theorem maxL_spec : ∀ {ns : List Int}, 0 < ns.length → maxL ns ∈ ns ∧ ∀ y ∈ ns, y ≤ maxL ns
  | [a], _ => ⟨List.mem_singleton.mpr rfl, fun y h => by rw [List.mem_singleton] at h; subst h; exact Int.le_refl _⟩
  | a :: b :: r, _ => by
    obtain ⟨h1, h2⟩ := maxL_spec (ns := b :: r) (by simp)
    show (if maxL (b :: r) > a then maxL (b :: r) else a) ∈ _ ∧ ∀ y ∈ _, y ≤ (if maxL (b :: r) > a then maxL (b :: r) else a)
    by_cases c : maxL (b :: r) > a
    · rw [if_pos c]
      refine ⟨List.mem_cons_of_mem _ h1, fun y h => ?_⟩
      rcases List.mem_cons.mp h with rfl | h
      · omega
      · exact h2 y h
    · rw [if_neg c]
      refine ⟨List.mem_cons_self, fun y h => ?_⟩
      rcases List.mem_cons.mp h with rfl | h
      · exact Int.le_refl _
      · have := h2 y h; omega
theorem minL_spec : ∀ {ns : List Int}, 0 < ns.length → minL ns ∈ ns ∧ ∀ y ∈ ns, minL ns ≤ y
  | [a], _ => ⟨List.mem_singleton.mpr rfl, fun y h => by rw [List.mem_singleton] at h; subst h; exact Int.le_refl _⟩
  | a :: b :: r, _ => by
    obtain ⟨h1, h2⟩ := minL_spec (ns := b :: r) (by simp)
    show (if minL (b :: r) < a then minL (b :: r) else a) ∈ _ ∧ ∀ y ∈ _, (if minL (b :: r) < a then minL (b :: r) else a) ≤ y
    by_cases c : minL (b :: r) < a
    · rw [if_pos c]
      refine ⟨List.mem_cons_of_mem _ h1, fun y h => ?_⟩
      rcases List.mem_cons.mp h with rfl | h
      · omega
      · exact h2 y h
    · rw [if_neg c]
      refine ⟨List.mem_cons_self, fun y h => ?_⟩
      rcases List.mem_cons.mp h with rfl | h
      · exact Int.le_refl _
      · have := h2 y h; omega
theorem max_uniq {ns : List Int} {a b : Int} (h1 : a ∈ ns) (h2 : ∀ y ∈ ns, y ≤ a) (h3 : b ∈ ns) (h4 : ∀ y ∈ ns, y ≤ b) : a = b := Int.le_antisymm (h4 a h1) (h2 b h3)
theorem min_uniq {ns : List Int} {a b : Int} (h1 : a ∈ ns) (h2 : ∀ y ∈ ns, a ≤ y) (h3 : b ∈ ns) (h4 : ∀ y ∈ ns, b ≤ y) : a = b := Int.le_antisymm (h2 b h3) (h4 a h1)
def dMax : List D → Option RV
  | [.int i, .int j] => some (.sh (.int (if j > i then j else i)))
  | [.lst ds] => match asInts ds with
    | some ns => if 0 < ns.length then some (.sh (.int (maxL ns))) else none
    | none => none
  | _ => none
def dMin : List D → Option RV
  | [.int i, .int j] => some (.sh (.int (if j < i then j else i)))
  | [.lst ds] => match asInts ds with
    | some ns => if 0 < ns.length then some (.sh (.int (minL ns))) else none
    | none => none
  | _ => none
def dAll : List D → Option RV
  | [.lst ds] => match asBls ds with
    | some bs => some (.sh (.bl (bs.all id)))
    | none => none
  | _ => none
def sortI (ns : List Int) : List Int := ns.mergeSort fun a b => decide (a ≤ b)
def dSorted : List D → Option RV
  | [.lst ds] => match asInts ds with
    | some ns => some (.fr (.lst ((sortI ns).map .int)))
    | none => none
  | _ => none
section
variable {X : Cx} {W : Wd}
theorem k_int : C1 X W (.type "int") dInt := ⟨_, call_int1.or call_int_str, fun ρ H ds vs Q a h => by
    unfold dInt at h
    split at h
    · obtain ⟨v, rfl, r⟩ := repBs1 a
      exact .inl (.inl ⟨_, by rw [r.int], h.int⟩)
    · obtain ⟨v, rfl, r⟩ := repBs1 a
      exact .inl (.inr ⟨_, by rw [r.bl], h.int⟩)
    · obtain ⟨v, rfl, r⟩ := repBs1 a
      split at h
      · rename_i n e
        split at h
        · rename_i c; exact .inr ⟨_, n, by rw [r.str], e, c, h.int⟩
        · exact h.elim
      · exact h.elim
    · exact h.elim, fun ds => by unfold dInt; split <;> first | trivial | (split <;> first | trivial | (split <;> trivial))⟩
theorem k_abs : C1 X W (.builtin "abs") dAbs := ⟨_, call_abs, fun ρ H ds vs Q a h => by
    unfold dAbs at h
    split at h
    · obtain ⟨v, rfl, r⟩ := repBs1 a
      exact ⟨_, by rw [r.int], h.int⟩
    · exact h.elim, fun ds => by unfold dAbs; split <;> trivial⟩
theorem RepB.intsL {ρ : List Addr} {H : Hp} {ds : List D} {ns : List Int} {v : V} (h : RepB W ρ H (.lst ds) v) (e : asInts ds = some ns) : ∃ a, v = .ref a ∧ SqL W.K H a (ns.map V.int) := by
  obtain ⟨a, xs, rfl, s, r⟩ := h.lst
  rw [asInts_eq e] at r
  rw [r.vInts] at s
  exact ⟨a, rfl, s⟩
theorem RepB.blsL {ρ : List Addr} {H : Hp} {ds : List D} {ns : List Bool} {v : V} (h : RepB W ρ H (.lst ds) v) (e : asBls ds = some ns) : ∃ a, v = .ref a ∧ SqL W.K H a (ns.map V.bl) := by
  obtain ⟨a, xs, rfl, s, r⟩ := h.lst
  rw [asBls_eq e] at r
  rw [r.vBls] at s
  exact ⟨a, rfl, s⟩
theorem k_max (hK : X.K = W.K) (hc : X.calm = true) : C1 X W (.builtin "max") dMax := ⟨_, (call_max2 hc).or (cr_max hc), fun ρ H ds vs Q a h => by
    unfold dMax at h
    split at h
    · obtain ⟨v, w, rfl, r1, r2⟩ := repBs2 a
      exact .inl ⟨_, _, by rw [r1.int, r2.int], h.int⟩
    · obtain ⟨v, rfl, r⟩ := repBs1 a
      split at h
      · rename_i ns e
        split at h
        · rename_i c
          obtain ⟨p, rfl, s⟩ := r.intsL e
          exact .inr ⟨p, ns, rfl, by rw [hK]; exact s, c, fun m h1 h2 => by rw [max_uniq h1 h2 (maxL_spec c).1 (maxL_spec c).2]; exact h.int⟩
        · exact h.elim
      · exact h.elim
    · exact h.elim, fun ds => by unfold dMax; split <;> first | trivial | (split <;> first | trivial | (split <;> trivial))⟩
theorem k_min (hK : X.K = W.K) (hc : X.calm = true) : C1 X W (.builtin "min") dMin := ⟨_, (call_min2 hc).or (cr_min hc), fun ρ H ds vs Q a h => by
    unfold dMin at h
    split at h
    · obtain ⟨v, w, rfl, r1, r2⟩ := repBs2 a
      exact .inl ⟨_, _, by rw [r1.int, r2.int], h.int⟩
    · obtain ⟨v, rfl, r⟩ := repBs1 a
      split at h
      · rename_i ns e
        split at h
        · rename_i c
          obtain ⟨p, rfl, s⟩ := r.intsL e
          exact .inr ⟨p, ns, rfl, by rw [hK]; exact s, c, fun m h1 h2 => by rw [min_uniq h1 h2 (minL_spec c).1 (minL_spec c).2]; exact h.int⟩
        · exact h.elim
      · exact h.elim
    · exact h.elim, fun ds => by unfold dMin; split <;> first | trivial | (split <;> first | trivial | (split <;> trivial))⟩
theorem k_all (hK : X.K = W.K) (hc : X.calm = true) : C1 X W (.builtin "all") dAll := ⟨_, cr_all hc, fun ρ H ds vs Q a h => by
    unfold dAll at h
    split at h
    · obtain ⟨v, rfl, r⟩ := repBs1 a
      split at h
      · rename_i ns e
        obtain ⟨p, rfl, s⟩ := r.blsL e
        exact ⟨p, ns, rfl, by rw [hK]; exact s, h.bl⟩
      · exact h.elim
    · exact h.elim, fun ds => by unfold dAll; split <;> first | trivial | (split <;> trivial)⟩
/-- repr of data -/
def reprOk (q : PyData) : Bool := q.showable && !q.hasDict && decide (q.depth ≤ 40) && decide (q.shown.length ≤ sizeLine)
def dRepr : List D → Option RV
  | [.lst ds] => match toPy (.lst ds) with
    | some q => if reprOk q then some (.sh (.str q.shown)) else none
    | none => none
  | [.tup ds] => match toPy (.tup ds) with
    | some q => if reprOk q then some (.sh (.str q.shown)) else none
    | none => none
  | _ => none
theorem repr_rd (hK : X.K = W.K) {ρ : List Addr} {H : Hp} {ds : List D} {vs : List V} {Q : VK} (a : RepBs W ρ H ds vs) (h : PPost W ρ H Q (dRepr ds)) : Gd.rRepr X.K vs H Q := by
    have fin : ∀ {d : D} {v : V} {q : PyData} {b : Addr}, RepB W ρ H d v → v = .ref b → toPy d = some q → PPost W ρ H Q (if reprOk q then some (.sh (.str q.shown)) else none) → Gd.rRepr X.K [v] H Q := fun {d v q b} r ev e h => by
      by_cases c : reprOk q = true
      · rw [if_pos c] at h
        unfold reprOk at c
        simp only [Bool.and_eq_true, Bool.not_eq_true', decide_eq_true_eq] at c
        obtain ⟨⟨⟨c1, c2⟩, c3⟩, c4⟩ := c
        subst ev
        exact ⟨b, q, rfl, by rw [hK]; exact dpB_of r e, c1, c2, c3, c4, h.str⟩
      · rw [if_neg c] at h; exact h.elim
    unfold dRepr at h
    split at h
    · obtain ⟨v, rfl, r⟩ := repBs1 a
      split at h
      · rename_i q e
        obtain ⟨b, _, ev, _⟩ := r.lst
        exact fin r ev e h
      · exact h.elim
    · obtain ⟨v, rfl, r⟩ := repBs1 a
      split at h
      · rename_i q e
        obtain ⟨b, _, ev, _⟩ := r.tup
        exact fin r ev e h
      · exact h.elim
    · exact h.elim
theorem repr_np (ds : List D) : noPl (dRepr ds) := by unfold dRepr; split <;> first | trivial | (split <;> first | trivial | (split <;> trivial))
theorem k_repr {k : Nat} (hK : X.K = W.K) (hgd : X.A.guards = some []) (hr : Room k X.A) : C1 X W (.builtin "repr") dRepr := ⟨_, Gd.call_repr hgd hr, fun ρ H ds vs Q a h => repr_rd hK a h, repr_np⟩
/-- divmod -/
noncomputable def dDivmod : List D → Option RV
  | [.int i, .int j] => @ite _ (0 < j ∧ j < 1073741824) (Classical.propDecidable _) (some (.sh (.pr [.int (i / j), .int (i % j)]))) none
  | _ => none
theorem k_divmod : C1 X W (.builtin "divmod") dDivmod := ⟨_, call_divmod, fun ρ H ds vs Q a h => by
    unfold dDivmod at h
    split at h
    · obtain ⟨v, w, rfl, r1, r2⟩ := repBs2 a
      split at h
      · rename_i c
        exact ⟨_, _, by rw [r1.int, r2.int], c, fun p n => h (.ref p) _ (Same.new n) (.pr upd_same (.cons (.int _) (.cons (.int _) .nil)))⟩
      · exact h.elim
    · exact h.elim, fun ds => by unfold dDivmod; split <;> first | trivial | (split <;> trivial)⟩
end
/-! ### in -/
def inS : D → D → Option RV
  | .str a, .str b => some (.sh (.bl (!(Builtin.Str.occurrences b a 0 b.length 1).isEmpty)))
  | _, _ => none
/-- == of scalars, as in asks it -/
def eqF : D → D → Bool
  | .non, .non => true
  | .bl a, .bl b => a == b
  | .bl a, .int b => (if a then 1 else 0) == b
  | .int a, .bl b => a == (if b then 1 else 0)
  | .int a, .int b => a == b
  | .str a, .str b => a == b
  | _, _ => false
def inL (neg : Bool) : D → D → Option RV
  | x, .lst ds => if x.scal && ds.all D.scal then some (.sh (.bl (if neg then !ds.any (fun y => eqF y x) else ds.any (fun y => eqF y x)))) else none
  | x, .tup ds => if x.scal && ds.all D.scal then some (.sh (.bl (if neg then !ds.any (fun y => eqF y x) else ds.any (fun y => eqF y x)))) else none
  | _, _ => none
def inD (neg : Bool) : D → D → Option RV
  | k, .dic kvs => match asKey k with
    | some _ => if kvs.all (fun kv => match kv.1 with | .tup _ => false | _ => true) then some (.sh (.bl (if neg then !(lookD kvs k).isSome else (lookD kvs k).isSome))) else none
    | none => none
  | _, _ => none
def cIn : D → D → Option RV
  | .str a, .str b => inS (.str a) (.str b)
  | x, .lst ds => inL false x (.lst ds)
  | x, .tup ds => inL false x (.tup ds)
  | x, .dic kvs => inD false x (.dic kvs)
  | _, _ => none
theorem scal_flat {W : Wd} {ρ : List Addr} {H : Hp} {d : D} {v : V} (h : RepB W ρ H d v) (s : d.scal = true) : flatV v = true := by
  rcases h with h | ⟨a, rfl, h⟩
  · cases h <;> first | rfl | cases s
  · cases h <;> cases s
theorem scal_flats {W : Wd} {ρ : List Addr} {H : Hp} : ∀ {ds : List D} {xs : List V}, Reps W ρ H ds xs → ds.all D.scal = true → xs.all flatV = true
  | _, _, .nil, _ => rfl
  | _, _, .cons h t, s => by
    rw [List.all_cons, Bool.and_eq_true] at s ⊢
    exact ⟨scal_flat (.inl h) s.1, scal_flats t s.2⟩
theorem eqF_eqV {W : Wd} {ρ : List Addr} {H : Hp} {d e : D} {v w : V} (h : RepB W ρ H d v) (k : RepB W ρ H e w) (s : d.scal = true) (t : e.scal = true) : eqV v w = eqF d e := by
  cases d <;> first | cases s | skip
  all_goals (cases e <;> first | cases t | skip)
  all_goals (first | rw [h.non] | rw [h.bl] | rw [h.int] | rw [h.str])
  all_goals (first | rw [k.non] | rw [k.bl] | rw [k.int] | rw [k.str])
  all_goals rfl
theorem any_eqF {W : Wd} {ρ : List Addr} {H : Hp} {e : D} {w : V} (k : RepB W ρ H e w) (t : e.scal = true) : ∀ {ds : List D} {xs : List V}, Reps W ρ H ds xs → ds.all D.scal = true → inV w xs = ds.any fun y => eqF y e
  | _, _, .nil, _ => rfl
  | _, _, .cons (d := d) (x := x) (ds := ds) (xs := xs) h r, s => by
    rw [List.all_cons, Bool.and_eq_true] at s
    show ((x :: xs).any fun y => eqV y w) = _
    rw [List.any_cons, List.any_cons, eqF_eqV (.inl h) k s.1 t]
    congr 1
    exact any_eqF k t r s.2
section
variable {X : Cx} {W : Wd}
theorem o_inS : O2 X W (compareOp .In) inS := ⟨_, op_in_str, fun ρ H d1 d2 v1 v2 Q a1 a2 h => by
    unfold inS at h
    split at h
    · rw [a1.str, a2.str]; exact ⟨_, _, rfl, rfl, h.bl⟩
    · exact h.elim, fun d1 d2 => by unfold inS; split <;> trivial⟩
theorem inL_ok (hK : X.K = W.K) {neg : Bool} : P2 W (rIn X.K neg) (inL neg) := ⟨fun ρ H d1 d2 v1 v2 Q a1 a2 h => by
    unfold inL at h
    split at h
    · split at h
      · rename_i c
        rw [Bool.and_eq_true] at c
        obtain ⟨p, xs, rfl, s, rr⟩ := a2.lst
        exact ⟨p, xs, rfl, .inl (by rw [hK]; exact s), scal_flat a1 c.1, scal_flats rr c.2, by rw [any_eqF a1 c.1 rr c.2]; exact h.bl⟩
      · exact h.elim
    · split at h
      · rename_i c
        rw [Bool.and_eq_true] at c
        obtain ⟨p, xs, rfl, s, rr⟩ := a2.tup
        exact ⟨p, xs, rfl, .inr (by rw [hK]; exact s), scal_flat a1 c.1, scal_flats rr c.2, by rw [any_eqF a1 c.1 rr c.2]; exact h.bl⟩
      · exact h.elim
    · exact h.elim, fun d1 d2 => by unfold inL; split <;> first | trivial | (split <;> trivial)⟩
theorem dget_look {ρ : List Addr} {H : Hp} {kvs : List (D × D)} {k : Key} {v kv : V} (h : RepB W ρ H (.dic kvs) v) (hk : RepB W ρ H (keyD k) kv) (c : kvs.all (fun kv => match kv.1 with | .tup _ => false | _ => true) = true) :
    ∃ a, v = .ref a ∧ kv = kV k ∧ ((lookD kvs (keyD k) = none ∧ DGet H a (kV k) none) ∨ ∃ d x, lookD kvs (keyD k) = some d ∧ DGet H a (kV k) (some x) ∧ Rep W ρ H d x) := by
  obtain ⟨a, kys, rfl, rd, rr⟩ := h.dicK c
  refine ⟨a, rfl, ?_, ?_⟩
  · cases k with
    | inl i => exact hk.int
    | inr s => exact hk.str
  · rcases rr.look k with ⟨e1, e2⟩ | ⟨d, x, e1, e2, rx⟩
    · exact .inl ⟨e1, .inl ⟨kys, k, rd, rfl, e2.symm⟩⟩
    · exact .inr ⟨d, x, e1, .inl ⟨kys, k, rd, rfl, e2.symm⟩, rx⟩
theorem op_inD (hu : X.A.units + 1 < cLine) : OpR X (compareOp .In) (fun y x H Q => ∃ a o, x = .ref a ∧ DGet H a y o ∧ Q (.bl o.isSome) H) := by
  intro pins s σ H y x u v Q I ry rx h
  obtain ⟨a, o, rfl, g, q⟩ := h
  cases rx
  exact d_in hu I g ry fun s' I' => ⟨.bl o.isSome, H, I', rfl, q⟩
theorem o_inD (hu : X.A.units + 1 < cLine) : O2 X W (compareOp .In) (inD false) := ⟨_, op_inD hu, fun ρ H d1 d2 v1 v2 Q a1 a2 h => by
    unfold inD at h
    split at h
    · split at h
      · rename_i kvs _ kk e
        split at h
        · rename_i c
          have ek := asKey_eq e
          subst ek
          obtain ⟨a, rfl, rfl, q | ⟨d, x, e1, g, _⟩⟩ := dget_look a2 a1 c
          · exact ⟨a, none, rfl, q.2, by have h' : PPost W ρ H Q (some (.sh (.bl (lookD kvs (keyD _)).isSome))) := h; rw [q.1] at h'; exact h'.bl⟩
          · exact ⟨a, some x, rfl, g, by have h' : PPost W ρ H Q (some (.sh (.bl (lookD kvs (keyD _)).isSome))) := h; rw [e1] at h'; exact h'.bl⟩
        · exact h.elim
      · exact h.elim
    · exact h.elim, fun d1 d2 => by unfold inD; split <;> first | trivial | (split <;> first | trivial | (split <;> trivial))⟩
theorem c_in (hK : X.K = W.K) (hu : X.A.units + 1 < cLine) : O2 X W (compareOp .In) cIn := by
  refine O2.mix (o_inS.mix (o_inD hu) (pr := fun a b => match b with | .dic k => inD false a (.dic k) | b => inS a b) fun a b => ?_) ⟨_, op_in_seq, inL_ok hK⟩ fun a b => ?_
  · cases b <;> first | exact .inl rfl | exact .inr rfl
  · cases a <;> cases b <;> first | exact .inl rfl | exact .inr rfl
end
end Mi

/-! ## The mirror: methods, things that are changed in place -/
namespace Mi
open PySem PySem.Spec PyProof.Rows L2 Lamp SlX

section
variable {X : Cx} {B : Bd} {o e : Expr} {es : List Expr} {name : Str} {id T : String} {pr : D → List D → Option RV} {mo : EM} {ms : List EM} {apos cpos : Pos}
end
/-! ### d.get, d[k] -/
theorem RepB.rep {W : Wd} {ρ : List Addr} {H : Hp} {d : D} {v : V} (h : RepB W ρ H d v) (s : d.scal = true) : Rep W ρ H d v := by
  rcases h with h | ⟨a, rfl, h⟩
  · exact h
  · cases h <;> cases s
section
variable {X : Cx} {W : Wd}
theorem ix_dict (hu : X.A.units + 1 < cLine) : IxR X (fun x y H Q => ∃ a v, x = .ref a ∧ DGet H a y (some v) ∧ Q v H) := by
  intro value slice pins s σ H x y v u Q I rx ry h hs
  obtain ⟨a, z, rfl, g, q⟩ := h
  cases rx
  unfold subscriptTail
  refine wpAny_bind ?_
  rw [getitemInPython_of_ne (dict_typeIs I g).not_modules]
  refine wpAny_bind (wpAny_specialOf (dict_typeIs I g) PySem.F.slot_dict_getitem.lookup ?_)
  have fin : wpAny (model X.prog X.w) X.A (subscripted slice false (.ref a) u) (fun r s₃ => wpAny (model X.prog X.w) X.A (letTemporaryGo value (.ref a) r >>= fun _ => pure r) (EP X pins σ Q) X.xe s₃) X.xe s := by
    rw [hs]
    exact wpAny_operating (wpAny_mono (d_getItem hu I g ry fun w' s3 I3 rw' => (⟨z, H, I3, rw', q⟩ : EP X pins σ Q w' s3)) (fun r s₃ h₃ => wpAny_bind (wpAny_letTemporaryGo (wpAny_pure h₃))) fun _ _ x => x)
  first
    | exact wpAny_pure (wpAny_bind fin)
    | exact wpAny_bind (wpAny_pure (wpAny_bind fin))
    | exact wpAny_bind fin
def ixD : D → D → Option RV
  | .dic kvs, k => match asKey k with
    | some _ => if kvs.all (fun kv => match kv.1 with | .tup _ => false | _ => true) then (lookD kvs k).map .sh else none
    | none => none
  | _, _ => none
def dIx : D → D → Option RV
  | .dic kvs, k => ixD (.dic kvs) k
  | a, b => ixS a b
theorem x_any (hK : X.K = W.K) (hu : X.A.units + 1 < cLine) : Ix2 X W dIx := by
  refine Ix2.mix (x_seq hK) (p2 := ixD) ⟨_, ix_dict hu, fun ρ H d1 d2 v1 v2 Q a1 a2 h => ?_, fun d1 d2 => ?_⟩ fun a b => ?_
  · unfold ixD at h
    split at h
    · rename_i kvs
      cases e : asKey d2 with
      | none => simp only [e] at h; exact h.elim
      | some kk =>
        simp only [e] at h
        by_cases c : kvs.all (fun kv => match kv.1 with | .tup _ => false | _ => true) = true
        · rw [if_pos c] at h
          have ek := asKey_eq e
          subst ek
          obtain ⟨a, rfl, rfl, q | ⟨d, x, e1, g, rx⟩⟩ := dget_look a1 a2 c
          · rw [q.1] at h; exact h.elim
          · rw [e1] at h
            exact ⟨a, x, rfl, g, PPost.part h rx⟩
        · rw [if_neg c] at h; exact h.elim
    · exact h.elim
  · unfold ixD
    split
    · split
      · split
        · cases lookD _ _ <;> trivial
        · trivial
      · trivial
    · trivial
  · cases a <;> first | exact .inr rfl | exact .inl rfl
end
/-! ### texts -/
section
variable {X : Cx} {W : Wd}
end

/-! ### one's own thing, changed by a method -/
structure PU (W : Wd) (r : V → List V → Hp → VK → Prop) (pr : D → List D → Option (D × D)) : Prop where
  ok : ∀ ρ H a d ds vs Q d' rv, Own W ρ H d a → Reps W ρ H ds vs → pr d ds = some (d', rv) →
    (∀ o v, Own W ρ (upd H a o) d' a → Rep W ρ (upd H a o) rv v → Q v (upd H a o)) → r (.ref a) vs H Q
def mMut (T : String) (pr : D → List D → Option (D × D)) (i : Nat) (ms : List EM) : EM := fun p => match p.env[i]? with
  | some (.ow d0) => if tyName d0 == T && T != "" then bindA ms (fun rs p1 => match shs rs, p1.env[i]? with
      | some ds, some (.ow d) => match pr d ds with
        | some (d', rv) => some (.val (.sh rv) { p1 with env := p1.env.set i (.ow d') })
        | none => none
      | _, _ => none) p else none
  | _ => none
section
variable {X : Cx} {B : Bd} {e : Expr} {es : List Expr} {x name : Str} {id T : String} {pr : D → List D → Option (D × D)} {ms : List EM} {p apos cpos : Pos}
end
def uApp : D → List D → Option (D × D)
  | .lst ds, [d] => if ds.length < sizeLine then some (.lst (ds ++ [d]), .non) else none
  | _, _ => none
def uExt : D → List D → Option (D × D)
  | .lst ds, [.lst es] => if ds.length + es.length ≤ sizeLine then some (.lst (ds ++ es), .non) else none
  | _, _ => none
section
variable {X : Cx} {W : Wd}
end
end Mi

/-! ## The mirror: stores to items, several names at once, name op= e, changeable things made -/
namespace Mi
open PySem PySem.Spec PyProof.Rows L2 Lamp SlX

theorem PSet.or {X : Cx} {t t' : TSet} (h : PSet X t) (h' : PSet X t') : PSet X (fun o i v H Q => t o i v H Q ∨ t' o i v H Q) := fun pins s σ H o i v ov iv u Q I ro ri rv q => by
  rcases q with q | q
  · exact h pins s σ H o i v ov iv u Q I ro ri rv q
  · exact h' pins s σ H o i v ov iv u Q I ro ri rv q
/-- what is at an item is put otherwise -/
def setD : D → D → D → Option D
  | .lst ds, .int k, d => (ixN ds.length k).map fun j => .lst (ds.set j d)
  | .dic kvs, k, d => match asKey k with
    | some _ => if kvs.all (fun kv => match kv.1 with | .tup _ => false | _ => true) then (if kvs.length < sizeLine then some (.dic (putD kvs k d)) else none) else none
    | none => none
  | _, _, _ => none
theorem Reps.set {W : Wd} {ρ : List Addr} {H : Hp} {d : D} {x : V} (h : Rep W ρ H d x) : ∀ {ds : List D} {xs : List V} (j : Nat), Reps W ρ H ds xs → Reps W ρ H (ds.set j d) (xs.set j x)
  | _, _, _, .nil => .nil
  | _, _, 0, .cons _ t => .cons h t
  | _, _, j + 1, .cons a t => .cons a (t.set h j)
def rSet : TSet := fun o i v H Q => rSetL o i v H Q ∨ rSetD o i v H Q
theorem p_set {X : Cx} (hu : X.A.units + 1 < cLine) : PSet X rSet := PSet.or set_list (set_dict hu)
/-- .. of a thing that is one's own -/
theorem set_own {W : Wd} {ρ : List Addr} {H : Hp} {a : Addr} {d0 k d d' : D} {kv v : V} {Q : Hp → Prop} (o : Own W ρ H d0 a) (hk : Rep W ρ H k kv) (hv : Rep W ρ H d v) (e : setD d0 k d = some d') (q : ∀ o, Own W ρ (upd H a o) d' a → Q (upd H a o)) : rSet (.ref a) kv v H Q := by
  unfold setD at e
  split at e
  · rename_i ds i
    cases o with
    | lst h r =>
      rename_i xs
      cases e1 : ixN ds.length i with
      | none => rw [e1] at e; cases e
      | some j =>
        rw [e1] at e
        cases e
        cases hk
        have f : Frz H (upd H a (.lst (xs.set j v))) := Frz.put h (fun p => p)
        exact .inl ⟨a, xs, i, j, rfl, rfl, h, by rw [← r.len]; exact e1, q _ (.lst upd_same ((r.mono f (List.prefix_refl _)).set (hv.mono f (List.prefix_refl _)) j))⟩
  · rename_i kvs
    cases e1 : asKey k with
    | none => rw [e1] at e; cases e
    | some kk =>
      rw [e1] at e
      simp only at e
      by_cases c : kvs.all (fun kv => match kv.1 with | .tup _ => false | _ => true) = true
      · rw [if_pos c] at e
        by_cases c2 : kvs.length < sizeLine
        · rw [if_pos c2] at e
          cases e
          have ek := asKey_eq e1
          subst ek
          have ey : kv = kV kk := by
            cases kk with
            | inl i => cases hk; rfl
            | inr s => cases hk; rfl
          subst ey
          cases o with
          | dit h n r => exact (no_dit n r c).elim
          | dic h r =>
            rename_i kys
            have f : Frz H (upd H a (.dK (putK kys kk v))) := Frz.put h (fun p => p)
            exact .inr ⟨a, _, rfl, DPut.k h (by rw [← r.len]; exact c2), q _ (.dic upd_same ((r.mono f (List.prefix_refl _)).put kk (hv.mono f (List.prefix_refl _))))⟩
        · rw [if_neg c2] at e; cases e
      · rw [if_neg c] at e; cases e
  · cases e
/-- what an item is put in is no table -/
theorem Cel.ofSet {W : Wd} {ρ : List Addr} {H : Hp} {d0 k d d' : D} {a : Addr} (c : Cel W ρ H d0 a) (e : setD d0 k d = some d') : Own W ρ H d0 a := by
  cases c with
  | own h => exact h
  | tab h => cases e
/-- a changeable thing is changed -/
theorem Rel.cell {B : Bd} {g : Gh} {σ : L2.St} {H : Hp} {p : PS} (R : Rel B g σ H p) {n : Nat} {a : Addr} {d d' : D} {o : HO} (e : p.st[n]? = some d) (ea : g.ρ[n]? = some a) (k : Cel B.W g.ρ (L2.upd H a o) d' a) : Rel B g σ (L2.upd H a o) { p with st := p.st.set n d' } := by
  obtain ⟨b, e1, e2⟩ := R.cel n d e
  rw [ea] at e1
  cases e1
  obtain ⟨u, hu, mu⟩ := e2.at_
  have F : Frz H (L2.upd H a o) := Frz.put hu mu
  have ma := List.mem_of_getElem? ea
  refine ⟨fun i t e => (R.slot i t e).mono F (List.prefix_refl _) fun b ow l w h => ?_, R.dis, R.new, fun m c e3 => ?_, by rw [List.length_set]; exact R.cln, R.cnd, R.pre, R.cnw, fun x h => ⟨?_, (R.hid x h).2⟩, R.hnd, fun b w e3 nb => ?_, R.len⟩
  · rw [upd_ne fun z => (R.new i a ⟨t, e, ow, by rw [← z]; exact l⟩).1 ma]
    exact h
  · rcases set_get e3 with ⟨rfl, rfl, _⟩ | ⟨ne, e3⟩
    · exact ⟨a, ea, k⟩
    · obtain ⟨b, e4, e5⟩ := R.cel m c e3
      refine ⟨b, e4, e5.mono F (List.prefix_refl _) fun w h => ?_⟩
      rw [upd_ne fun z => ?_]
      · exact h
      · subst z
        exact ne (nd_ix R.cnd ea e4)
  · rw [upd_ne fun z => (R.hid x h).2.2.1 (by rw [z]; exact ma)]
    exact (R.hid x h).1
  · rw [upd_ne fun z => R.notC e3 nb (by rw [z]; exact ma)]
    exact R.keep b w e3 nb
def setAt (j : Nat) (k d : D) (p : PS) : Option PS := match p.env[j]? with
  | some (.ow d0) => match setD d0 k d with
    | some d' => some { p with env := p.env.set j (.ow d') }
    | none => none
  | some (.sh (.cel n)) => match p.st[n]? with
    | some d0 => match setD d0 k d with
      | some d' => some { p with st := p.st.set n d' }
      | none => none
    | none => none
  | _ => none
/-- name[i] as a target -/
def gSubM (j : Nat) (mi : EM) : GM := fun rv p => match rv, get0 p (.pl j) with
  | .sh d, some _ => match mi p with
    | some (.val (.sh k) p2) => setAt j k d p2
    | _ => none
  | _, _ => none
theorem Rel.at_pl {B : Bd} {g : Gh} {σ : L2.St} {H : Hp} {p : PS} (R : Rel B g σ H p) {j : Nat} {d : D} (e : get0 p (.pl j) = some d) : ∃ v, σ[j]? = some (some v) := by
  unfold get0 at e
  cases c : p.env[j]? with
  | none => simp [c] at e
  | some s =>
    simp only [c] at e
    have k := R.slot j s c
    cases s with
    | no => cases e
    | sh d => obtain ⟨w, e1, r⟩ := k; exact ⟨_, e1⟩
    | ow d => obtain ⟨w, e1, r⟩ := k; exact ⟨_, e1⟩
    | lk d => obtain ⟨w, e1, r⟩ := k; exact ⟨_, e1⟩
    | lz d => obtain ⟨w, e1, r⟩ := k; exact ⟨_, e1⟩
    | self me c fs => cases e
theorem setAt_ok {B : Bd} {g : Gh} {σ : L2.St} {H : Hp} {p p' : PS} {j : Nat} {k d : D} {o kv v : V} {Q : Hp → Prop} (R : Rel B g σ H p) (ho : σ[j]? = some (some o)) (hk : Rep B.W g.ρ H k kv) (hv : Rep B.W g.ρ H d v) (e : setAt j k d p = some p')
    (q : ∀ H', Rel B g σ H' p' → Frz H H' → Q H') : rSet o kv v H Q := by
  unfold setAt at e
  cases e2 : p.env[j]? with
  | none => simp only [e2] at e; cases e
  | some s =>
    cases s with
    | ow d0 =>
      simp only [e2] at e
      cases e3 : setD d0 k d with
      | none => simp only [e3] at e; cases e
      | some d' =>
        simp only [e3] at e
        cases e
        obtain ⟨ad, ha, ow⟩ := R.slot j _ e2
        rw [ho] at ha
        cases ha
        obtain ⟨u, hu', mu⟩ := ow.at_
        have np : ∀ w, H ad = some w → ¬ Per w := fun w z => by rw [hu'] at z; cases z; exact mu
        exact set_own ow hk hv e3 fun o ow' => q _ (R.put (s' := .ow d') e2 rfl ho np ⟨ad, ho, ow'⟩) (Frz.upd np)
    | sh dd =>
      cases dd with
      | cel n =>
        simp only [e2] at e
        cases e4 : p.st[n]? with
        | none => simp only [e4] at e; cases e
        | some d0 =>
          simp only [e4] at e
          cases e3 : setD d0 k d with
          | none => simp only [e3] at e; cases e
          | some d' =>
            simp only [e3] at e
            cases e
            obtain ⟨w, ha, rr⟩ := R.slot j _ e2
            rw [ho] at ha
            cases ha
            cases rr with
            | cel hn =>
              obtain ⟨b, e5, ow⟩ := R.cel n d0 e4
              rw [hn] at e5
              cases e5
              obtain ⟨u, hu', mu⟩ := ow.at_
              exact set_own (ow.ofSet e3) hk hv e3 fun o ow' => q _ (R.cell e4 hn (.own ow')) (Frz.put hu' mu)
      | _ => simp only [e2] at e; cases e
    | _ => simp only [e2] at e; cases e
section
variable {X : Cx} {B : Bd} {i : Expr} {mi : EM} {x : Str} {px pos : Pos}
theorem simg_sub (j : Nat) (hu : X.A.units + 1 < cLine) (hN : X.N[j]? = some x) (hv : Vis X.env.scope x) (hi : PE X i (rdE B mi)) (hd : (x == ("__debug__" : Str)) = false := by decide) (hcd : (x == ("__classdict__" : Str)) = false := by decide)
    (ha : ∀ v, assign (.Subscript (.Name x px) i pos) X.env v = (do
      let ov ← holding [v] (eval (.Name x px) X.env)
      let iv ← holding [v, ov] (eval i X.env)
      standAt pos
      holding [v, ov, iv] (setItem ov iv v)
      release [v, ov, iv] []) := by intro _; rfl) : PG X (.Subscript (.Name x px) i pos) (rdG B [] (gSubM j mi)) :=
  (pg_sub (pe_var hN hv hd hcd) hi (p_set hu) ha).imp fun v σ H Q h => by
    obtain ⟨g, p, r, R, a, k⟩ := h
    cases r with
    | fr d => exact k.elim
    | pl i => exact k.elim
    | sh d =>
      unfold gSubM at k
      cases e0 : get0 p (.pl j) with
      | none => simp only [e0] at k; exact k.elim
      | some d0 =>
        simp only [e0] at k
        obtain ⟨o, ho⟩ := R.at_pl e0
        refine ⟨o, ho, g, p, R, ?_⟩
        cases e : mi p with
        | none => simp only [e] at k; exact k.elim
        | some w =>
          cases w with
          | exc x st => simp only [e] at k; exact k.elim
          | val rk p2 =>
            cases rk with
            | fr _ => simp only [e] at k; exact k.elim
            | pl _ => simp only [e] at k; exact k.elim
            | sh kd =>
              simp only [e] at k
              intro kv H1 ρ1 R1 q1 f1 rk
              cases e2 : setAt j kd d p2 with
              | none => rw [e2] at k; exact k.elim
              | some p' =>
                rw [e2] at k
                exact setAt_ok R1 ho rk (Rep.mono f1 q1 a) e2 fun H' R' f' => k σ H' ρ1 Touch.refl R' q1 (f1.trans f')
end
/-! ### a, b = x, y -/
def sPar (i j : Nat) (ma mb : EM) : SM := fun p => match ma p with
  | none => none
  | some (.exc x st) => some (.exc x st)
  | some (.val r1 p1) => match mb p1 with
    | none => none
    | some (.exc x st) => some (.exc x st)
    | some (.val r2 p2) => match gNm i r1 p2 with
      | some p3 => match gNm j r2 p3 with
        | some p4 => some (.next p4)
        | none => none
      | none => none
theorem RepR.stored {B : Bd} {g : Gh} {σ : L2.St} {H : Hp} {p p' : PS} {i : Nat} {r1 r2 : RV} {v1 v2 : V} (a1 : RepR B g σ H p r1 v1) (a2 : RepR B g σ H p r2 v2) (e : gNm i r1 p = some p') (n : ∀ j, r2 ≠ .pl j) (d : ∀ d1 d2, r1 = .fr d1 → r2 = .fr d2 → v1 ≠ v2) : RepR B g (σ.set i (some v1)) H p' r2 v2 := by
  cases r2 with
  | sh d => exact a2
  | pl j => exact (n j rfl).elim
  | fr d2 =>
    obtain ⟨a, rfl, o, n1, n2, n3, n4⟩ := a2
    refine ⟨a, rfl, o, fun k => ?_, n2, n3, n4⟩
    rintro ⟨s, e1, o1, l1⟩
    unfold gNm at e
    split at e
    · cases r1 with
      | sh d1 =>
        cases e
        rcases set_get e1 with ⟨rfl, rfl, _⟩ | ⟨c, e1⟩
        · cases o1
        · rw [List.getElem?_set_ne c] at l1
          exact n1 k ⟨s, e1, o1, l1⟩
      | fr d1 =>
        cases e
        rcases set_get e1 with ⟨rfl, rfl, hl⟩ | ⟨c, e1⟩
        · by_cases hσ : i < σ.length
          · rw [List.getElem?_set_self hσ] at l1
            cases l1
            exact d d1 d2 rfl rfl rfl
          · rw [List.set_eq_of_length_le (by omega), List.getElem?_eq_none (by omega)] at l1
            cases l1
        · rw [List.getElem?_set_ne c] at l1
          exact n1 k ⟨s, e1, o1, l1⟩
      | pl _ => cases e
    · cases e
section
variable {X : Cx} {B : Bd} {ma mb : EM} {i j : Nat}
end
/-! ### name op= e -/
def sAug (pr : D → D → Option RV) (i : Nat) (m : EM) : SM := fun p => match get0 p (.pl i) with
  | some _ => bindS m (fun r p1 => match op2 pr p1 (.pl i) r with
      | some (.val r' p2) => match gNm i r' p2 with
        | some p3 => some (.next p3)
        | none => none
      | _ => none) p
  | none => none
end Mi

/-! ## The mirror: objects of the text's classes: fields, properties, methods -/
namespace Mi
open PySem PySem.Spec PyProof.Rows L2 Lamp SlX Gd

/-- an instance with slots, locked or not -/
def SlL (H : Hp) (a C dx : Addr) (vs : List (Option V)) : Prop := Rd H a (SlO a C dx vs) ∧ H dx = some (.xd [])
theorem RepB.sob {W : Wd} {ρ : List Addr} {H : Hp} {c : Nat} {fs : List D} {v : V} (s : W.slots c = true) (h : RepB W ρ H (.obj c fs) v) : ∃ a dx vs, v = .ref a ∧ SlL H a (W.cC c) dx (vs.map some) ∧ Reps W ρ H fs vs := by
  rcases h with h | ⟨a, rfl, h⟩
  · cases h with
    | sob _ h h' r => exact ⟨_, _, _, rfl, ⟨.inr ⟨_, h⟩, h'⟩, r⟩
    | pob s' => rw [s] at s'; cases s'
  · cases h with
    | sob _ h h' r => exact ⟨_, _, _, rfl, ⟨.inl h, h'⟩, r⟩
    | pob s' => rw [s] at s'; cases s'
theorem RepB.pob {W : Wd} {ρ : List Addr} {H : Hp} {c : Nat} {fs : List D} {v : V} (s : W.slots c = false) (h : RepB W ρ H (.obj c fs) v) : ∃ a dx ys vs, v = .ref a ∧ Rd H a (.ins (W.cC c) dx ys) ∧ Flds W c ys vs ∧ Reps W ρ H fs vs := by
  rcases h with h | ⟨a, rfl, h⟩
  · cases h with
    | sob s' => rw [s] at s'; cases s'
    | pob _ h l r => exact ⟨_, _, _, _, rfl, .inr ⟨_, h⟩, l, r⟩
  · cases h with
    | sob s' => rw [s] at s'; cases s'
    | pob _ h l r => exact ⟨_, _, _, _, rfl, .inl h, l, r⟩
section
variable {X : Cx} {pins : List (Addr × Obj)} {σ : L2.St} {H : Hp} {s : Shared} {a C dx : Addr} {W : Wd} {ρ : List Addr}
/-- what all that is asked of the class needs -/
structure ClM (W : Wd) (c : Nat) : Prop where
  pg : PySem.W.plainGet W.K (W.cC c) Str.empty = true
  ic : PySem.W.isClsIn W.K (W.cC c) = true
  hd : W.slots c = false → PySem.W.hasDictIn W.K (W.cC c) = true
theorem ClM.get {c : Nat} (k : ClM W c) (f : Str) : PySem.W.plainGet W.K (W.cC c) f = true := k.pg
end

/-! ### fields -/
def AttR (X : Cx) (f : Str) (r : V → Hp → VK → Prop) : Prop :=
  ∀ (pins : List (Addr × Obj)) (σ : L2.St) (H : Hp) (s : Shared) (x : V) (u : Value) (Q : VK), Inv X pins σ H s → RelV x u → r x H Q → wpAny (model X.prog X.w) X.A (getAttr u f true) (EP X pins σ Q) X.xe s
theorem pe_att {X : Cx} {e : Expr} {f : Str} {pos : Pos} {ta : TE} {r : V → Hp → VK → Prop} (hr : AttR X f r) (he : PE X e ta) (hb : attributeBase e f X.env (eval e X.env) = eval e X.env) : PE X (.Attribute e f pos) (tUn r ta) := by
  refine ⟨fun pins s σ H Q I h => ?_⟩
  exact attr_of hb (thn (he.run pins s σ H _ I h) fun w s1 ⟨x, H1, I1, rx, q⟩ => hr pins σ H1 s1 x w Q I1 rx q)
section
variable {X : Cx} {B : Bd} {W : Wd} {c i : Nat} {f : Str} {p : Addr}
end

/-! ### what is done by a def of the class -/
/-- the thing is an instance of class c -/
def isC (c : Nat) (p : PS) (r : RV) : Bool := match r with
  | .sh d => match deref p d with
    | some (.obj c' _) => c' == c
    | _ => false
  | _ => false
def noX : Option ER → Option ER
  | some (.exc _ _) => none
  | r => r
/-- e.f, f a property with the getter fn -/
def mProp (c : Nat) (fn : Fn) (m : EM) : EM := bindE m fun r p => if isC c p r then noX (callF fn p [r]) else none
/-- o.m(e, ..) -/
def mMth (c : Nat) (fn : Fn) (m : EM) (ms : List EM) : EM := bindE m fun r p => if isC c p r then bindA ms (fun rs p => callF fn p (r :: rs)) p else none
section
variable {X : Cx} {B : Bd} {W : Wd} {c k : Nat} {f m : Str} {fa pa : Addr} {fd : FuncData} {ps : List Str} {fn : Fn} {pins : List (Addr × Obj)} {σ : L2.St} {H : Hp} {s : Shared} {E : XK}
end
end Mi

/-! ## The mirror: new instances -/
namespace Mi
open PySem PySem.Spec PyProof.Rows L2 Lamp SlX Gd

def unsome : List (Option D) → Option (List D)
  | [] => some []
  | some d :: r => (unsome r).map (d :: ·)
  | none :: _ => none
theorem unsome_eq : ∀ {fs : List (Option D)} {ds : List D}, unsome fs = some ds → fs = ds.map some
  | [], ds, e => by cases e; rfl
  | some d :: r, ds, e => by
    unfold unsome at e
    cases e1 : unsome r with
    | none => rw [e1] at e; cases e
    | some ds' => rw [e1] at e; cases e; rw [unsome_eq e1]; rfl
  | none :: _, ds, e => by cases e
/-! ### the fields -/
theorem full {W : Wd} {ρ : List Addr} {H : Hp} : ∀ {ds : List D} {vs : List (Option V)}, vs.length ≤ ds.length → (∀ (i : Nat) (d : D), ds[i]? = some d → ∃ v, vs[i]? = some (some v) ∧ Rep W ρ H d v) → ∃ ws, vs = ws.map some ∧ Reps W ρ H ds ws
  | [], vs, l, _ => by
    cases vs with
    | nil => exact ⟨[], rfl, .nil⟩
    | cons v vs => simp at l
  | d :: ds, vs, l, h => by
    obtain ⟨v, e, r⟩ := h 0 d rfl
    cases vs with
    | nil => cases e
    | cons v' vs =>
      cases e
      obtain ⟨ws, e2, rs⟩ := full (ds := ds) (vs := vs) (by simpa using l) fun i d' e' => h (i + 1) d' (by simpa using e')
      exact ⟨v :: ws, by rw [e2]; rfl, .cons r rs⟩
theorem fullF {W : Wd} {ρ : List Addr} {H : Hp} {ys : List (Str × V)} : ∀ {ds : List D} {fl : List Str}, ds.length = fl.length → (∀ (i : Nat) (d : D), ds[i]? = some d → ∃ f v, fl[i]? = some f ∧ ys.lookup f = some v ∧ Rep W ρ H d v) → ∃ ws, Reps W ρ H ds ws ∧ ∀ (i : Nat) (f : Str), fl[i]? = some f → ys.lookup f = ws[i]?
  | [], fl, l, _ => by
    cases fl with
    | nil => exact ⟨[], .nil, fun i f e => by simp at e⟩
    | cons f fl => simp at l
  | d :: ds, fl, l, h => by
    obtain ⟨f, v, e, e1, r⟩ := h 0 d rfl
    cases fl with
    | nil => cases e
    | cons f' fl =>
      cases e
      obtain ⟨ws, rs, e2⟩ := fullF (ds := ds) (fl := fl) (by simpa using l) fun i d' e' => h (i + 1) d' (by simpa using e')
      refine ⟨v :: ws, .cons r rs, fun i f e => ?_⟩
      cases i with
      | zero => cases e; exact e1
      | succ i => exact (e2 i f (by simpa using e)).trans (by simp)
theorem SelfAt.done {W : Wd} {ρ : List Addr} {H : Hp} {c : Nat} {fs : List (Option D)} {ds : List D} {a : Addr} (h : SelfAt W ρ H c fs a) (e : unsome fs = some ds) : Own W ρ H (.obj c ds) a := by
  obtain rfl := unsome_eq e
  obtain ⟨l0, h⟩ := h
  rw [List.length_map] at l0
  have lift : ∀ {i : Nat} {d : D}, ds[i]? = some d → (ds.map some)[i]? = some (some d) := fun {i d} e => by rw [List.getElem?_map, e]; rfl
  rcases h with ⟨s, dx, vs, ne, h, hx, l, r⟩ | ⟨s, dx, ys, h, no, l, r⟩
  · obtain ⟨ws, e, rs⟩ := full (ds := ds) (vs := vs) (by simpa using l) fun i d e => r i d (lift e)
    subst e
    exact .sob s h hx rs
  · obtain ⟨ws, rs, e⟩ := fullF (ds := ds) (fl := W.fld c) (ys := ys) l0 fun i d e => r i d (lift e)
    exact .pob s h ⟨e, no, by rw [← l0, rs.len], by omega⟩ rs

/-! ### a def __init__ -/
end Mi

/-! ## The mirror: __init__ as a promise, C(..), calls by keyword -/
namespace Mi
open PySem PySem.Spec PyProof.Rows L2 Lamp SlX Gd

section
variable {P : Program} {w : World} {W : Wd} {mg : Str → Option Value} {base : Heap} {k : Nat} {f : Addr} {fd : FuncData} {ps : List Str} {self : Str}
end

/-! ### self.f = e -/
def sSelf (j : Nat) (m : EM) : SM := bindS m fun r p => match r with
  | .sh d => match (p.env[0]? : Option Slot) with
    | some (Slot.self me c fs) => match fs[j]? with
      | some none => some (.next { p with env := p.env.set 0 (.self me c (fs.set j (some d))) })
      | _ => none
    | _ => none
  | _ => none
section
variable {X : Cx} {B : Bd} {value : Expr} {f : Str} {x : Str} {pos pos' npos : Pos} {mv : EM}
/-- self.f = e, f at place j of class c -/
def sSelfC (c j : Nat) (mv : EM) : SM := bindS mv fun r p => match (p.env[0]? : Option Slot) with
  | some (Slot.self _ c' _) => if c' = c then sSelf j (fun p => some (.val r p)) p else none
  | _ => none
end
end Mi

/-! ## The mirror: C(..), calls by keyword, class methods, a changeable thing is begun -/
namespace Mi
open PySem PySem.Spec PyProof.Rows L2 Lamp SlX Gd

def permL {α : Type} (ix : List Nat) (l : List α) : List α := ix.filterMap (l[·]?)
/-- how keywords bind, behind n positional values -/
structure KB (K : PySem.W.Frag) (fd : FuncData) (ps : List Str) (n : Nat) (ks : List Str) (ix : List Nat) : Prop where
  to : ∀ (s : Shared) (us ws : List Value), K.In s.heap → us.length = n → ws.length = ks.length → BindsTo s fd ⟨us, ks.zip ws⟩ (ps.zip (us ++ permL ix ws))
section
variable {B : Bd} {g : Gh} {σ : L2.St} {H : Hp} {p : PS}
theorem RepRs.get : ∀ {rs : List RV} {vs : List V}, RepRs B g σ H p rs vs → ∀ i : Nat, (∃ r v, rs[i]? = some r ∧ vs[i]? = some v ∧ (∀ d, r ≠ .fr d) ∧ RepR B g σ H p r v) ∨ (rs[i]? = none ∧ vs[i]? = none)
  | _, _, .nil, i => by right; simp
  | _, _, .cons n h t, 0 => .inl ⟨_, _, rfl, rfl, n, h⟩
  | _, _, .cons n h t, i + 1 => by simpa using t.get i
theorem RepRs.app : ∀ {rs rs' : List RV} {vs vs' : List V}, RepRs B g σ H p rs vs → RepRs B g σ H p rs' vs' → RepRs B g σ H p (rs ++ rs') (vs ++ vs')
  | _, _, _, _, .nil, h => h
  | _, _, _, _, .cons n a t, h => .cons n a (t.app h)
theorem RepRs.len : ∀ {rs : List RV} {vs : List V}, RepRs B g σ H p rs vs → rs.length = vs.length
  | _, _, .nil => rfl
  | _, _, .cons _ _ t => congrArg (· + 1) t.len
end
/-- the values in the order of the parameters -/
def mCallK (ix : List Nat) (fn : Fn) (ms : List EM) : EM := bindA ms fun rs p => callF fn p (permL ix rs)
section
variable {X : Cx} {B : Bd} {e : Expr} {kws : List Keyword} {m : EM} {ms : List EM} {nm : Option Str} {kpos : Pos}
theorem _root_.L2.PK.imp {X : Cx} {e : List Keyword} {t t' : TA} (h : PK X e t) (i : ∀ σ H Q, t' σ H Q → t σ H Q) : PK X e t' := ⟨fun pos pins s σ H Q I q => h.run pos pins s σ H Q I (i σ H Q q)⟩
end

section
variable {X : Cx} {B : Bd} {k : Nat} {f C : Addr} {fd : FuncData} {ps ks : List Str} {fn : Fn} {x self : Str} {p pos : Pos} {e : Expr} {es : List Expr} {ms : List EM} {ix : List Nat} {kws : List Keyword}
/-! ### C(..) -/
end

/-! ### a fresh thing becomes one that may be changed -/
def mCell (m : EM) : EM := bindE m fun r p => match r with
  | .fr d => some (.val (.sh (.cel p.st.length)) { p with st := p.st ++ [d] })
  | _ => none
theorem Rel.begin {B : Bd} {g : Gh} {σ : L2.St} {H : Hp} {p : PS} (R : Rel B g σ H p) {a : Addr} {d : D} (o : Own B.W g.ρ H d a) (f : Free B g σ p a) : Rel B ⟨g.ρ ++ [a], g.hid⟩ σ H { p with st := p.st ++ [d] } := by
  have pf : g.ρ <+: g.ρ ++ [a] := List.prefix_append _ _
  have nin : ∀ {b : Addr}, b ∉ g.ρ → b ≠ a → b ∉ g.ρ ++ [a] := fun h n m => by
    rcases List.mem_append.mp m with m | m
    · exact h m
    · exact n (List.mem_singleton.mp m)
  refine ⟨fun i t e => (R.slot i t e).mono (Frz.refl _) pf fun _ _ _ _ h => h, R.dis, fun i b x => ?_, fun n d' e => ?_, ?_, ?_, R.pre.trans pf, fun n b e le => ?_, fun x h => ?_, R.hnd, R.keep, R.len⟩
  · obtain ⟨n1, n2, n3⟩ := R.new i b x
    exact ⟨nin n1 fun z => f.own i (by rw [← z]; exact x), n2, n3⟩
  · have e' : (p.st ++ [d])[n]? = some d' := e
    rcases Nat.lt_or_ge n p.st.length with c | c
    · rw [List.getElem?_append_left c] at e'
      obtain ⟨b, e1, e2⟩ := R.cel n d' e'
      exact ⟨b, pre_get pf e1, e2.mono (Frz.refl _) pf fun _ h => h⟩
    · rw [List.getElem?_append_right c] at e'
      have hz : n - p.st.length = 0 := by
        rcases Nat.eq_zero_or_pos (n - p.st.length) with z | z
        · exact z
        · rw [List.getElem?_eq_none (show [d].length ≤ n - p.st.length from Nat.succ_le_of_lt z)] at e'
          cases e'
      rw [hz] at e'
      cases e'
      have hn : n = g.ρ.length := by rw [← R.cln]; omega
      refine ⟨a, ?_, .own (o.mono (Frz.refl _) pf fun _ h => h)⟩
      show (g.ρ ++ [a])[n]? = some a
      rw [hn, List.getElem?_append_right (Nat.le_refl _)]
      simp
  · show (p.st ++ [d]).length = (g.ρ ++ [a]).length
    rw [List.length_append, List.length_append, R.cln]
    rfl
  · show (g.ρ ++ [a]).Nodup
    rw [List.nodup_append]
    refine ⟨R.cnd, by simp, fun x hx y hy => ?_⟩
    rw [List.mem_singleton.mp hy]
    exact fun z => f.cel (by rw [← z]; exact hx)
  · have e' : (g.ρ ++ [a])[n]? = some b := e
    rcases Nat.lt_or_ge n g.ρ.length with c | c
    · rw [List.getElem?_append_left c] at e'
      exact R.cnw n b e' le
    · rw [List.getElem?_append_right c] at e'
      have m := List.mem_of_getElem? e'
      rw [List.mem_singleton.mp m]
      exact f.new
  · obtain ⟨h1, h2, h3, h4⟩ := R.hid x h
    exact ⟨h1, h2, nin h3 fun z => f.hid x.2 (by rw [← z]; exact h), h4⟩
theorem sim_cell {X : Cx} {B : Bd} {e : Expr} {m : EM} (h : PE X e (rdE B m)) : PE X e (rdE B (mCell m)) :=
  h.imp fun σ H Q h => by
    obtain ⟨g, p, R, k⟩ := h
    refine ⟨g, p, R, ?_⟩
    unfold mCell bindE at k
    cases e : m p with
    | none => rw [e] at k; exact k
    | some w =>
      rw [e] at k
      cases w with
      | exc x st => exact k
      | val r p1 =>
        cases r with
        | sh d => exact k.elim
        | pl i => exact k.elim
        | fr d =>
          intro v H1 ρ1 R1 q1 f1 a
          obtain ⟨ad, rfl, o, n1, n2, n3, n4⟩ := a
          have R2 := R1.begin o ⟨n1, n2, n3, n4⟩
          refine k (.ref ad) H1 (ρ1 ++ [ad]) R2 (q1.trans (List.prefix_append _ _)) f1 ?_
          refine .cel ?_
          show (ρ1 ++ [ad])[p1.st.length]? = some ad
          have hl : p1.st.length = ρ1.length := R1.cln
          rw [hl, List.getElem?_append_right (Nat.le_refl _)]
          simp
end Mi

/-! ## The mirror: what is never reached, class methods, isinstance, constants, chains, sorted items -/
namespace Mi
open PySem PySem.Spec PyProof.Rows L2 Lamp SlX Gd

theorem sim_g {X : Cx} {B : Bd} {x : Str} {d : D} {v : V} {u : Value} {pos : Pos} (hm : X.mg x = some u) (k : ∀ ρ H, Rep B.W ρ H d v) (r : RelV v u) (hg : Gl X x) (hd : (x == ("__debug__" : Str)) = false := by decide) : PE X (.Name x pos) (rdE B (eC d)) := sim_c (pe_glob hg hm r hd) k

/-! ### class methods -/
section
variable {P : Program} {w : World} {W : Wd} {mg : Str → Option Value} {base : Heap} {k : Nat} {f C : Addr} {fd : FuncData} {ps : List Str} {self : Str}
end
section
variable {X : Cx} {B : Bd} {k : Nat} {C pp g : Addr} {mc : Value} {fd : FuncData} {ps ks : List Str} {fn : Fn} {self m : Str} {pos apos : Pos} {o e : Expr} {es : List Expr} {ms : List EM} {ix : List Nat} {kws : List Keyword} {pl : Sem Bool}
end

/-! ### isinstance -/
structure ClsI (W : Wd) (c : Nat) : Prop where
  ic : PySem.W.isClsIn W.K (W.cC c) = true
  pg : PySem.W.plainGet W.K (W.cC c) Str.empty = true
  si : SIsi W.K (W.cC c)
def tyD : D → Option String
  | .non => some "NoneType" | .bl _ => some "bool" | .int _ => some "int" | .str _ => some "str" | .tup _ => some "tuple" | .pr _ => some "tuple"
  | .lst _ => some "list" | .scr _ => some "list" | .dic _ => some "dict" | _ => none
/-- isinstance(x, T), T a built-in type -/
def isiT (T : String) : D → Option RV
  | .obj _ _ => some (.sh (.bl false))
  | d => match tyD d with
    | some a => some (.sh (.bl (a == T || (a == "bool" && T == "int"))))
    | none => none
/-- .. a class of the text (there are n of these) -/
def isiC (n c : Nat) : D → Option RV
  | .obj c' _ => if c' < n then some (.sh (.bl (c' == c))) else none
  | d => match tyD d with
    | some _ => some (.sh (.bl false))
    | none => none
section
variable {X : Cx} {W : Wd}
/-- what isinstance of a thing with the class given as the value c answers -/
def rIsiD (W : Wd) (c : V) (pr : D → Option RV) : V → Hp → VK → Prop := fun x H Q => ∃ ρ d, RepB W ρ H d x ∧ PPost W ρ H Q (pr d)
section
variable {B : Bd} {e : Expr} {ma : EM} {pos p1 p2 : Pos} {x : Str}
theorem isi_rd {pr : D → Option RV} {c : V} (np : ∀ d, noPl (pr d)) {tb : TE} {σ : L2.St} {H : Hp} {Q : VK} (hb : tb = tC c) (h : rdE B (mUn pr ma) σ H Q) : tCB (fun xs H Q => ∃ x, xs = [x, c] ∧ rIsiD B.W c pr x H Q) (tCons (rdE B ma) (tCons tb tNil)) σ H Q := by
  subst hb
  refine bind_rd h fun g p1 r1 v1 H1 R1 a1 h1 => ?_
  refine ⟨v1, rfl, ?_⟩
  unfold op1 at h1
  cases e : get p1 r1 with
  | none => rw [e] at h1; exact h1.elim
  | some d =>
    rw [e] at h1
    exact ⟨g.ρ, d, get_rep R1 a1 e, PPost.of' R1 (np d) h1⟩
/-! ### x in T, T a tuple of ints that stands in the text -/
def inK (cs : List D) (d : D) : Option RV := if d.scal then some (.sh (.bl (cs.any fun y => eqF y d))) else none
end
end
end Mi

/-! ## The mirror: a < b < c; sorted(d.items()) -/
namespace Mi
open PySem PySem.Spec PyProof.Rows L2 Lamp SlX Gd

def mChain (pr pr' : D → D → Option RV) (ma mb mc : EM) : EM := bindE ma fun r1 => bindE mb fun r2 p => match op2 pr p r1 r2 with
  | some (.val (.sh (.bl true)) p2) => bindE mc (fun r3 p3 => op2 pr' p3 r2 r3) p2
  | some (.val (.sh (.bl false)) p2) => some (.val (.sh (.bl false)) p2)
  | _ => none
section
variable {B : Bd} {pr pr' : D → D → Option RV} {ma mb mc : EM} {r r' : R2}
end
section
variable {X : Cx} {B : Bd} {a b c : Expr} {pr pr' : D → D → Option RV} {ma mb mc : EM} {op op' : CmpOp} {pos : Pos}
end

/-! ### sorted(d.items()), ints -/
def asTab : List (D × D) → Option (List (Int × Int))
  | [] => some []
  | (.int a, .int b) :: r => (asTab r).map ((a, b) :: ·)
  | _ => none
theorem RepK.tab {W : Wd} {ρ : List Addr} {H : Hp} : ∀ {kvs : List (D × D)} {kys : List (Key × V)} {t : List (Int × Int)}, RepK W ρ H kvs kys → asTab kvs = some t → kys = dI t
  | _, _, t, .nil, e => by cases e; rfl
  | _, _, t, .cons (kd := kd) (d := d) (k := k) (r := r) e h q, e2 => by
    cases kd with
    | int a =>
      cases d with
      | int b =>
        unfold asTab at e2
        cases e3 : asTab r with
        | none => rw [e3] at e2; cases e2
        | some t' =>
          rw [e3] at e2
          cases e2
          cases k with
          | inl i =>
            cases e
            cases h
            rw [q.tab e3]
            rfl
          | inr s => cases e
      | _ => cases e2
    | _ => cases e2
end Mi

/-! ## The mirror: what the programs that print derivations use -/
namespace Mi
open PySem PySem.Spec PyProof.Rows L2 Lamp SlX Gd

theorem passM {P : Program} {w : World} {K : PySem.W.Frag} {mg : Str → Option Value} {base : Heap} {N : List Str} {qual : Str} {scope : Scope} {f : Addr} {cd : Value} {A : Around} {outer : List Env} {s : Shared} {H : Hp} {E : XK} :
    Passes (L2.CX P w) (cxOf (L2.CX P w) P w K mg base N qual scope f cd A outer s H E) E := passes_call (takes_of rfl rfl rfl rfl) fun _ _ _ _ h => h
theorem passE {X : Cx} : Passes (L2.CX X.prog X.w) X (fun _ _ _ => False) := fun _ _ _ _ _ _ _ h => by
  obtain ⟨_, _, _, _, _, _, _, _, _, _, _, _, z⟩ := h
  exact z.elim
def enumA : List D → Option (List D)
  | [.tup ds] => some (enumL ds)
  | ds => enum1 ds
def mDic0 : EM := fun p => some (.val (.fr (.dic [])) p)
end Mi

/-! ## The mirror: the end -/
namespace Mi
open PySem PySem.Spec PyProof.Rows L2 Lamp SlX Gd

def lawSp (K : PySem.W.Frag) : Sp := fun vs H Q _ => ∃ (a : Addr) (ns : List Int), vs = [.ref a] ∧ LstK K H a (ns.map V.int) ∧ ns.length ≤ 63 ∧ (∀ z ∈ ns, Builtin.Int.intBits z ≤ 1048576) ∧ ∀ H', Q (.bl true) H'
theorem law_end {P : Program} {w : World} {W : Wd} {mg : Str → Option Value} {base : Heap} {k : Nat} {fa : Addr} {fd : FuncData} {x : Str} {fn : Fn} (F : FnM P w W mg base k fa fd [x] fn)
    (hl : ∀ ns : List Int, ns.length ≤ 63 → (∀ z ∈ ns, Builtin.Int.intBits z ≤ 1048576) → ∃ st, fn [.scr ns] [] = some (.ret (.sh (.bl true)) st)) : FnG P w W.K mg base CX0 k fa fd [x] (lawSp W.K) := by
  refine ⟨fun vs H Q E h => ?_, fun A outer s H args us vs Q E hg hr e0 bt r h => ?_⟩
  · obtain ⟨a, ns, rfl, _⟩ := h
    rfl
  · obtain ⟨a, ns, rfl, hS, hn, hb, q⟩ := h
    obtain ⟨st, e⟩ := hl ns hn hb
    have q1 : fnSp W 1 fn [.ref a] H Q (fun _ _ _ => False) := by
      refine ⟨[], [.scr ns], [], ⟨fun n d e => by simp at e, rfl, List.nodup_nil⟩, .cons (.scr hS) .nil, rfl, ?_⟩
      rw [e]
      intro v H' ρ' l c rr
      cases rr
      exact q H'
    refine codeAny_mono (F.goes A outer s H args us [.ref a] Q (fun _ _ _ => False) hg hr e0 bt r q1) fun r s' hq => ?_
    cases r with
    | error e => obtain ⟨_, _, _, _, _, _, _, _, _, _, _, _, z⟩ := hq; exact z.elim
    | ok fl => cases fl <;> exact hq
end Mi

/-! ## The mirror: isinstance's answers from what the head gives -/
namespace Mi
open PySem PySem.Spec PyProof.Rows L2 Lamp SlX Gd

section
variable {K : PySem.W.Frag} {C D : Addr}
theorem ko_own {b : Bool} (ic : PySem.W.isClsIn K D = true) (ty : PySem.W.typeIn K (.ref D) = some (.type "type")) (self : PySem.W.mroIn K D (.ref D) = some true) (m : PySem.W.mroIn K C (.ref D) = some b) : PySem.W.kitOne K (.ref C) (.ref D) = some b := by
  have ic' : (PySem.W.clsIn K D).isSome = true := ic
  unfold PySem.W.kitOne
  by_cases e : C = D
  · subst e
    rw [m] at self
    rw [if_pos (by simp)]
    exact self.symm
  · rw [if_neg (by simpa using e)]
    show (if ((PySem.W.clsIn K D).isSome && PySem.W.typeIn K (.ref D) == some (.type "type")) = true then PySem.W.subIn K (.ref C) (.ref D) else none) = some b
    rw [ic', ty]
    simp only [Bool.true_and, beq_self_eq_true, if_true]
    exact m
end
end Mi

/-! ## The mirror: evaluation -/
namespace Mi
open PySem PySem.Spec PyProof.Rows L2 Lamp SlX Gd

section
variable {α : Type}
@[simp] theorem atI_0 (l : List α) : atI l 0 = l[0]? := by
  cases l with
  | nil => rfl
  | cons a l => simp [atI, ixN]
@[simp] theorem atI_1 (l : List α) : atI l 1 = l[1]? := by
  unfold atI ixN
  by_cases h : 1 < l.length
  · have h' : (1 : Int) < (l.length : Int) := by omega
    simp [h, h']
  · rw [List.getElem?_eq_none (by omega)]
    simp; omega
@[simp] theorem atI_2 (l : List α) : atI l 2 = l[2]? := by
  unfold atI ixN
  by_cases h : 2 < l.length
  · have h' : (2 : Int) < (l.length : Int) := by omega
    simp [h, h']
  · rw [List.getElem?_eq_none (by omega)]
    simp; omega
end
end Mi

/-! ## The mirror: starred items, [::-1] -/
namespace Mi
open PySem PySem.Spec PyProof.Rows L2 Lamp SlX Gd

/-- several values, some of them starred -/
def starOf (p : PS) (r : RV) : Option (List D) := match get p r with
  | some (.tup ds) => some ds
  | some (.lst ds) => some ds
  | _ => none
def pick (b : Bool) (p : PS) (r : RV) : Option (List RV) := if b then (starOf p r).map (·.map RV.sh) else match r with
  | .fr _ => none
  | r => some [r]
section
variable {B : Bd} {g : Gh} {σ : L2.St} {H H' : Hp} {p p' : PS} {ρ' : List Addr}
end
section
variable {X : Cx} {B : Bd} {e : Expr} {es : List Expr} {m : EM} {ms : List (Bool × EM)} {p pos : Pos}
end
end Mi

/-! ## The mirror: sorted(d), d.get with any default, max/min of a dict's keys -/
namespace Mi
open PySem PySem.Spec PyProof.Rows L2 Lamp SlX Gd

/-- the keys, if they are ints -/
def intKeys : List (D × D) → Option (List Int)
  | [] => some []
  | (.int i, _) :: r => (intKeys r).map (i :: ·)
  | _ => none
theorem intKeys_rep {W : Wd} {ρ : List Addr} {H : Hp} : ∀ {kvs : List (D × D)} {kys : List (Key × V)} {ks : List Int}, RepK W ρ H kvs kys → intKeys kvs = some ks → kys.map (·.1) = ks.map Sum.inl
  | _, _, ks, .nil, e => by cases e; rfl
  | _, _, ks, .cons (k := k) (kd := kd) e h t, z => by
    subst e
    cases k with
    | inl i =>
      have z' : (intKeys _).map (i :: ·) = some ks := z
      cases e2 : intKeys _ with
      | none => rw [e2] at z'; cases z'
      | some r =>
        rw [e2] at z'
        cases z'
        rw [List.map_cons, List.map_cons, intKeys_rep t e2]
    | inr y => cases z
theorem intKeys_all {kvs : List (D × D)} {ks : List Int} (e : intKeys kvs = some ks) : kvs.all (fun kv => match kv.1 with | .tup _ => false | _ => true) = true := by
  induction kvs generalizing ks with
  | nil => rfl
  | cons kv r ih =>
    obtain ⟨k, v⟩ := kv
    cases k with
    | int i =>
      have z' : (intKeys r).map (i :: ·) = some ks := e
      cases e2 : intKeys r with
      | none => rw [e2] at z'; cases z'
      | some q => exact (by rw [List.all_cons, ih e2]; rfl)
    | _ => cases e
def dSortedK : List D → Option RV
  | [.dic kvs] => (intKeys kvs).map fun ks => .fr (.lst ((sortI ks).map .int))
  | _ => none
def dSortedA : List D → Option RV
  | [.dic kvs] => dSortedK [.dic kvs]
  | ds => dSorted ds
section
variable {X : Cx} {W : Wd}
end
end Mi

/-! ## The mirror: == and != of instances by their own __eq__ -/
namespace Mi
open PySem PySem.Spec PyProof.Rows L2 Lamp SlX Gd
section
variable {prog : Program} {w : World} {A : Around} {E : Value → Shared → Prop} {s : Shared} {K : PySem.W.Frag} {x C f : Addr} {ox : Obj} {od : Option Obj} {b tb : Value}
end
/-- what a class with an own __eq__ gives -/
structure EqC (W : Wd) (c : Nat) (fa : Addr) : Prop where
  eq : PySem.W.findIn W.K (.ref (W.cC c)) "__eq__" = some (some (.ref fa))
  fn : PySem.W.isFn W.K (.ref fa) = true
  ne : PySem.W.findIn W.K (.ref (W.cC c)) "__ne__" = some (some (.builtin "object.__ne__"))
  ob : PySem.W.mroIn W.K (W.cC c) (.type "object") = some true
section
variable {X : Cx} {W : Wd} {B : Bd} {c k : Nat} {fa : Addr} {fd : FuncData} {ps : List Str} {fn : Fn} {E : XK} {x0 x1 : Str}
end
section
variable {X : Cx} {B : Bd} {c k : Nat} {fa : Addr} {fd : FuncData} {fn : Fn} {x0 x1 : Str} {a b : Expr} {ma mb : EM} {pos : Pos}
end
end Mi

/-! ## The mirror: len, str, repr, bool of instances by their own defs -/
namespace Mi
open PySem PySem.Spec PyProof.Rows L2 Lamp SlX Gd
/-- a class's own special method -/
structure OwnM (W : Wd) (c : Nat) (nm : Str) (fa : Addr) : Prop where
  at_ : PySem.W.findIn W.K (.ref (W.cC c)) nm = some (some (.ref fa))
  fn : PySem.W.isFn W.K (.ref fa) = true
section
variable {X : Cx} {W : Wd} {c k : Nat} {fa : Addr} {fd : FuncData} {fn : Fn} {E : XK} {x0 : Str}
end
section
variable {X : Cx} {B : Bd} {c k : Nat} {fn : Fn} {e : Expr} {m : EM} {x : Str} {p pos : Pos} {id T : String} {pr : List D → Option RV} {ok : D → Bool} {okV : V → Prop}
end
end Mi

/-! ## The mirror: min(d) of a dict's int keys -/
namespace Mi
open PySem PySem.Spec PyProof.Rows L2 Lamp SlX Gd
theorem call_minKI {X : Cx} (hc : X.calm = true) : CallR X (.builtin "min") (fun xs H Q => ∃ (a : Addr) (kvs : List (Key × V)) (is : List Int), xs = [.ref a] ∧ Rd H a (.dK kvs) ∧ kvs.map (·.1) = is.map Sum.inl ∧ is ≠ [] ∧ ∀ m, m ∈ is → (∀ j ∈ is, m ≤ j) → Q (.int m) H) := by
  intro pins s σ H xs us Q I r h
  obtain ⟨a, kvs, is, ex, hd, hv, hne, q⟩ := h
  subst ex
  obtain ⟨u, eu, rx⟩ := vals1 r
  subst eu
  cases rx
  obtain ⟨z, lo, vs, rel, dd⟩ := dk_rd I.hok hd
  obtain ⟨ep, dat⟩ := dd.dictAt
  obtain ⟨ob, es, ho, hex, hdat, hko, hpr, hnd⟩ := id dat
  have hlt : a < s.heap.objs.size := Heap.lt_size ho
  have hkeys : vs.map (·.1) = is.map Sum.inl := rel.keys.symm.trans hv
  have hlv : vs.length = is.length := by
    have e1 := congrArg List.length hkeys
    rw [List.length_map, List.length_map] at e1
    exact e1
  have hlen : 0 < vs.length := by
    rw [hlv]
    exact List.length_pos_iff.mpr hne
  have hval : ∀ (i : Nat) (v : Value), (∃ k x, vs[i]? = some (k, x) ∧ (mixKind X.prog X.w).is k v = true) → ∃ t, v = Value.int (is.getD i 0) t := fun i v ⟨k, x, hk, hkey⟩ => by
    have e1 : (vs.map (·.1))[i]? = some k := by rw [List.getElem?_map, hk] <;> rfl
    rw [hkeys, List.getElem?_map] at e1
    obtain ⟨j, hj, e2⟩ := Option.map_eq_some_iff.mp e1
    subst e2
    have hi : Value.isInt j v = true := hkey
    obtain ⟨t, e3⟩ := Value.isInt_shape (k := j) (v := v) hi
    refine ⟨t, ?_⟩
    rw [e3, List.getD_eq_getElem?_getD, hj] <;> rfl
  refine call_min_walk (wpAny_pyIter_dict (knd := mixKind X.prog X.w) lo dat ?_)
  refine ⟨_, _, _, _, _, _, _, rfl, Walks.dictKeys (knd := mixKind X.prog X.w) (A := X.A.in1) (I.ok.hd hc) s.heap.objs.size a (Nat.ne_of_lt hlt) vs ep,
    ⟨⟨_, Heap.get?_push_size _ rfl, rfl, rfl⟩, dat.keep fun b u e => Heap.get?_push_of_some _ e⟩, fun b hb => ?_, hlen, CmpOf.ints_lt (fun i => is.getD i 0) hval, fun v h' tk hP hk => ?_⟩
  · show b < (s.heap.push _).objs.size
    rw [Heap.size_push]
    rcases List.mem_cons.mp hb with e | hb
    · rw [e]
      exact Nat.lt_succ_self _
    · rw [List.mem_singleton.mp hb]
      exact Nat.lt_succ_of_lt hlt
  · obtain ⟨t, rfl⟩ := hval _ v hP
    obtain ⟨b1, b2⟩ := argBest_lt (fun i => is.getD i 0) (vs.length - 1)
    refine ⟨.int _, H, I.kept (t' := tk) fun b u e => hk b u (fun hmem => ?_) (Heap.get?_push_of_some _ e), ⟨t, rfl⟩, q _ ?_ fun j hj => ?_⟩
    · have e1 : b = s.heap.objs.size := List.mem_singleton.mp hmem
      have e2 := Heap.lt_size e
      rw [e1] at e2
      exact absurd e2 (Nat.lt_irrefl _)
    · have hb : argBest (fun i j => decide (is.getD i 0 < is.getD j 0)) (vs.length - 1) < is.length := by omega
      rw [List.getD_eq_getElem?_getD, List.getElem?_eq_getElem hb]
      exact List.getElem_mem hb
    · obtain ⟨i, hi, e⟩ := List.mem_iff_getElem.mp hj
      have e2 : is.getD i 0 = j := by rw [List.getD_eq_getElem?_getD, List.getElem?_eq_getElem hi, ← e] <;> rfl
      rw [← e2]
      exact b2 i (by omega)
def dMinK : List D → Option RV
  | [.dic kvs] => match intKeys kvs with
    | some ks => if 0 < ks.length then some (.sh (.int (minL ks))) else none
    | none => none
  | _ => none
def dMinA : List D → Option RV
  | [.dic kvs] => dMinK [.dic kvs]
  | ds => dMin ds
theorem dMinA_or (ds : List D) : dMinA ds = dMin ds ∨ dMinA ds = dMinK ds := by
  unfold dMinA
  split
  · exact .inr rfl
  · exact .inl rfl
section
variable {X : Cx} {W : Wd}
theorem k_minK (hc : X.calm = true) : C1 X W (.builtin "min") dMinK := ⟨_, call_minKI hc, fun ρ H ds vs Q a h => by
    unfold dMinK at h
    split at h
    · rename_i kvs
      obtain ⟨v, rfl, r⟩ := repBs1 a
      cases e : intKeys kvs with
      | none => rw [e] at h; exact h.elim
      | some ks =>
        rw [e] at h
        simp only at h
        split at h
        · rename_i c
          obtain ⟨p, kys, rfl, rd, rk⟩ := r.dicK (intKeys_all e)
          exact ⟨p, kys, ks, rfl, rd, intKeys_rep rk e, List.length_pos_iff.mp c, fun m h1 h2 => by rw [min_uniq h1 h2 (minL_spec c).1 (minL_spec c).2]; exact h.int⟩
        · exact h.elim
    · exact h.elim, fun ds => by unfold dMinK; split <;> first | trivial | (split <;> first | trivial | (split <;> trivial))⟩
theorem k_minA (hK : X.K = W.K) (hc : X.calm = true) : C1 X W (.builtin "min") dMinA := .mix (k_min hK hc) (k_minK hc) dMinA_or
end
end Mi

/-! ## The mirror: == of tables; of pairs of a table and a number -/
namespace Mi
open PySem PySem.Spec PyProof.Rows L2 Lamp SlX Gd
def tabEq (t u : List (Int × Int)) : Bool := t.length == u.length && t.all fun ab => match tget u ab.1 with
  | some v => ab.2 == v
  | none => false
section
variable {X : Cx} {pins : List (Addr × Obj)} {σ : L2.St} {H : Hp} {s : Shared}
end
/-- pairs of a table and a number; tables -/
noncomputable def eqT : D → D → Option RV
  | .dic ka, .dic kb => match asTab ka, asTab kb with
    | some t, some u => some (.sh (.bl (tabEq t u)))
    | _, _ => none
  | .tup [.dic ka, .int i], .tup [.dic kb, .int j] => match asTab ka, asTab kb with
    | some t, some u => @ite _ (keysOf t).Nodup (Classical.propDecidable _) (some (.sh (.bl (tabEq t u && i == j)))) none
    | _, _ => none
  | _, _ => none
noncomputable def eqA : D → D → Option RV
  | .dic ka, b => eqT (.dic ka) b
  | .tup [.dic ka, x], b => eqT (.tup [.dic ka, x]) b
  | a, b => eqP false a b
@[simp] theorem eqA_int (i : Int) (b : D) : eqA (.int i) b = eqP false (.int i) b := rfl
@[simp] theorem eqA_str (i : Str) (b : D) : eqA (.str i) b = eqP false (.str i) b := rfl
@[simp] theorem eqA_bl (i : Bool) (b : D) : eqA (.bl i) b = eqP false (.bl i) b := rfl
@[simp] theorem eqA_non (b : D) : eqA .non b = eqP false .non b := rfl
@[simp] theorem eqA_nil (b : D) : eqA (.tup []) b = eqP false (.tup []) b := rfl
section
variable {X : Cx} {W : Wd}
end
end Mi

/-! ## The mirror: sorted of a list of pairs of ints -/
namespace Mi
open PySem PySem.Spec PyProof.Rows L2 Lamp SlX Gd
section
variable {X : Cx} {W : Wd}
end
end Mi

/-! ## The mirror: a dict display -/
namespace Mi
open PySem PySem.Spec PyProof.Rows L2 Lamp SlX Gd
def dispD : List D → Option (List (D × D))
  | [] => some []
  | k :: v :: r => match asKey k with
    | some _ => (dispD r).map ((k, v) :: ·)
    | none => none
  | _ => none
def flatP {α : Type} : List (α × α) → List α
  | [] => []
  | x :: r => x.1 :: x.2 :: flatP r
noncomputable def mDisp (l : List (EM × EM)) : EM := bindA (flatP l) fun rs p => match (shs rs).bind dispD with
  | some kvs => @ite _ (kvs.length ≤ 15) (Classical.propDecidable _) (some (.val (.fr (.dic (mergeD [] kvs))) p)) none
  | none => none
section
variable {B : Bd} {g : Gh} {σ : L2.St} {H H' : Hp} {p : PS}
/-- a new thing that no one sees -/
theorem Rel.hide (R : Rel B g σ H p) {a : Addr} {o : HO} (m : ¬ Per o) (n : H a = none) : Rel B ⟨g.ρ, (a, o) :: g.hid⟩ σ (L2.upd H a o) p := by
  have f := R.free n
  have R1 := R.upd o f (fun u e => by rw [n] at e; cases e)
  refine ⟨R1.slot, R1.dis, fun i b w => ⟨(R1.new i b w).1, fun u z => ?_, (R1.new i b w).2.2⟩, R1.cel, R1.cln, R1.cnd, R1.pre, R1.cnw, fun x h => ?_, ?_, R1.keep, R1.len⟩
  · rcases List.mem_cons.mp z with z | z
    · cases z
      exact f.own i w
    · exact (R1.new i b w).2.1 u z
  · rcases List.mem_cons.mp h with z | z
    · subst z
      exact ⟨upd_same, m, f.cel, f.new⟩
    · exact R1.hid x z
  · rw [List.map_cons, List.nodup_cons]
    refine ⟨fun z => ?_, R1.hnd⟩
    obtain ⟨x, hx, ex⟩ := List.mem_map.mp z
    exact f.hid x.2 (by have ex' : x.1 = a := ex; rw [← ex']; exact hx)
/-- .. seen again -/
theorem Rel.unhide {a : Addr} {o : HO} {hid : List (Addr × HO)} {ρ : List Addr} (R : Rel B ⟨ρ, (a, o) :: hid⟩ σ H p) : Rel B ⟨ρ, hid⟩ σ H p ∧ Free B ⟨ρ, hid⟩ σ p a ∧ H a = some o ∧ ¬ Per o := by
  have h0 := R.hid (a, o) List.mem_cons_self
  have nd := R.hnd
  rw [List.map_cons, List.nodup_cons] at nd
  refine ⟨⟨R.slot, R.dis, fun i b w => ⟨(R.new i b w).1, fun u z => (R.new i b w).2.1 u (List.mem_cons_of_mem _ z), (R.new i b w).2.2⟩, R.cel, R.cln, R.cnd, R.pre, R.cnw, fun x h => R.hid x (List.mem_cons_of_mem _ h), nd.2, R.keep, R.len⟩, ⟨fun i w => ?_, h0.2.2.1, fun u z => ?_, h0.2.2.2⟩, h0.1, h0.2.1⟩
  · exact (R.new i a w).2.1 o List.mem_cons_self
  · exact nd.1 (List.mem_map.mpr ⟨(a, u), z, rfl⟩)
theorem rdE_imp {m : EM} {Q Q' : VK} (h : rdE B m σ H Q) (i : ∀ v H, Q v H → Q' v H) : rdE B m σ H Q' := by
  obtain ⟨g, p, R, k⟩ := h
  exact ⟨g, p, R, Post.imp i k⟩
theorem rdA_imp {ms : List EM} {Q Q' : List V → Hp → Prop} (h : rdA B ms σ H Q) (i : ∀ v H, Q v H → Q' v H) : rdA B ms σ H Q' := by
  obtain ⟨g, p, R, k⟩ := h
  refine ⟨g, p, R, ?_⟩
  cases e : args ms p with
  | none => rw [e] at k; exact k
  | some r =>
    rw [e] at k
    cases r with
    | exc x st => exact k
    | vals rs p' => exact fun vs H' ρ' R' q f rr => i _ _ (k vs H' ρ' R' q f rr)
theorem pairs_rd : ∀ (l : List (EM × EM)) {σ : L2.St} {H : Hp} {Q : List (V × V) → Hp → Prop}, rdA B (flatP l) σ H (fun vs H' => ∀ ps, vs = flatP ps → Q ps H') → tPairs (l.map fun x => (rdE B x.1, rdE B x.2)) σ H Q
  | [], σ, H, Q, h => by
    obtain ⟨g, p, R, k⟩ := h
    exact k [] H g.ρ R (List.prefix_refl _) (Frz.refl H) .nil [] rfl
  | x :: r, σ, H, Q, h => by
    have h1 := args_cons h
    refine rdE_imp h1 fun v H1 h2 => ?_
    have h3 := args_cons h2
    refine rdE_imp h3 fun w H2 h4 => ?_
    refine pairs_rd r ?_
    refine rdA_imp h4 fun vs H3 h5 ps e => ?_
    exact h5 ((v, w) :: ps) (by rw [e]; rfl)
theorem disp_rep {W : Wd} {ρ : List Addr} {H : Hp} : ∀ {ds : List D} {vs : List V} {kvs : List (D × D)}, Reps W ρ H ds vs → dispD ds = some kvs → ∃ kys : List (Key × V), vs = flatP (kys.map fun kv => (kV kv.1, kv.2)) ∧ kys.length = kvs.length ∧ RepK W ρ H kvs kys
  | [], _, kvs, .nil, e => by cases e; exact ⟨[], rfl, rfl, .nil⟩
  | [d], _, kvs, .cons _ .nil, e => by cases e
  | k :: d :: r, _, kvs, .cons hk (.cons hd t), e => by
    unfold dispD at e
    cases e1 : asKey k with
    | none => rw [e1] at e; cases e
    | some kk =>
      rw [e1] at e
      simp only at e
      cases e2 : dispD r with
      | none => rw [e2] at e; cases e
      | some l =>
        rw [e2] at e
        cases e
        obtain ⟨kys, h1, h2, h3⟩ := disp_rep t e2
        have ek := asKey_eq e1
        subst ek
        rename_i x y xs
        have ex : ∀ {v : V}, Rep W ρ H (keyD kk) v → v = kV kk := fun h => by
          cases kk with
          | inl i => cases h; rfl
          | inr s => cases h; rfl
        refine ⟨(kk, _) :: kys, ?_, by simp [h2], .cons rfl hd h3⟩
        rw [ex hk, h1]
        rfl
end
theorem flatP_inj {α : Type} : ∀ {l l' : List (α × α)}, flatP l = flatP l' → l = l'
  | [], [], _ => rfl
  | x :: r, y :: s, e => by
    unfold flatP at e
    injection e with e1 e
    injection e with e2 e
    rw [flatP_inj e, Prod.ext e1 e2]
theorem sim_disp {X : Cx} {B : Bd} {pos : Pos} {keys : List (Option Expr)} {values : List Expr} {l : List (EM × EM)} (h : PPs X pos keys values (l.map fun x => (rdE B x.1, rdE B x.2))) (hall : keys.all (·.isSome) = true := by rfl) (hl : keys.length = values.length := by rfl) (h0 : keys ≠ [] := by simp) (h15 : keys.length ≤ 15 := by simp) :
    PE X (.Dict keys values pos) (rdE B (mDisp l)) := by
  refine (pe_disp h hall hl h0 h15).imp fun σ H Q k => ?_
  obtain ⟨g, p, R, k⟩ := k
  intro a n
  have R1 := R.hide (o := .dK []) (fun p => p) n
  refine pairs_rd l ?_
  refine ⟨_, p, R1, ?_⟩
  unfold mDisp bindA at k
  cases e : args (flatP l) p with
  | none => rw [e] at k; exact k.elim
  | some r =>
    rw [e] at k
    cases r with
    | exc x st => exact k
    | vals rs p' =>
      intro vs H' ρ' R2 q f rr ps ep
      obtain ⟨R3, fr, ha, mu⟩ := R2.unhide
      refine ⟨ha, ?_⟩
      cases e1 : shs rs with
      | none => simp [e1] at k; exact k.elim
      | some ds =>
        have rd := rr.reps (shs_eq e1)
        cases e2 : dispD ds with
        | none => simp [e1, e2] at k; exact k.elim
        | some kvs =>
          simp only [e1, e2, Option.bind_some] at k
          obtain ⟨kys, h1, h2, h3⟩ := disp_rep rd e2
          have ek : ps = kys.map (fun kv => (kV kv.1, kv.2)) := flatP_inj (by rw [← ep, h1])
          by_cases c : kvs.length ≤ 15
          · rw [if_pos c] at k
            refine ⟨kys, ek, by rw [h2]; exact c, ?_⟩
            have F : Frz H' (L2.upd H' a (.dK (mergeK [] kys))) := Frz.put ha mu
            have R4 := R3.upd (.dK (mergeK [] kys)) fr (fun u z => by rw [ha] at z; cases z; exact mu)
            exact k (.ref a) _ ρ' R4 q ((Frz.new n).trans (f.trans F)) ⟨a, rfl, .dic upd_same (RepK.merge (h3.mono F (List.prefix_refl _)) .nil), fr.own, fr.cel, fr.hid, fr.new⟩
          · rw [if_neg c] at k; exact k.elim
end Mi

/-! ## The mirror: != of pairs of a table and a number; a list times a number -/
namespace PySem.SeqAt
open AutoSeq1 (wpAny_loadPart')
open MeetsSeq MeetsSeq2 MeetsSeq3
end PySem.SeqAt
namespace Mi
open PySem PySem.Spec PyProof.Rows L2 Lamp SlX Gd
section
variable {X : Cx}
end
noncomputable def neT : D → D → Option RV
  | .tup [.dic ka, .int i], .tup [.dic kb, .int j] => match asTab ka, asTab kb with
    | some t, some u => @ite _ (keysOf t).Nodup (Classical.propDecidable _) (some (.sh (.bl (!(tabEq t u && i == j))))) none
    | _, _ => none
  | _, _ => none
noncomputable def neA : D → D → Option RV
  | .tup [.dic ka, x], b => neT (.tup [.dic ka, x]) b
  | a, b => eqP true a b
@[simp] theorem neA_int (i : Int) (b : D) : neA (.int i) b = eqP true (.int i) b := rfl
@[simp] theorem neA_non (b : D) : neA .non b = eqP true .non b := rfl
section
variable {X : Cx} {W : Wd}
/-- a fresh list times a number -/
def repD (ds : List D) (k : Int) : List D := (List.replicate k.toNat ds).flatten
theorem Reps.rep {W : Wd} {ρ : List Addr} {H : Hp} {ds : List D} {xs : List V} (r : Reps W ρ H ds xs) : ∀ n : Nat, Reps W ρ H (List.replicate n ds).flatten (List.replicate n xs).flatten
  | 0 => .nil
  | n + 1 => by
    rw [List.replicate_succ, List.replicate_succ, List.flatten_cons, List.flatten_cons]
    exact r.app (Reps.rep r n)
def rRepL : R2 := fun x y H Q => ∃ l k xs, x = .ref l ∧ y = .int k ∧ Rd H l (.lst xs) ∧ -(2 ^ 63) ≤ k ∧ k < 2 ^ 63 ∧ xs.length * k.toNat ≤ sizeLine ∧ ∀ p, H p = none → Q (.ref p) (upd H p (.lst (List.replicate k.toNat xs).flatten))
theorem rep_flat (its : List Value) (m : Nat) : List.foldl (fun x1 x2 => x1 ++ x2) #[] (List.replicate m its.toArray) = (List.replicate m its).flatten.toArray := by
  have h := foldl_rep its m []
  rw [List.nil_append] at h
  exact h
theorem op_repL {X : Cx} : OpR X (binaryOp .Mult) rRepL := by
  intro pins s σ H x y v u Q I rx ry h
  obtain ⟨l, k, xs, rfl, rfl, hH, h1, h2, hz, q⟩ := h
  cases rx
  obtain ⟨t, rfl⟩ := ry
  obtain ⟨z, its, n, r, e⟩ := lstR I hH
  have hl := r.length
  have big : (sizeLine : Nat) ≤ (2 ^ 63 - 1) / 8 := by decide
  have a0 : its.toArray.size * k.toNat ≤ sizeLine := by rw [List.size_toArray, ← hl]; exact hz
  have a1 : ¬ its.toArray.size * k.toNat > (2 ^ 63 - 1) / 8 := by omega
  have a2 : ¬ (!Builtin.List.listFitsIndex k) = true := by rw [fitsIndex_both h1 h2]; exact Bool.false_ne_true
  have a3 : ¬ Builtin.List.listTooLong (its.toArray.size * k.toNat) = true := by rw [notLongL a0]; exact Bool.false_ne_true
  have a4 : List.foldl (fun x1 x2 => x1 ++ x2) #[] (List.replicate (if its.toArray.isEmpty = true then 0 else k.toNat) its.toArray) = (List.replicate k.toNat its).flatten.toArray := by
    rw [rep_flat]
    cases its with
    | nil => simp
    | cons a w => rw [if_neg (by simp)]
  have g : wpAny (model X.prog X.w) X.A (binaryOp .Mult (.ref l) (.int k t)) (EP X pins σ Q) X.xe s := by
    refine wpAny_binaryOp_repeat_ref (T := "list") (U := "int") (by decide) ⟨_, e, rfl⟩ (fun s' => typeIs_int s' k t) noFill_list_mul F.fills_int_mul F.slot_int_rmul repeat_list F.slot_int_index.lookup (call_meets F.slot_int_rmul (typeIs_int s k t) F.entry_int_rmul (F.args_int_rmul_2 _ _) (int___rmul___int_list k t l its.toArray n) ⟨e, rfl, ⟨_, e, rfl⟩, call_meets F.slot_list_mul ⟨_, e, rfl⟩ F.entry_list_mul (F.args_list_mul_2 _ _) (AutoListH.list___mul___list_int_3 l its.toArray n k t a2 a1 a3) ⟨e, ?_⟩⟩)
    rw [a4]
    exact ⟨.ref _, _, I.lnew (t' := s.toks) (r.rep k.toNat) (by rw [PyProof.Rows.lm_len_rep_flat, Nat.mul_comm]; exact hz), rfl, q _ I.fresh⟩
  exact g
noncomputable def dRepL : D → D → Option RV
  | .lst ds, .int k => @ite _ (-1000000 ≤ k ∧ k ≤ 1000000 ∧ ds.length * k.toNat ≤ sizeLine) (Classical.propDecidable _) (some (.fr (.lst (repD ds k)))) none
  | _, _ => none
theorem o_repL : O2 X W (binaryOp .Mult) dRepL := ⟨_, op_repL, fun ρ H d1 d2 v1 v2 Q a1 a2 h => by
    unfold dRepL at h
    split at h
    · rename_i ds k
      split at h
      · rename_i c
        obtain ⟨c1, c2, c3⟩ := c
        obtain ⟨l, xs, rfl, h1, r1⟩ := a1.lstR
        rw [a2.int]
        exact ⟨l, _, xs, rfl, rfl, h1, by omega, by omega, by rw [← r1.len]; exact c3, fun p n => h.new (r1.rep k.toNat) n⟩
      · exact h.elim
    · exact h.elim, fun d1 d2 => by unfold dRepL; split <;> first | trivial | (split <;> trivial)⟩
end
end Mi

/-! ## The mirror: x(lambda: e) -/
namespace Mi
open PySem PySem.Spec PyProof.Rows L2 Lamp SlX Gd LamX
end Mi

/-! ## The mirror: x.f = e, x a changeable thing with its own dict -/
namespace Mi
open PySem PySem.Spec PyProof.Rows L2 Lamp SlX Gd
end Mi

/-! ## The mirror: enumerate over a text -/
namespace Lamp
open PySem PySem.Spec PyProof.Rows L2
end Lamp
namespace Mi
open PySem PySem.Spec PyProof.Rows L2 Lamp SlX Gd
section
variable {B : Bd} {g : Gh} {σ : L2.St} {H : Hp} {p : PS} {hid : List (Addr × HO)} {ρ0 : List Addr}
def enumS : List D → Option (List D)
  | [.str s] => some (enumL (s.cps.toList.map fun c => D.str ⟨#[c]⟩))
  | _ => none
def enumAS : List D → Option (List D)
  | [.str s] => some (enumL (s.cps.toList.map fun c => D.str ⟨#[c]⟩))
  | ds => enumA ds
end
section
variable {X : Cx} {B : Bd} {e : Expr} {ms : List EM} {p pos tpos : Pos} {elts : List Expr} {kk : Nat}
end
end Mi

/-! ## The mirror: a tuple of any things compared with () -/
namespace Mi
open PySem PySem.Spec PyProof.Rows L2 Lamp SlX Gd
section
variable {X : Cx}
end
section
variable {X : Cx} {W : Wd}
end
end Mi

/-! ## Own exception classes over any base, with one field -/
namespace Xb
open PySem PySem.Spec PyProof.Rows L2
open Builtin Builtin.ObjectAttr
structure Base (B newId initId : String) (tl : List Value) : Prop where
  F : ExcBaseFacts B newId initId tl
  pass : ∀ self : Value, refuseLoop self "__setattr__" tl = pure ()
  hob : tl.contains (.type "object") = true
  ne : tl.isEmpty = false
theorem bVE : Base "ValueError" "ValueError.__new__" "ValueError.__init__" [.type "ValueError", .type "Exception", .type "BaseException", .type "object"] := ⟨F.excBase_ValueError, F.store_ValueError.passes, by decide +kernel, rfl⟩
theorem bAE : Base "ArithmeticError" "ArithmeticError.__new__" "ArithmeticError.__init__" [.type "ArithmeticError", .type "Exception", .type "BaseException", .type "object"] := ⟨F.excBase_ArithmeticError, F.store_ArithmeticError.passes, by decide +kernel, rfl⟩
theorem bLE : Base "LookupError" "LookupError.__new__" "LookupError.__init__" [.type "LookupError", .type "Exception", .type "BaseException", .type "object"] := ⟨F.excBase_LookupError, F.store_LookupError.passes, by decide +kernel, rfl⟩
/-- own classes, then the base's mro -/
def refs (cs : List Addr) (tl : List Value) : List Value := cs.map Value.ref ++ tl
theorem refs_contains (cs : List Addr) (tl : List Value) (Y : String) : (refs cs tl).contains (.type Y) = tl.contains (.type Y) := by
  induction cs with
  | nil => rfl
  | cons c cs ih =>
    have e : refs (c :: cs) tl = .ref c :: refs cs tl := rfl
    rw [e, List.contains_cons, ih]
    rfl
section
variable {B newId initId : String} {tl : List Value}
theorem Base.refs_ne (b : Base B newId initId tl) {cs : List Addr} : (refs cs tl).isEmpty = false := by
  cases cs with
  | nil => exact b.ne
  | cons c cs => rfl
theorem Base.refs_pass (b : Base B newId initId tl) {self : Value} {cs : List Addr} : refuseLoop self "__setattr__" (refs cs tl) = pure () := by
  induction cs with
  | nil => exact b.pass self
  | cons c cs ih =>
    have e : refs (c :: cs) tl = .ref c :: refs cs tl := rfl
    rw [e, refuseLoop_ref, ih]
end
section
open PySem.W PySem.Calls PySem.HandSPX
variable {prog : Program} {w : World} {A : Around} {E : Value → Shared → Prop} {R : Result → Shared → Prop} {hp : Heap} {g : Array GenState} {d : Drawn} {t : Nat} {os : OsState}
theorem osaB {K : W.Frag} {name : Str} {tk : Tok} {v : Value} {x C : Addr} {fv : Array Value} {cd : ClassData}
    (X : K.In hp) (hx : hp.get? x = some { cls := .ref C, data := .fields fv }) (hcd : W.clsIn K C = some cd) {tl : List Value} {bs : List Addr} {BN newId initId : String} (BB : Base BN newId initId tl) (hm : cd.mro = refs bs tl) (hh : cd.hasDict = true) (ha : W.findIn K (.ref C) name = some none)
    (hq : ∀ h' tk' dx, (∀ b o, b ≠ x → hp.get? b = some o → h'.get? b = some o) → hp.objs.size ≤ dx → dx ≠ x → h'.get? x = some { cls := .ref C, dict := some dx, data := .fields fv } →
      h'.Ns1 dx (fun y => if y = name then some v else none) → R (.ok (.ret .none)) ⟨h', g, d, tk', os⟩) :
    codeAny (model prog w) A (.call (.builtin "object.__setattr__") ⟨[.ref x, .str name tk, v], []⟩) R ⟨hp, g, d, t, os⟩ := by
  have I : W.InstAt hp x { cls := .ref C, data := .fields fv } C none := ⟨hx, rfl, rfl, trivial⟩
  have SF := F.store_object
  have ne : cd.mro.isEmpty = false := by rw [hm]; exact BB.refs_ne
  have hob : cd.mro.contains (.type "object") = true := by rw [hm, refs_contains, BB.hob]
  have hxs : x ≠ hp.objs.size := Nat.ne_of_lt (Heap.lt_size hx)
  have sub : W.Looks (model prog w) hp (isInstance (.ref x) (.type "object")) true := I.type.andThen (W.looks_mroIn X (by unfold W.mroIn; rw [hcd, Option.bind_some, if_neg (by rw [ne]; decide), hob]))
  refine codeAny_call_builtin SF.slot.plain SF.entry (@W.check_slot (model prog w) _ _ ⟨hp, g, d, t, os⟩ "object.__setattr__" "object" "__setattr__" (.ref x) [.str name tk, v] [] _ SF.kind SF.split sub (SF.args (.ref x) (.str name tk) v) ?_)
  have hmr : W.Looks (model prog w) hp (mroOf (.ref C)) cd.mro := (W.looks_clsIn X hcd).andThen .now
  have L3 : W.Looks (model prog w) hp (storeTaker? none) none := .now
  have hcls : W.Looks (model prog w) hp (classData C) cd := W.looks_clsIn X hcd
  rw [W.osa_eq, refuse_eq]
  refine wpAny_bind (wpAny_bind (I.type.at (wpAny_bind (hmr.at ?_))))
  rw [hm, BB.refs_pass]
  refine wpAny_pure (wpAny_bind (I.type.at (wpAny_bind ((W.looks_findIn X ha).at (wpAny_bind (L3.at ?_))))))
  show wpAny _ _ (storeInOwnDict (.ref x) (.ref C) (.str name tk) name v false) _ _ _
  obtain ⟨nm, bs, mro, ns, qn, hd, sn, sb, ab, col, del⟩ := cd
  dsimp only at hh
  subst hh
  unfold storeInOwnDict ownDictForStores
  repeat (first | with_reducible refine store_in_new ?_ ?_ | with_reducible refine wpAny_loadPart_at hx ?_ | with_reducible refine hcls.at ?_ | wp_step)
  · exact ⟨_, #[], _, (Heap.get?_update_ne _ _ _ _ hxs.symm).trans (Heap.get?_push_at rfl rfl), rfl, fun e he => absurd he (by simp), fun _ => rfl⟩
  · intro h' tk' hn' hs
    have hx₁ : (hp.push { cls := .type "dict", data := .dict #[] }).get? x = some { cls := .ref C, data := .fields fv } := Heap.get?_push_of_some _ hx
    refine hq h' tk' hp.objs.size (fun b o hb ho => ?_) (Nat.le_refl _) hxs.symm ?_ hn'
    · exact (hs.2 b (Nat.ne_of_lt (Heap.lt_size ho))).trans ((Heap.get?_update_ne _ _ _ _ hb).trans (Heap.get?_push_of_some _ ho))
    · exact (hs.2 x hxs).trans (Heap.get?_update_self _ hx₁ rfl)
end
/-- what the written part says of such a class -/
structure OexB (K : PySem.W.Frag) (C : Addr) : Prop where
  cls : ∃ B newId initId tl nm q N bs cs sn sub ab col dd k0 k1 k2 k3 k5, Base B newId initId tl ∧ K.lookup C = some (excClassObj nm q C N bs (refs cs tl) true sn sub ab col dd k0 k1 k2 k3 k5 newId)
  sa : PySem.W.findIn K (.ref C) "__setattr__" = some (some (.builtin "object.__setattr__"))
  exC : PySem.W.subIn K (.ref C) (.type "BaseException") = some true
  tyC : PySem.W.typeIn K (.ref C) = some (.type "type")
  kC : PySem.W.keepIn K (.ref C) = true
section
variable {X : Cx} {pins : List (Addr × Obj)} {σ : L2.St} {H : Hp} {s : Shared} {a C dx : Addr} {f : Str} {y : V} {u : Value} {fs : List (Str × V)} {Q : Unit → Shared → Prop} {E : Value → Shared → Prop} {A : Around}
/-- self.f = y, the first one -/
theorem ostB_new (T : OexB X.K C) (I : Inv X pins σ H s) (e : H a = some (exo a C none)) (hno : PySem.W.findIn X.K (.ref C) f = some none) (ry : RelV y u)
    (h : ∀ dx s', H dx = none → dx ≠ a → Inv X pins σ (upd (upd H dx (exd dx [(f, y)])) a (exo a C (some dx))) s' → Q () s') : wpAny (model X.prog X.w) A (setAttr (.ref a) f u) Q E s := by
  obtain ⟨BN, newId, initId, tl, nm, q, N, bs, cs, sn, sub, ab, col, dd, k0, k1, k2, k3, k5, BB, hC⟩ := T.cls
  have hcl : PySem.W.clsIn X.K C = some { name := nm, bases := bs, mro := .ref C :: refs cs tl, ns := N, qualname := q, hasDict := true, slotNames := sn, subclasses := sub, abstract := ab, collection := col, hasDel := false } := by unfold PySem.W.clsIn; rw [hC] <;> rfl
  obtain ⟨t1, ho⟩ := exo_at I.hok e
  obtain ⟨hp, g, d, t, os⟩ := s
  refine PySem.W.set_plain I.kIn (ox := { cls := .ref C, dict := none, data := .fields #[.ref t1, .none, .none, .none, .bool false, .none] }) (od := none) ⟨ho, rfl, rfl, trivial⟩ T.sa ?_
  refine osaB I.kIn ho hcl (bs := C :: cs) BB rfl rfl hno (fun h' tk' dx k dn dne hx hn => ?_)
  have hnd : H dx = none := I.hok.fresh dn
  have nd : ∀ {b : Addr} {o : Obj}, hp.get? b = some o → b ≠ dx := fun {b o} q => Nat.ne_of_lt (Nat.lt_of_lt_of_le (Heap.lt_size q) dn)
  have na : ∀ {b : Addr}, H b = none → b ≠ a := fun {b} n z => by
    rw [z, e] at n
    cases n
  have Un1 : Un X.fs [] H (upd (upd H dx (exd dx [(f, y)])) a (exo a C (some dx))) hp h' := {
    keep := fun b o q n _ _ => k b o (na n) q
    slot := fun b o q n _ _ => ⟨o.slots, k b o (na n) q⟩
    free := fun b o q n _ => by rw [upd_ne (na n), upd_ne (nd q)]; exact n
    there := fun b o q _ => by
      by_cases hb : b = a
      · exact ⟨_, by rw [hb]; exact hx⟩
      · exact ⟨o, k b o hb q⟩
    tups := fun b xs q => by rw [upd_ne (at_ne e q exo_tup), upd_ne (ne_of_none q hnd)]; exact q
    frzs := fun b o v q => by rw [upd_ne (at_ne e q exo_frz), upd_ne (ne_of_none q hnd)]; exact q
    tbls := fun b ps q => ⟨#[], by rw [upd_ne (at_ne e q exo_tbl), upd_ne (ne_of_none q hnd), q]; simp⟩ }
  refine h dx _ hnd dne (I.un (t' := tk') Un1 fun b o q => ?_)
  by_cases hb : b = a
  · subst hb
    rw [upd_same] at q
    cases q
    exact exo_ok hx
  · rw [upd_ne hb] at q
    by_cases hd : b = dx
    · subst hd
      rw [upd_same] at q
      cases q
      exact exd_ok hn (relO_put (fs := []) ry fun g => True.intro)
    · rw [upd_ne hd] at q
      exact (I.hok b o q).stay (fun c v hc z => k c v (by
          rcases hc with hc | hc
          · rw [hc]
            exact hb
          · exact at_ne e hc exo_own) z)
        (fun c hc => by rw [upd_ne (at_ne e hc exo_own), upd_ne (ne_of_none hc hnd)]; exact hc) (fun c xs hc => by rw [upd_ne (at_ne e hc exo_tup), upd_ne (ne_of_none hc hnd)]; exact hc)

end
def tOstB (K : PySem.W.Frag) (f : Str) (to te : TE) : TS := fun D σ H => te σ H fun y H1 => to σ H1 fun x H2 => ∃ a C : Addr, x = .ref a ∧ OexB K C ∧ PySem.W.findIn K (.ref C) f = some none ∧ H2 a = some (exo a C none) ∧ ∀ dx, H2 dx = none → dx ≠ a → D.nx σ (upd (upd H2 dx (exd dx [(f, y)])) a (exo a C (some dx)))

section
variable {X : Cx} {o e : Expr} {es : List Expr} {to te : TE} {ta : TA} {f : Str} {p p' p1 p2 pos : Pos}
theorem ps_ostB (ho : PE X o to) (he : PE X e te) (hs : swapsWith e (some (.Attribute o f p')) pos.line X.env = pure false := by rfl) : PS X (.Assign [.Attribute o f p'] e pos) (tOstB X.K f to te) := by
  refine ⟨fun pins s σ H D I h => ?_⟩
  refine plainObj_wpAny_Assign_Attribute (thn (he.run pins s σ H _ I h) fun v s1 ⟨y, H1, I1, r1, q1⟩ => thn (ho.run pins s1 σ H1 _ I1 q1) fun u s2 ⟨x, H2, I2, r2, a, C, ex, T, hno, ea, q⟩ => ?_) hs
  subst ex
  obtain rfl : u = Value.ref a := r2
  exact ostB_new T I2 ea hno r1 fun dx s' n ne J => ⟨σ, _, J, q dx n ne⟩
end
end Xb

/-! ## The mirror: raise C(e), C an own exception class with one field -/
namespace Mi
open PySem PySem.Spec PyProof.Rows L2 Lamp SlX Gd Xb
/-- __init__(self, f): self.f = f -/
def xSp (C : Addr) (f : Str) : Sp := fun vs H Q _ => ∃ a y, vs = [.ref a, y] ∧ H a = some (exo a C none) ∧ ∀ dx, H dx = none → dx ≠ a → Q .non (upd (upd H dx (exd dx [(f, y)])) a (exo a C (some dx)))
section
variable {P : Program} {w : World} {K : PySem.W.Frag} {mg : Str → Option Value} {base : Heap}
theorem okX {x qual f y : Str} {st : Stmt} {a : Addr} {fd : FuncData} {C : Addr} {p1 p2 p3 p4 : Pos} (F : Fun K x qual st a fd) (S : FnScope ["self", y] ["self", y] (defScope st)) (hb : defBody st = [.Assign [.Attribute (.Name "self" p1) f p2] (.Name y p3) p4]) (T : OexB K C) (hno : PySem.W.findIn K (.ref C) f = some none)
    (v0 : Vis (defScope st) "self") (v1 : Vis (defScope st) y) (hd : (y == ("__debug__" : Str)) = false) (hcd : (y == ("__classdict__" : Str)) = false) :
    FnOk P w K mg base CX0 2 a fd ["self", y] (xSp C f) := by
  refine Fun.ok F S (fun vs H Q E h => by obtain ⟨_, _, rfl, _⟩ := h; rfl) fun cdv A outer s H vs Q E hr h => ?_
  obtain ⟨b, z, rfl, e1, k⟩ := h
  rw [hb]
  refine ⟨_, pss_one (ps_ostB (pe_var (i := 0) rfl v0) (pe_var (i := 1) rfl v1 hd hcd)), ?_⟩
  exact ⟨z, rfl, .ref b, rfl, b, C, rfl, T, hno, e1, fun dx n ne => k dx n ne⟩
end
section
variable {X : Cx} {B : Bd}
end
end Mi

/-! ## x(lambda: e) where nothing guards -/
namespace Mi
open PySem PySem.Spec PyProof.Rows L2 Lamp SlX Gd LamX
section
variable {X : Cx} {pins : List (Addr × Obj)} {σ : L2.St} {H : Hp} {s : Shared}
end
end Mi

/-! ## The mirror: f(lambda: e), f a def that catches what e raises -/
namespace Mi
open PySem PySem.Spec PyProof.Rows L2 Lamp SlX Gd LamX
structure PV (W : Wd) (Rv : V → Hp → VK → Prop) (hd : D → Option RV) : Prop where
  ok : ∀ ρ H d v Q, Rep W ρ H d v → PPost W ρ H Q (hd d) → Rv v H Q
  np : ∀ d, noPl (hd d)
structure PX (W : Wd) (Rx : Value → Option Addr → Hp → VK → Prop) (hx : Ex → List D → Option FR) : Prop where
  ok : ∀ ρ H x d fs st Q, Cells W ρ H st → H d = some (.xd fs) → d ∉ ρ → fs.map (·.1) = x.fs.map (·.1) → Reps W ρ H (x.fs.map (·.2)) (fs.map (·.2)) → FPost W ρ H Q C8.E0 (hx x st) → Rx (.ref (W.eC x.c)) (some d) H Q
  ok0 : ∀ ρ H x st Q, Cells W ρ H st → x.fs = [] → FPost W ρ H Q C8.E0 (hx x st) → Rx (.ref (W.eC x.c)) none H Q
section
variable {X : Cx} {B : Bd}
end
end Mi

/-! ## The mirror: try: act() / except C as e: return e.f / return 0 -/
namespace Mi
open PySem PySem.Spec PyProof.Rows L2 Lamp SlX Gd LamX
/-- what an own exception class gives: its instances' field f -/
structure XfF (K : PySem.W.Frag) (C : Addr) (f : Str) : Prop where
  xf : XfC K C
  no : PySem.W.findIn K (.ref C) f = some none
end Mi

/-! ## The end of a law with tables of code objects -/
namespace Mi
open PySem PySem.Spec PyProof.Rows L2 Lamp SlX Gd LamX
end Mi

/-! ## The mirror: a def with a lambda; f(lambda: e) -/
namespace Mi
open PySem PySem.Spec PyProof.Rows L2 Lamp SlX Gd LamX
section
variable {P : Program} {w : World} {K : PySem.W.Frag} {mg : Str → Option Value} {base : Heap} {CX : CXT} {k : Nat} {f : Addr} {fd : FuncData} {ps : List Str} {sp : Sp}
end
section
variable {P : Program} {w : World} {W : Wd} {mg : Str → Option Value} {base : Heap} {k : Nat} {f : Addr} {fd : FuncData} {ps : List Str}
end
/-! ### what the catching defs hand back -/
end Mi

/-! ## except (A, B, C) as e -/
namespace Mi
open PySem PySem.Spec PyProof.Rows L2
section
variable {X : Cx} {x1 x2 x3 n : Str} {c1 c2 c3 : Value} {i kk : Nat} {body suite : List Stmt} {b₀ : Stmt} {q1 q2 q3 tpos pos pos' : Pos} {tb : WX → TS} {ts : Addr → Value → Option Addr → TS} {Wout : WX}
end
end Mi

/-! ## A def called while an exception is handled that stands aside -/
namespace Mi
open PySem PySem.Spec PyProof.Rows L2 Lamp SlX Gd LamX L2H
structure FnP (P : Program) (w : World) (K : PySem.W.Frag) (mg : Str → Option Value) (base : Heap) (CX : CXT) (k : Nat) (f : Addr) (fd : FuncData) (ps : List Str) (sp : Addr × Obj → Sp) : Prop where
  len : ∀ p vs H Q E, sp p vs H Q E → vs.length = ps.length
  run : ∀ (A : Around) (outer : List Env) (s : Shared) (H : Hp) (args : Args) (us : List Value) (vs : List V) (Q : VK) (E : XK) (p : Addr × Obj), A.guards = some [] → RoomH k A → PinOk outer H s p → Env0 P w K mg base A outer s H → BindsTo s fd args (ps.zip us) → Vals vs us → sp p vs H Q E →
    codeAny (model P w) A (.call (.ref f) args) (CR CX outer P w H s Q E) s
section
variable {X : Cx} {CX : CXT} {k : Nat} {f C : Addr} {fd : FuncData} {ps : List Str} {sp : Addr × Obj → Sp} {E : L2.St → XK} {x m : Str} {q pos apos : Pos} {e o : Expr} {es : List Expr} {ta : TE} {t : TA}
end
end Mi

/-! ## The mirror: the exception that is handled: isinstance(e, C), e.f -/
namespace Mi
open PySem PySem.Spec PyProof.Rows L2 Lamp SlX Gd LamX
/-- what an own exception class gives, so that isinstance asks its instances rightly -/
structure XiC (K : PySem.W.Frag) (C : Addr) : Prop where
  cl : (PySem.W.clsIn K C).isSome = true
  ga : PySem.W.findIn K (.ref C) "__getattribute__" = some (some (.builtin "BaseException.__getattribute__"))
  gt : PySem.W.findIn K (.ref C) "__getattr__" = some none
  ex : PySem.W.subIn K (.ref C) (.type "BaseException") = some true
  ca : PySem.W.findIn K (.ref C) "__class__" = some (some (.builtin "object.__class__"))
  sp : PySem.W.specialIn K (.builtin "object.__class__") "__get__" = some (some (.builtin "getset_descriptor.__get__"))
  tk : PySem.W.takesIn K (.builtin "object.__class__") = some true
  ob : PySem.W.mroIn K C (.type "object") = some true
/-- the handled exception: its class, its dict, its one field -/
structure Hot (X : Cx) (B : Bd) (a : Addr) (oe : Obj) (C : Addr) (dd : Option Addr) (f : Str) (d : D) : Prop where
  pin : (a, oe) ∈ X.pn
  z : Zc (.ref C) dd oe
  fl : ∃ vs, oe.data = .fields vs
  val : (∃ b fs v, dd = some b ∧ b ∉ B.ρ0 ∧ B.H0 b = some (.xd fs) ∧ fs.lookup f = some v ∧ Rep B.W B.ρ0 B.H0 d v) ∨ (f = "" ∧ ∀ b, dd = some b → b ∉ B.ρ0 ∧ ∃ fs, B.H0 b = some (.xd fs))
  frz : ∀ H', (∀ b o, B.H0 b = some o → b ∉ B.ρ0 → H' b = some o) → Frz B.H0 H'
section
variable {X : Cx} {B : Bd} {a C : Addr} {dd : Option Addr} {oe : Obj} {f : Str} {d : D} {i : Nat}
theorem Hot.now {g : Gh} {σ : L2.St} {H : Hp} {p : PS} (h : Hot X B a oe C dd f d) (R : Rel B g σ H p) (nf : f ≠ "") : ∃ b fs v, dd = some b ∧ H b = some (.xd fs) ∧ fs.lookup f = some v ∧ Rep B.W g.ρ H d v := by
  rcases h.val with ⟨b, fs, v, rfl, ni, e1, e2, r⟩ | ⟨e, _⟩
  · exact ⟨b, fs, v, rfl, R.keep _ _ e1 ni, e2, r.mono (h.frz H R.keep) R.pre⟩
  · exact absurd e nf
/-- its dict, if it has one, stands -/
def DictAt (H : Hp) (dd : Option Addr) : Prop := ∀ b, dd = some b → ∃ fs, H b = some (.xd fs)
theorem Hot.dict {g : Gh} {σ : L2.St} {H : Hp} {p : PS} (h : Hot X B a oe C dd f d) (R : Rel B g σ H p) : DictAt H dd := fun b e => by
  rcases h.val with ⟨b', fs, v, e', ni, e1, _, _⟩ | ⟨_, k⟩
  · rw [e] at e'
    cases e'
    exact ⟨fs, R.keep _ _ e1 ni⟩
  · obtain ⟨ni, fs, e1⟩ := k b e
    exact ⟨fs, R.keep _ _ e1 ni⟩
end
end Mi

/-! ## The mirror: a list of truth values: count -/
namespace Mi
open PySem PySem.Spec PyProof.Rows L2 Lamp SlX Gd
section
variable {X : Cx} {W : Wd}
end
end Mi

/-! ## The mirror: try: x = act() / except (A, B, C) as e: return sort(e) / return [s, x] -/
namespace Mi
open PySem PySem.Spec PyProof.Rows L2 Lamp SlX Gd LamX L2H
theorem _root_.L2H.RoomH.units {k : Nat} {A : Around} (r : RoomH k A) : A.units + 64 < cLine := by have := r.un; omega
section
variable {P : Program} {w : World} {W : Wd} {mg : Str → Option Value} {base : Heap} {k : Nat} {f : Addr} {fd : FuncData}
end
end Mi

/-! ## The mirror: repr of anything; the classes of the exception that is handled -/
namespace Mi
open PySem PySem.Spec PyProof.Rows L2 Lamp SlX Gd LamX L2H
/-- a dict of plain values, as data -/
def pyS : D → Option PyData
  | .non => some .none
  | .bl b => some (.bool b)
  | .int i => some (.int i)
  | .str s => some (.str s)
  | _ => none
def keyPy : Key → PyData
  | .inl i => .int i
  | .inr s => .str s
def keyP : D → Option PyData
  | .int i => some (.int i)
  | .str s => some (.str s)
  | _ => none
def pyKs : List (D × D) → Option (List (PyData × PyData))
  | [] => some []
  | kv :: r => match keyP kv.1, pyS kv.2, pyKs r with
    | some k, some v, some r => some ((k, v) :: r)
    | _, _, _ => none
theorem pyS_reads {W : Wd} {ρ : List Addr} {H : Hp} {h : Heap} {d : D} {v : V} {u : Value} {q : PyData} (r : Rep W ρ H d v) (e : pyS d = some q) (ru : RelV v u) : Reads h u q [] := by
  cases r <;> cases e
  · cases ru
    exact .none
  · cases ru
    exact .bool _
  · obtain ⟨t, rfl⟩ := ru
    exact .int _ _
  · obtain ⟨t, rfl⟩ := ru
    exact .str _ _
theorem pairs_read {W : Wd} {ρ : List Addr} {H : Hp} {h : Heap} : ∀ {kvs : List (D × D)} {kys : List (Key × V)} {vs : List (Key × Value)} {q : List (PyData × PyData)}, RepK W ρ H kvs kys → pyKs kvs = some q → KV kys vs → PyProof.V.PairsRead h keyPy vs q []
  | _, _, _, _, .nil, e, .nil => by
    cases e
    exact .nil
  | kv :: r, _, _, q, .cons (k := k) e h t, e2, .cons (b := b) hb tb => by
    obtain ⟨k2, u⟩ := b
    obtain ⟨rfl, ru⟩ := hb
    unfold pyKs at e2
    split at e2
    · rename_i kk vv rr h1 h2 h3
      cases e2
      have hk : kk = keyPy k := by
        rw [e] at h1
        cases k <;> (cases h1; rfl)
      rw [hk]
      exact .cons (as := []) (bs := []) (pyS_reads h h2 ru) (pairs_read t h3 tb)
    · cases e2
theorem pyKs_all : ∀ {kvs : List (D × D)} {q : List (PyData × PyData)}, pyKs kvs = some q → kvs.all (fun kv => match kv.1 with | .tup _ => false | _ => true) = true
  | [], _, _ => rfl
  | kv :: r, q, e => by
    unfold pyKs at e
    split at e
    · rename_i kk vv rr h1 h2 h3
      rw [List.all_cons, pyKs_all h3, Bool.and_true]
      cases h4 : kv.1 <;> first | rfl | (rw [h4] at h1; cases h1)
    · cases e
def dReprD (kvs : List (D × D)) : Option RV := match pyKs kvs with
  | some q => if (PyData.dict q).showable && decide ((PyData.dict q).depth ≤ 40) && decide ((PyData.dict q).shown.length ≤ sizeLine) then some (.sh (.str (PyData.dict q).shown)) else none
  | none => none
def dReprA : List D → Option RV
  | [.int i] => if i.natAbs.log2 < 1920 then some (.sh (.str (toString i))) else none
  | [.str s] => if (reprText s).length ≤ sizeLine then some (.sh (.str (reprText s))) else none
  | [.non] => some (.sh (.str "None"))
  | [.bl b] => some (.sh (.str (if b then "True" else "False")))
  | [.lst ds] => dRepr [.lst ds]
  | [.tup ds] => dRepr [.tup ds]
  | [.dic kvs] => dReprD kvs
  | _ => none
def rReprA (K : PySem.W.Frag) : List V → Hp → VK → Prop := fun xs H Q => (∃ i, xs = [.int i] ∧ i.natAbs.log2 < 1920 ∧ Q (.str (toString i)) H) ∨ (∃ x, xs = [.str x] ∧ (reprText x).length ≤ sizeLine ∧ Q (.str (reprText x)) H) ∨ (xs = [.non] ∧ Q (.str "None") H) ∨
  (∃ b : Bool, xs = [.bl b] ∧ Q (.str (if b then "True" else "False")) H) ∨ Gd.rRepr K xs H Q ∨
  (∃ (a : Addr) (kys : List (Key × V)) (q : List (PyData × PyData)), xs = [.ref a] ∧ Rd H a (.dK kys) ∧ (∀ h vs, KV kys vs → PyProof.V.PairsRead h keyPy vs q []) ∧ (PyData.dict q).showable = true ∧ (PyData.dict q).depth ≤ 40 ∧ (PyData.dict q).shown.length ≤ sizeLine ∧ Q (.str (PyData.dict q).shown) H)
section
variable {X : Cx} {W : Wd}
theorem call_reprA {k : Nat} (hgd : X.A.guards = some []) (hr : RoomH k X.A) : CallR X (.builtin "repr") (rReprA X.K) := by
  intro pins s σ H xs us Q I r h
  rcases h with ⟨i, rfl, hz, q⟩ | ⟨x, rfl, hz, q⟩ | ⟨rfl, q⟩ | ⟨b, rfl, q⟩ | h | h
  · obtain ⟨u, rfl, t, rfl⟩ := vals1 r
    exact PySem.P.repr_of_int hz ⟨.str _, H, I.tok _, ⟨_, rfl⟩, q⟩
  · obtain ⟨u, rfl, t, rfl⟩ := vals1 r
    exact PySem.P.repr_of_str ⟨.str _, H, I.tok _, ⟨_, rfl⟩, q⟩ hz
  · obtain ⟨u, rfl, rfl⟩ := vals1 r
    exact PySem.P.repr_of_none ⟨.str _, H, I.tok _, ⟨_, rfl⟩, q⟩
  · obtain ⟨u, rfl, rfl⟩ := vals1 r
    exact PySem.P.repr_of_bool ⟨.str _, H, I.tok _, ⟨_, rfl⟩, q⟩
  · obtain ⟨a, d, rfl, hd, hs, hn, hdp, hz, q⟩ := h
    obtain ⟨u, rfl, ru⟩ := vals1 r
    obtain ⟨as, rd⟩ := Dp.reads I d (.ref a) u hd ru
    obtain rfl : u = Value.ref a := ru
    refine repr_of_reads' rd hs (PyData.noDict_hsm hn) hgd ?_ (fun _ _ z => z) ?_ hz
    · have := hr.un
      omega
    · intro h' u tk kp
      exact ⟨.str d.shown, H, I.kept (t' := tk) kp, ⟨_, rfl⟩, q⟩
  · obtain ⟨a, kys, d, rfl, hr2, hp, hs, hdp, hz, q⟩ := h
    obtain ⟨u, rfl, ru⟩ := vals1 r
    obtain rfl : u = Value.ref a := ru
    obtain ⟨_, hsm, vs, kv, dk⟩ := dk_rd I.hok hr2
    have rd : Reads s.heap (.ref a) (.dict d) [a] := PyProof.V.reads_dictOf (enc := keyPy) (fun k key hk => by
      rcases keyIs_shape hk with ⟨i, t, rfl, rfl⟩ | ⟨x, t, rfl, rfl⟩
      · exact .int _ _
      · exact .str _ _) dk (hp _ vs kv)
    refine repr_of_reads' rd hs (fun _ z => ?_) hgd ?_ (fun _ _ z => z) ?_ hz
    · have e := List.mem_singleton.mp z
      rw [e] at hsm
      simp at hsm
    · have := hr.un
      omega
    · intro h' u tk kp
      exact ⟨.str (PyData.dict d).shown, H, I.kept (t' := tk) kp, ⟨_, rfl⟩, q⟩
theorem k_reprA {k : Nat} (hK : X.K = W.K) (hgd : X.A.guards = some []) (hr : RoomH k X.A) : C1 X W (.builtin "repr") dReprA := ⟨_, call_reprA hgd hr, fun ρ H ds vs Q a h => by
    unfold dReprA at h
    split at h
    · obtain ⟨v, rfl, r⟩ := repBs1 a
      rw [r.int]
      split at h
      · exact .inl ⟨_, rfl, by assumption, h.str⟩
      · exact h.elim
    · obtain ⟨v, rfl, r⟩ := repBs1 a
      rw [r.str]
      split at h
      · exact .inr (.inl ⟨_, rfl, by assumption, h.str⟩)
      · exact h.elim
    · obtain ⟨v, rfl, r⟩ := repBs1 a
      rw [r.non]
      exact .inr (.inr (.inl ⟨rfl, h.str⟩))
    · obtain ⟨v, rfl, r⟩ := repBs1 a
      rw [r.bl]
      exact .inr (.inr (.inr (.inl ⟨_, rfl, h.str⟩)))
    · exact .inr (.inr (.inr (.inr (.inl (repr_rd hK a h)))))
    · exact .inr (.inr (.inr (.inr (.inl (repr_rd hK a h)))))
    · obtain ⟨v, rfl, r⟩ := repBs1 a
      unfold dReprD at h
      split at h
      · rename_i kvs q e
        split at h
        · rename_i c
          simp only [Bool.and_eq_true, decide_eq_true_eq] at c
          obtain ⟨⟨c1, c2⟩, c3⟩ := c
          obtain ⟨b, kys, ev, hr2, rk⟩ := r.dicK (pyKs_all e)
          exact .inr (.inr (.inr (.inr (.inr ⟨b, kys, q, by rw [ev], hr2, fun h vs kv => pairs_read rk e kv, c1, c2, c3, h.str⟩))))
        · exact h.elim
      · exact h.elim
    · exact h.elim, fun ds => by
    unfold dReprA
    split <;> first | trivial | (split <;> trivial) | exact repr_np _ | (unfold dReprD; split <;> first | trivial | (split <;> trivial))⟩
end
section
variable {K : PySem.W.Frag} {C D : Addr}
theorem ko_bt {T : String} {b : Bool} (hT : PySem.W.kitMeta T = true) (m : PySem.W.subIn K (.ref C) (.type T) = some b) : PySem.W.kitOne K (.ref C) (.type T) = some b := by
  unfold PySem.W.kitOne
  rw [if_neg (by intro z; cases z)]
  show (if PySem.W.kitMeta T = true then PySem.W.subIn K (.ref C) (.type T) else none) = some b
  rw [if_pos hT]
  exact m
end
end Mi

/-! ## The mirror: text[::-1], text * int -/
namespace Mi
open PySem PySem.Spec PyProof.Rows L2 Lamp SlX Gd
/-! ### text[::-1] -/
section
variable {X : Cx}
end
/-! ### text * int -/
section
variable {X : Cx} {W : Wd} {B : Bd}
end
section
variable {X : Cx} {W : Wd} {B : Bd}
end
end Mi

/-! ## The mirror: list(range(a, b)), list(range(a, b, -1)) -/
namespace Mi
open PySem PySem.Spec PyProof.Rows L2 Lamp SlX Gd
section
variable {X : Cx} {a b : Expr} {ta tb : TE}
end
section
variable {X : Cx} {B : Bd} {a b : Expr} {ma mb : EM}
end
end Mi

/-! ## The mirror: == of lists and tuples whose items have an own __eq__ -/
namespace PySem.SeqAt
open AutoSeq1 (wpAny_loadPart')
open MeetsSeq MeetsSeq2 MeetsSeq3 SeqRoads2
section
variable {prog : Program} {w : World}
end
end PySem.SeqAt

/-! ## The mirror: == and != of lists and tuples whose items have an own __eq__ -/
namespace Mi
open PySem PySem.Spec PyProof.Rows L2 Lamp SlX Gd
mutual
/-- data that are not the same -/
def neD : D → D → Bool
  | .int i, .int j => !(i == j)
  | .tup ds, .tup es => !(ds.length == es.length) || neF ds es
  | _, _ => false
def neF : List D → List D → Bool
  | d :: ds, e :: es => neD d e || neF ds es
  | _, _ => false
end
section
variable {W : Wd} {ρ : List Addr} {H : Hp}
theorem Later.refl (ρ : List Addr) (H : Hp) : Later ρ ρ H H := ⟨List.prefix_refl _, fun n a e le => by
  have := (List.getElem?_eq_some_iff.mp e).1
  omega, fun _ _ h _ => h⟩
end
section
variable {X : Cx} {W : Wd} {pins : List (Addr × Obj)} {σ : L2.St}
/-- the state while items are compared -/
def JJ (X : Cx) (pins : List (Addr × Obj)) (σ : L2.St) (W : Wd) (ρ : List Addr) (H0 : Hp) (st : List D) (s : Shared) : Prop := ∃ ρ' H, Inv X pins σ H s ∧ Later ρ ρ' H0 H ∧ Cells W ρ' H st
variable {c k : Nat} {fa : Addr} {fd : FuncData} {fn : Fn} {x0 x1 : Str}
/-- what two lists, or two tuples that are not flat, are -/
structure Two (X : Cx) (pins : List (Addr × Obj)) (σ : L2.St) (W : Wd) (ρ : List Addr) (H0 : Hp) (st ds es : List D) (xs ys : List V) (IsS : Heap → Addr → Array Value → Prop) (a a' : Addr) : Prop where
  r1 : Reps W ρ H0 ds xs
  r2 : Reps W ρ H0 es ys
  its : ∀ s, JJ X pins σ W ρ H0 st s → ∃ us ws : List Value, Vals xs us ∧ Vals ys ws ∧ ∀ s', JJ X pins σ W ρ H0 st s' → IsS s'.heap a us.toArray ∧ IsS s'.heap a' ws.toArray
end
section
variable {X : Cx} {W : Wd} {c k n : Nat} {fa : Addr} {fd : FuncData} {fn : Fn} {x0 x1 : Str}
end
section
variable {B : Bd} {c n : Nat} {fn : Fn}
end
section
variable {X : Cx} {B : Bd} {c k n : Nat} {fa : Addr} {fd : FuncData} {fn : Fn} {x0 x1 : Str} {a b : Expr} {ma mb : EM} {pos : Pos}
end
end Mi

/-! ## The mirror: bool of an instance whose class has __len__ and no __bool__ -/
namespace Lamp
open PySem PySem.Spec PyProof.Rows L2 SlX
section
variable {prog : Program} {w : World} {A : Around} {E : Value → Shared → Prop} {s : Shared} {K : PySem.W.Frag} {x C f : Addr} {ox : Obj} {od : Option Obj}
end
end Lamp
namespace Mi
open PySem PySem.Spec PyProof.Rows L2 Lamp SlX Gd
section
variable {X : Cx} {W : Wd} {c k : Nat} {fa : Addr} {fd : FuncData} {fn : Fn} {E : XK} {x0 : Str}
end
section
variable {X : Cx} {B : Bd} {c k : Nat} {fn : Fn} {e : Expr} {m : EM} {x : Str} {p pos : Pos} {id T : String}
end
end Mi

/-! ## The mirror: f-strings of texts and ints -/
namespace Mi
open PySem PySem.Spec PyProof.Rows L2 Lamp SlX Gd
section
variable {X : Cx} {B : Bd} {e v1 v2 : Expr} {es : List Expr} {m : EM} {ms : List EM} {pos : Pos}
end
end Mi

/-! ## The mirror: tuple * int -/
namespace Mi
open PySem PySem.Spec PyProof.Rows L2 Lamp SlX Gd
end Mi

/-! ## The mirror: a, b, c = x, y, z (values that are known to all) -/
namespace Mi
open PySem PySem.Spec PyProof.Rows L2 Lamp SlX Gd
section
variable {X : Cx} {B : Bd} {i j l : Nat} {ms : List EM}
end
end Mi

/-! ## The mirror: a tuple of any things == () -/
namespace Mi
open PySem PySem.Spec PyProof.Rows L2 Lamp SlX Gd
section
variable {X : Cx}
end
end Mi

/-! ## The mirror: f(e, k = v, ..) -/
namespace Mi
open PySem PySem.Spec PyProof.Rows L2 Lamp SlX Gd
section
variable {X : Cx} {B : Bd} {k : Nat} {f : Addr} {fd : FuncData} {ps ks : List Str} {fn : Fn} {x : Str} {p pos : Pos} {e : Expr} {m : EM} {ms : List EM} {ix : List Nat} {kws : List Keyword}
end
end Mi

/-! ## The mirror: try: return [s, act()] / except C as e: return [t, e.f] -/
namespace Mi
open PySem PySem.Spec PyProof.Rows L2 Lamp SlX Gd LamX
end Mi

/-! ## The mirror: one of a list's things, the list being one's own still: pick(w, xs) -/
namespace Mi
open PySem PySem.Spec PyProof.Rows L2 Lamp SlX Gd
/-- what is picked: from the well, the items, the changeable things -/
abbrev FnB := D → List D → List D → Option (D × List D)
theorem Cells.same {W : Wd} {ρ : List Addr} {H H' : Hp} {st : List D} (c : Cells W ρ H st) (s : Same H H') : Cells W ρ H' st := ⟨fun n d e => by
  obtain ⟨a, e1, e2⟩ := c.at_ n d e
  exact ⟨a, e1, e2.mono (.of s) (List.prefix_refl _) fun u h => s a _ h⟩, c.len, c.nd⟩
section
variable {P : Program} {w : World} {W : Wd} {mg : Str → Option Value} {base : Heap} {k kd : Nat} {f fdr : Addr} {fd fdd : FuncData} {x0 x1 y0 y1 : Str}
end
section
variable {X : Cx} {B : Bd} {k : Nat} {f : Addr} {fd : FuncData} {x0 x1 x y : Str} {fb : FnB} {mw : EM} {e : Expr} {p p2 pos : Pos}
end
end Mi

/-! ## The mirror: a tuple the other way round -/
namespace HT
open PySem PySem.Spec PyProof.Rows
section
variable {prog : Program} {w : World} {A : Around} {E : Value → Shared → Prop} {s : Shared}
end
end HT
namespace Mi
open PySem PySem.Spec PyProof.Rows L2 Lamp SlX Gd
end Mi

/-! ## The mirror: a list of any things != [] -/
namespace PySem.SeqAt
open AutoSeq1 (wpAny_loadPart')
open MeetsSeq MeetsSeq2 MeetsSeq3 SeqRoads2
section
variable {prog : Program} {w : World}
end
end PySem.SeqAt
namespace Mi
open PySem PySem.Spec PyProof.Rows L2 Lamp SlX Gd
section
variable {X : Cx}
end
end Mi

/-! ## The mirror: a list of any things == [] -/
namespace PySem.SeqAt
open AutoSeq1 (wpAny_loadPart')
open MeetsSeq MeetsSeq2 MeetsSeq3 SeqRoads2
section
variable {prog : Program} {w : World}
end
end PySem.SeqAt
namespace Mi
open PySem PySem.Spec PyProof.Rows L2 Lamp SlX Gd
section
variable {X : Cx}
end
end Mi

/-! ## The mirror: a, b, c = x, y, z, the one in the middle may be fresh -/
namespace Mi
open PySem PySem.Spec PyProof.Rows L2 Lamp SlX Gd
section
variable {X : Cx} {B : Bd} {ma mb mc : EM} {i j l : Nat}
end
end Mi

/-! ## The mirror: a, b, c = x, y, z by a tuple (a name of them is a cell), the one in the middle may be fresh -/
namespace Mi
open PySem PySem.Spec PyProof.Rows L2 Lamp SlX Gd
section
variable {X : Cx} {B : Bd} {ma mb mc : EM} {i j l : Nat}
end
end Mi

/-! ## The mirror: a method whose arguments are known to all; d.get(k, x) with x of any kind -/
namespace Mi
open PySem PySem.Spec PyProof.Rows L2 Lamp SlX Gd
structure PMS (W : Wd) (r : V → List V → Hp → VK → Prop) (pr : D → List D → Option RV) : Prop where
  ok : ∀ ρ H d v ds vs Q, RepB W ρ H d v → Reps W ρ H ds vs → PPost W ρ H Q (pr d ds) → r v vs H Q
  np : ∀ d ds, noPl (pr d ds)
def opMS (pr : D → List D → Option RV) (p : PS) (ro : RV) (rs : List RV) : Option ER := match get p ro, shs rs with
  | some d, some ds => ret p (pr d ds)
  | _, _ => none
def mMethS (T : String) (pr : D → List D → Option RV) (mo : EM) (ms : List EM) : EM := bindE mo fun ro p1 => if isTy T p1 ro then bindA ms (fun rs p => opMS pr p ro rs) p1 else none
section
variable {X : Cx} {B : Bd} {o e : Expr} {es : List Expr} {name : Str} {id T : String} {r : V → List V → Hp → VK → Prop} {pr : D → List D → Option RV} {mo : EM} {ms : List EM} {apos cpos : Pos}
end
section
variable {X : Cx} {W : Wd}
end
section
variable {X : Cx} {B : Bd} {o e : Expr} {es : List Expr} {name : Str} {id T : String} {pr : D → List D → Option RV} {mo : EM} {ms : List EM} {apos cpos : Pos}
end
end Mi

/-! ## The mirror: range over ints of any size -/
namespace L2
open PySem PySem.Spec PyProof.Rows
section
variable {X : Cx} {tg : Expr}
end
end L2
namespace Mi
open PySem PySem.Spec PyProof.Rows L2 Lamp SlX Gd
section
variable {X : Cx} {B : Bd} {tg a b : Expr} {ms : List EM} {p pos : Pos}
end
end Mi

/-! ## The mirror: == of an instance by its own __eq__ with a thing of any kind, on either side -/
namespace Mi
open PySem PySem.Spec PyProof.Rows L2 Lamp SlX Gd
open AutoSeq1 (wpAny_loadPart')
def kinds : List String := ["NoneType", "bool", "int", "str", "tuple", "list", "dict"]
structure OthAt (K : PySem.W.Frag) (C y : Addr) (h : Heap) (oy : Obj) : Prop where
  at_ : h.get? y = some oy
  cl : oy.cls = .ref C
  da : oy.data = (PySem.W.instObj 0 0).data
  no : ∀ T ∈ kinds, PySem.W.mroIn K C (.type T) = some false
section
variable {X : Cx} {W : Wd} {pins : List (Addr × Obj)} {σ : L2.St} {H : Hp} {s : Shared} {ρ : List Addr}
end
end Mi

/-! ## The mirror: == and != of an instance with a thing of any kind; an instance in a list -/
namespace Mi
open PySem PySem.Spec PyProof.Rows L2 Lamp SlX Gd
open AutoSeq1 (wpAny_loadPart')
section
variable {prog : Program} {w : World} {A : Around} {E : Value → Shared → Prop} {s : Shared} {K : PySem.W.Frag} {y C f : Addr} {oy : Obj} {od : Option Obj} {a : Value} {T : String}
end
/-- what a class with slots and an own __eq__ gives -/
structure EqA (W : Wd) (c : Nat) (fa : Addr) : Prop extends EqC W c fa where
  sl : W.slots c = true
  no : ∀ T ∈ kinds, PySem.W.mroIn W.K (W.cC c) (.type T) = some false
section
variable {X : Cx} {W : Wd} {c k : Nat} {fa : Addr} {fd : FuncData} {ps : List Str} {fn : Fn} {E : XK} {x0 x1 : Str} {pins : List (Addr × Obj)} {σ : L2.St} {H : Hp} {s : Shared} {ρ : List Addr}
end
section
variable {X : Cx} {B : Bd} {c k : Nat} {fa : Addr} {fd : FuncData} {fn : Fn} {x0 x1 : Str} {a b : Expr} {ma mb : EM} {pos : Pos}
end
end Mi

/-! ## The mirror: an instance in a list, by its own __eq__ -/
namespace Mi
open PySem PySem.Spec PyProof.Rows L2 Lamp SlX Gd
open AutoSeq1 (wpAny_loadPart')
open MeetsSeq
section
variable {prog : Program} {w : World} {A : Around} {E : Value → Shared → Prop} {s : Shared}
end
end Mi

/-! ## The mirror: an instance in a list, by its own __eq__ (the reading) -/
namespace Mi
open PySem PySem.Spec PyProof.Rows L2 Lamp SlX Gd
section
variable {X : Cx} {W : Wd} {c k : Nat} {fa : Addr} {fd : FuncData} {fn : Fn} {E : XK} {x0 x1 : Str} {pins : List (Addr × Obj)} {σ : L2.St}
end
end Mi

/-! ## The mirror: an instance in a list, by its own __eq__ (the mirror) -/
namespace Mi
open PySem PySem.Spec PyProof.Rows L2 Lamp SlX Gd
section
variable {X : Cx} {B : Bd} {c k : Nat} {fa : Addr} {fd : FuncData} {fn : Fn} {x0 x1 : Str} {a b : Expr} {ma mb : EM} {pos : Pos}
end
end Mi

/-! ## The mirror: [] in a list of lists -/
namespace Mi
open PySem PySem.Spec PyProof.Rows L2 Lamp SlX Gd
/-- which of them are empty -/
inductive Emp (K : PySem.W.Frag) (H : Hp) : List V → List Bool → Prop
  | nil : Emp K H [] []
  | cons {a : Addr} {ws : List V} {zs : List V} {bs : List Bool} (h : SqL K H a ws) (t : Emp K H zs bs) : Emp K H (.ref a :: zs) ((ws.length == 0) :: bs)
end Mi

/-! ## The mirror: list(range(n)), xs[::e] for e 1 or -1 -/
namespace Mi
open PySem PySem.Spec PyProof.Rows L2 Lamp SlX Gd
section
variable {X : Cx} {B : Bd} {a b : Expr} {ma mb : EM}
end
end Mi

/-! ## The mirror: o.m(name = e): a method of an own class, by one keyword -/
namespace Mi
open PySem PySem.Spec PyProof.Rows L2 Lamp SlX Gd
section
variable {X : Cx} {B : Bd} {c k : Nat} {m : Str} {fa : Addr} {fd : FuncData} {ps ks : List Str} {fn : Fn}
end
end Mi

/-! ## The mirror: raise C, C an own exception class without __init__ and without fields -/
namespace Xb
open PySem PySem.Spec PyProof.Rows L2
section
open PySem.W PySem.Calls
variable {prog : Program} {w : World} {A : Around} {E : Value → Shared → Prop} {s : Shared}
end
end Xb
namespace Mi
open PySem PySem.Spec PyProof.Rows L2 Lamp SlX Gd Xb
section
variable {X : Cx} {B : Bd}
end
end Mi

/-! ## The mirror: bool of an instance with its own __bool__; nothing else -/
namespace Mi
open PySem PySem.Spec PyProof.Rows L2 Lamp SlX Gd
end Mi

/-! ## The mirror: a, b = x, y by a tuple (a name of them is a cell), the second may be fresh -/
namespace Mi
open PySem PySem.Spec PyProof.Rows L2 Lamp SlX Gd
section
variable {X : Cx} {B : Bd} {ma mb : EM} {i j : Nat}
end
end Mi

/-! ## The mirror: == and != of two instances of a class without __eq__ -/
namespace Mi
open PySem PySem.Spec PyProof.Rows L2 Lamp SlX Gd
section
variable {prog : Program} {w : World} {A : Around} {E : Value → Shared → Prop} {s : Shared} {K : PySem.W.Frag} {x y C : Addr} {ox oy : Obj} {od od' : Option Obj}
/-- what a class without __eq__ gives -/
structure EqO (K : PySem.W.Frag) (C : Addr) : Prop where
  eq : PySem.W.findIn K (.ref C) "__eq__" = some (some (.builtin "object.__eq__"))
  ne : PySem.W.findIn K (.ref C) "__ne__" = some (some (.builtin "object.__ne__"))
  ob : PySem.W.mroIn K C (.type "object") = some true
end
section
variable {X : Cx} {W : Wd} {B : Bd} {c : Nat} {a b : Expr} {ma mb : EM} {pos : Pos}
end
end Mi

/-! ## The mirror: a list that is changed at its place: x.append(e), for, comprehensions over it -/
namespace Mi
open PySem PySem.Spec PyProof.Rows L2 Lamp SlX Gd
/-- the changeable thing n is still this list -/
noncomputable def chkC (n : Nat) (ds : List D) : PS → Bool := fun p => @decide (p.st[n]? = some (.lst ds)) (Classical.propDecidable _)
inductive SVC where
  | items (ds : List D) (n : Nat) (p : PS) | exc (x : Ex) (st : List D)
abbrev IC := PS → Option SVC
/-- over a changeable list -/
def srcC (m : EM) : IC := fun p => match m p with
  | some (.val (.sh (.cel n)) p') => match p'.st[n]? with
    | some (.lst ds) => some (.items ds n p')
    | _ => none
  | some (.exc x st) => some (.exc x st)
  | _ => none
noncomputable def sForC (m : IC) (gm : GM) (b : SM) : SM := fun p => match m p with
  | some (.items ds n p') => forL gm b (chkC n ds) ds p'
  | some (.exc x st) => some (.exc x st)
  | none => none
section
variable {X : Cx} {B : Bd} {tg iter : Expr} {body : List Stmt} {m : IC} {gm : GM} {mb : SM} {ts : List Nat} {pos : Pos}
end
noncomputable def lcLC (chk : PS → Bool) (gm : GM) (mt me : EM) (vs : List Nat) : List D → List D → PS → Option (List D × PS)
  | [], acc, p => if chk p = true then some (acc, p) else none
  | d :: ds, acc, p => if chk p = true then (match lcTurn gm mt me vs d p with
    | none => none
    | some (none, p') => lcLC chk gm mt me vs ds acc p'
    | some (some y, p') => if acc.length < sizeLine then lcLC chk gm mt me vs ds (acc ++ [y]) p' else none) else none
noncomputable def mLcC (m : IC) (gm : GM) (mt me : EM) (vs : List Nat) : EM := fun p => match m p with
  | none => none
  | some (.exc x st) => some (.exc x st)
  | some (.items ds n p1) => if ownOk p1.env vs then match lcLC (chkC n ds) gm mt me vs ds [] { p1 with env := wipeE p1.env vs } with
      | some (acc, p2) => if p2.env.length ≤ p1.env.length then some (.val (.fr (.lst acc)) { p2 with env := restE p1.env p2.env vs }) else none
      | none => none
    else none
section
variable {X : Cx} {B : Bd} {elt tg iter : Expr} {ifs : List Expr} {scope : Scope} {own : List (Str × Nat)} {pos : Pos} {m : IC} {gm : GM} {mt me : EM} {ts : List Nat}
end
/-- x.append(e) and the like, x a changeable list -/
def mMutC (T : String) (pr : D → List D → Option (D × D)) (i : Nat) (ms : List EM) : EM := fun p => match p.env[i]? with
  | some (.sh (.cel n)) => (match p.st[n]? with
    | some d0 => if tyName d0 == T && T != "" then bindA ms (fun rs p1 => match shs rs, p1.st[n]? with
        | some ds, some (.lst d) => (match pr (.lst d) ds with
          | some (d', rv) => some (.val (.sh rv) { p1 with st := p1.st.set n d' })
          | none => none)
        | _, _ => none) p else none
    | none => none)
  | _ => none
section
variable {X : Cx} {B : Bd} {e : Expr} {es : List Expr} {x name : Str} {id T : String} {pr : D → List D → Option (D × D)} {ms : List EM} {p apos cpos : Pos}
end
end Mi

/-! ## The mirror: TABLE.get(e, n), TABLE a dict of texts and whole numbers that the text's top builds -/
namespace Mi
open PySem PySem.Spec PyProof.Rows L2 Lamp SlX Gd
def HasK (K : PySem.W.Frag) (a : Addr) (tbl : List (Str × Option Int)) : Prop := ∀ x r, tbl.lookup x = some r → match r with
    | some i => ∃ t, PySem.W.nsIn K a x = some (some (.int i t))
    | none => PySem.W.nsIn K a x = some none
/-- a dict of the text, and what it holds at some texts -/
structure DicK (K : PySem.W.Frag) (pm : Params) (a : Addr) (tbl : List (Str × Option Int)) : Prop where
  at_ : ∃ es n, K.lookup a = some ⟨.type "dict", none, .dict es n, #[]⟩ ∧ PySem.W.KeysLit pm es.toList
  has : HasK K a tbl
  lo : (a == sysModules) = false
section
variable {X : Cx} {B : Bd} {e : Expr} {nm : Str} {p apos cpos : Pos} {m : EM} {a : Addr} {tbl : List (Str × Option Int)} {i0 : Int} {j : Nat} {zpos : Pos}
end
end Mi

/-! ## The mirror: x.replace("a" + e, "b"), x a name, a and b texts that stand there -/
namespace Mi
open PySem PySem.Spec PyProof.Rows L2 Lamp SlX Gd
section
variable {X : Cx} {B : Bd} {e : Expr} {i : Nat} {nm : Str} {p1 q1 q2 apos pos bpos : Pos} {my : EM} {a b : Str} {j1 j2 : Nat}
end
end Mi

/-! ## The mirror: list(x), x a text -/
namespace Mi
open PySem PySem.Spec PyProof.Rows L2 Lamp SlX Gd
end Mi

/-! ## Own exception classes: their objects as values, made by place and by name -/
namespace Xb
open PySem PySem.Spec PyProof.Rows L2
section
variable {X : Cx} {e : Expr} {es : List Expr} {ta : TA} {p pos : Pos}
/-- C(x): a new exception with its one field, told to all -/
def tMkV (C : Addr) (f : Str) (ta : TA) : TE := fun σ H Q => ta σ H fun vs H1 => ∃ y, vs = [y] ∧ ∀ a dx o o', H1 a = none → H1 dx = none → dx ≠ a → Q (.ref a) (upd (upd H1 dx (.frz o' (exd dx [(f, y)]))) a (.frz o (exo a C (some dx))))
theorem mkv_end {pins : List (Addr × Obj)} {σ : L2.St} {H1 : Hp} {s' : Shared} {a C d : Addr} {f : Str} {y : V} (hn : H1 a = none) (nd : H1 d = none) (ne : d ≠ a) (J : Inv X pins σ (upd (upd (upd H1 a (exo a C none)) d (exd d [(f, y)])) a (exo a C (some d))) s') :
    ∃ o o', Inv X pins σ (upd (upd H1 d (.frz o' (exd d [(f, y)]))) a (.frz o (exo a C (some d)))) s' := by
  obtain ⟨o', J1⟩ := J.lock (d := d) (u := exd d [(f, y)]) (by rw [upd_ne ne, upd_same]) trivial
  obtain ⟨o, J2⟩ := J1.lock (d := a) (u := exo a C (some d)) (by rw [upd_ne (Ne.symm ne), upd_same]) trivial
  refine ⟨o, o', ?_⟩
  have e : upd (upd (upd (upd (upd H1 a (exo a C none)) d (exd d [(f, y)])) a (exo a C (some d))) d (.frz o' (exd d [(f, y)]))) a (.frz o (exo a C (some d))) = upd (upd H1 d (.frz o' (exd d [(f, y)]))) a (.frz o (exo a C (some d))) := by
    funext z
    by_cases h1 : z = a
    · subst h1
      rw [upd_same, upd_same]
    · rw [upd_ne h1, upd_ne h1]
      by_cases h2 : z = d
      · subst h2
        rw [upd_same, upd_same]
      · rw [upd_ne h2, upd_ne h2, upd_ne h1, upd_ne h2, upd_ne h1]
  rw [e] at J2
  exact J2
theorem pe_excV {x f y : Str} {C fI : Addr} {fd : FuncData} (T : OexB X.K C) (iC : PySem.W.findIn X.K (.ref C) "__init__" = some (some (.ref fI))) (tI : PySem.W.typeIn X.K (.ref fI) = some (.type "function"))
    (F1 : FnOk X.prog X.w X.K X.mg X.base CX0 2 fI fd ["self", y] (Mi.xSp C f)) (hr : Room 3 X.A) (hb : Binds X.K fd ["self", y] []) (hg : Gl X x) (hm : X.mg x = some (.ref C)) (ha : PA X (e :: es) ta)
    (hdb : (x == ("__debug__" : Str)) = false := by decide) (he : starEach (e :: es) X.env = (false, eval e X.env) :: starEach es X.env := by rfl) (hpl : (backTo pos (starEach es X.env)).any (·.1) = false := by rfl) :
    PE X (.Call (.Name x p) (e :: es) [] pos) (tMkV C f ta) := by
  refine ⟨fun pins s σ H Q I h => ?_⟩
  obtain ⟨BN, newId, initId, tl, nm, q, N, bs, cs, sn, sub, ab, col, dd, k0, k1, k2, k3, k5, BB, hC⟩ := T.cls
  refine wpAny_Call_Name_kw (ld_glob I hg hm ?_ hdb)
  refine PySem.W.callWith_K (h₀ := X.base) I.ok.mod.kin T.kC (thn (ha.run pos pins s σ H _ I h) fun us s1 ⟨vs, H1, I1, r1, z1, ez, q1⟩ => ⟨I1.kIn, ?_⟩) he hpl
  subst ez
  show wpAny _ _ (call (.ref C) us) _ _ _
  obtain ⟨hp, g, dr, tk, os⟩ := s1
  have hsz : hp.objs.size ≤ hp.objs.size + 1 := Nat.le_succ _
  have hn : H1 (hp.objs.size + 1) = none := I1.hok.fresh hsz
  have hq : Mi.xSp C f [.ref (hp.objs.size + 1), z1] (upd H1 (hp.objs.size + 1) (exo (hp.objs.size + 1) C none)) (fun v H2 => v = .non ∧ ∃ d, d ≠ hp.objs.size + 1 ∧ H1 d = none ∧ H2 = upd (upd (upd H1 (hp.objs.size + 1) (exo (hp.objs.size + 1) C none)) d (exd d [(f, z1)])) (hp.objs.size + 1) (exo (hp.objs.size + 1) C (some d))) (fun _ _ _ => False) :=
    ⟨_, z1, rfl, upd_same, fun dx n ne => ⟨rfl, dx, ne, by rw [upd_ne ne] at n; exact n, rfl⟩⟩
  have kk : ∀ b o, hp.get? b = some o → ((hp.push (PySem.W.kdv_tup us)).push (PySem.HandSPX.excO C hp.objs.size)).get? b = some o := fun b o e => Heap.get?_push_of_some _ (Heap.get?_push_of_some _ e)
  have hget : ((hp.push (PySem.W.kdv_tup us)).push (PySem.HandSPX.excO C hp.objs.size)).get? (hp.objs.size + 1) = some (PySem.HandSPX.excO C hp.objs.size) := by heap_get
  have I2 : Inv X pins σ (upd H1 (hp.objs.size + 1) (exo (hp.objs.size + 1) C none)) ⟨(hp.push (PySem.W.kdv_tup us)).push (PySem.HandSPX.excO C hp.objs.size), g, dr, tk, os⟩ :=
    I1.laid (t' := tk) (a := hp.objs.size + 1) (o := exo (hp.objs.size + 1) C none) (h' := (hp.push (PySem.W.kdv_tup us)).push (PySem.HandSPX.excO C hp.objs.size)) kk hsz (exo_ok hget)
  have r2 : Vals (V.ref (hp.objs.size + 1) :: [z1]) (Value.ref (hp.objs.size + 1) :: us) := .cons rfl r1
  have hl : (Value.ref (hp.objs.size + 1) :: us).length = (["self", y] : List Str).length := by rw [← r2.length]; rfl
  have hus : us.length ≤ sizeLine := by
    rw [← Paired.length r1, sizeLine_eq]
    show 1 ≤ _
    decide
  have hbb := hb _ (Value.ref (hp.objs.size + 1) :: us) I2.kIn (by rw [List.append_nil]; exact hl)
  rw [List.append_nil] at hbb
  refine wpAny_call (PySem.HandSPX.call_own BB.F (fun Y => refs_contains cs tl Y) (I1.kIn _ _ hC) (PySem.W.looks_findIn I1.kIn iC) (fun self => PySem.W.bind_fn I1.kIn self tI) hus
    (codeAny_mono (F1.run _ X.stack _ _ ⟨Value.ref (hp.objs.size + 1) :: us, []⟩ (Value.ref (hp.objs.size + 1) :: us) _ _ (fun _ _ _ => False) (hr.make C us []) (I2.env0.make C us []) hbb r2 hq) fun r s' hq' => ?_))
  cases r with
  | error er => exact False.elim hq'
  | ok fl =>
    cases fl with
    | ret u =>
      obtain ⟨v, H2, os2, bare2, un2, hok2, rv, ev, d, ne, nd, rfl⟩ := hq'
      subst ev
      have J := I2.call' (ch := []) os2 un2 hok2 bare2 (fun b z => absurd z (by simp))
      obtain ⟨o, o', J3⟩ := mkv_end hn nd ne J
      exact ⟨rv, .ref (hp.objs.size + 1), _, J3, rfl, q1 _ d o o' hn nd ne⟩
    | next => exact False.elim hq'
    | brk => exact False.elim hq'
    | cont => exact False.elim hq'
/-- C(), an own exception class without own __init__ -/
theorem pe_exc0 {C : Addr} {bmB : List Value} {B newId initId : String} {x : Str} (F : ExcBaseFacts B newId initId bmB) (q : PySem.W.excIn X.K C bmB newId = true) (gC : X.mg x = some (.ref C)) (kC : PySem.W.keepIn X.K (.ref C) = true) (hg : Gl X x)
    (hdb : (x == ("__debug__" : Str)) = false := by decide) : PE X (.Call (.Name x p) [] [] pos) (fun _ H Q => ∀ a o, H a = none → Q (.ref a) (upd H a (.frz o (exo a C none)))) := by
  refine ⟨fun pins s σ H Q I h => ?_⟩
  refine wpAny_Call_Name_kw (ld_glob I hg gC ?_ hdb)
  refine PySem.W.callWith_K0 I.kIn kC ?_
  show wpAny _ _ (call (.ref C) []) _ _ _
  obtain ⟨bm, N, nm, qn, bs, hdct, sn, sub, ab, col, dd, k0, k1, k2, k3, k5, mN, hC, hN, hni, T⟩ := exc_obj I.kIn q
  refine wpAny_call_exc_subT F T hC hN hni (fun h' a hm => ?_) (Nat.zero_le _)
  have hn : H a = none := I.hok.gone hm.new
  obtain ⟨t, ht, _, _⟩ := hm.there
  have J := I.laidN (o := exo a C none) (t' := s.toks) hm.keeps hm.new hn (exo_ok ht)
  obtain ⟨o, J2⟩ := J.lock (d := a) (u := exo a C none) upd_same trivial
  have e : upd (upd H a (exo a C none)) a (.frz o (exo a C none)) = upd H a (.frz o (exo a C none)) := by
    funext z
    by_cases h1 : z = a
    · subst h1
      rw [upd_same, upd_same]
    · rw [upd_ne h1, upd_ne h1, upd_ne h1]
  rw [e] at J2
  exact ⟨.ref a, _, J2, rfl, h a o hn⟩
end
end Xb

/-! ## The mirror: exceptions as values: C(x), C(), isinstance, fields -/
namespace Mi
open PySem PySem.Spec PyProof.Rows L2 Lamp SlX Gd Xb
def mNewX (c : Nat) (f : Str) (m : EM) : EM := bindE (fz m) fun r p => match r with
  | .sh d => some (.val (.sh (.exo c f d)) p)
  | _ => none
def mNew0 (c : Nat) : EM := fun p => some (.val (.sh (.ex0 c)) p)
section
variable {X : Cx} {B : Bd} {e : Expr} {m : EM}
theorem new_exo {W : Wd} {ρ : List Addr} {H : Hp} {c : Nat} {f : Str} {d : D} {v : V} {a dx : Addr} {o o' : Obj} (na : H a = none) (nd : H dx = none) (ne : dx ≠ a) (r : Rep W ρ H d v) : Same H (upd (upd H dx (.frz o' (exd dx [(f, v)]))) a (.frz o (exo a (W.eC c) (some dx)))) ∧ Rep W ρ (upd (upd H dx (.frz o' (exd dx [(f, v)]))) a (.frz o (exo a (W.eC c) (some dx)))) (.exo c f d) (.ref a) := by
  have s : Same H (upd (upd H dx (.frz o' (exd dx [(f, v)]))) a (.frz o (exo a (W.eC c) (some dx)))) := (Same.new nd).trans (Same.new (by rw [upd_ne (Ne.symm ne)]; exact na))
  exact ⟨s, .exo upd_same (by rw [upd_ne ne, upd_same]) (r.mono (Frz.of s) (List.prefix_refl _))⟩
theorem sim_newX {x y f : Str} {fI : Addr} {fd : FuncData} {p pos : Pos} (c : Nat) (hK : X.K = B.W.K) (T : OexB B.W.K (B.W.eC c)) (iC : PySem.W.findIn B.W.K (.ref (B.W.eC c)) "__init__" = some (some (.ref fI))) (tI : PySem.W.typeIn B.W.K (.ref fI) = some (.type "function"))
    (F1 : FnOk X.prog X.w B.W.K X.mg X.base CX0 2 fI fd ["self", y] (xSp (B.W.eC c) f)) (hr : Room 3 X.A) (hb : Binds B.W.K fd ["self", y] []) (hg : Gl X x) (hm : X.mg x = some (.ref (B.W.eC c))) (he : PE X e (rdE B m))
    (hdb : (x == ("__debug__" : Str)) = false := by decide) (hs : starEach [e] X.env = (false, eval e X.env) :: starEach [] X.env := by rfl) : PE X (.Call (.Name x p) [e] [] pos) (rdE B (mNewX c f m)) := by
  rw [← hK] at T iC tI F1 hb
  refine (pe_excV (pos := pos) T iC tI F1 hr hb hg hm (pa_cons (sim_fz he) pa_nil hs) hdb hs rfl).imp fun σ H Q h => bind_rd h fun g p r v H1 R a k => ?_
  cases r with
  | pl i => exact k.elim
  | fr d => exact k.elim
  | sh d =>
    have pp := PPost.of' (r := some (.sh (.exo c f d))) R trivial k
    refine ⟨v, rfl, fun b dx o o' nb nd ne => ?_⟩
    have a' : Rep B.W g.ρ H1 d v := a
    obtain ⟨s, rr⟩ := new_exo (W := B.W) (c := c) (f := f) (o := o) (o' := o') nb nd ne a'
    exact pp _ _ s rr
theorem sim_newX0 {x : Str} {bmB : List Value} {BN newId initId : String} {p pos : Pos} (c : Nat) (hK : X.K = B.W.K) (F : ExcBaseFacts BN newId initId bmB) (q : PySem.W.excIn B.W.K (B.W.eC c) bmB newId = true) (gC : X.mg x = some (.ref (B.W.eC c))) (kC : PySem.W.keepIn B.W.K (.ref (B.W.eC c)) = true) (hg : Gl X x)
    (hdb : (x == ("__debug__" : Str)) = false := by decide) : PE X (.Call (.Name x p) [] [] pos) (rdE B (mNew0 c)) := by
  rw [← hK] at q kC
  refine (pe_exc0 F q gC kC hg hdb).imp fun σ H Q h => ?_
  obtain ⟨g, p, R, k⟩ := h
  have pp := PPost.of' (r := some (.sh (.ex0 c))) R trivial k
  exact fun a o n => pp _ _ (Same.new n) (.ex0 upd_same)
end
/-! ### isinstance -/
def exC : D → Option Nat
  | .exo c _ _ => some c
  | .ex0 c => some c
  | _ => none
def isiX (tbl : List Bool) (d : D) : Option RV := match exC d with
  | some c => match tbl[c]? with
    | some b => some (.sh (.bl b))
    | none => none
  | none => none
theorem isiX_np {tbl : List Bool} (d : D) : noPl (isiX tbl d) := by
  unfold isiX
  split
  · split <;> trivial
  · trivial
section
variable {X : Cx} {W : Wd}
theorem exo_inst {pins : List (Addr × Obj)} {σ : L2.St} {H : Hp} {s : Shared} {ρ : List Addr} {d : D} {x : V} {c : Nat} (I : Inv X pins σ H s) (rb : RepB W ρ H d x) (e : exC d = some c) : ∃ ad ox od, x = .ref ad ∧ PySem.W.InstAt s.heap ad ox (W.eC c) od := by
  rcases rb with r | ⟨a, rfl, r⟩
  · cases r with
    | exo h h' r =>
      cases e
      rename_i a dx o o' f y v
      have hx : ObjOk X.prog X.w H s.heap a (.frz o (L2.exo a (W.eC c) (some dx))) := I.hok a _ h
      obtain ⟨_, ⟨t1, he⟩, _⟩ := hx
      have hy : ObjOk X.prog X.w H s.heap dx (.frz o' (L2.exd dx [(f, v)])) := I.hok dx _ h'
      obtain ⟨_, ⟨mA, hns, _⟩, _⟩ := hy
      obtain ⟨od, ho, _⟩ := lookIn_ns hns
      exact ⟨a, _, some od, rfl, he, rfl, rfl, ho⟩
    | ex0 h =>
      cases e
      rename_i a o
      have hx : ObjOk X.prog X.w H s.heap a (.frz o (L2.exo a (W.eC c) none)) := I.hok a _ h
      obtain ⟨_, ⟨t1, he⟩, _⟩ := hx
      exact ⟨a, _, none, rfl, he, rfl, rfl, trivial⟩
    | _ => cases e
  · cases r <;> cases e
/-- what the classes of exceptions answer, asked for the class cv -/
def rowM (K : PySem.W.Frag) (v : Value) (cs : List Addr) : List (Option Bool) := cs.map fun C => PySem.W.mroIn K C v
def rowS (K : PySem.W.Frag) (v : Value) (cs : List Addr) : List (Option Bool) := cs.map fun C => PySem.W.subIn K (.ref C) v
theorem row_at {f : Addr → Option Bool} {cs : List Addr} {tbl : List Bool} (h : cs.map f = tbl.map some) {k : Nat} {C : Addr} {b : Bool} (e : cs[k]? = some C) (e2 : tbl[k]? = some b) : f C = some b := by
  have := congrArg (fun l => l[k]?) h
  simp only [List.getElem?_map, e, e2, Option.map_some] at this
  exact Option.some.inj this
def XTbl (W : Wd) (cv : Value) (tbl : List Bool) : Prop := ∀ c b, tbl[c]? = some b → XiC W.K (W.eC c) ∧ PySem.W.kitOne W.K (.ref (W.eC c)) cv = some b
theorem xtbl_of {W : Wd} {cv : Value} {tbl : List Bool} {cs : List Addr} (hx : ∀ c, c < cs.length → XiC W.K (W.eC c) ∧ cs[c]? = some (W.eC c)) (hl : tbl.length = cs.length) (hk : ∀ (k : Nat) (C : Addr) (b : Bool), cs[k]? = some C → tbl[k]? = some b → PySem.W.kitOne W.K (.ref C) cv = some b) : XTbl W cv tbl := fun c b e => by
  have h : c < tbl.length := (List.getElem?_eq_some_iff.mp e).1
  obtain ⟨a, e2⟩ := hx c (by omega)
  exact ⟨a, hk c _ b e2 e⟩
theorem call_isX {c : V} {cv : Value} {tbl : List Bool} (hK : X.K = W.K) (T : XTbl W cv tbl) (hcv : ∀ u, RelV c u → u = cv) : CallR X (.builtin "isinstance") (fun xs H Q => ∃ x, xs = [x, c] ∧ rIsiD W c (isiX tbl) x H Q) := by
  intro pins s σ H xs us Q I r h
  obtain ⟨x, rfl, ρ, d, rb, q⟩ := h
  obtain ⟨u1, u2, rfl, r1, r2⟩ := vals2 r
  have e2 := hcv _ r2
  subst e2
  unfold isiX at q
  cases e : exC d with
  | none => rw [e] at q; exact q.elim
  | some k =>
    rw [e] at q
    simp only at q
    cases e3 : tbl[k]? with
    | none => rw [e3] at q; exact q.elim
    | some b =>
      rw [e3] at q
      obtain ⟨T1, T2⟩ := T k b e3
      obtain ⟨ad, ox, od, rfl, J⟩ := exo_inst I rb e
      cases (show u1 = Value.ref ad from r1)
      rw [← hK] at T1 T2
      exact PySem.W.kia_one (PySem.W.kitx_exc T1.cl T1.ga T1.gt T1.ex T1.ca T1.sp T1.tk T1.ob) I.kIn J T2 (fun z => nomatch z) fun tk => ⟨.bl b, H, I.tok tk, rfl, q.bl⟩
end
section
variable {X : Cx} {B : Bd} {e e2 : Expr} {ma : EM} {pos p2 : Pos}
theorem sim_isiX {c : V} {cv : Value} {tbl : List Bool} (hK : X.K = B.W.K) (T : XTbl B.W cv tbl) (hcv : ∀ u, RelV c u → u = cv) (hi : X.mg "isinstance" = none) (hgi : Gl X "isinstance") (ha : PE X e (rdE B ma)) (hb : PE X e2 (tC c))
    (s1 : starEach [e, e2] X.env = (false, eval e X.env) :: starEach [e2] X.env := by rfl) (s2 : starEach [e2] X.env = (false, eval e2 X.env) :: starEach [] X.env := by rfl) (hpl : (backTo pos (starEach [e2] X.env)).any (·.1) = false := by rfl) :
    PE X (.Call (.Name "isinstance" p2) [e, e2] [] pos) (rdE B (mUn (isiX tbl) ma)) :=
  (pe_callB (call_isX hK T hcv) hgi hi rfl (pa_cons ha (pa_cons hb pa_nil s2) s1) (by decide) (by decide) s1 hpl).imp fun σ H Q h => isi_rd isiX_np rfl h
end
/-! ### a field -/
def fldX (l : List Nat) (f : Str) : D → Option RV
  | .exo c g x => if g = f ∧ c ∈ l then some (.sh x) else none
  | _ => none
def rFldX (W : Wd) (l : List Nat) (f : Str) : V → Hp → VK → Prop := fun x H Q => ∃ ρ c d, RepB W ρ H (.exo c f d) x ∧ c ∈ l ∧ ∀ v, Rep W ρ H d v → Q v H
theorem p_fldX {W : Wd} {l : List Nat} {f : Str} : P1 W (rFldX W l f) (fldX l f) := by
  refine ⟨fun ρ H d v Q r h => ?_, fun d => ?_⟩
  · cases d with
    | exo c g x =>
      have h : PPost W ρ H Q (if g = f ∧ c ∈ l then some (.sh x) else none) := h
      by_cases e : g = f ∧ c ∈ l
      · have h' : PPost W ρ H Q (some (.sh x)) := by
          rw [if_pos e] at h
          exact h
        obtain ⟨rfl, hc⟩ := e
        exact ⟨ρ, c, x, r, hc, fun v z => h' v H (fun _ _ y => y) z⟩
      · rw [if_neg e] at h
        exact h.elim
    | _ => exact h.elim
  · cases d with
    | exo c g x =>
      show noPl (if g = f ∧ c ∈ l then some (.sh x) else none)
      split <;> trivial
    | _ => trivial
section
variable {X : Cx} {B : Bd} {W : Wd}
theorem att_fldX {l : List Nat} {f : Str} (hK : X.K = W.K) (T : ∀ c, c ∈ l → XfF W.K (W.eC c) f) : AttR X f (rFldX W l f) := by
  intro pins σ H st x u Q I rx h
  obtain ⟨ρ, c, d, hr, hc, q⟩ := h
  rcases hr with r | ⟨a, _, r⟩
  · cases r with
    | exo h h' r =>
      rename_i a dx o o' v
      cases (show u = Value.ref a from rx)
      have hx : ObjOk X.prog X.w H st.heap a (.frz o (L2.exo a (W.eC c) (some dx))) := I.hok a _ h
      obtain ⟨_, ⟨t1, he⟩, _⟩ := hx
      have hy : ObjOk X.prog X.w H st.heap dx (.frz o' (L2.exd dx [(f, v)])) := I.hok dx _ h'
      obtain ⟨_, ⟨mA, hns, rel⟩, _⟩ := hy
      obtain ⟨od, ho, hl⟩ := lookIn_ns hns
      obtain ⟨u, hu, ru⟩ := RelO.some_of (v := v) (o := mA f) (by
        have := rel f
        rw [lookup_put, if_pos rfl] at this
        exact this)
      have J : PySem.W.InstAt st.heap a _ (W.eC c) (some od) := ⟨he, rfl, rfl, ho⟩
      have t := T c hc
      rw [← hK] at t
      exact HandSPX.exc_get I.kIn J t.xf.ga t.xf.gg t.xf.exC (PySem.W.findObj_own t.xf.hdC t.no rfl (by rw [hl, hu])) (handed_of ru) ⟨v, H, I.tok _, ru, q v r⟩
  · cases r
theorem sim_fldX {l : List Nat} {f : Str} {e : Expr} {pos : Pos} {ma : EM} (hK : X.K = B.W.K) (T : ∀ c, c ∈ l → XfF B.W.K (B.W.eC c) f) (ha : PE X e (rdE B ma)) (hb : attributeBase e f X.env (eval e X.env) = eval e X.env := by rfl) : PE X (.Attribute e f pos) (rdE B (mUn (fldX l f) ma)) :=
  (pe_att (att_fldX hK T) ha hb).imp fun _ _ _ h => mUn_rd p_fldX h
end
/-! ### a tuple of whole numbers that the text's top holds -/
section
variable {X : Cx} {B : Bd}
theorem kup_of {K : PySem.W.Frag} {a : Addr} {xs : List V} (h : ∀ H : Hp, SqT K H a xs) : ∃ (o : Obj) (its : Array Value) (n : Nat), K.lookup a = some o ∧ o.cls = .type "tuple" ∧ o.data = .seq its n ∧ its.size ≤ sizeLine ∧ Vals xs its.toList := by
  rcases h (fun _ => none) with (h | ⟨o, h⟩) | h
  · cases h
  · cases h
  · exact h
theorem sim_kup {nm : Str} {a : Addr} {ns : List Int} {p : Pos} (h : PE X (.Name nm p) (tC (.ref a))) (hk : ∃ (o : Obj) (its : Array Value) (n : Nat), B.W.K.lookup a = some o ∧ o.cls = .type "tuple" ∧ o.data = .seq its n ∧ its.size ≤ sizeLine ∧ Vals (ns.map V.int) its.toList) : PE X (.Name nm p) (rdE B (eC (.kup ns))) :=
  h.imp fun σ H Q q => by
    obtain ⟨g, p1, R, k⟩ := q
    exact k (.ref a) H g.ρ R (List.prefix_refl _) (Frz.refl _) (.kup hk)
end
end Mi

/-! ## Own exception classes made by name: C(f = x) -/
namespace PySem
namespace XkB
open Builtin Builtin.ObjectAttr
section
variable {M : Model} {A : Around} {E : Value → Shared → Prop} {h : Heap} {g : Array GenState} {d : Drawn} {t : Nat} {os : OsState}
variable {nm q y : Str} {u : Value} {C N : Addr} {bs bm bmB : List Value} {hdct : Bool} {sn : List Str} {sub : List Value} {ab : Bool} {col : Option Bool} {dd : Option Addr} {k0 k1 k2 k3 k5 : Option Value} {B newId initId : String}
theorem check_new_kw (F : ExcBaseFacts B newId initId bmB) (hT : ∀ X : String, bm.contains (.type X) = bmB.contains (.type X)) {Q : Unit → Shared → Prop}
    (hC : h.get? C = some (excClassObj nm q C N bs bm hdct sn sub ab col dd k0 k1 k2 k3 k5 newId)) (hq : Q () ⟨h, g, d, t, os⟩) : wpAny M A (checkBuiltinCall newId ⟨[.ref C], [(y, u)]⟩) Q E ⟨h, g, d, t, os⟩ := by
  have hcont : (Value.ref C :: bm).contains (.type B) = true := by rw [List.contains_cons, hT, F.hasB, Bool.or_true]
  have hstar := F.noStar
  simp only [checkBuiltinCall, F.newKind, F.newSplit, F.newRow]
  repeat (first | refine wpAny_loadPart_at hC ?_ | (refine wpAny_isSubtype_exc hC ?_; rw [hcont]) | refine wpAny_staticBase_exc hC ?_ | refine wpAny_madeBy_exc hC ?_ | simp only [bne_self_eq_false, Bool.false_eq_true, if_false] | wp_step)
  exact hq
end
section
open HandSPX
variable {prog : Program} {w : World} {A : Around} {E : Value → Shared → Prop} {R : Result → Shared → Prop} {h : Heap} {g : Array GenState} {d : Drawn} {t : Nat} {os : OsState}
variable {nm q y : Str} {u : Value} {C N : Addr} {bs bm bmB : List Value} {hdct : Bool} {sn : List Str} {sub : List Value} {ab : Bool} {col : Option Bool} {dd : Option Addr} {k0 k1 k2 k3 k5 : Option Value} {B newId initId : String}
theorem new_kw (F : ExcBaseFacts B newId initId bmB) (hT : ∀ X : String, bm.contains (.type X) = bmB.contains (.type X))
    (hC : h.get? C = some (excClassObj nm q C N bs bm hdct sn sub ab col dd k0 k1 k2 k3 k5 newId))
    (hq : R (.ok (.ret (.ref (h.objs.size + 1)))) ⟨(h.push (W.kdv_tup [])).push (excO C h.objs.size), g, d, t, os⟩) :
    codeAny (model prog w) A (.builtin newId ⟨[.ref C], [(y, u)]⟩) R ⟨h, g, d, t, os⟩ := by
  have hends := F.ends
  have hcB : (Value.ref C :: bm).contains (.type B) = true := by rw [List.contains_cons, hT, F.hasB, Bool.or_true]
  have hcA : (Value.ref C :: bm).contains (.type "AttributeError") = false := by rw [List.contains_cons, hT, F.noAttr]; rfl
  have hcN : (Value.ref C :: bm).contains (.type "NameError") = false := by rw [List.contains_cons, hT, F.noName]; rfl
  refine codeAny_builtinAt F.entry ?_
  unfold Builtin.«BaseException.__new__»
  refine wpAt_bind ?_
  show wpAt _ _ _ (stack >>= _) _ _ _
  refine wpAt_bind (wpAt_stack fun p below => wpAt_of_wpAny ?_)
  wp_walk
  refine wpAt_of_wpAny ?_
  rw [F.owner]
  repeat (first | with_reducible refine wpAny_madeHere_exc F.canon hC ?_ | with_reducible refine wpAny_loadPart_at hC ?_ | (with_reducible refine wpAny_isSubtype_exc hC ?_; first | rw [hcB] | rw [hcA] | rw [hcN]) | wp_step)
  show R _ _
  rw [Heap.size_push]
  exact hq
theorem type_call_kw (F : ExcBaseFacts B newId initId bmB) (hT : ∀ X : String, bm.contains (.type X) = bmB.contains (.type X)) {fI : Addr} {Q : Fin → Shared → Prop}
    (hC : h.get? C = some (excClassObj nm q C N bs bm hdct sn sub ab col dd k0 k1 k2 k3 k5 newId))
    (hi : W.Looks (model prog w) h (typeLookup (.ref C) "__init__") (some (.ref fI))) (hb : ∀ self, W.Looks (model prog w) h (bindSpecial (.ref fI) self) (.ref fI, [self]))
    (hq : codeAny (model prog w) A (.call (.ref fI) ⟨[.ref (h.objs.size + 1)], [(y, u)]⟩)
      (fun r s' => match r with | .ok (.ret v) => v = .none ∧ Q (.done (.ret (.ref (h.objs.size + 1)))) s' | .ok _ => False | .error e => E e s')
      ⟨(h.push (W.kdv_tup [])).push (excO C h.objs.size), g, d, t, os⟩) :
    wpAny (model prog w) A (Builtin.«type.__call__» ⟨[.ref C], [(y, u)]⟩) Q E ⟨h, g, d, t, os⟩ := by
  repeat (first | with_reducible refine wpAny_loadPart_at hC ?_ | with_reducible refine wpAny_madeBy_exc hC ?_ | wp_step)
  refine codeAny_call_builtin_code (Code.quiet_builtin _ F.quiet) (check_new_kw F hT hC ?_)
  refine new_kw F hT hC ?_
  show wpAny _ _ _ _ _ _
  have k : ∀ b o, h.get? b = some o → ((h.push (W.kdv_tup [])).push (excO C h.objs.size)).get? b = some o := fun b o e => Heap.get?_push_of_some _ (Heap.get?_push_of_some _ e)
  have hC₁ := k _ _ hC
  have hget : ((h.push (W.kdv_tup [])).push (excO C h.objs.size)).get? (h.objs.size + 1) = some (excO C h.objs.size) := by heap_get
  have hcC : (Value.ref C :: bm).contains (.ref C) = true := by simp
  have i1 := hi.keeps k
  have b1 := (hb (.ref (h.objs.size + 1))).keeps k
  unfold isInstance
  repeat (first | with_reducible refine wpAny_loadPart_at hget ?_ | (with_reducible refine wpAny_isSubtype_exc hC₁ ?_; rw [hcC]) | wp_step)
  show wpAny _ _ (typeLookup (.ref C) _) _ _ _
  refine i1.at ?_
  refine wpAny_holding (wpAny_bind (b1.at ?_))
  refine wpAny_bind (wpAny_call (codeAny_mono hq fun r s' z => ?_))
  rcases r with e | (v | _ | _ | _) <;> first | exact z | exact z.elim | skip
  obtain ⟨rfl, z⟩ := z
  first
    | exact wpAny_pure (wpAny_pure z)
    | (wp_walk; exact z)
theorem call_kw (F : ExcBaseFacts B newId initId bmB) (hT : ∀ X : String, bm.contains (.type X) = bmB.contains (.type X)) {fI : Addr}
    (hC : h.get? C = some (excClassObj nm q C N bs bm hdct sn sub ab col dd k0 k1 k2 k3 k5 newId))
    (hi : W.Looks (model prog w) h (typeLookup (.ref C) "__init__") (some (.ref fI))) (hb : ∀ self, W.Looks (model prog w) h (bindSpecial (.ref fI) self) (.ref fI, [self]))
    (hq : codeAny (model prog w) (A.under (.builtin "type.__call__" ⟨[.ref C], [(y, u)]⟩)) (.call (.ref fI) ⟨[.ref (h.objs.size + 1)], [(y, u)]⟩) (W.InitBack (h.objs.size + 1) R)
      ⟨(h.push (W.kdv_tup [])).push (excO C h.objs.size), g, d, t, os⟩) :
    codeAny (model prog w) A (.call (.ref C) ⟨[], [(y, u)]⟩) R ⟨h, g, d, t, os⟩ := by
  have f1 := tc_lookup
  have f2 := tc_bind (.ref C)
  have hTy : (⟨h, g, d, t, os⟩ : Shared).TypeIs (.ref C) "type" := ⟨_, hC, rfl⟩
  refine codeAny_of_tree ?_
  show wpAny _ _ (callAny (.ref C) _) _ _ _
  repeat (any_goals (first | assumption | with_reducible refine wpAny_loadPart_at hC ?_ | wp_step))
  refine ⟨rfl, ?_⟩
  refine codeAny_call_builtin_at (Code.quiet_builtin _ (by decide +kernel)) entry_typeCall (wpAny_check_type_call_sub hC (type_call_kw F hT hC hi hb ?_))
  refine codeAny_mono hq fun r s' z => ?_
  rcases r with e | (v | _ | _ | _) <;> exact z
end
end XkB
end PySem
namespace Xb
open PySem PySem.Spec PyProof.Rows L2
section
variable {X : Cx} {e : Expr} {kpos : Pos} {p pos : Pos} {ta : TA}
/-- C(f = x) -/
theorem pe_excVK {x f y : Str} {C fI : Addr} {fd : FuncData} (T : OexB X.K C) (iC : PySem.W.findIn X.K (.ref C) "__init__" = some (some (.ref fI))) (tI : PySem.W.typeIn X.K (.ref fI) = some (.type "function"))
    (F1 : FnOk X.prog X.w X.K X.mg X.base CX0 2 fI fd ["self", y] (Mi.xSp C f)) (hr : Room 3 X.A) (hb : Mi.KB X.K fd ["self", y] 1 [y] [0]) (hg : Gl X x) (hm : X.mg x = some (.ref C)) (he : PK X [⟨some y, e, kpos⟩] ta)
    (hdb : (x == ("__debug__" : Str)) = false := by decide) (hall : (backToKw pos (keywordEach [⟨some y, e, kpos⟩] X.env)).all (·.1.isSome) = true := by rfl) (hks : (backToKw pos (keywordEach [⟨some y, e, kpos⟩] X.env)).filterMap (·.1) = [y] := by rfl)
    (hpl : ((backTo pos (starEach [] X.env)).any (·.1) || (backToKw pos (keywordEach [⟨some y, e, kpos⟩] X.env)).any (·.1.isNone)) = false := by rfl) :
    PE X (.Call (.Name x p) [] [⟨some y, e, kpos⟩] pos) (tMkV C f ta) := by
  refine ⟨fun pins s σ H Q I h => ?_⟩
  obtain ⟨BN, newId, initId, tl, nm, q, N, bs, cs, sn, sub, ab, col, dd, k0, k1, k2, k3, k5, BB, hC⟩ := T.cls
  refine wpAny_Call_Name_kw (ld_glob I hg hm ?_ hdb)
  refine PySem.W.callWith_KW0 (h₀ := X.base) I.ok.mod.kin T.kC hall ?_ hpl
  refine thn (he.run pos pins s σ H _ I h) fun ws s1 ⟨vs, H1, I1, r1, z1, ez, q1⟩ => ⟨I1.kIn, ?_⟩
  subst ez
  rw [hks]
  obtain ⟨u, rfl, ru⟩ := vals1 r1
  · skip
    obtain ⟨hp, g, dr, tk, os⟩ := s1
    have hsz : hp.objs.size ≤ hp.objs.size + 1 := Nat.le_succ _
    have hn : H1 (hp.objs.size + 1) = none := I1.hok.fresh hsz
    have hq : Mi.xSp C f [.ref (hp.objs.size + 1), z1] (upd H1 (hp.objs.size + 1) (exo (hp.objs.size + 1) C none)) (fun v H2 => v = .non ∧ ∃ d, d ≠ hp.objs.size + 1 ∧ H1 d = none ∧ H2 = upd (upd (upd H1 (hp.objs.size + 1) (exo (hp.objs.size + 1) C none)) d (exd d [(f, z1)])) (hp.objs.size + 1) (exo (hp.objs.size + 1) C (some d))) (fun _ _ _ => False) :=
      ⟨_, z1, rfl, upd_same, fun dx n ne => ⟨rfl, dx, ne, by rw [upd_ne ne] at n; exact n, rfl⟩⟩
    have kk : ∀ b o, hp.get? b = some o → ((hp.push (PySem.W.kdv_tup [])).push (PySem.HandSPX.excO C hp.objs.size)).get? b = some o := fun b o e => Heap.get?_push_of_some _ (Heap.get?_push_of_some _ e)
    have hget : ((hp.push (PySem.W.kdv_tup [])).push (PySem.HandSPX.excO C hp.objs.size)).get? (hp.objs.size + 1) = some (PySem.HandSPX.excO C hp.objs.size) := by heap_get
    have I2 : Inv X pins σ (upd H1 (hp.objs.size + 1) (exo (hp.objs.size + 1) C none)) ⟨(hp.push (PySem.W.kdv_tup [])).push (PySem.HandSPX.excO C hp.objs.size), g, dr, tk, os⟩ :=
      I1.laid (t' := tk) (a := hp.objs.size + 1) (o := exo (hp.objs.size + 1) C none) (h' := (hp.push (PySem.W.kdv_tup [])).push (PySem.HandSPX.excO C hp.objs.size)) kk hsz (exo_ok hget)
    have r2 : Vals (V.ref (hp.objs.size + 1) :: [z1]) (Value.ref (hp.objs.size + 1) :: [u]) := .cons rfl r1
    have hbb := hb.to ⟨(hp.push (PySem.W.kdv_tup [])).push (PySem.HandSPX.excO C hp.objs.size), g, dr, tk, os⟩ [Value.ref (hp.objs.size + 1)] [u] I2.kIn rfl rfl
    refine wpAny_call (PySem.XkB.call_kw BB.F (fun Y => refs_contains cs tl Y) (I1.kIn _ _ hC) (PySem.W.looks_findIn I1.kIn iC) (fun self => PySem.W.bind_fn I1.kIn self tI)
      (codeAny_mono (F1.run _ X.stack _ _ ⟨[Value.ref (hp.objs.size + 1)], [(y, u)]⟩ (Value.ref (hp.objs.size + 1) :: [u]) _ _ (fun _ _ _ => False) (hr.make C [] [(y, u)]) (I2.env0.make C [] [(y, u)]) hbb r2 hq) fun r s' hq' => ?_))
    cases r with
    | error er => exact False.elim hq'
    | ok fl =>
      cases fl with
      | ret u =>
        obtain ⟨v, H2, os2, bare2, un2, hok2, rv, ev, d, ne, nd, rfl⟩ := hq'
        subst ev
        have J := I2.call' (ch := []) os2 un2 hok2 bare2 (fun b z => absurd z (by simp))
        obtain ⟨o, o', J3⟩ := mkv_end hn nd ne J
        exact ⟨rv, .ref (hp.objs.size + 1), _, J3, rfl, q1 _ d o o' hn nd ne⟩
      | next => exact False.elim hq'
      | brk => exact False.elim hq'
      | cont => exact False.elim hq'
end
end Xb
namespace Mi
open PySem PySem.Spec PyProof.Rows L2 Lamp SlX Gd Xb
section
variable {X : Cx} {B : Bd} {e : Expr} {m : EM}
theorem sim_newXK {x y f : Str} {fI : Addr} {fd : FuncData} {p pos kpos : Pos} (c : Nat) (hK : X.K = B.W.K) (T : OexB B.W.K (B.W.eC c)) (iC : PySem.W.findIn B.W.K (.ref (B.W.eC c)) "__init__" = some (some (.ref fI))) (tI : PySem.W.typeIn B.W.K (.ref fI) = some (.type "function"))
    (F1 : FnOk X.prog X.w B.W.K X.mg X.base CX0 2 fI fd ["self", y] (xSp (B.W.eC c) f)) (hr : Room 3 X.A) (hb : KB B.W.K fd ["self", y] 1 [y] [0]) (hg : Gl X x) (hm : X.mg x = some (.ref (B.W.eC c))) (he : PE X e (rdE B m))
    (hdb : (x == ("__debug__" : Str)) = false := by decide) (hall : (backToKw pos (keywordEach [⟨some y, e, kpos⟩] X.env)).all (·.1.isSome) = true := by rfl) (hks : (backToKw pos (keywordEach [⟨some y, e, kpos⟩] X.env)).filterMap (·.1) = [y] := by rfl)
    (hpl : ((backTo pos (starEach [] X.env)).any (·.1) || (backToKw pos (keywordEach [⟨some y, e, kpos⟩] X.env)).any (·.1.isNone)) = false := by rfl) : PE X (.Call (.Name x p) [] [⟨some y, e, kpos⟩] pos) (rdE B (mNewX c f m)) := by
  rw [← hK] at T iC tI F1 hb
  refine (pe_excVK (pos := pos) T iC tI F1 hr hb hg hm (pk_cons (sim_fz he) pk_nil) hdb hall hks hpl).imp fun σ H Q h => bind_rd h fun g p r v H1 R a k => ?_
  cases r with
  | pl i => exact k.elim
  | fr d => exact k.elim
  | sh d =>
    have pp := PPost.of' (r := some (.sh (.exo c f d))) R trivial k
    refine ⟨v, rfl, fun b dx o o' nb nd ne => ?_⟩
    have a' : Rep B.W g.ρ H1 d v := a
    obtain ⟨s, rr⟩ := new_exo (W := B.W) (c := c) (f := f) (o := o) (o' := o') nb nd ne a'
    exact pp _ _ s rr
end
end Mi


namespace Mi
open PySem PySem.Spec PyProof.Rows L2 Lamp SlX Gd
def topS (i : Nat) : Stmt := PySem.Challenge.pw_lamprounds_k01_limits_and_errors.main.body.getD i (.Pass ⟨0, 0, 0, 0⟩)
abbrev s_InvalidText_init : Stmt := (inClass (topS 2) 0)
abbrev s_InvalidName_init : Stmt := (inClass (topS 3) 0)
abbrev s_InvalidIndex_init : Stmt := (inClass (topS 4) 0)
abbrev s_InvalidLevels_init : Stmt := (inClass (topS 5) 0)
abbrev s_InvalidNumber_init : Stmt := (inClass (topS 6) 0)
abbrev s_InvalidWish_init : Stmt := (inClass (topS 7) 0)
abbrev s_NotRound_init : Stmt := (inClass (topS 8) 0)
abbrev s_NotLot_init : Stmt := (inClass (topS 9) 0)
abbrev s_InvalidLamps_init : Stmt := (inClass (topS 10) 0)
abbrev s_InvalidRounds_init : Stmt := (inClass (topS 11) 0)
abbrev s_InvalidSteps_init : Stmt := (inClass (topS 12) 0)
abbrev s_InvalidPlan_init : Stmt := (inClass (topS 13) 0)
abbrev s_InvalidChanges_init : Stmt := (inClass (topS 14) 0)
abbrev s_InvalidWishes_init : Stmt := (inClass (topS 15) 0)
abbrev s_UnknownName_init : Stmt := (inClass (topS 17) 0)
abbrev s_InUse_init : Stmt := (inClass (topS 18) 0)
abbrev s_OtherLevels_init : Stmt := (inClass (topS 20) 0)
abbrev s_TooMany_init : Stmt := (inClass (topS 21) 0)
abbrev s_TooFar_init : Stmt := (inClass (topS 22) 0)
abbrev s_Broken_init : Stmt := (inClass (topS 24) 0)
abbrev s_law_begun : Stmt := (topS 35)
abbrev s_law_cast : Stmt := (topS 36)
abbrev s_law_any_of : Stmt := (topS 37)
abbrev s_law_thing : Stmt := (topS 38)
abbrev s_law_placed : Stmt := (topS 39)
abbrev s_law_named : Stmt := (topS 40)
abbrev s_law_flags : Stmt := (topS 41)
abbrev s_law_bases : Stmt := (topS 42)
abbrev s_law_held : Stmt := (topS 43)
abbrev s_law_some_right : Stmt := (topS 44)
abbrev s_law_right : Stmt := (topS 45)
abbrev s_law : Stmt := (topS 46)
theorem sc_InvalidText_init : FnScope ["self", "given"] ["self", "given"] (defScope s_InvalidText_init) := ⟨rfl, rfl, rfl, by decide +kernel, rfl, by decide +kernel, by decide +kernel⟩
theorem sc_InvalidName_init : FnScope ["self", "given"] ["self", "given"] (defScope s_InvalidName_init) := ⟨rfl, rfl, rfl, by decide +kernel, rfl, by decide +kernel, by decide +kernel⟩
theorem sc_InvalidIndex_init : FnScope ["self", "given"] ["self", "given"] (defScope s_InvalidIndex_init) := ⟨rfl, rfl, rfl, by decide +kernel, rfl, by decide +kernel, by decide +kernel⟩
theorem sc_InvalidLevels_init : FnScope ["self", "given"] ["self", "given"] (defScope s_InvalidLevels_init) := ⟨rfl, rfl, rfl, by decide +kernel, rfl, by decide +kernel, by decide +kernel⟩
theorem sc_InvalidNumber_init : FnScope ["self", "given"] ["self", "given"] (defScope s_InvalidNumber_init) := ⟨rfl, rfl, rfl, by decide +kernel, rfl, by decide +kernel, by decide +kernel⟩
theorem sc_InvalidWish_init : FnScope ["self", "given"] ["self", "given"] (defScope s_InvalidWish_init) := ⟨rfl, rfl, rfl, by decide +kernel, rfl, by decide +kernel, by decide +kernel⟩
theorem sc_NotRound_init : FnScope ["self", "given"] ["self", "given"] (defScope s_NotRound_init) := ⟨rfl, rfl, rfl, by decide +kernel, rfl, by decide +kernel, by decide +kernel⟩
theorem sc_NotLot_init : FnScope ["self", "given"] ["self", "given"] (defScope s_NotLot_init) := ⟨rfl, rfl, rfl, by decide +kernel, rfl, by decide +kernel, by decide +kernel⟩
theorem sc_InvalidLamps_init : FnScope ["self", "index"] ["self", "index"] (defScope s_InvalidLamps_init) := ⟨rfl, rfl, rfl, by decide +kernel, rfl, by decide +kernel, by decide +kernel⟩
theorem sc_InvalidRounds_init : FnScope ["self", "index"] ["self", "index"] (defScope s_InvalidRounds_init) := ⟨rfl, rfl, rfl, by decide +kernel, rfl, by decide +kernel, by decide +kernel⟩
theorem sc_InvalidSteps_init : FnScope ["self", "index"] ["self", "index"] (defScope s_InvalidSteps_init) := ⟨rfl, rfl, rfl, by decide +kernel, rfl, by decide +kernel, by decide +kernel⟩
theorem sc_InvalidPlan_init : FnScope ["self", "index"] ["self", "index"] (defScope s_InvalidPlan_init) := ⟨rfl, rfl, rfl, by decide +kernel, rfl, by decide +kernel, by decide +kernel⟩
theorem sc_InvalidChanges_init : FnScope ["self", "index"] ["self", "index"] (defScope s_InvalidChanges_init) := ⟨rfl, rfl, rfl, by decide +kernel, rfl, by decide +kernel, by decide +kernel⟩
theorem sc_InvalidWishes_init : FnScope ["self", "index"] ["self", "index"] (defScope s_InvalidWishes_init) := ⟨rfl, rfl, rfl, by decide +kernel, rfl, by decide +kernel, by decide +kernel⟩
theorem sc_UnknownName_init : FnScope ["self", "given"] ["self", "given"] (defScope s_UnknownName_init) := ⟨rfl, rfl, rfl, by decide +kernel, rfl, by decide +kernel, by decide +kernel⟩
theorem sc_InUse_init : FnScope ["self", "index"] ["self", "index"] (defScope s_InUse_init) := ⟨rfl, rfl, rfl, by decide +kernel, rfl, by decide +kernel, by decide +kernel⟩
theorem sc_OtherLevels_init : FnScope ["self", "given"] ["self", "given"] (defScope s_OtherLevels_init) := ⟨rfl, rfl, rfl, by decide +kernel, rfl, by decide +kernel, by decide +kernel⟩
theorem sc_TooMany_init : FnScope ["self", "given"] ["self", "given"] (defScope s_TooMany_init) := ⟨rfl, rfl, rfl, by decide +kernel, rfl, by decide +kernel, by decide +kernel⟩
theorem sc_TooFar_init : FnScope ["self", "given"] ["self", "given"] (defScope s_TooFar_init) := ⟨rfl, rfl, rfl, by decide +kernel, rfl, by decide +kernel, by decide +kernel⟩
theorem sc_Broken_init : FnScope ["self", "index"] ["self", "index"] (defScope s_Broken_init) := ⟨rfl, rfl, rfl, by decide +kernel, rfl, by decide +kernel, by decide +kernel⟩
theorem sc_law_begun : FnScope ["_law_script", "_law_turn", "_law_own", "_law_state", "_law_cell"] ["_law_script", "_law_turn"] (defScope s_law_begun) := ⟨rfl, rfl, rfl, by decide +kernel, rfl, by decide +kernel, by decide +kernel⟩
theorem sc_law_cast : FnScope ["_law_pail", "_law_many", "_law_figure", "_law_state"] ["_law_pail", "_law_many"] (defScope s_law_cast) := ⟨rfl, rfl, rfl, by decide +kernel, rfl, by decide +kernel, by decide +kernel⟩
theorem sc_law_any_of : FnScope ["_law_pail", "_law_some"] ["_law_pail", "_law_some"] (defScope s_law_any_of) := ⟨rfl, rfl, rfl, by decide +kernel, rfl, by decide +kernel, by decide +kernel⟩
theorem sc_law_thing : FnScope ["_law_pail", "_law_menu"] ["_law_pail"] (defScope s_law_thing) := ⟨rfl, rfl, rfl, by decide +kernel, rfl, by decide +kernel, by decide +kernel⟩
theorem sc_law_placed : FnScope ["_law_thing_here", "_law_found"] ["_law_thing_here"] (defScope s_law_placed) := ⟨rfl, rfl, rfl, by decide +kernel, rfl, by decide +kernel, by decide +kernel⟩
theorem sc_law_named : FnScope ["_law_thing_here", "_law_found"] ["_law_thing_here"] (defScope s_law_named) := ⟨rfl, rfl, rfl, by decide +kernel, rfl, by decide +kernel, by decide +kernel⟩
theorem sc_law_flags : FnScope ["_law_e", "_law_found"] ["_law_e"] (defScope s_law_flags) := ⟨rfl, rfl, rfl, by decide +kernel, rfl, by decide +kernel, by decide +kernel⟩
theorem sc_law_bases : FnScope ["_law_e", "_law_found"] ["_law_e"] (defScope s_law_bases) := ⟨rfl, rfl, rfl, by decide +kernel, rfl, by decide +kernel, by decide +kernel⟩
theorem sc_law_held : FnScope ["_law_e", "_law_at"] ["_law_e", "_law_at"] (defScope s_law_held) := ⟨rfl, rfl, rfl, by decide +kernel, rfl, by decide +kernel, by decide +kernel⟩
theorem sc_law_some_right : FnScope ["_law_some", "_law_thing_here", "_law_at", "_law_base", "_law_k"] ["_law_some", "_law_thing_here"] (defScope s_law_some_right) := ⟨rfl, rfl, rfl, by decide +kernel, rfl, by decide +kernel, by decide +kernel⟩
theorem sc_law_right : FnScope ["_law_pail", "_law_turn", "_law_thing_here", "_law_told", "_law_e"] ["_law_pail"] (defScope s_law_right) := ⟨rfl, rfl, rfl, by decide +kernel, rfl, by decide +kernel, by decide +kernel⟩
theorem sc_law : FnScope ["_law_script", "_law_some", "_law_turn"] ["_law_script"] (defScope s_law) := ⟨rfl, rfl, rfl, by decide +kernel, rfl, by decide +kernel, by decide +kernel⟩
structure Tx (K : PySem.W.Frag) (mg : Str → Option Value) where
  C_InvalidText : Addr
  g_InvalidText : mg "InvalidText" = some (.ref C_InvalidText)
  ox_InvalidText : Xb.OexB K C_InvalidText
  xf_InvalidText : Mi.XfF K C_InvalidText "given"
  xm_InvalidText : PySem.W.exmOne K (.ref C_InvalidText) (.ref C_InvalidText) = some true
  a_InvalidText_init : Addr
  d_InvalidText_init : FuncData
  F_InvalidText_init : Fun K "__init__" "InvalidText.__init__" s_InvalidText_init a_InvalidText_init d_InvalidText_init
  b_InvalidText_init : Binds K d_InvalidText_init ["self", "given"] []
  fi_InvalidText : PySem.W.findIn K (.ref C_InvalidText) "__init__" = some (some (.ref a_InvalidText_init))
  ti_InvalidText : PySem.W.typeIn K (.ref a_InvalidText_init) = some (.type "function")
  C_InvalidName : Addr
  g_InvalidName : mg "InvalidName" = some (.ref C_InvalidName)
  ox_InvalidName : Xb.OexB K C_InvalidName
  xf_InvalidName : Mi.XfF K C_InvalidName "given"
  xm_InvalidName : PySem.W.exmOne K (.ref C_InvalidName) (.ref C_InvalidName) = some true
  a_InvalidName_init : Addr
  d_InvalidName_init : FuncData
  F_InvalidName_init : Fun K "__init__" "InvalidName.__init__" s_InvalidName_init a_InvalidName_init d_InvalidName_init
  b_InvalidName_init : Binds K d_InvalidName_init ["self", "given"] []
  fi_InvalidName : PySem.W.findIn K (.ref C_InvalidName) "__init__" = some (some (.ref a_InvalidName_init))
  ti_InvalidName : PySem.W.typeIn K (.ref a_InvalidName_init) = some (.type "function")
  C_InvalidIndex : Addr
  g_InvalidIndex : mg "InvalidIndex" = some (.ref C_InvalidIndex)
  ox_InvalidIndex : Xb.OexB K C_InvalidIndex
  xf_InvalidIndex : Mi.XfF K C_InvalidIndex "given"
  xm_InvalidIndex : PySem.W.exmOne K (.ref C_InvalidIndex) (.ref C_InvalidIndex) = some true
  a_InvalidIndex_init : Addr
  d_InvalidIndex_init : FuncData
  F_InvalidIndex_init : Fun K "__init__" "InvalidIndex.__init__" s_InvalidIndex_init a_InvalidIndex_init d_InvalidIndex_init
  b_InvalidIndex_init : Binds K d_InvalidIndex_init ["self", "given"] []
  fi_InvalidIndex : PySem.W.findIn K (.ref C_InvalidIndex) "__init__" = some (some (.ref a_InvalidIndex_init))
  ti_InvalidIndex : PySem.W.typeIn K (.ref a_InvalidIndex_init) = some (.type "function")
  C_InvalidLevels : Addr
  g_InvalidLevels : mg "InvalidLevels" = some (.ref C_InvalidLevels)
  ox_InvalidLevels : Xb.OexB K C_InvalidLevels
  xf_InvalidLevels : Mi.XfF K C_InvalidLevels "given"
  xm_InvalidLevels : PySem.W.exmOne K (.ref C_InvalidLevels) (.ref C_InvalidLevels) = some true
  a_InvalidLevels_init : Addr
  d_InvalidLevels_init : FuncData
  F_InvalidLevels_init : Fun K "__init__" "InvalidLevels.__init__" s_InvalidLevels_init a_InvalidLevels_init d_InvalidLevels_init
  b_InvalidLevels_init : Binds K d_InvalidLevels_init ["self", "given"] []
  fi_InvalidLevels : PySem.W.findIn K (.ref C_InvalidLevels) "__init__" = some (some (.ref a_InvalidLevels_init))
  ti_InvalidLevels : PySem.W.typeIn K (.ref a_InvalidLevels_init) = some (.type "function")
  C_InvalidNumber : Addr
  g_InvalidNumber : mg "InvalidNumber" = some (.ref C_InvalidNumber)
  ox_InvalidNumber : Xb.OexB K C_InvalidNumber
  xf_InvalidNumber : Mi.XfF K C_InvalidNumber "given"
  xm_InvalidNumber : PySem.W.exmOne K (.ref C_InvalidNumber) (.ref C_InvalidNumber) = some true
  a_InvalidNumber_init : Addr
  d_InvalidNumber_init : FuncData
  F_InvalidNumber_init : Fun K "__init__" "InvalidNumber.__init__" s_InvalidNumber_init a_InvalidNumber_init d_InvalidNumber_init
  b_InvalidNumber_init : Binds K d_InvalidNumber_init ["self", "given"] []
  fi_InvalidNumber : PySem.W.findIn K (.ref C_InvalidNumber) "__init__" = some (some (.ref a_InvalidNumber_init))
  ti_InvalidNumber : PySem.W.typeIn K (.ref a_InvalidNumber_init) = some (.type "function")
  C_InvalidWish : Addr
  g_InvalidWish : mg "InvalidWish" = some (.ref C_InvalidWish)
  ox_InvalidWish : Xb.OexB K C_InvalidWish
  xf_InvalidWish : Mi.XfF K C_InvalidWish "given"
  xm_InvalidWish : PySem.W.exmOne K (.ref C_InvalidWish) (.ref C_InvalidWish) = some true
  a_InvalidWish_init : Addr
  d_InvalidWish_init : FuncData
  F_InvalidWish_init : Fun K "__init__" "InvalidWish.__init__" s_InvalidWish_init a_InvalidWish_init d_InvalidWish_init
  b_InvalidWish_init : Binds K d_InvalidWish_init ["self", "given"] []
  fi_InvalidWish : PySem.W.findIn K (.ref C_InvalidWish) "__init__" = some (some (.ref a_InvalidWish_init))
  ti_InvalidWish : PySem.W.typeIn K (.ref a_InvalidWish_init) = some (.type "function")
  C_NotRound : Addr
  g_NotRound : mg "NotRound" = some (.ref C_NotRound)
  ox_NotRound : Xb.OexB K C_NotRound
  xf_NotRound : Mi.XfF K C_NotRound "given"
  xm_NotRound : PySem.W.exmOne K (.ref C_NotRound) (.ref C_NotRound) = some true
  a_NotRound_init : Addr
  d_NotRound_init : FuncData
  F_NotRound_init : Fun K "__init__" "NotRound.__init__" s_NotRound_init a_NotRound_init d_NotRound_init
  b_NotRound_init : Binds K d_NotRound_init ["self", "given"] []
  fi_NotRound : PySem.W.findIn K (.ref C_NotRound) "__init__" = some (some (.ref a_NotRound_init))
  ti_NotRound : PySem.W.typeIn K (.ref a_NotRound_init) = some (.type "function")
  C_NotLot : Addr
  g_NotLot : mg "NotLot" = some (.ref C_NotLot)
  ox_NotLot : Xb.OexB K C_NotLot
  xf_NotLot : Mi.XfF K C_NotLot "given"
  xm_NotLot : PySem.W.exmOne K (.ref C_NotLot) (.ref C_NotLot) = some true
  a_NotLot_init : Addr
  d_NotLot_init : FuncData
  F_NotLot_init : Fun K "__init__" "NotLot.__init__" s_NotLot_init a_NotLot_init d_NotLot_init
  b_NotLot_init : Binds K d_NotLot_init ["self", "given"] []
  fi_NotLot : PySem.W.findIn K (.ref C_NotLot) "__init__" = some (some (.ref a_NotLot_init))
  ti_NotLot : PySem.W.typeIn K (.ref a_NotLot_init) = some (.type "function")
  C_InvalidLamps : Addr
  g_InvalidLamps : mg "InvalidLamps" = some (.ref C_InvalidLamps)
  ox_InvalidLamps : Xb.OexB K C_InvalidLamps
  xf_InvalidLamps : Mi.XfF K C_InvalidLamps "index"
  xm_InvalidLamps : PySem.W.exmOne K (.ref C_InvalidLamps) (.ref C_InvalidLamps) = some true
  a_InvalidLamps_init : Addr
  d_InvalidLamps_init : FuncData
  F_InvalidLamps_init : Fun K "__init__" "InvalidLamps.__init__" s_InvalidLamps_init a_InvalidLamps_init d_InvalidLamps_init
  b_InvalidLamps_init : Binds K d_InvalidLamps_init ["self", "index"] []
  fi_InvalidLamps : PySem.W.findIn K (.ref C_InvalidLamps) "__init__" = some (some (.ref a_InvalidLamps_init))
  ti_InvalidLamps : PySem.W.typeIn K (.ref a_InvalidLamps_init) = some (.type "function")
  C_InvalidRounds : Addr
  g_InvalidRounds : mg "InvalidRounds" = some (.ref C_InvalidRounds)
  ox_InvalidRounds : Xb.OexB K C_InvalidRounds
  xf_InvalidRounds : Mi.XfF K C_InvalidRounds "index"
  xm_InvalidRounds : PySem.W.exmOne K (.ref C_InvalidRounds) (.ref C_InvalidRounds) = some true
  a_InvalidRounds_init : Addr
  d_InvalidRounds_init : FuncData
  F_InvalidRounds_init : Fun K "__init__" "InvalidRounds.__init__" s_InvalidRounds_init a_InvalidRounds_init d_InvalidRounds_init
  b_InvalidRounds_init : Binds K d_InvalidRounds_init ["self", "index"] []
  fi_InvalidRounds : PySem.W.findIn K (.ref C_InvalidRounds) "__init__" = some (some (.ref a_InvalidRounds_init))
  ti_InvalidRounds : PySem.W.typeIn K (.ref a_InvalidRounds_init) = some (.type "function")
  C_InvalidSteps : Addr
  g_InvalidSteps : mg "InvalidSteps" = some (.ref C_InvalidSteps)
  ox_InvalidSteps : Xb.OexB K C_InvalidSteps
  xf_InvalidSteps : Mi.XfF K C_InvalidSteps "index"
  xm_InvalidSteps : PySem.W.exmOne K (.ref C_InvalidSteps) (.ref C_InvalidSteps) = some true
  a_InvalidSteps_init : Addr
  d_InvalidSteps_init : FuncData
  F_InvalidSteps_init : Fun K "__init__" "InvalidSteps.__init__" s_InvalidSteps_init a_InvalidSteps_init d_InvalidSteps_init
  b_InvalidSteps_init : Binds K d_InvalidSteps_init ["self", "index"] []
  fi_InvalidSteps : PySem.W.findIn K (.ref C_InvalidSteps) "__init__" = some (some (.ref a_InvalidSteps_init))
  ti_InvalidSteps : PySem.W.typeIn K (.ref a_InvalidSteps_init) = some (.type "function")
  C_InvalidPlan : Addr
  g_InvalidPlan : mg "InvalidPlan" = some (.ref C_InvalidPlan)
  ox_InvalidPlan : Xb.OexB K C_InvalidPlan
  xf_InvalidPlan : Mi.XfF K C_InvalidPlan "index"
  xm_InvalidPlan : PySem.W.exmOne K (.ref C_InvalidPlan) (.ref C_InvalidPlan) = some true
  a_InvalidPlan_init : Addr
  d_InvalidPlan_init : FuncData
  F_InvalidPlan_init : Fun K "__init__" "InvalidPlan.__init__" s_InvalidPlan_init a_InvalidPlan_init d_InvalidPlan_init
  b_InvalidPlan_init : Binds K d_InvalidPlan_init ["self", "index"] []
  fi_InvalidPlan : PySem.W.findIn K (.ref C_InvalidPlan) "__init__" = some (some (.ref a_InvalidPlan_init))
  ti_InvalidPlan : PySem.W.typeIn K (.ref a_InvalidPlan_init) = some (.type "function")
  C_InvalidChanges : Addr
  g_InvalidChanges : mg "InvalidChanges" = some (.ref C_InvalidChanges)
  ox_InvalidChanges : Xb.OexB K C_InvalidChanges
  xf_InvalidChanges : Mi.XfF K C_InvalidChanges "index"
  xm_InvalidChanges : PySem.W.exmOne K (.ref C_InvalidChanges) (.ref C_InvalidChanges) = some true
  a_InvalidChanges_init : Addr
  d_InvalidChanges_init : FuncData
  F_InvalidChanges_init : Fun K "__init__" "InvalidChanges.__init__" s_InvalidChanges_init a_InvalidChanges_init d_InvalidChanges_init
  b_InvalidChanges_init : Binds K d_InvalidChanges_init ["self", "index"] []
  fi_InvalidChanges : PySem.W.findIn K (.ref C_InvalidChanges) "__init__" = some (some (.ref a_InvalidChanges_init))
  ti_InvalidChanges : PySem.W.typeIn K (.ref a_InvalidChanges_init) = some (.type "function")
  C_InvalidWishes : Addr
  g_InvalidWishes : mg "InvalidWishes" = some (.ref C_InvalidWishes)
  ox_InvalidWishes : Xb.OexB K C_InvalidWishes
  xf_InvalidWishes : Mi.XfF K C_InvalidWishes "index"
  xm_InvalidWishes : PySem.W.exmOne K (.ref C_InvalidWishes) (.ref C_InvalidWishes) = some true
  a_InvalidWishes_init : Addr
  d_InvalidWishes_init : FuncData
  F_InvalidWishes_init : Fun K "__init__" "InvalidWishes.__init__" s_InvalidWishes_init a_InvalidWishes_init d_InvalidWishes_init
  b_InvalidWishes_init : Binds K d_InvalidWishes_init ["self", "index"] []
  fi_InvalidWishes : PySem.W.findIn K (.ref C_InvalidWishes) "__init__" = some (some (.ref a_InvalidWishes_init))
  ti_InvalidWishes : PySem.W.typeIn K (.ref a_InvalidWishes_init) = some (.type "function")
  C_UnknownName : Addr
  g_UnknownName : mg "UnknownName" = some (.ref C_UnknownName)
  ox_UnknownName : Xb.OexB K C_UnknownName
  xf_UnknownName : Mi.XfF K C_UnknownName "given"
  xm_UnknownName : PySem.W.exmOne K (.ref C_UnknownName) (.ref C_UnknownName) = some true
  a_UnknownName_init : Addr
  d_UnknownName_init : FuncData
  F_UnknownName_init : Fun K "__init__" "UnknownName.__init__" s_UnknownName_init a_UnknownName_init d_UnknownName_init
  b_UnknownName_init : Binds K d_UnknownName_init ["self", "given"] []
  fi_UnknownName : PySem.W.findIn K (.ref C_UnknownName) "__init__" = some (some (.ref a_UnknownName_init))
  ti_UnknownName : PySem.W.typeIn K (.ref a_UnknownName_init) = some (.type "function")
  C_InUse : Addr
  g_InUse : mg "InUse" = some (.ref C_InUse)
  ox_InUse : Xb.OexB K C_InUse
  xf_InUse : Mi.XfF K C_InUse "index"
  xm_InUse : PySem.W.exmOne K (.ref C_InUse) (.ref C_InUse) = some true
  a_InUse_init : Addr
  d_InUse_init : FuncData
  F_InUse_init : Fun K "__init__" "InUse.__init__" s_InUse_init a_InUse_init d_InUse_init
  b_InUse_init : Binds K d_InUse_init ["self", "index"] []
  fi_InUse : PySem.W.findIn K (.ref C_InUse) "__init__" = some (some (.ref a_InUse_init))
  ti_InUse : PySem.W.typeIn K (.ref a_InUse_init) = some (.type "function")
  C_OtherLevels : Addr
  g_OtherLevels : mg "OtherLevels" = some (.ref C_OtherLevels)
  ox_OtherLevels : Xb.OexB K C_OtherLevels
  xf_OtherLevels : Mi.XfF K C_OtherLevels "given"
  xm_OtherLevels : PySem.W.exmOne K (.ref C_OtherLevels) (.ref C_OtherLevels) = some true
  a_OtherLevels_init : Addr
  d_OtherLevels_init : FuncData
  F_OtherLevels_init : Fun K "__init__" "OtherLevels.__init__" s_OtherLevels_init a_OtherLevels_init d_OtherLevels_init
  b_OtherLevels_init : Binds K d_OtherLevels_init ["self", "given"] []
  fi_OtherLevels : PySem.W.findIn K (.ref C_OtherLevels) "__init__" = some (some (.ref a_OtherLevels_init))
  ti_OtherLevels : PySem.W.typeIn K (.ref a_OtherLevels_init) = some (.type "function")
  C_TooMany : Addr
  g_TooMany : mg "TooMany" = some (.ref C_TooMany)
  ox_TooMany : Xb.OexB K C_TooMany
  xf_TooMany : Mi.XfF K C_TooMany "given"
  xm_TooMany : PySem.W.exmOne K (.ref C_TooMany) (.ref C_TooMany) = some true
  a_TooMany_init : Addr
  d_TooMany_init : FuncData
  F_TooMany_init : Fun K "__init__" "TooMany.__init__" s_TooMany_init a_TooMany_init d_TooMany_init
  b_TooMany_init : Binds K d_TooMany_init ["self", "given"] []
  fi_TooMany : PySem.W.findIn K (.ref C_TooMany) "__init__" = some (some (.ref a_TooMany_init))
  ti_TooMany : PySem.W.typeIn K (.ref a_TooMany_init) = some (.type "function")
  C_TooFar : Addr
  g_TooFar : mg "TooFar" = some (.ref C_TooFar)
  ox_TooFar : Xb.OexB K C_TooFar
  xf_TooFar : Mi.XfF K C_TooFar "given"
  xm_TooFar : PySem.W.exmOne K (.ref C_TooFar) (.ref C_TooFar) = some true
  a_TooFar_init : Addr
  d_TooFar_init : FuncData
  F_TooFar_init : Fun K "__init__" "TooFar.__init__" s_TooFar_init a_TooFar_init d_TooFar_init
  b_TooFar_init : Binds K d_TooFar_init ["self", "given"] []
  fi_TooFar : PySem.W.findIn K (.ref C_TooFar) "__init__" = some (some (.ref a_TooFar_init))
  ti_TooFar : PySem.W.typeIn K (.ref a_TooFar_init) = some (.type "function")
  C_NothingToUndo : Addr
  g_NothingToUndo : mg "NothingToUndo" = some (.ref C_NothingToUndo)
  xx_NothingToUndo : PySem.W.excIn K C_NothingToUndo [.type "ArithmeticError", .type "Exception", .type "BaseException", .type "object"] "ArithmeticError.__new__" = true
  xt_NothingToUndo : PySem.W.typeIn K (.ref C_NothingToUndo) = some (.type "type")
  xe_NothingToUndo : PySem.W.subIn K (.ref C_NothingToUndo) (.type "BaseException") = some true
  x4_NothingToUndo : PySem.W.subIn K (.ref C_NothingToUndo) (.ref C_NothingToUndo) = some true
  C_Broken : Addr
  g_Broken : mg "Broken" = some (.ref C_Broken)
  ox_Broken : Xb.OexB K C_Broken
  xf_Broken : Mi.XfF K C_Broken "index"
  xm_Broken : PySem.W.exmOne K (.ref C_Broken) (.ref C_Broken) = some true
  a_Broken_init : Addr
  d_Broken_init : FuncData
  F_Broken_init : Fun K "__init__" "Broken.__init__" s_Broken_init a_Broken_init d_Broken_init
  b_Broken_init : Binds K d_Broken_init ["self", "index"] []
  fi_Broken : PySem.W.findIn K (.ref C_Broken) "__init__" = some (some (.ref a_Broken_init))
  ti_Broken : PySem.W.typeIn K (.ref a_Broken_init) = some (.type "function")
  C_WrongValue : Addr
  g_WrongValue : mg "WrongValue" = some (.ref C_WrongValue)
  xx_WrongValue : PySem.W.excIn K C_WrongValue [.type "ValueError", .type "Exception", .type "BaseException", .type "object"] "ValueError.__new__" = true
  xt_WrongValue : PySem.W.typeIn K (.ref C_WrongValue) = some (.type "type")
  xe_WrongValue : PySem.W.subIn K (.ref C_WrongValue) (.type "BaseException") = some true
  x4_WrongValue : PySem.W.subIn K (.ref C_WrongValue) (.ref C_WrongValue) = some true
  C_WrongName : Addr
  g_WrongName : mg "WrongName" = some (.ref C_WrongName)
  xx_WrongName : PySem.W.excIn K C_WrongName [.type "LookupError", .type "Exception", .type "BaseException", .type "object"] "LookupError.__new__" = true
  xt_WrongName : PySem.W.typeIn K (.ref C_WrongName) = some (.type "type")
  xe_WrongName : PySem.W.subIn K (.ref C_WrongName) (.type "BaseException") = some true
  x4_WrongName : PySem.W.subIn K (.ref C_WrongName) (.ref C_WrongName) = some true
  C_NotPossible : Addr
  g_NotPossible : mg "NotPossible" = some (.ref C_NotPossible)
  xx_NotPossible : PySem.W.excIn K C_NotPossible [.type "ArithmeticError", .type "Exception", .type "BaseException", .type "object"] "ArithmeticError.__new__" = true
  xt_NotPossible : PySem.W.typeIn K (.ref C_NotPossible) = some (.type "type")
  xe_NotPossible : PySem.W.subIn K (.ref C_NotPossible) (.type "BaseException") = some true
  x4_NotPossible : PySem.W.subIn K (.ref C_NotPossible) (.ref C_NotPossible) = some true
  xi_InvalidText : Mi.XiC K C_InvalidText
  kb_InvalidText_init_given : Mi.KB K d_InvalidText_init ["self", "given"] 1 ["given"] [0]
  xi_InvalidName : Mi.XiC K C_InvalidName
  kb_InvalidName_init_given : Mi.KB K d_InvalidName_init ["self", "given"] 1 ["given"] [0]
  xi_InvalidIndex : Mi.XiC K C_InvalidIndex
  kb_InvalidIndex_init_given : Mi.KB K d_InvalidIndex_init ["self", "given"] 1 ["given"] [0]
  xi_InvalidLevels : Mi.XiC K C_InvalidLevels
  kb_InvalidLevels_init_given : Mi.KB K d_InvalidLevels_init ["self", "given"] 1 ["given"] [0]
  xi_InvalidNumber : Mi.XiC K C_InvalidNumber
  kb_InvalidNumber_init_given : Mi.KB K d_InvalidNumber_init ["self", "given"] 1 ["given"] [0]
  xi_InvalidWish : Mi.XiC K C_InvalidWish
  kb_InvalidWish_init_given : Mi.KB K d_InvalidWish_init ["self", "given"] 1 ["given"] [0]
  xi_NotRound : Mi.XiC K C_NotRound
  kb_NotRound_init_given : Mi.KB K d_NotRound_init ["self", "given"] 1 ["given"] [0]
  xi_NotLot : Mi.XiC K C_NotLot
  kb_NotLot_init_given : Mi.KB K d_NotLot_init ["self", "given"] 1 ["given"] [0]
  xi_InvalidLamps : Mi.XiC K C_InvalidLamps
  kb_InvalidLamps_init_index : Mi.KB K d_InvalidLamps_init ["self", "index"] 1 ["index"] [0]
  xi_InvalidRounds : Mi.XiC K C_InvalidRounds
  kb_InvalidRounds_init_index : Mi.KB K d_InvalidRounds_init ["self", "index"] 1 ["index"] [0]
  xi_InvalidSteps : Mi.XiC K C_InvalidSteps
  kb_InvalidSteps_init_index : Mi.KB K d_InvalidSteps_init ["self", "index"] 1 ["index"] [0]
  xi_InvalidPlan : Mi.XiC K C_InvalidPlan
  kb_InvalidPlan_init_index : Mi.KB K d_InvalidPlan_init ["self", "index"] 1 ["index"] [0]
  xi_InvalidChanges : Mi.XiC K C_InvalidChanges
  kb_InvalidChanges_init_index : Mi.KB K d_InvalidChanges_init ["self", "index"] 1 ["index"] [0]
  xi_InvalidWishes : Mi.XiC K C_InvalidWishes
  kb_InvalidWishes_init_index : Mi.KB K d_InvalidWishes_init ["self", "index"] 1 ["index"] [0]
  xi_UnknownName : Mi.XiC K C_UnknownName
  kb_UnknownName_init_given : Mi.KB K d_UnknownName_init ["self", "given"] 1 ["given"] [0]
  xi_InUse : Mi.XiC K C_InUse
  kb_InUse_init_index : Mi.KB K d_InUse_init ["self", "index"] 1 ["index"] [0]
  xi_OtherLevels : Mi.XiC K C_OtherLevels
  kb_OtherLevels_init_given : Mi.KB K d_OtherLevels_init ["self", "given"] 1 ["given"] [0]
  xi_TooMany : Mi.XiC K C_TooMany
  kb_TooMany_init_given : Mi.KB K d_TooMany_init ["self", "given"] 1 ["given"] [0]
  xi_TooFar : Mi.XiC K C_TooFar
  kb_TooFar_init_given : Mi.KB K d_TooFar_init ["self", "given"] 1 ["given"] [0]
  xk_NothingToUndo : PySem.W.keepIn K (.ref C_NothingToUndo) = true
  xi_NothingToUndo : Mi.XiC K C_NothingToUndo
  xi_Broken : Mi.XiC K C_Broken
  kb_Broken_init_index : Mi.KB K d_Broken_init ["self", "index"] 1 ["index"] [0]
  xk_WrongValue : PySem.W.keepIn K (.ref C_WrongValue) = true
  xi_WrongValue : Mi.XiC K C_WrongValue
  xk_WrongName : PySem.W.keepIn K (.ref C_WrongName) = true
  xi_WrongName : Mi.XiC K C_WrongName
  xk_NotPossible : PySem.W.keepIn K (.ref C_NotPossible) = true
  xi_NotPossible : Mi.XiC K C_NotPossible
  tx_InvalidText : ∀ (k : Nat) (C : Addr) (b : Bool), ([C_InvalidText, C_InvalidName, C_InvalidIndex, C_InvalidLevels, C_InvalidNumber, C_InvalidWish, C_NotRound, C_NotLot, C_InvalidLamps, C_InvalidRounds, C_InvalidSteps, C_InvalidPlan, C_InvalidChanges, C_InvalidWishes, C_UnknownName, C_InUse, C_OtherLevels, C_TooMany, C_TooFar, C_NothingToUndo, C_Broken, C_WrongValue, C_WrongName, C_NotPossible] : List Addr)[k]? = some C → ([true, false, false, false, false, false, false, false, false, false, false, false, false, false, false, false, false, false, false, false, false, false, false, false] : List Bool)[k]? = some b → PySem.W.kitOne K (.ref C) (.ref C_InvalidText) = some b
  tx_InvalidName : ∀ (k : Nat) (C : Addr) (b : Bool), ([C_InvalidText, C_InvalidName, C_InvalidIndex, C_InvalidLevels, C_InvalidNumber, C_InvalidWish, C_NotRound, C_NotLot, C_InvalidLamps, C_InvalidRounds, C_InvalidSteps, C_InvalidPlan, C_InvalidChanges, C_InvalidWishes, C_UnknownName, C_InUse, C_OtherLevels, C_TooMany, C_TooFar, C_NothingToUndo, C_Broken, C_WrongValue, C_WrongName, C_NotPossible] : List Addr)[k]? = some C → ([false, true, false, false, false, false, false, false, false, false, false, false, false, false, false, false, false, false, false, false, false, false, false, false] : List Bool)[k]? = some b → PySem.W.kitOne K (.ref C) (.ref C_InvalidName) = some b
  tx_InvalidIndex : ∀ (k : Nat) (C : Addr) (b : Bool), ([C_InvalidText, C_InvalidName, C_InvalidIndex, C_InvalidLevels, C_InvalidNumber, C_InvalidWish, C_NotRound, C_NotLot, C_InvalidLamps, C_InvalidRounds, C_InvalidSteps, C_InvalidPlan, C_InvalidChanges, C_InvalidWishes, C_UnknownName, C_InUse, C_OtherLevels, C_TooMany, C_TooFar, C_NothingToUndo, C_Broken, C_WrongValue, C_WrongName, C_NotPossible] : List Addr)[k]? = some C → ([false, false, true, false, false, false, false, false, false, false, false, false, false, false, false, false, false, false, false, false, false, false, false, false] : List Bool)[k]? = some b → PySem.W.kitOne K (.ref C) (.ref C_InvalidIndex) = some b
  tx_InvalidLevels : ∀ (k : Nat) (C : Addr) (b : Bool), ([C_InvalidText, C_InvalidName, C_InvalidIndex, C_InvalidLevels, C_InvalidNumber, C_InvalidWish, C_NotRound, C_NotLot, C_InvalidLamps, C_InvalidRounds, C_InvalidSteps, C_InvalidPlan, C_InvalidChanges, C_InvalidWishes, C_UnknownName, C_InUse, C_OtherLevels, C_TooMany, C_TooFar, C_NothingToUndo, C_Broken, C_WrongValue, C_WrongName, C_NotPossible] : List Addr)[k]? = some C → ([false, false, false, true, false, false, false, false, false, false, false, false, false, false, false, false, false, false, false, false, false, false, false, false] : List Bool)[k]? = some b → PySem.W.kitOne K (.ref C) (.ref C_InvalidLevels) = some b
  tx_InvalidNumber : ∀ (k : Nat) (C : Addr) (b : Bool), ([C_InvalidText, C_InvalidName, C_InvalidIndex, C_InvalidLevels, C_InvalidNumber, C_InvalidWish, C_NotRound, C_NotLot, C_InvalidLamps, C_InvalidRounds, C_InvalidSteps, C_InvalidPlan, C_InvalidChanges, C_InvalidWishes, C_UnknownName, C_InUse, C_OtherLevels, C_TooMany, C_TooFar, C_NothingToUndo, C_Broken, C_WrongValue, C_WrongName, C_NotPossible] : List Addr)[k]? = some C → ([false, false, false, false, true, false, false, false, false, false, false, false, false, false, false, false, false, false, false, false, false, false, false, false] : List Bool)[k]? = some b → PySem.W.kitOne K (.ref C) (.ref C_InvalidNumber) = some b
  tx_InvalidWish : ∀ (k : Nat) (C : Addr) (b : Bool), ([C_InvalidText, C_InvalidName, C_InvalidIndex, C_InvalidLevels, C_InvalidNumber, C_InvalidWish, C_NotRound, C_NotLot, C_InvalidLamps, C_InvalidRounds, C_InvalidSteps, C_InvalidPlan, C_InvalidChanges, C_InvalidWishes, C_UnknownName, C_InUse, C_OtherLevels, C_TooMany, C_TooFar, C_NothingToUndo, C_Broken, C_WrongValue, C_WrongName, C_NotPossible] : List Addr)[k]? = some C → ([false, false, false, false, false, true, false, false, false, false, false, false, false, false, false, false, false, false, false, false, false, false, false, false] : List Bool)[k]? = some b → PySem.W.kitOne K (.ref C) (.ref C_InvalidWish) = some b
  tx_NotRound : ∀ (k : Nat) (C : Addr) (b : Bool), ([C_InvalidText, C_InvalidName, C_InvalidIndex, C_InvalidLevels, C_InvalidNumber, C_InvalidWish, C_NotRound, C_NotLot, C_InvalidLamps, C_InvalidRounds, C_InvalidSteps, C_InvalidPlan, C_InvalidChanges, C_InvalidWishes, C_UnknownName, C_InUse, C_OtherLevels, C_TooMany, C_TooFar, C_NothingToUndo, C_Broken, C_WrongValue, C_WrongName, C_NotPossible] : List Addr)[k]? = some C → ([false, false, false, false, false, false, true, false, false, false, false, false, false, false, false, false, false, false, false, false, false, false, false, false] : List Bool)[k]? = some b → PySem.W.kitOne K (.ref C) (.ref C_NotRound) = some b
  tx_NotLot : ∀ (k : Nat) (C : Addr) (b : Bool), ([C_InvalidText, C_InvalidName, C_InvalidIndex, C_InvalidLevels, C_InvalidNumber, C_InvalidWish, C_NotRound, C_NotLot, C_InvalidLamps, C_InvalidRounds, C_InvalidSteps, C_InvalidPlan, C_InvalidChanges, C_InvalidWishes, C_UnknownName, C_InUse, C_OtherLevels, C_TooMany, C_TooFar, C_NothingToUndo, C_Broken, C_WrongValue, C_WrongName, C_NotPossible] : List Addr)[k]? = some C → ([false, false, false, false, false, false, false, true, false, false, false, false, false, false, false, false, false, false, false, false, false, false, false, false] : List Bool)[k]? = some b → PySem.W.kitOne K (.ref C) (.ref C_NotLot) = some b
  tx_InvalidLamps : ∀ (k : Nat) (C : Addr) (b : Bool), ([C_InvalidText, C_InvalidName, C_InvalidIndex, C_InvalidLevels, C_InvalidNumber, C_InvalidWish, C_NotRound, C_NotLot, C_InvalidLamps, C_InvalidRounds, C_InvalidSteps, C_InvalidPlan, C_InvalidChanges, C_InvalidWishes, C_UnknownName, C_InUse, C_OtherLevels, C_TooMany, C_TooFar, C_NothingToUndo, C_Broken, C_WrongValue, C_WrongName, C_NotPossible] : List Addr)[k]? = some C → ([false, false, false, false, false, false, false, false, true, false, false, false, false, false, false, false, false, false, false, false, false, false, false, false] : List Bool)[k]? = some b → PySem.W.kitOne K (.ref C) (.ref C_InvalidLamps) = some b
  tx_InvalidRounds : ∀ (k : Nat) (C : Addr) (b : Bool), ([C_InvalidText, C_InvalidName, C_InvalidIndex, C_InvalidLevels, C_InvalidNumber, C_InvalidWish, C_NotRound, C_NotLot, C_InvalidLamps, C_InvalidRounds, C_InvalidSteps, C_InvalidPlan, C_InvalidChanges, C_InvalidWishes, C_UnknownName, C_InUse, C_OtherLevels, C_TooMany, C_TooFar, C_NothingToUndo, C_Broken, C_WrongValue, C_WrongName, C_NotPossible] : List Addr)[k]? = some C → ([false, false, false, false, false, false, false, false, false, true, false, false, false, false, false, false, false, false, false, false, false, false, false, false] : List Bool)[k]? = some b → PySem.W.kitOne K (.ref C) (.ref C_InvalidRounds) = some b
  tx_InvalidSteps : ∀ (k : Nat) (C : Addr) (b : Bool), ([C_InvalidText, C_InvalidName, C_InvalidIndex, C_InvalidLevels, C_InvalidNumber, C_InvalidWish, C_NotRound, C_NotLot, C_InvalidLamps, C_InvalidRounds, C_InvalidSteps, C_InvalidPlan, C_InvalidChanges, C_InvalidWishes, C_UnknownName, C_InUse, C_OtherLevels, C_TooMany, C_TooFar, C_NothingToUndo, C_Broken, C_WrongValue, C_WrongName, C_NotPossible] : List Addr)[k]? = some C → ([false, false, false, false, false, false, false, false, false, false, true, false, false, false, false, false, false, false, false, false, false, false, false, false] : List Bool)[k]? = some b → PySem.W.kitOne K (.ref C) (.ref C_InvalidSteps) = some b
  tx_InvalidPlan : ∀ (k : Nat) (C : Addr) (b : Bool), ([C_InvalidText, C_InvalidName, C_InvalidIndex, C_InvalidLevels, C_InvalidNumber, C_InvalidWish, C_NotRound, C_NotLot, C_InvalidLamps, C_InvalidRounds, C_InvalidSteps, C_InvalidPlan, C_InvalidChanges, C_InvalidWishes, C_UnknownName, C_InUse, C_OtherLevels, C_TooMany, C_TooFar, C_NothingToUndo, C_Broken, C_WrongValue, C_WrongName, C_NotPossible] : List Addr)[k]? = some C → ([false, false, false, false, false, false, false, false, false, false, false, true, false, false, false, false, false, false, false, false, false, false, false, false] : List Bool)[k]? = some b → PySem.W.kitOne K (.ref C) (.ref C_InvalidPlan) = some b
  tx_InvalidChanges : ∀ (k : Nat) (C : Addr) (b : Bool), ([C_InvalidText, C_InvalidName, C_InvalidIndex, C_InvalidLevels, C_InvalidNumber, C_InvalidWish, C_NotRound, C_NotLot, C_InvalidLamps, C_InvalidRounds, C_InvalidSteps, C_InvalidPlan, C_InvalidChanges, C_InvalidWishes, C_UnknownName, C_InUse, C_OtherLevels, C_TooMany, C_TooFar, C_NothingToUndo, C_Broken, C_WrongValue, C_WrongName, C_NotPossible] : List Addr)[k]? = some C → ([false, false, false, false, false, false, false, false, false, false, false, false, true, false, false, false, false, false, false, false, false, false, false, false] : List Bool)[k]? = some b → PySem.W.kitOne K (.ref C) (.ref C_InvalidChanges) = some b
  tx_InvalidWishes : ∀ (k : Nat) (C : Addr) (b : Bool), ([C_InvalidText, C_InvalidName, C_InvalidIndex, C_InvalidLevels, C_InvalidNumber, C_InvalidWish, C_NotRound, C_NotLot, C_InvalidLamps, C_InvalidRounds, C_InvalidSteps, C_InvalidPlan, C_InvalidChanges, C_InvalidWishes, C_UnknownName, C_InUse, C_OtherLevels, C_TooMany, C_TooFar, C_NothingToUndo, C_Broken, C_WrongValue, C_WrongName, C_NotPossible] : List Addr)[k]? = some C → ([false, false, false, false, false, false, false, false, false, false, false, false, false, true, false, false, false, false, false, false, false, false, false, false] : List Bool)[k]? = some b → PySem.W.kitOne K (.ref C) (.ref C_InvalidWishes) = some b
  tx_UnknownName : ∀ (k : Nat) (C : Addr) (b : Bool), ([C_InvalidText, C_InvalidName, C_InvalidIndex, C_InvalidLevels, C_InvalidNumber, C_InvalidWish, C_NotRound, C_NotLot, C_InvalidLamps, C_InvalidRounds, C_InvalidSteps, C_InvalidPlan, C_InvalidChanges, C_InvalidWishes, C_UnknownName, C_InUse, C_OtherLevels, C_TooMany, C_TooFar, C_NothingToUndo, C_Broken, C_WrongValue, C_WrongName, C_NotPossible] : List Addr)[k]? = some C → ([false, false, false, false, false, false, false, false, false, false, false, false, false, false, true, false, false, false, false, false, false, false, false, false] : List Bool)[k]? = some b → PySem.W.kitOne K (.ref C) (.ref C_UnknownName) = some b
  tx_InUse : ∀ (k : Nat) (C : Addr) (b : Bool), ([C_InvalidText, C_InvalidName, C_InvalidIndex, C_InvalidLevels, C_InvalidNumber, C_InvalidWish, C_NotRound, C_NotLot, C_InvalidLamps, C_InvalidRounds, C_InvalidSteps, C_InvalidPlan, C_InvalidChanges, C_InvalidWishes, C_UnknownName, C_InUse, C_OtherLevels, C_TooMany, C_TooFar, C_NothingToUndo, C_Broken, C_WrongValue, C_WrongName, C_NotPossible] : List Addr)[k]? = some C → ([false, false, false, false, false, false, false, false, false, false, false, false, false, false, false, true, false, false, false, false, false, false, false, false] : List Bool)[k]? = some b → PySem.W.kitOne K (.ref C) (.ref C_InUse) = some b
  tx_OtherLevels : ∀ (k : Nat) (C : Addr) (b : Bool), ([C_InvalidText, C_InvalidName, C_InvalidIndex, C_InvalidLevels, C_InvalidNumber, C_InvalidWish, C_NotRound, C_NotLot, C_InvalidLamps, C_InvalidRounds, C_InvalidSteps, C_InvalidPlan, C_InvalidChanges, C_InvalidWishes, C_UnknownName, C_InUse, C_OtherLevels, C_TooMany, C_TooFar, C_NothingToUndo, C_Broken, C_WrongValue, C_WrongName, C_NotPossible] : List Addr)[k]? = some C → ([false, false, false, false, false, false, false, false, false, false, false, false, false, false, false, false, true, false, false, false, false, false, false, false] : List Bool)[k]? = some b → PySem.W.kitOne K (.ref C) (.ref C_OtherLevels) = some b
  tx_TooMany : ∀ (k : Nat) (C : Addr) (b : Bool), ([C_InvalidText, C_InvalidName, C_InvalidIndex, C_InvalidLevels, C_InvalidNumber, C_InvalidWish, C_NotRound, C_NotLot, C_InvalidLamps, C_InvalidRounds, C_InvalidSteps, C_InvalidPlan, C_InvalidChanges, C_InvalidWishes, C_UnknownName, C_InUse, C_OtherLevels, C_TooMany, C_TooFar, C_NothingToUndo, C_Broken, C_WrongValue, C_WrongName, C_NotPossible] : List Addr)[k]? = some C → ([false, false, false, false, false, false, false, false, false, false, false, false, false, false, false, false, false, true, false, false, false, false, false, false] : List Bool)[k]? = some b → PySem.W.kitOne K (.ref C) (.ref C_TooMany) = some b
  tx_TooFar : ∀ (k : Nat) (C : Addr) (b : Bool), ([C_InvalidText, C_InvalidName, C_InvalidIndex, C_InvalidLevels, C_InvalidNumber, C_InvalidWish, C_NotRound, C_NotLot, C_InvalidLamps, C_InvalidRounds, C_InvalidSteps, C_InvalidPlan, C_InvalidChanges, C_InvalidWishes, C_UnknownName, C_InUse, C_OtherLevels, C_TooMany, C_TooFar, C_NothingToUndo, C_Broken, C_WrongValue, C_WrongName, C_NotPossible] : List Addr)[k]? = some C → ([false, false, false, false, false, false, false, false, false, false, false, false, false, false, false, false, false, false, true, false, false, false, false, false] : List Bool)[k]? = some b → PySem.W.kitOne K (.ref C) (.ref C_TooFar) = some b
  tx_NothingToUndo : ∀ (k : Nat) (C : Addr) (b : Bool), ([C_InvalidText, C_InvalidName, C_InvalidIndex, C_InvalidLevels, C_InvalidNumber, C_InvalidWish, C_NotRound, C_NotLot, C_InvalidLamps, C_InvalidRounds, C_InvalidSteps, C_InvalidPlan, C_InvalidChanges, C_InvalidWishes, C_UnknownName, C_InUse, C_OtherLevels, C_TooMany, C_TooFar, C_NothingToUndo, C_Broken, C_WrongValue, C_WrongName, C_NotPossible] : List Addr)[k]? = some C → ([false, false, false, false, false, false, false, false, false, false, false, false, false, false, false, false, false, false, false, true, false, false, false, false] : List Bool)[k]? = some b → PySem.W.kitOne K (.ref C) (.ref C_NothingToUndo) = some b
  tx_Broken : ∀ (k : Nat) (C : Addr) (b : Bool), ([C_InvalidText, C_InvalidName, C_InvalidIndex, C_InvalidLevels, C_InvalidNumber, C_InvalidWish, C_NotRound, C_NotLot, C_InvalidLamps, C_InvalidRounds, C_InvalidSteps, C_InvalidPlan, C_InvalidChanges, C_InvalidWishes, C_UnknownName, C_InUse, C_OtherLevels, C_TooMany, C_TooFar, C_NothingToUndo, C_Broken, C_WrongValue, C_WrongName, C_NotPossible] : List Addr)[k]? = some C → ([false, false, false, false, false, false, false, false, false, false, false, false, false, false, false, false, false, false, false, false, true, false, false, false] : List Bool)[k]? = some b → PySem.W.kitOne K (.ref C) (.ref C_Broken) = some b
  tx_WrongValue : ∀ (k : Nat) (C : Addr) (b : Bool), ([C_InvalidText, C_InvalidName, C_InvalidIndex, C_InvalidLevels, C_InvalidNumber, C_InvalidWish, C_NotRound, C_NotLot, C_InvalidLamps, C_InvalidRounds, C_InvalidSteps, C_InvalidPlan, C_InvalidChanges, C_InvalidWishes, C_UnknownName, C_InUse, C_OtherLevels, C_TooMany, C_TooFar, C_NothingToUndo, C_Broken, C_WrongValue, C_WrongName, C_NotPossible] : List Addr)[k]? = some C → ([true, true, true, true, true, true, true, true, true, true, true, true, true, true, false, false, false, false, false, false, false, true, false, false] : List Bool)[k]? = some b → PySem.W.kitOne K (.ref C) (.ref C_WrongValue) = some b
  tx_WrongName : ∀ (k : Nat) (C : Addr) (b : Bool), ([C_InvalidText, C_InvalidName, C_InvalidIndex, C_InvalidLevels, C_InvalidNumber, C_InvalidWish, C_NotRound, C_NotLot, C_InvalidLamps, C_InvalidRounds, C_InvalidSteps, C_InvalidPlan, C_InvalidChanges, C_InvalidWishes, C_UnknownName, C_InUse, C_OtherLevels, C_TooMany, C_TooFar, C_NothingToUndo, C_Broken, C_WrongValue, C_WrongName, C_NotPossible] : List Addr)[k]? = some C → ([false, false, false, false, false, false, false, false, false, false, false, false, false, false, true, true, false, false, false, false, false, false, true, false] : List Bool)[k]? = some b → PySem.W.kitOne K (.ref C) (.ref C_WrongName) = some b
  tx_NotPossible : ∀ (k : Nat) (C : Addr) (b : Bool), ([C_InvalidText, C_InvalidName, C_InvalidIndex, C_InvalidLevels, C_InvalidNumber, C_InvalidWish, C_NotRound, C_NotLot, C_InvalidLamps, C_InvalidRounds, C_InvalidSteps, C_InvalidPlan, C_InvalidChanges, C_InvalidWishes, C_UnknownName, C_InUse, C_OtherLevels, C_TooMany, C_TooFar, C_NothingToUndo, C_Broken, C_WrongValue, C_WrongName, C_NotPossible] : List Addr)[k]? = some C → ([false, false, false, false, false, false, false, false, false, false, false, false, false, false, false, false, true, true, true, true, true, false, false, true] : List Bool)[k]? = some b → PySem.W.kitOne K (.ref C) (.ref C_NotPossible) = some b
  ty_ValueError : ∀ (k : Nat) (C : Addr) (b : Bool), ([C_InvalidText, C_InvalidName, C_InvalidIndex, C_InvalidLevels, C_InvalidNumber, C_InvalidWish, C_NotRound, C_NotLot, C_InvalidLamps, C_InvalidRounds, C_InvalidSteps, C_InvalidPlan, C_InvalidChanges, C_InvalidWishes, C_UnknownName, C_InUse, C_OtherLevels, C_TooMany, C_TooFar, C_NothingToUndo, C_Broken, C_WrongValue, C_WrongName, C_NotPossible] : List Addr)[k]? = some C → ([true, true, true, true, true, true, true, true, true, true, true, true, true, true, false, false, false, false, false, false, false, true, false, false] : List Bool)[k]? = some b → PySem.W.kitOne K (.ref C) (.type "ValueError") = some b
  ty_LookupError : ∀ (k : Nat) (C : Addr) (b : Bool), ([C_InvalidText, C_InvalidName, C_InvalidIndex, C_InvalidLevels, C_InvalidNumber, C_InvalidWish, C_NotRound, C_NotLot, C_InvalidLamps, C_InvalidRounds, C_InvalidSteps, C_InvalidPlan, C_InvalidChanges, C_InvalidWishes, C_UnknownName, C_InUse, C_OtherLevels, C_TooMany, C_TooFar, C_NothingToUndo, C_Broken, C_WrongValue, C_WrongName, C_NotPossible] : List Addr)[k]? = some C → ([false, false, false, false, false, false, false, false, false, false, false, false, false, false, true, true, false, false, false, false, false, false, true, false] : List Bool)[k]? = some b → PySem.W.kitOne K (.ref C) (.type "LookupError") = some b
  ty_ArithmeticError : ∀ (k : Nat) (C : Addr) (b : Bool), ([C_InvalidText, C_InvalidName, C_InvalidIndex, C_InvalidLevels, C_InvalidNumber, C_InvalidWish, C_NotRound, C_NotLot, C_InvalidLamps, C_InvalidRounds, C_InvalidSteps, C_InvalidPlan, C_InvalidChanges, C_InvalidWishes, C_UnknownName, C_InUse, C_OtherLevels, C_TooMany, C_TooFar, C_NothingToUndo, C_Broken, C_WrongValue, C_WrongName, C_NotPossible] : List Addr)[k]? = some C → ([false, false, false, false, false, false, false, false, false, false, false, false, false, false, false, false, true, true, true, true, true, false, false, true] : List Bool)[k]? = some b → PySem.W.kitOne K (.ref C) (.type "ArithmeticError") = some b
  a_law_begun : Addr
  d_law_begun : FuncData
  F_law_begun : Fun K "_law_begun" "_law_begun" s_law_begun a_law_begun d_law_begun
  b_law_begun : Binds K d_law_begun ["_law_script", "_law_turn"] []
  g_law_begun : mg "_law_begun" = some (.ref a_law_begun)
  a_law_cast : Addr
  d_law_cast : FuncData
  F_law_cast : Fun K "_law_cast" "_law_cast" s_law_cast a_law_cast d_law_cast
  b_law_cast : Binds K d_law_cast ["_law_pail", "_law_many"] []
  g_law_cast : mg "_law_cast" = some (.ref a_law_cast)
  a_law_any_of : Addr
  d_law_any_of : FuncData
  F_law_any_of : Fun K "_law_any_of" "_law_any_of" s_law_any_of a_law_any_of d_law_any_of
  b_law_any_of : Binds K d_law_any_of ["_law_pail", "_law_some"] []
  g_law_any_of : mg "_law_any_of" = some (.ref a_law_any_of)
  a_law_thing : Addr
  d_law_thing : FuncData
  F_law_thing : Fun K "_law_thing" "_law_thing" s_law_thing a_law_thing d_law_thing
  b_law_thing : Binds K d_law_thing ["_law_pail"] []
  g_law_thing : mg "_law_thing" = some (.ref a_law_thing)
  a_law_placed : Addr
  d_law_placed : FuncData
  F_law_placed : Fun K "_law_placed" "_law_placed" s_law_placed a_law_placed d_law_placed
  b_law_placed : Binds K d_law_placed ["_law_thing_here"] []
  g_law_placed : mg "_law_placed" = some (.ref a_law_placed)
  a_law_named : Addr
  d_law_named : FuncData
  F_law_named : Fun K "_law_named" "_law_named" s_law_named a_law_named d_law_named
  b_law_named : Binds K d_law_named ["_law_thing_here"] []
  g_law_named : mg "_law_named" = some (.ref a_law_named)
  a_law_flags : Addr
  d_law_flags : FuncData
  F_law_flags : Fun K "_law_flags" "_law_flags" s_law_flags a_law_flags d_law_flags
  b_law_flags : Binds K d_law_flags ["_law_e"] []
  g_law_flags : mg "_law_flags" = some (.ref a_law_flags)
  a_law_bases : Addr
  d_law_bases : FuncData
  F_law_bases : Fun K "_law_bases" "_law_bases" s_law_bases a_law_bases d_law_bases
  b_law_bases : Binds K d_law_bases ["_law_e"] []
  g_law_bases : mg "_law_bases" = some (.ref a_law_bases)
  a_law_held : Addr
  d_law_held : FuncData
  F_law_held : Fun K "_law_held" "_law_held" s_law_held a_law_held d_law_held
  b_law_held : Binds K d_law_held ["_law_e", "_law_at"] []
  g_law_held : mg "_law_held" = some (.ref a_law_held)
  a_law_some_right : Addr
  d_law_some_right : FuncData
  F_law_some_right : Fun K "_law_some_right" "_law_some_right" s_law_some_right a_law_some_right d_law_some_right
  b_law_some_right : Binds K d_law_some_right ["_law_some", "_law_thing_here"] []
  g_law_some_right : mg "_law_some_right" = some (.ref a_law_some_right)
  a_law_right : Addr
  d_law_right : FuncData
  F_law_right : Fun K "_law_right" "_law_right" s_law_right a_law_right d_law_right
  b_law_right : Binds K d_law_right ["_law_pail"] []
  g_law_right : mg "_law_right" = some (.ref a_law_right)
  a_law : Addr
  d_law : FuncData
  F_law : Fun K "law" "law" s_law a_law d_law
  b_law : Binds K d_law ["_law_script"] []
  bt_law : ∀ (s : Shared) (v : Value), BindsTo s d_law ⟨[v], []⟩ [("_law_script", v)]
  g_law : mg "law" = some (.ref a_law)
  n_ArithmeticError : mg "ArithmeticError" = none
  n_LookupError : mg "LookupError" = none
  n_ValueError : mg "ValueError" = none
  n_abs : mg "abs" = none
  n_all : mg "all" = none
  n_divmod : mg "divmod" = none
  n_int : mg "int" = none
  n_isinstance : mg "isinstance" = none
  n_len : mg "len" = none
  n_max : mg "max" = none
  n_min : mg "min" = none
  n_range : mg "range" = none
  n_repr : mg "repr" = none
  x_LEVELS : Addr
  g_LEVELS : mg "LEVELS" = some (.ref x_LEVELS)
  w_LEVELS : ∀ H : Hp, SqT K H x_LEVELS [.int 2, .int 3, .int 5, .int 7]
  g_MOST_LAMPS : ∃ t, mg "MOST_LAMPS" = some (.int 400 t)
  g_MOST_STEPS : ∃ t, mg "MOST_STEPS" = some (.int 4000 t)
  g_MOST_ROUNDS : ∃ t, mg "MOST_ROUNDS" = some (.int 4 t)
  g_MOST_PLACE : ∃ t, mg "MOST_PLACE" = some (.int 24 t)
  g_MOST_END : ∃ t, mg "MOST_END" = some (.int 8 t)
  g_MOST_NEAR : ∃ t, mg "MOST_NEAR" = some (.int 40 t)
  g_MOST_TIMES : ∃ t, mg "MOST_TIMES" = some (.int 1000 t)
  g_MOST_CHANGES : ∃ t, mg "MOST_CHANGES" = some (.int 6 t)
theorem mkTx {K : PySem.W.Frag} {h : Heap} {mg : Str → Option Value} {fa : Addr} (X : K.In h) (G : h.Ns mainGlobals mg) (hfa : mg "law" = some (.ref fa))
    {C_InvalidText B0_InvalidText : Addr}
    {xnm_InvalidText : Str} {xq_InvalidText : Str} {xN_InvalidText : Addr} {xbs_InvalidText : List Value} {xsn_InvalidText : List Str} {xsub_InvalidText : List Value} {xab_InvalidText : Bool} {xcol_InvalidText : Option Bool} {xdd_InvalidText : Option Addr} {xk0_InvalidText : Option Value} {xk1_InvalidText : Option Value} {xk2_InvalidText : Option Value} {xk3_InvalidText : Option Value} {xk5_InvalidText : Option Value}
    {a_InvalidText_init : Addr} {od_InvalidText_init an_InvalidText_init : Option Addr} {sl_InvalidText_init : Array (Option Value)} {oc_InvalidText_init kv_InvalidText_init dc_InvalidText_init pm_InvalidText_init cd_InvalidText_init ct_InvalidText_init : Value}
    {C_InvalidName B0_InvalidName : Addr}
    {xnm_InvalidName : Str} {xq_InvalidName : Str} {xN_InvalidName : Addr} {xbs_InvalidName : List Value} {xsn_InvalidName : List Str} {xsub_InvalidName : List Value} {xab_InvalidName : Bool} {xcol_InvalidName : Option Bool} {xdd_InvalidName : Option Addr} {xk0_InvalidName : Option Value} {xk1_InvalidName : Option Value} {xk2_InvalidName : Option Value} {xk3_InvalidName : Option Value} {xk5_InvalidName : Option Value}
    {a_InvalidName_init : Addr} {od_InvalidName_init an_InvalidName_init : Option Addr} {sl_InvalidName_init : Array (Option Value)} {oc_InvalidName_init kv_InvalidName_init dc_InvalidName_init pm_InvalidName_init cd_InvalidName_init ct_InvalidName_init : Value}
    {C_InvalidIndex B0_InvalidIndex : Addr}
    {xnm_InvalidIndex : Str} {xq_InvalidIndex : Str} {xN_InvalidIndex : Addr} {xbs_InvalidIndex : List Value} {xsn_InvalidIndex : List Str} {xsub_InvalidIndex : List Value} {xab_InvalidIndex : Bool} {xcol_InvalidIndex : Option Bool} {xdd_InvalidIndex : Option Addr} {xk0_InvalidIndex : Option Value} {xk1_InvalidIndex : Option Value} {xk2_InvalidIndex : Option Value} {xk3_InvalidIndex : Option Value} {xk5_InvalidIndex : Option Value}
    {a_InvalidIndex_init : Addr} {od_InvalidIndex_init an_InvalidIndex_init : Option Addr} {sl_InvalidIndex_init : Array (Option Value)} {oc_InvalidIndex_init kv_InvalidIndex_init dc_InvalidIndex_init pm_InvalidIndex_init cd_InvalidIndex_init ct_InvalidIndex_init : Value}
    {C_InvalidLevels B0_InvalidLevels : Addr}
    {xnm_InvalidLevels : Str} {xq_InvalidLevels : Str} {xN_InvalidLevels : Addr} {xbs_InvalidLevels : List Value} {xsn_InvalidLevels : List Str} {xsub_InvalidLevels : List Value} {xab_InvalidLevels : Bool} {xcol_InvalidLevels : Option Bool} {xdd_InvalidLevels : Option Addr} {xk0_InvalidLevels : Option Value} {xk1_InvalidLevels : Option Value} {xk2_InvalidLevels : Option Value} {xk3_InvalidLevels : Option Value} {xk5_InvalidLevels : Option Value}
    {a_InvalidLevels_init : Addr} {od_InvalidLevels_init an_InvalidLevels_init : Option Addr} {sl_InvalidLevels_init : Array (Option Value)} {oc_InvalidLevels_init kv_InvalidLevels_init dc_InvalidLevels_init pm_InvalidLevels_init cd_InvalidLevels_init ct_InvalidLevels_init : Value}
    {C_InvalidNumber B0_InvalidNumber : Addr}
    {xnm_InvalidNumber : Str} {xq_InvalidNumber : Str} {xN_InvalidNumber : Addr} {xbs_InvalidNumber : List Value} {xsn_InvalidNumber : List Str} {xsub_InvalidNumber : List Value} {xab_InvalidNumber : Bool} {xcol_InvalidNumber : Option Bool} {xdd_InvalidNumber : Option Addr} {xk0_InvalidNumber : Option Value} {xk1_InvalidNumber : Option Value} {xk2_InvalidNumber : Option Value} {xk3_InvalidNumber : Option Value} {xk5_InvalidNumber : Option Value}
    {a_InvalidNumber_init : Addr} {od_InvalidNumber_init an_InvalidNumber_init : Option Addr} {sl_InvalidNumber_init : Array (Option Value)} {oc_InvalidNumber_init kv_InvalidNumber_init dc_InvalidNumber_init pm_InvalidNumber_init cd_InvalidNumber_init ct_InvalidNumber_init : Value}
    {C_InvalidWish B0_InvalidWish : Addr}
    {xnm_InvalidWish : Str} {xq_InvalidWish : Str} {xN_InvalidWish : Addr} {xbs_InvalidWish : List Value} {xsn_InvalidWish : List Str} {xsub_InvalidWish : List Value} {xab_InvalidWish : Bool} {xcol_InvalidWish : Option Bool} {xdd_InvalidWish : Option Addr} {xk0_InvalidWish : Option Value} {xk1_InvalidWish : Option Value} {xk2_InvalidWish : Option Value} {xk3_InvalidWish : Option Value} {xk5_InvalidWish : Option Value}
    {a_InvalidWish_init : Addr} {od_InvalidWish_init an_InvalidWish_init : Option Addr} {sl_InvalidWish_init : Array (Option Value)} {oc_InvalidWish_init kv_InvalidWish_init dc_InvalidWish_init pm_InvalidWish_init cd_InvalidWish_init ct_InvalidWish_init : Value}
    {C_NotRound B0_NotRound : Addr}
    {xnm_NotRound : Str} {xq_NotRound : Str} {xN_NotRound : Addr} {xbs_NotRound : List Value} {xsn_NotRound : List Str} {xsub_NotRound : List Value} {xab_NotRound : Bool} {xcol_NotRound : Option Bool} {xdd_NotRound : Option Addr} {xk0_NotRound : Option Value} {xk1_NotRound : Option Value} {xk2_NotRound : Option Value} {xk3_NotRound : Option Value} {xk5_NotRound : Option Value}
    {a_NotRound_init : Addr} {od_NotRound_init an_NotRound_init : Option Addr} {sl_NotRound_init : Array (Option Value)} {oc_NotRound_init kv_NotRound_init dc_NotRound_init pm_NotRound_init cd_NotRound_init ct_NotRound_init : Value}
    {C_NotLot B0_NotLot : Addr}
    {xnm_NotLot : Str} {xq_NotLot : Str} {xN_NotLot : Addr} {xbs_NotLot : List Value} {xsn_NotLot : List Str} {xsub_NotLot : List Value} {xab_NotLot : Bool} {xcol_NotLot : Option Bool} {xdd_NotLot : Option Addr} {xk0_NotLot : Option Value} {xk1_NotLot : Option Value} {xk2_NotLot : Option Value} {xk3_NotLot : Option Value} {xk5_NotLot : Option Value}
    {a_NotLot_init : Addr} {od_NotLot_init an_NotLot_init : Option Addr} {sl_NotLot_init : Array (Option Value)} {oc_NotLot_init kv_NotLot_init dc_NotLot_init pm_NotLot_init cd_NotLot_init ct_NotLot_init : Value}
    {C_InvalidLamps B0_InvalidLamps : Addr}
    {xnm_InvalidLamps : Str} {xq_InvalidLamps : Str} {xN_InvalidLamps : Addr} {xbs_InvalidLamps : List Value} {xsn_InvalidLamps : List Str} {xsub_InvalidLamps : List Value} {xab_InvalidLamps : Bool} {xcol_InvalidLamps : Option Bool} {xdd_InvalidLamps : Option Addr} {xk0_InvalidLamps : Option Value} {xk1_InvalidLamps : Option Value} {xk2_InvalidLamps : Option Value} {xk3_InvalidLamps : Option Value} {xk5_InvalidLamps : Option Value}
    {a_InvalidLamps_init : Addr} {od_InvalidLamps_init an_InvalidLamps_init : Option Addr} {sl_InvalidLamps_init : Array (Option Value)} {oc_InvalidLamps_init kv_InvalidLamps_init dc_InvalidLamps_init pm_InvalidLamps_init cd_InvalidLamps_init ct_InvalidLamps_init : Value}
    {C_InvalidRounds B0_InvalidRounds : Addr}
    {xnm_InvalidRounds : Str} {xq_InvalidRounds : Str} {xN_InvalidRounds : Addr} {xbs_InvalidRounds : List Value} {xsn_InvalidRounds : List Str} {xsub_InvalidRounds : List Value} {xab_InvalidRounds : Bool} {xcol_InvalidRounds : Option Bool} {xdd_InvalidRounds : Option Addr} {xk0_InvalidRounds : Option Value} {xk1_InvalidRounds : Option Value} {xk2_InvalidRounds : Option Value} {xk3_InvalidRounds : Option Value} {xk5_InvalidRounds : Option Value}
    {a_InvalidRounds_init : Addr} {od_InvalidRounds_init an_InvalidRounds_init : Option Addr} {sl_InvalidRounds_init : Array (Option Value)} {oc_InvalidRounds_init kv_InvalidRounds_init dc_InvalidRounds_init pm_InvalidRounds_init cd_InvalidRounds_init ct_InvalidRounds_init : Value}
    {C_InvalidSteps B0_InvalidSteps : Addr}
    {xnm_InvalidSteps : Str} {xq_InvalidSteps : Str} {xN_InvalidSteps : Addr} {xbs_InvalidSteps : List Value} {xsn_InvalidSteps : List Str} {xsub_InvalidSteps : List Value} {xab_InvalidSteps : Bool} {xcol_InvalidSteps : Option Bool} {xdd_InvalidSteps : Option Addr} {xk0_InvalidSteps : Option Value} {xk1_InvalidSteps : Option Value} {xk2_InvalidSteps : Option Value} {xk3_InvalidSteps : Option Value} {xk5_InvalidSteps : Option Value}
    {a_InvalidSteps_init : Addr} {od_InvalidSteps_init an_InvalidSteps_init : Option Addr} {sl_InvalidSteps_init : Array (Option Value)} {oc_InvalidSteps_init kv_InvalidSteps_init dc_InvalidSteps_init pm_InvalidSteps_init cd_InvalidSteps_init ct_InvalidSteps_init : Value}
    {C_InvalidPlan B0_InvalidPlan : Addr}
    {xnm_InvalidPlan : Str} {xq_InvalidPlan : Str} {xN_InvalidPlan : Addr} {xbs_InvalidPlan : List Value} {xsn_InvalidPlan : List Str} {xsub_InvalidPlan : List Value} {xab_InvalidPlan : Bool} {xcol_InvalidPlan : Option Bool} {xdd_InvalidPlan : Option Addr} {xk0_InvalidPlan : Option Value} {xk1_InvalidPlan : Option Value} {xk2_InvalidPlan : Option Value} {xk3_InvalidPlan : Option Value} {xk5_InvalidPlan : Option Value}
    {a_InvalidPlan_init : Addr} {od_InvalidPlan_init an_InvalidPlan_init : Option Addr} {sl_InvalidPlan_init : Array (Option Value)} {oc_InvalidPlan_init kv_InvalidPlan_init dc_InvalidPlan_init pm_InvalidPlan_init cd_InvalidPlan_init ct_InvalidPlan_init : Value}
    {C_InvalidChanges B0_InvalidChanges : Addr}
    {xnm_InvalidChanges : Str} {xq_InvalidChanges : Str} {xN_InvalidChanges : Addr} {xbs_InvalidChanges : List Value} {xsn_InvalidChanges : List Str} {xsub_InvalidChanges : List Value} {xab_InvalidChanges : Bool} {xcol_InvalidChanges : Option Bool} {xdd_InvalidChanges : Option Addr} {xk0_InvalidChanges : Option Value} {xk1_InvalidChanges : Option Value} {xk2_InvalidChanges : Option Value} {xk3_InvalidChanges : Option Value} {xk5_InvalidChanges : Option Value}
    {a_InvalidChanges_init : Addr} {od_InvalidChanges_init an_InvalidChanges_init : Option Addr} {sl_InvalidChanges_init : Array (Option Value)} {oc_InvalidChanges_init kv_InvalidChanges_init dc_InvalidChanges_init pm_InvalidChanges_init cd_InvalidChanges_init ct_InvalidChanges_init : Value}
    {C_InvalidWishes B0_InvalidWishes : Addr}
    {xnm_InvalidWishes : Str} {xq_InvalidWishes : Str} {xN_InvalidWishes : Addr} {xbs_InvalidWishes : List Value} {xsn_InvalidWishes : List Str} {xsub_InvalidWishes : List Value} {xab_InvalidWishes : Bool} {xcol_InvalidWishes : Option Bool} {xdd_InvalidWishes : Option Addr} {xk0_InvalidWishes : Option Value} {xk1_InvalidWishes : Option Value} {xk2_InvalidWishes : Option Value} {xk3_InvalidWishes : Option Value} {xk5_InvalidWishes : Option Value}
    {a_InvalidWishes_init : Addr} {od_InvalidWishes_init an_InvalidWishes_init : Option Addr} {sl_InvalidWishes_init : Array (Option Value)} {oc_InvalidWishes_init kv_InvalidWishes_init dc_InvalidWishes_init pm_InvalidWishes_init cd_InvalidWishes_init ct_InvalidWishes_init : Value}
    {C_UnknownName B0_UnknownName : Addr}
    {xnm_UnknownName : Str} {xq_UnknownName : Str} {xN_UnknownName : Addr} {xbs_UnknownName : List Value} {xsn_UnknownName : List Str} {xsub_UnknownName : List Value} {xab_UnknownName : Bool} {xcol_UnknownName : Option Bool} {xdd_UnknownName : Option Addr} {xk0_UnknownName : Option Value} {xk1_UnknownName : Option Value} {xk2_UnknownName : Option Value} {xk3_UnknownName : Option Value} {xk5_UnknownName : Option Value}
    {a_UnknownName_init : Addr} {od_UnknownName_init an_UnknownName_init : Option Addr} {sl_UnknownName_init : Array (Option Value)} {oc_UnknownName_init kv_UnknownName_init dc_UnknownName_init pm_UnknownName_init cd_UnknownName_init ct_UnknownName_init : Value}
    {C_InUse B0_InUse : Addr}
    {xnm_InUse : Str} {xq_InUse : Str} {xN_InUse : Addr} {xbs_InUse : List Value} {xsn_InUse : List Str} {xsub_InUse : List Value} {xab_InUse : Bool} {xcol_InUse : Option Bool} {xdd_InUse : Option Addr} {xk0_InUse : Option Value} {xk1_InUse : Option Value} {xk2_InUse : Option Value} {xk3_InUse : Option Value} {xk5_InUse : Option Value}
    {a_InUse_init : Addr} {od_InUse_init an_InUse_init : Option Addr} {sl_InUse_init : Array (Option Value)} {oc_InUse_init kv_InUse_init dc_InUse_init pm_InUse_init cd_InUse_init ct_InUse_init : Value}
    {C_OtherLevels B0_OtherLevels : Addr}
    {xnm_OtherLevels : Str} {xq_OtherLevels : Str} {xN_OtherLevels : Addr} {xbs_OtherLevels : List Value} {xsn_OtherLevels : List Str} {xsub_OtherLevels : List Value} {xab_OtherLevels : Bool} {xcol_OtherLevels : Option Bool} {xdd_OtherLevels : Option Addr} {xk0_OtherLevels : Option Value} {xk1_OtherLevels : Option Value} {xk2_OtherLevels : Option Value} {xk3_OtherLevels : Option Value} {xk5_OtherLevels : Option Value}
    {a_OtherLevels_init : Addr} {od_OtherLevels_init an_OtherLevels_init : Option Addr} {sl_OtherLevels_init : Array (Option Value)} {oc_OtherLevels_init kv_OtherLevels_init dc_OtherLevels_init pm_OtherLevels_init cd_OtherLevels_init ct_OtherLevels_init : Value}
    {C_TooMany B0_TooMany : Addr}
    {xnm_TooMany : Str} {xq_TooMany : Str} {xN_TooMany : Addr} {xbs_TooMany : List Value} {xsn_TooMany : List Str} {xsub_TooMany : List Value} {xab_TooMany : Bool} {xcol_TooMany : Option Bool} {xdd_TooMany : Option Addr} {xk0_TooMany : Option Value} {xk1_TooMany : Option Value} {xk2_TooMany : Option Value} {xk3_TooMany : Option Value} {xk5_TooMany : Option Value}
    {a_TooMany_init : Addr} {od_TooMany_init an_TooMany_init : Option Addr} {sl_TooMany_init : Array (Option Value)} {oc_TooMany_init kv_TooMany_init dc_TooMany_init pm_TooMany_init cd_TooMany_init ct_TooMany_init : Value}
    {C_TooFar B0_TooFar : Addr}
    {xnm_TooFar : Str} {xq_TooFar : Str} {xN_TooFar : Addr} {xbs_TooFar : List Value} {xsn_TooFar : List Str} {xsub_TooFar : List Value} {xab_TooFar : Bool} {xcol_TooFar : Option Bool} {xdd_TooFar : Option Addr} {xk0_TooFar : Option Value} {xk1_TooFar : Option Value} {xk2_TooFar : Option Value} {xk3_TooFar : Option Value} {xk5_TooFar : Option Value}
    {a_TooFar_init : Addr} {od_TooFar_init an_TooFar_init : Option Addr} {sl_TooFar_init : Array (Option Value)} {oc_TooFar_init kv_TooFar_init dc_TooFar_init pm_TooFar_init cd_TooFar_init ct_TooFar_init : Value}
    {C_NothingToUndo : Addr}
    {C_Broken B0_Broken : Addr}
    {xnm_Broken : Str} {xq_Broken : Str} {xN_Broken : Addr} {xbs_Broken : List Value} {xsn_Broken : List Str} {xsub_Broken : List Value} {xab_Broken : Bool} {xcol_Broken : Option Bool} {xdd_Broken : Option Addr} {xk0_Broken : Option Value} {xk1_Broken : Option Value} {xk2_Broken : Option Value} {xk3_Broken : Option Value} {xk5_Broken : Option Value}
    {a_Broken_init : Addr} {od_Broken_init an_Broken_init : Option Addr} {sl_Broken_init : Array (Option Value)} {oc_Broken_init kv_Broken_init dc_Broken_init pm_Broken_init cd_Broken_init ct_Broken_init : Value}
    {C_WrongValue : Addr}
    {C_WrongName : Addr}
    {C_NotPossible : Addr}
    {a_law_begun : Addr} {od_law_begun an_law_begun : Option Addr} {sl_law_begun : Array (Option Value)} {oc_law_begun kv_law_begun dc_law_begun pm_law_begun cd_law_begun ct_law_begun : Value}
    {a_law_cast : Addr} {od_law_cast an_law_cast : Option Addr} {sl_law_cast : Array (Option Value)} {oc_law_cast kv_law_cast dc_law_cast pm_law_cast cd_law_cast ct_law_cast : Value}
    {a_law_any_of : Addr} {od_law_any_of an_law_any_of : Option Addr} {sl_law_any_of : Array (Option Value)} {oc_law_any_of kv_law_any_of dc_law_any_of pm_law_any_of cd_law_any_of ct_law_any_of : Value}
    {a_law_thing : Addr} {od_law_thing an_law_thing : Option Addr} {sl_law_thing : Array (Option Value)} {oc_law_thing kv_law_thing dc_law_thing pm_law_thing cd_law_thing ct_law_thing : Value}
    {a_law_placed : Addr} {od_law_placed an_law_placed : Option Addr} {sl_law_placed : Array (Option Value)} {oc_law_placed kv_law_placed dc_law_placed pm_law_placed cd_law_placed ct_law_placed : Value}
    {a_law_named : Addr} {od_law_named an_law_named : Option Addr} {sl_law_named : Array (Option Value)} {oc_law_named kv_law_named dc_law_named pm_law_named cd_law_named ct_law_named : Value}
    {a_law_flags : Addr} {od_law_flags an_law_flags : Option Addr} {sl_law_flags : Array (Option Value)} {oc_law_flags kv_law_flags dc_law_flags pm_law_flags cd_law_flags ct_law_flags : Value}
    {a_law_bases : Addr} {od_law_bases an_law_bases : Option Addr} {sl_law_bases : Array (Option Value)} {oc_law_bases kv_law_bases dc_law_bases pm_law_bases cd_law_bases ct_law_bases : Value}
    {a_law_held : Addr} {od_law_held an_law_held : Option Addr} {sl_law_held : Array (Option Value)} {oc_law_held kv_law_held dc_law_held pm_law_held cd_law_held ct_law_held : Value}
    {a_law_some_right : Addr} {od_law_some_right an_law_some_right : Option Addr} {sl_law_some_right : Array (Option Value)} {oc_law_some_right kv_law_some_right dc_law_some_right pm_law_some_right cd_law_some_right ct_law_some_right : Value}
    {a_law_right : Addr} {od_law_right an_law_right : Option Addr} {sl_law_right : Array (Option Value)} {oc_law_right kv_law_right dc_law_right pm_law_right cd_law_right ct_law_right : Value}
    {a_law : Addr} {od_law an_law : Option Addr} {sl_law : Array (Option Value)} {oc_law kv_law dc_law pm_law cd_law ct_law : Value}
    {x_LEVELS : Addr} {o_LEVELS : Option Addr} {m_LEVELS : Nat} {z_LEVELS : Array (Option Value)} {t0_LEVELS t1_LEVELS t2_LEVELS t3_LEVELS : Tok}
    {t_MOST_LAMPS : Tok}
    {t_MOST_STEPS : Tok}
    {t_MOST_ROUNDS : Tok}
    {t_MOST_PLACE : Tok}
    {t_MOST_END : Tok}
    {t_MOST_NEAR : Tok}
    {t_MOST_TIMES : Tok}
    {t_MOST_CHANGES : Tok}
    (e_InvalidText : PySem.W.nsIn K mainGlobals "InvalidText" = some (some (.ref C_InvalidText)))
    (xl_InvalidText : K.lookup C_InvalidText = some (PySem.excClassObj xnm_InvalidText xq_InvalidText C_InvalidText xN_InvalidText xbs_InvalidText (Xb.refs [B0_InvalidText] [.type "ValueError", .type "Exception", .type "BaseException", .type "object"]) true xsn_InvalidText xsub_InvalidText xab_InvalidText xcol_InvalidText xdd_InvalidText xk0_InvalidText xk1_InvalidText xk2_InvalidText xk3_InvalidText xk5_InvalidText "ValueError.__new__"))
    (xs_InvalidText : PySem.W.findIn K (.ref C_InvalidText) "__setattr__" = some (some (.builtin "object.__setattr__")))
    (xe_InvalidText : PySem.W.subIn K (.ref C_InvalidText) (.type "BaseException") = some true)
    (xt_InvalidText : PySem.W.typeIn K (.ref C_InvalidText) = some (.type "type"))
    (xk_InvalidText : PySem.W.keepIn K (.ref C_InvalidText) = true)
    (fi_InvalidText : PySem.W.findIn K (.ref C_InvalidText) "__init__" = some (some (.ref a_InvalidText_init)))
    (xa_InvalidText : PySem.W.findIn K (.ref C_InvalidText) "__getattribute__" = some (some (.builtin "BaseException.__getattribute__")))
    (xg_InvalidText : PySem.W.findIn K (.ref C_InvalidText) "__getattr__" = some none)
    (xh_InvalidText : PySem.W.hasDictIn K C_InvalidText = true)
    (xn_InvalidText : PySem.W.findIn K (.ref C_InvalidText) "given" = some none)
    (x4_InvalidText : PySem.W.subIn K (.ref C_InvalidText) (.ref C_InvalidText) = some true)
    (ti_InvalidText_init : PySem.W.typeIn K (.ref a_InvalidText_init) = some (.type "function"))
    (l_InvalidText_init : K.lookup a_InvalidText_init = some ⟨oc_InvalidText_init, od_InvalidText_init, .func (PySem.W.fnOf "__init__" "InvalidText.__init__" (defArgs s_InvalidText_init) (defBody s_InvalidText_init) (defScope s_InvalidText_init) .none kv_InvalidText_init dc_InvalidText_init pm_InvalidText_init an_InvalidText_init cd_InvalidText_init ct_InvalidText_init), sl_InvalidText_init⟩)
    (c_InvalidText_init : PySem.W.codeIn K cd_InvalidText_init "InvalidText.__init__" = true)
    (k_InvalidText_init : PySem.W.keepIn K (.ref a_InvalidText_init) = true)
    (e_InvalidName : PySem.W.nsIn K mainGlobals "InvalidName" = some (some (.ref C_InvalidName)))
    (xl_InvalidName : K.lookup C_InvalidName = some (PySem.excClassObj xnm_InvalidName xq_InvalidName C_InvalidName xN_InvalidName xbs_InvalidName (Xb.refs [B0_InvalidName] [.type "ValueError", .type "Exception", .type "BaseException", .type "object"]) true xsn_InvalidName xsub_InvalidName xab_InvalidName xcol_InvalidName xdd_InvalidName xk0_InvalidName xk1_InvalidName xk2_InvalidName xk3_InvalidName xk5_InvalidName "ValueError.__new__"))
    (xs_InvalidName : PySem.W.findIn K (.ref C_InvalidName) "__setattr__" = some (some (.builtin "object.__setattr__")))
    (xe_InvalidName : PySem.W.subIn K (.ref C_InvalidName) (.type "BaseException") = some true)
    (xt_InvalidName : PySem.W.typeIn K (.ref C_InvalidName) = some (.type "type"))
    (xk_InvalidName : PySem.W.keepIn K (.ref C_InvalidName) = true)
    (fi_InvalidName : PySem.W.findIn K (.ref C_InvalidName) "__init__" = some (some (.ref a_InvalidName_init)))
    (xa_InvalidName : PySem.W.findIn K (.ref C_InvalidName) "__getattribute__" = some (some (.builtin "BaseException.__getattribute__")))
    (xg_InvalidName : PySem.W.findIn K (.ref C_InvalidName) "__getattr__" = some none)
    (xh_InvalidName : PySem.W.hasDictIn K C_InvalidName = true)
    (xn_InvalidName : PySem.W.findIn K (.ref C_InvalidName) "given" = some none)
    (x4_InvalidName : PySem.W.subIn K (.ref C_InvalidName) (.ref C_InvalidName) = some true)
    (ti_InvalidName_init : PySem.W.typeIn K (.ref a_InvalidName_init) = some (.type "function"))
    (l_InvalidName_init : K.lookup a_InvalidName_init = some ⟨oc_InvalidName_init, od_InvalidName_init, .func (PySem.W.fnOf "__init__" "InvalidName.__init__" (defArgs s_InvalidName_init) (defBody s_InvalidName_init) (defScope s_InvalidName_init) .none kv_InvalidName_init dc_InvalidName_init pm_InvalidName_init an_InvalidName_init cd_InvalidName_init ct_InvalidName_init), sl_InvalidName_init⟩)
    (c_InvalidName_init : PySem.W.codeIn K cd_InvalidName_init "InvalidName.__init__" = true)
    (k_InvalidName_init : PySem.W.keepIn K (.ref a_InvalidName_init) = true)
    (e_InvalidIndex : PySem.W.nsIn K mainGlobals "InvalidIndex" = some (some (.ref C_InvalidIndex)))
    (xl_InvalidIndex : K.lookup C_InvalidIndex = some (PySem.excClassObj xnm_InvalidIndex xq_InvalidIndex C_InvalidIndex xN_InvalidIndex xbs_InvalidIndex (Xb.refs [B0_InvalidIndex] [.type "ValueError", .type "Exception", .type "BaseException", .type "object"]) true xsn_InvalidIndex xsub_InvalidIndex xab_InvalidIndex xcol_InvalidIndex xdd_InvalidIndex xk0_InvalidIndex xk1_InvalidIndex xk2_InvalidIndex xk3_InvalidIndex xk5_InvalidIndex "ValueError.__new__"))
    (xs_InvalidIndex : PySem.W.findIn K (.ref C_InvalidIndex) "__setattr__" = some (some (.builtin "object.__setattr__")))
    (xe_InvalidIndex : PySem.W.subIn K (.ref C_InvalidIndex) (.type "BaseException") = some true)
    (xt_InvalidIndex : PySem.W.typeIn K (.ref C_InvalidIndex) = some (.type "type"))
    (xk_InvalidIndex : PySem.W.keepIn K (.ref C_InvalidIndex) = true)
    (fi_InvalidIndex : PySem.W.findIn K (.ref C_InvalidIndex) "__init__" = some (some (.ref a_InvalidIndex_init)))
    (xa_InvalidIndex : PySem.W.findIn K (.ref C_InvalidIndex) "__getattribute__" = some (some (.builtin "BaseException.__getattribute__")))
    (xg_InvalidIndex : PySem.W.findIn K (.ref C_InvalidIndex) "__getattr__" = some none)
    (xh_InvalidIndex : PySem.W.hasDictIn K C_InvalidIndex = true)
    (xn_InvalidIndex : PySem.W.findIn K (.ref C_InvalidIndex) "given" = some none)
    (x4_InvalidIndex : PySem.W.subIn K (.ref C_InvalidIndex) (.ref C_InvalidIndex) = some true)
    (ti_InvalidIndex_init : PySem.W.typeIn K (.ref a_InvalidIndex_init) = some (.type "function"))
    (l_InvalidIndex_init : K.lookup a_InvalidIndex_init = some ⟨oc_InvalidIndex_init, od_InvalidIndex_init, .func (PySem.W.fnOf "__init__" "InvalidIndex.__init__" (defArgs s_InvalidIndex_init) (defBody s_InvalidIndex_init) (defScope s_InvalidIndex_init) .none kv_InvalidIndex_init dc_InvalidIndex_init pm_InvalidIndex_init an_InvalidIndex_init cd_InvalidIndex_init ct_InvalidIndex_init), sl_InvalidIndex_init⟩)
    (c_InvalidIndex_init : PySem.W.codeIn K cd_InvalidIndex_init "InvalidIndex.__init__" = true)
    (k_InvalidIndex_init : PySem.W.keepIn K (.ref a_InvalidIndex_init) = true)
    (e_InvalidLevels : PySem.W.nsIn K mainGlobals "InvalidLevels" = some (some (.ref C_InvalidLevels)))
    (xl_InvalidLevels : K.lookup C_InvalidLevels = some (PySem.excClassObj xnm_InvalidLevels xq_InvalidLevels C_InvalidLevels xN_InvalidLevels xbs_InvalidLevels (Xb.refs [B0_InvalidLevels] [.type "ValueError", .type "Exception", .type "BaseException", .type "object"]) true xsn_InvalidLevels xsub_InvalidLevels xab_InvalidLevels xcol_InvalidLevels xdd_InvalidLevels xk0_InvalidLevels xk1_InvalidLevels xk2_InvalidLevels xk3_InvalidLevels xk5_InvalidLevels "ValueError.__new__"))
    (xs_InvalidLevels : PySem.W.findIn K (.ref C_InvalidLevels) "__setattr__" = some (some (.builtin "object.__setattr__")))
    (xe_InvalidLevels : PySem.W.subIn K (.ref C_InvalidLevels) (.type "BaseException") = some true)
    (xt_InvalidLevels : PySem.W.typeIn K (.ref C_InvalidLevels) = some (.type "type"))
    (xk_InvalidLevels : PySem.W.keepIn K (.ref C_InvalidLevels) = true)
    (fi_InvalidLevels : PySem.W.findIn K (.ref C_InvalidLevels) "__init__" = some (some (.ref a_InvalidLevels_init)))
    (xa_InvalidLevels : PySem.W.findIn K (.ref C_InvalidLevels) "__getattribute__" = some (some (.builtin "BaseException.__getattribute__")))
    (xg_InvalidLevels : PySem.W.findIn K (.ref C_InvalidLevels) "__getattr__" = some none)
    (xh_InvalidLevels : PySem.W.hasDictIn K C_InvalidLevels = true)
    (xn_InvalidLevels : PySem.W.findIn K (.ref C_InvalidLevels) "given" = some none)
    (x4_InvalidLevels : PySem.W.subIn K (.ref C_InvalidLevels) (.ref C_InvalidLevels) = some true)
    (ti_InvalidLevels_init : PySem.W.typeIn K (.ref a_InvalidLevels_init) = some (.type "function"))
    (l_InvalidLevels_init : K.lookup a_InvalidLevels_init = some ⟨oc_InvalidLevels_init, od_InvalidLevels_init, .func (PySem.W.fnOf "__init__" "InvalidLevels.__init__" (defArgs s_InvalidLevels_init) (defBody s_InvalidLevels_init) (defScope s_InvalidLevels_init) .none kv_InvalidLevels_init dc_InvalidLevels_init pm_InvalidLevels_init an_InvalidLevels_init cd_InvalidLevels_init ct_InvalidLevels_init), sl_InvalidLevels_init⟩)
    (c_InvalidLevels_init : PySem.W.codeIn K cd_InvalidLevels_init "InvalidLevels.__init__" = true)
    (k_InvalidLevels_init : PySem.W.keepIn K (.ref a_InvalidLevels_init) = true)
    (e_InvalidNumber : PySem.W.nsIn K mainGlobals "InvalidNumber" = some (some (.ref C_InvalidNumber)))
    (xl_InvalidNumber : K.lookup C_InvalidNumber = some (PySem.excClassObj xnm_InvalidNumber xq_InvalidNumber C_InvalidNumber xN_InvalidNumber xbs_InvalidNumber (Xb.refs [B0_InvalidNumber] [.type "ValueError", .type "Exception", .type "BaseException", .type "object"]) true xsn_InvalidNumber xsub_InvalidNumber xab_InvalidNumber xcol_InvalidNumber xdd_InvalidNumber xk0_InvalidNumber xk1_InvalidNumber xk2_InvalidNumber xk3_InvalidNumber xk5_InvalidNumber "ValueError.__new__"))
    (xs_InvalidNumber : PySem.W.findIn K (.ref C_InvalidNumber) "__setattr__" = some (some (.builtin "object.__setattr__")))
    (xe_InvalidNumber : PySem.W.subIn K (.ref C_InvalidNumber) (.type "BaseException") = some true)
    (xt_InvalidNumber : PySem.W.typeIn K (.ref C_InvalidNumber) = some (.type "type"))
    (xk_InvalidNumber : PySem.W.keepIn K (.ref C_InvalidNumber) = true)
    (fi_InvalidNumber : PySem.W.findIn K (.ref C_InvalidNumber) "__init__" = some (some (.ref a_InvalidNumber_init)))
    (xa_InvalidNumber : PySem.W.findIn K (.ref C_InvalidNumber) "__getattribute__" = some (some (.builtin "BaseException.__getattribute__")))
    (xg_InvalidNumber : PySem.W.findIn K (.ref C_InvalidNumber) "__getattr__" = some none)
    (xh_InvalidNumber : PySem.W.hasDictIn K C_InvalidNumber = true)
    (xn_InvalidNumber : PySem.W.findIn K (.ref C_InvalidNumber) "given" = some none)
    (x4_InvalidNumber : PySem.W.subIn K (.ref C_InvalidNumber) (.ref C_InvalidNumber) = some true)
    (ti_InvalidNumber_init : PySem.W.typeIn K (.ref a_InvalidNumber_init) = some (.type "function"))
    (l_InvalidNumber_init : K.lookup a_InvalidNumber_init = some ⟨oc_InvalidNumber_init, od_InvalidNumber_init, .func (PySem.W.fnOf "__init__" "InvalidNumber.__init__" (defArgs s_InvalidNumber_init) (defBody s_InvalidNumber_init) (defScope s_InvalidNumber_init) .none kv_InvalidNumber_init dc_InvalidNumber_init pm_InvalidNumber_init an_InvalidNumber_init cd_InvalidNumber_init ct_InvalidNumber_init), sl_InvalidNumber_init⟩)
    (c_InvalidNumber_init : PySem.W.codeIn K cd_InvalidNumber_init "InvalidNumber.__init__" = true)
    (k_InvalidNumber_init : PySem.W.keepIn K (.ref a_InvalidNumber_init) = true)
    (e_InvalidWish : PySem.W.nsIn K mainGlobals "InvalidWish" = some (some (.ref C_InvalidWish)))
    (xl_InvalidWish : K.lookup C_InvalidWish = some (PySem.excClassObj xnm_InvalidWish xq_InvalidWish C_InvalidWish xN_InvalidWish xbs_InvalidWish (Xb.refs [B0_InvalidWish] [.type "ValueError", .type "Exception", .type "BaseException", .type "object"]) true xsn_InvalidWish xsub_InvalidWish xab_InvalidWish xcol_InvalidWish xdd_InvalidWish xk0_InvalidWish xk1_InvalidWish xk2_InvalidWish xk3_InvalidWish xk5_InvalidWish "ValueError.__new__"))
    (xs_InvalidWish : PySem.W.findIn K (.ref C_InvalidWish) "__setattr__" = some (some (.builtin "object.__setattr__")))
    (xe_InvalidWish : PySem.W.subIn K (.ref C_InvalidWish) (.type "BaseException") = some true)
    (xt_InvalidWish : PySem.W.typeIn K (.ref C_InvalidWish) = some (.type "type"))
    (xk_InvalidWish : PySem.W.keepIn K (.ref C_InvalidWish) = true)
    (fi_InvalidWish : PySem.W.findIn K (.ref C_InvalidWish) "__init__" = some (some (.ref a_InvalidWish_init)))
    (xa_InvalidWish : PySem.W.findIn K (.ref C_InvalidWish) "__getattribute__" = some (some (.builtin "BaseException.__getattribute__")))
    (xg_InvalidWish : PySem.W.findIn K (.ref C_InvalidWish) "__getattr__" = some none)
    (xh_InvalidWish : PySem.W.hasDictIn K C_InvalidWish = true)
    (xn_InvalidWish : PySem.W.findIn K (.ref C_InvalidWish) "given" = some none)
    (x4_InvalidWish : PySem.W.subIn K (.ref C_InvalidWish) (.ref C_InvalidWish) = some true)
    (ti_InvalidWish_init : PySem.W.typeIn K (.ref a_InvalidWish_init) = some (.type "function"))
    (l_InvalidWish_init : K.lookup a_InvalidWish_init = some ⟨oc_InvalidWish_init, od_InvalidWish_init, .func (PySem.W.fnOf "__init__" "InvalidWish.__init__" (defArgs s_InvalidWish_init) (defBody s_InvalidWish_init) (defScope s_InvalidWish_init) .none kv_InvalidWish_init dc_InvalidWish_init pm_InvalidWish_init an_InvalidWish_init cd_InvalidWish_init ct_InvalidWish_init), sl_InvalidWish_init⟩)
    (c_InvalidWish_init : PySem.W.codeIn K cd_InvalidWish_init "InvalidWish.__init__" = true)
    (k_InvalidWish_init : PySem.W.keepIn K (.ref a_InvalidWish_init) = true)
    (e_NotRound : PySem.W.nsIn K mainGlobals "NotRound" = some (some (.ref C_NotRound)))
    (xl_NotRound : K.lookup C_NotRound = some (PySem.excClassObj xnm_NotRound xq_NotRound C_NotRound xN_NotRound xbs_NotRound (Xb.refs [B0_NotRound] [.type "ValueError", .type "Exception", .type "BaseException", .type "object"]) true xsn_NotRound xsub_NotRound xab_NotRound xcol_NotRound xdd_NotRound xk0_NotRound xk1_NotRound xk2_NotRound xk3_NotRound xk5_NotRound "ValueError.__new__"))
    (xs_NotRound : PySem.W.findIn K (.ref C_NotRound) "__setattr__" = some (some (.builtin "object.__setattr__")))
    (xe_NotRound : PySem.W.subIn K (.ref C_NotRound) (.type "BaseException") = some true)
    (xt_NotRound : PySem.W.typeIn K (.ref C_NotRound) = some (.type "type"))
    (xk_NotRound : PySem.W.keepIn K (.ref C_NotRound) = true)
    (fi_NotRound : PySem.W.findIn K (.ref C_NotRound) "__init__" = some (some (.ref a_NotRound_init)))
    (xa_NotRound : PySem.W.findIn K (.ref C_NotRound) "__getattribute__" = some (some (.builtin "BaseException.__getattribute__")))
    (xg_NotRound : PySem.W.findIn K (.ref C_NotRound) "__getattr__" = some none)
    (xh_NotRound : PySem.W.hasDictIn K C_NotRound = true)
    (xn_NotRound : PySem.W.findIn K (.ref C_NotRound) "given" = some none)
    (x4_NotRound : PySem.W.subIn K (.ref C_NotRound) (.ref C_NotRound) = some true)
    (ti_NotRound_init : PySem.W.typeIn K (.ref a_NotRound_init) = some (.type "function"))
    (l_NotRound_init : K.lookup a_NotRound_init = some ⟨oc_NotRound_init, od_NotRound_init, .func (PySem.W.fnOf "__init__" "NotRound.__init__" (defArgs s_NotRound_init) (defBody s_NotRound_init) (defScope s_NotRound_init) .none kv_NotRound_init dc_NotRound_init pm_NotRound_init an_NotRound_init cd_NotRound_init ct_NotRound_init), sl_NotRound_init⟩)
    (c_NotRound_init : PySem.W.codeIn K cd_NotRound_init "NotRound.__init__" = true)
    (k_NotRound_init : PySem.W.keepIn K (.ref a_NotRound_init) = true)
    (e_NotLot : PySem.W.nsIn K mainGlobals "NotLot" = some (some (.ref C_NotLot)))
    (xl_NotLot : K.lookup C_NotLot = some (PySem.excClassObj xnm_NotLot xq_NotLot C_NotLot xN_NotLot xbs_NotLot (Xb.refs [B0_NotLot] [.type "ValueError", .type "Exception", .type "BaseException", .type "object"]) true xsn_NotLot xsub_NotLot xab_NotLot xcol_NotLot xdd_NotLot xk0_NotLot xk1_NotLot xk2_NotLot xk3_NotLot xk5_NotLot "ValueError.__new__"))
    (xs_NotLot : PySem.W.findIn K (.ref C_NotLot) "__setattr__" = some (some (.builtin "object.__setattr__")))
    (xe_NotLot : PySem.W.subIn K (.ref C_NotLot) (.type "BaseException") = some true)
    (xt_NotLot : PySem.W.typeIn K (.ref C_NotLot) = some (.type "type"))
    (xk_NotLot : PySem.W.keepIn K (.ref C_NotLot) = true)
    (fi_NotLot : PySem.W.findIn K (.ref C_NotLot) "__init__" = some (some (.ref a_NotLot_init)))
    (xa_NotLot : PySem.W.findIn K (.ref C_NotLot) "__getattribute__" = some (some (.builtin "BaseException.__getattribute__")))
    (xg_NotLot : PySem.W.findIn K (.ref C_NotLot) "__getattr__" = some none)
    (xh_NotLot : PySem.W.hasDictIn K C_NotLot = true)
    (xn_NotLot : PySem.W.findIn K (.ref C_NotLot) "given" = some none)
    (x4_NotLot : PySem.W.subIn K (.ref C_NotLot) (.ref C_NotLot) = some true)
    (ti_NotLot_init : PySem.W.typeIn K (.ref a_NotLot_init) = some (.type "function"))
    (l_NotLot_init : K.lookup a_NotLot_init = some ⟨oc_NotLot_init, od_NotLot_init, .func (PySem.W.fnOf "__init__" "NotLot.__init__" (defArgs s_NotLot_init) (defBody s_NotLot_init) (defScope s_NotLot_init) .none kv_NotLot_init dc_NotLot_init pm_NotLot_init an_NotLot_init cd_NotLot_init ct_NotLot_init), sl_NotLot_init⟩)
    (c_NotLot_init : PySem.W.codeIn K cd_NotLot_init "NotLot.__init__" = true)
    (k_NotLot_init : PySem.W.keepIn K (.ref a_NotLot_init) = true)
    (e_InvalidLamps : PySem.W.nsIn K mainGlobals "InvalidLamps" = some (some (.ref C_InvalidLamps)))
    (xl_InvalidLamps : K.lookup C_InvalidLamps = some (PySem.excClassObj xnm_InvalidLamps xq_InvalidLamps C_InvalidLamps xN_InvalidLamps xbs_InvalidLamps (Xb.refs [B0_InvalidLamps] [.type "ValueError", .type "Exception", .type "BaseException", .type "object"]) true xsn_InvalidLamps xsub_InvalidLamps xab_InvalidLamps xcol_InvalidLamps xdd_InvalidLamps xk0_InvalidLamps xk1_InvalidLamps xk2_InvalidLamps xk3_InvalidLamps xk5_InvalidLamps "ValueError.__new__"))
    (xs_InvalidLamps : PySem.W.findIn K (.ref C_InvalidLamps) "__setattr__" = some (some (.builtin "object.__setattr__")))
    (xe_InvalidLamps : PySem.W.subIn K (.ref C_InvalidLamps) (.type "BaseException") = some true)
    (xt_InvalidLamps : PySem.W.typeIn K (.ref C_InvalidLamps) = some (.type "type"))
    (xk_InvalidLamps : PySem.W.keepIn K (.ref C_InvalidLamps) = true)
    (fi_InvalidLamps : PySem.W.findIn K (.ref C_InvalidLamps) "__init__" = some (some (.ref a_InvalidLamps_init)))
    (xa_InvalidLamps : PySem.W.findIn K (.ref C_InvalidLamps) "__getattribute__" = some (some (.builtin "BaseException.__getattribute__")))
    (xg_InvalidLamps : PySem.W.findIn K (.ref C_InvalidLamps) "__getattr__" = some none)
    (xh_InvalidLamps : PySem.W.hasDictIn K C_InvalidLamps = true)
    (xn_InvalidLamps : PySem.W.findIn K (.ref C_InvalidLamps) "index" = some none)
    (x4_InvalidLamps : PySem.W.subIn K (.ref C_InvalidLamps) (.ref C_InvalidLamps) = some true)
    (ti_InvalidLamps_init : PySem.W.typeIn K (.ref a_InvalidLamps_init) = some (.type "function"))
    (l_InvalidLamps_init : K.lookup a_InvalidLamps_init = some ⟨oc_InvalidLamps_init, od_InvalidLamps_init, .func (PySem.W.fnOf "__init__" "InvalidLamps.__init__" (defArgs s_InvalidLamps_init) (defBody s_InvalidLamps_init) (defScope s_InvalidLamps_init) .none kv_InvalidLamps_init dc_InvalidLamps_init pm_InvalidLamps_init an_InvalidLamps_init cd_InvalidLamps_init ct_InvalidLamps_init), sl_InvalidLamps_init⟩)
    (c_InvalidLamps_init : PySem.W.codeIn K cd_InvalidLamps_init "InvalidLamps.__init__" = true)
    (k_InvalidLamps_init : PySem.W.keepIn K (.ref a_InvalidLamps_init) = true)
    (e_InvalidRounds : PySem.W.nsIn K mainGlobals "InvalidRounds" = some (some (.ref C_InvalidRounds)))
    (xl_InvalidRounds : K.lookup C_InvalidRounds = some (PySem.excClassObj xnm_InvalidRounds xq_InvalidRounds C_InvalidRounds xN_InvalidRounds xbs_InvalidRounds (Xb.refs [B0_InvalidRounds] [.type "ValueError", .type "Exception", .type "BaseException", .type "object"]) true xsn_InvalidRounds xsub_InvalidRounds xab_InvalidRounds xcol_InvalidRounds xdd_InvalidRounds xk0_InvalidRounds xk1_InvalidRounds xk2_InvalidRounds xk3_InvalidRounds xk5_InvalidRounds "ValueError.__new__"))
    (xs_InvalidRounds : PySem.W.findIn K (.ref C_InvalidRounds) "__setattr__" = some (some (.builtin "object.__setattr__")))
    (xe_InvalidRounds : PySem.W.subIn K (.ref C_InvalidRounds) (.type "BaseException") = some true)
    (xt_InvalidRounds : PySem.W.typeIn K (.ref C_InvalidRounds) = some (.type "type"))
    (xk_InvalidRounds : PySem.W.keepIn K (.ref C_InvalidRounds) = true)
    (fi_InvalidRounds : PySem.W.findIn K (.ref C_InvalidRounds) "__init__" = some (some (.ref a_InvalidRounds_init)))
    (xa_InvalidRounds : PySem.W.findIn K (.ref C_InvalidRounds) "__getattribute__" = some (some (.builtin "BaseException.__getattribute__")))
    (xg_InvalidRounds : PySem.W.findIn K (.ref C_InvalidRounds) "__getattr__" = some none)
    (xh_InvalidRounds : PySem.W.hasDictIn K C_InvalidRounds = true)
    (xn_InvalidRounds : PySem.W.findIn K (.ref C_InvalidRounds) "index" = some none)
    (x4_InvalidRounds : PySem.W.subIn K (.ref C_InvalidRounds) (.ref C_InvalidRounds) = some true)
    (ti_InvalidRounds_init : PySem.W.typeIn K (.ref a_InvalidRounds_init) = some (.type "function"))
    (l_InvalidRounds_init : K.lookup a_InvalidRounds_init = some ⟨oc_InvalidRounds_init, od_InvalidRounds_init, .func (PySem.W.fnOf "__init__" "InvalidRounds.__init__" (defArgs s_InvalidRounds_init) (defBody s_InvalidRounds_init) (defScope s_InvalidRounds_init) .none kv_InvalidRounds_init dc_InvalidRounds_init pm_InvalidRounds_init an_InvalidRounds_init cd_InvalidRounds_init ct_InvalidRounds_init), sl_InvalidRounds_init⟩)
    (c_InvalidRounds_init : PySem.W.codeIn K cd_InvalidRounds_init "InvalidRounds.__init__" = true)
    (k_InvalidRounds_init : PySem.W.keepIn K (.ref a_InvalidRounds_init) = true)
    (e_InvalidSteps : PySem.W.nsIn K mainGlobals "InvalidSteps" = some (some (.ref C_InvalidSteps)))
    (xl_InvalidSteps : K.lookup C_InvalidSteps = some (PySem.excClassObj xnm_InvalidSteps xq_InvalidSteps C_InvalidSteps xN_InvalidSteps xbs_InvalidSteps (Xb.refs [B0_InvalidSteps] [.type "ValueError", .type "Exception", .type "BaseException", .type "object"]) true xsn_InvalidSteps xsub_InvalidSteps xab_InvalidSteps xcol_InvalidSteps xdd_InvalidSteps xk0_InvalidSteps xk1_InvalidSteps xk2_InvalidSteps xk3_InvalidSteps xk5_InvalidSteps "ValueError.__new__"))
    (xs_InvalidSteps : PySem.W.findIn K (.ref C_InvalidSteps) "__setattr__" = some (some (.builtin "object.__setattr__")))
    (xe_InvalidSteps : PySem.W.subIn K (.ref C_InvalidSteps) (.type "BaseException") = some true)
    (xt_InvalidSteps : PySem.W.typeIn K (.ref C_InvalidSteps) = some (.type "type"))
    (xk_InvalidSteps : PySem.W.keepIn K (.ref C_InvalidSteps) = true)
    (fi_InvalidSteps : PySem.W.findIn K (.ref C_InvalidSteps) "__init__" = some (some (.ref a_InvalidSteps_init)))
    (xa_InvalidSteps : PySem.W.findIn K (.ref C_InvalidSteps) "__getattribute__" = some (some (.builtin "BaseException.__getattribute__")))
    (xg_InvalidSteps : PySem.W.findIn K (.ref C_InvalidSteps) "__getattr__" = some none)
    (xh_InvalidSteps : PySem.W.hasDictIn K C_InvalidSteps = true)
    (xn_InvalidSteps : PySem.W.findIn K (.ref C_InvalidSteps) "index" = some none)
    (x4_InvalidSteps : PySem.W.subIn K (.ref C_InvalidSteps) (.ref C_InvalidSteps) = some true)
    (ti_InvalidSteps_init : PySem.W.typeIn K (.ref a_InvalidSteps_init) = some (.type "function"))
    (l_InvalidSteps_init : K.lookup a_InvalidSteps_init = some ⟨oc_InvalidSteps_init, od_InvalidSteps_init, .func (PySem.W.fnOf "__init__" "InvalidSteps.__init__" (defArgs s_InvalidSteps_init) (defBody s_InvalidSteps_init) (defScope s_InvalidSteps_init) .none kv_InvalidSteps_init dc_InvalidSteps_init pm_InvalidSteps_init an_InvalidSteps_init cd_InvalidSteps_init ct_InvalidSteps_init), sl_InvalidSteps_init⟩)
    (c_InvalidSteps_init : PySem.W.codeIn K cd_InvalidSteps_init "InvalidSteps.__init__" = true)
    (k_InvalidSteps_init : PySem.W.keepIn K (.ref a_InvalidSteps_init) = true)
    (e_InvalidPlan : PySem.W.nsIn K mainGlobals "InvalidPlan" = some (some (.ref C_InvalidPlan)))
    (xl_InvalidPlan : K.lookup C_InvalidPlan = some (PySem.excClassObj xnm_InvalidPlan xq_InvalidPlan C_InvalidPlan xN_InvalidPlan xbs_InvalidPlan (Xb.refs [B0_InvalidPlan] [.type "ValueError", .type "Exception", .type "BaseException", .type "object"]) true xsn_InvalidPlan xsub_InvalidPlan xab_InvalidPlan xcol_InvalidPlan xdd_InvalidPlan xk0_InvalidPlan xk1_InvalidPlan xk2_InvalidPlan xk3_InvalidPlan xk5_InvalidPlan "ValueError.__new__"))
    (xs_InvalidPlan : PySem.W.findIn K (.ref C_InvalidPlan) "__setattr__" = some (some (.builtin "object.__setattr__")))
    (xe_InvalidPlan : PySem.W.subIn K (.ref C_InvalidPlan) (.type "BaseException") = some true)
    (xt_InvalidPlan : PySem.W.typeIn K (.ref C_InvalidPlan) = some (.type "type"))
    (xk_InvalidPlan : PySem.W.keepIn K (.ref C_InvalidPlan) = true)
    (fi_InvalidPlan : PySem.W.findIn K (.ref C_InvalidPlan) "__init__" = some (some (.ref a_InvalidPlan_init)))
    (xa_InvalidPlan : PySem.W.findIn K (.ref C_InvalidPlan) "__getattribute__" = some (some (.builtin "BaseException.__getattribute__")))
    (xg_InvalidPlan : PySem.W.findIn K (.ref C_InvalidPlan) "__getattr__" = some none)
    (xh_InvalidPlan : PySem.W.hasDictIn K C_InvalidPlan = true)
    (xn_InvalidPlan : PySem.W.findIn K (.ref C_InvalidPlan) "index" = some none)
    (x4_InvalidPlan : PySem.W.subIn K (.ref C_InvalidPlan) (.ref C_InvalidPlan) = some true)
    (ti_InvalidPlan_init : PySem.W.typeIn K (.ref a_InvalidPlan_init) = some (.type "function"))
    (l_InvalidPlan_init : K.lookup a_InvalidPlan_init = some ⟨oc_InvalidPlan_init, od_InvalidPlan_init, .func (PySem.W.fnOf "__init__" "InvalidPlan.__init__" (defArgs s_InvalidPlan_init) (defBody s_InvalidPlan_init) (defScope s_InvalidPlan_init) .none kv_InvalidPlan_init dc_InvalidPlan_init pm_InvalidPlan_init an_InvalidPlan_init cd_InvalidPlan_init ct_InvalidPlan_init), sl_InvalidPlan_init⟩)
    (c_InvalidPlan_init : PySem.W.codeIn K cd_InvalidPlan_init "InvalidPlan.__init__" = true)
    (k_InvalidPlan_init : PySem.W.keepIn K (.ref a_InvalidPlan_init) = true)
    (e_InvalidChanges : PySem.W.nsIn K mainGlobals "InvalidChanges" = some (some (.ref C_InvalidChanges)))
    (xl_InvalidChanges : K.lookup C_InvalidChanges = some (PySem.excClassObj xnm_InvalidChanges xq_InvalidChanges C_InvalidChanges xN_InvalidChanges xbs_InvalidChanges (Xb.refs [B0_InvalidChanges] [.type "ValueError", .type "Exception", .type "BaseException", .type "object"]) true xsn_InvalidChanges xsub_InvalidChanges xab_InvalidChanges xcol_InvalidChanges xdd_InvalidChanges xk0_InvalidChanges xk1_InvalidChanges xk2_InvalidChanges xk3_InvalidChanges xk5_InvalidChanges "ValueError.__new__"))
    (xs_InvalidChanges : PySem.W.findIn K (.ref C_InvalidChanges) "__setattr__" = some (some (.builtin "object.__setattr__")))
    (xe_InvalidChanges : PySem.W.subIn K (.ref C_InvalidChanges) (.type "BaseException") = some true)
    (xt_InvalidChanges : PySem.W.typeIn K (.ref C_InvalidChanges) = some (.type "type"))
    (xk_InvalidChanges : PySem.W.keepIn K (.ref C_InvalidChanges) = true)
    (fi_InvalidChanges : PySem.W.findIn K (.ref C_InvalidChanges) "__init__" = some (some (.ref a_InvalidChanges_init)))
    (xa_InvalidChanges : PySem.W.findIn K (.ref C_InvalidChanges) "__getattribute__" = some (some (.builtin "BaseException.__getattribute__")))
    (xg_InvalidChanges : PySem.W.findIn K (.ref C_InvalidChanges) "__getattr__" = some none)
    (xh_InvalidChanges : PySem.W.hasDictIn K C_InvalidChanges = true)
    (xn_InvalidChanges : PySem.W.findIn K (.ref C_InvalidChanges) "index" = some none)
    (x4_InvalidChanges : PySem.W.subIn K (.ref C_InvalidChanges) (.ref C_InvalidChanges) = some true)
    (ti_InvalidChanges_init : PySem.W.typeIn K (.ref a_InvalidChanges_init) = some (.type "function"))
    (l_InvalidChanges_init : K.lookup a_InvalidChanges_init = some ⟨oc_InvalidChanges_init, od_InvalidChanges_init, .func (PySem.W.fnOf "__init__" "InvalidChanges.__init__" (defArgs s_InvalidChanges_init) (defBody s_InvalidChanges_init) (defScope s_InvalidChanges_init) .none kv_InvalidChanges_init dc_InvalidChanges_init pm_InvalidChanges_init an_InvalidChanges_init cd_InvalidChanges_init ct_InvalidChanges_init), sl_InvalidChanges_init⟩)
    (c_InvalidChanges_init : PySem.W.codeIn K cd_InvalidChanges_init "InvalidChanges.__init__" = true)
    (k_InvalidChanges_init : PySem.W.keepIn K (.ref a_InvalidChanges_init) = true)
    (e_InvalidWishes : PySem.W.nsIn K mainGlobals "InvalidWishes" = some (some (.ref C_InvalidWishes)))
    (xl_InvalidWishes : K.lookup C_InvalidWishes = some (PySem.excClassObj xnm_InvalidWishes xq_InvalidWishes C_InvalidWishes xN_InvalidWishes xbs_InvalidWishes (Xb.refs [B0_InvalidWishes] [.type "ValueError", .type "Exception", .type "BaseException", .type "object"]) true xsn_InvalidWishes xsub_InvalidWishes xab_InvalidWishes xcol_InvalidWishes xdd_InvalidWishes xk0_InvalidWishes xk1_InvalidWishes xk2_InvalidWishes xk3_InvalidWishes xk5_InvalidWishes "ValueError.__new__"))
    (xs_InvalidWishes : PySem.W.findIn K (.ref C_InvalidWishes) "__setattr__" = some (some (.builtin "object.__setattr__")))
    (xe_InvalidWishes : PySem.W.subIn K (.ref C_InvalidWishes) (.type "BaseException") = some true)
    (xt_InvalidWishes : PySem.W.typeIn K (.ref C_InvalidWishes) = some (.type "type"))
    (xk_InvalidWishes : PySem.W.keepIn K (.ref C_InvalidWishes) = true)
    (fi_InvalidWishes : PySem.W.findIn K (.ref C_InvalidWishes) "__init__" = some (some (.ref a_InvalidWishes_init)))
    (xa_InvalidWishes : PySem.W.findIn K (.ref C_InvalidWishes) "__getattribute__" = some (some (.builtin "BaseException.__getattribute__")))
    (xg_InvalidWishes : PySem.W.findIn K (.ref C_InvalidWishes) "__getattr__" = some none)
    (xh_InvalidWishes : PySem.W.hasDictIn K C_InvalidWishes = true)
    (xn_InvalidWishes : PySem.W.findIn K (.ref C_InvalidWishes) "index" = some none)
    (x4_InvalidWishes : PySem.W.subIn K (.ref C_InvalidWishes) (.ref C_InvalidWishes) = some true)
    (ti_InvalidWishes_init : PySem.W.typeIn K (.ref a_InvalidWishes_init) = some (.type "function"))
    (l_InvalidWishes_init : K.lookup a_InvalidWishes_init = some ⟨oc_InvalidWishes_init, od_InvalidWishes_init, .func (PySem.W.fnOf "__init__" "InvalidWishes.__init__" (defArgs s_InvalidWishes_init) (defBody s_InvalidWishes_init) (defScope s_InvalidWishes_init) .none kv_InvalidWishes_init dc_InvalidWishes_init pm_InvalidWishes_init an_InvalidWishes_init cd_InvalidWishes_init ct_InvalidWishes_init), sl_InvalidWishes_init⟩)
    (c_InvalidWishes_init : PySem.W.codeIn K cd_InvalidWishes_init "InvalidWishes.__init__" = true)
    (k_InvalidWishes_init : PySem.W.keepIn K (.ref a_InvalidWishes_init) = true)
    (e_UnknownName : PySem.W.nsIn K mainGlobals "UnknownName" = some (some (.ref C_UnknownName)))
    (xl_UnknownName : K.lookup C_UnknownName = some (PySem.excClassObj xnm_UnknownName xq_UnknownName C_UnknownName xN_UnknownName xbs_UnknownName (Xb.refs [B0_UnknownName] [.type "LookupError", .type "Exception", .type "BaseException", .type "object"]) true xsn_UnknownName xsub_UnknownName xab_UnknownName xcol_UnknownName xdd_UnknownName xk0_UnknownName xk1_UnknownName xk2_UnknownName xk3_UnknownName xk5_UnknownName "LookupError.__new__"))
    (xs_UnknownName : PySem.W.findIn K (.ref C_UnknownName) "__setattr__" = some (some (.builtin "object.__setattr__")))
    (xe_UnknownName : PySem.W.subIn K (.ref C_UnknownName) (.type "BaseException") = some true)
    (xt_UnknownName : PySem.W.typeIn K (.ref C_UnknownName) = some (.type "type"))
    (xk_UnknownName : PySem.W.keepIn K (.ref C_UnknownName) = true)
    (fi_UnknownName : PySem.W.findIn K (.ref C_UnknownName) "__init__" = some (some (.ref a_UnknownName_init)))
    (xa_UnknownName : PySem.W.findIn K (.ref C_UnknownName) "__getattribute__" = some (some (.builtin "BaseException.__getattribute__")))
    (xg_UnknownName : PySem.W.findIn K (.ref C_UnknownName) "__getattr__" = some none)
    (xh_UnknownName : PySem.W.hasDictIn K C_UnknownName = true)
    (xn_UnknownName : PySem.W.findIn K (.ref C_UnknownName) "given" = some none)
    (x4_UnknownName : PySem.W.subIn K (.ref C_UnknownName) (.ref C_UnknownName) = some true)
    (ti_UnknownName_init : PySem.W.typeIn K (.ref a_UnknownName_init) = some (.type "function"))
    (l_UnknownName_init : K.lookup a_UnknownName_init = some ⟨oc_UnknownName_init, od_UnknownName_init, .func (PySem.W.fnOf "__init__" "UnknownName.__init__" (defArgs s_UnknownName_init) (defBody s_UnknownName_init) (defScope s_UnknownName_init) .none kv_UnknownName_init dc_UnknownName_init pm_UnknownName_init an_UnknownName_init cd_UnknownName_init ct_UnknownName_init), sl_UnknownName_init⟩)
    (c_UnknownName_init : PySem.W.codeIn K cd_UnknownName_init "UnknownName.__init__" = true)
    (k_UnknownName_init : PySem.W.keepIn K (.ref a_UnknownName_init) = true)
    (e_InUse : PySem.W.nsIn K mainGlobals "InUse" = some (some (.ref C_InUse)))
    (xl_InUse : K.lookup C_InUse = some (PySem.excClassObj xnm_InUse xq_InUse C_InUse xN_InUse xbs_InUse (Xb.refs [B0_InUse] [.type "LookupError", .type "Exception", .type "BaseException", .type "object"]) true xsn_InUse xsub_InUse xab_InUse xcol_InUse xdd_InUse xk0_InUse xk1_InUse xk2_InUse xk3_InUse xk5_InUse "LookupError.__new__"))
    (xs_InUse : PySem.W.findIn K (.ref C_InUse) "__setattr__" = some (some (.builtin "object.__setattr__")))
    (xe_InUse : PySem.W.subIn K (.ref C_InUse) (.type "BaseException") = some true)
    (xt_InUse : PySem.W.typeIn K (.ref C_InUse) = some (.type "type"))
    (xk_InUse : PySem.W.keepIn K (.ref C_InUse) = true)
    (fi_InUse : PySem.W.findIn K (.ref C_InUse) "__init__" = some (some (.ref a_InUse_init)))
    (xa_InUse : PySem.W.findIn K (.ref C_InUse) "__getattribute__" = some (some (.builtin "BaseException.__getattribute__")))
    (xg_InUse : PySem.W.findIn K (.ref C_InUse) "__getattr__" = some none)
    (xh_InUse : PySem.W.hasDictIn K C_InUse = true)
    (xn_InUse : PySem.W.findIn K (.ref C_InUse) "index" = some none)
    (x4_InUse : PySem.W.subIn K (.ref C_InUse) (.ref C_InUse) = some true)
    (ti_InUse_init : PySem.W.typeIn K (.ref a_InUse_init) = some (.type "function"))
    (l_InUse_init : K.lookup a_InUse_init = some ⟨oc_InUse_init, od_InUse_init, .func (PySem.W.fnOf "__init__" "InUse.__init__" (defArgs s_InUse_init) (defBody s_InUse_init) (defScope s_InUse_init) .none kv_InUse_init dc_InUse_init pm_InUse_init an_InUse_init cd_InUse_init ct_InUse_init), sl_InUse_init⟩)
    (c_InUse_init : PySem.W.codeIn K cd_InUse_init "InUse.__init__" = true)
    (k_InUse_init : PySem.W.keepIn K (.ref a_InUse_init) = true)
    (e_OtherLevels : PySem.W.nsIn K mainGlobals "OtherLevels" = some (some (.ref C_OtherLevels)))
    (xl_OtherLevels : K.lookup C_OtherLevels = some (PySem.excClassObj xnm_OtherLevels xq_OtherLevels C_OtherLevels xN_OtherLevels xbs_OtherLevels (Xb.refs [B0_OtherLevels] [.type "ArithmeticError", .type "Exception", .type "BaseException", .type "object"]) true xsn_OtherLevels xsub_OtherLevels xab_OtherLevels xcol_OtherLevels xdd_OtherLevels xk0_OtherLevels xk1_OtherLevels xk2_OtherLevels xk3_OtherLevels xk5_OtherLevels "ArithmeticError.__new__"))
    (xs_OtherLevels : PySem.W.findIn K (.ref C_OtherLevels) "__setattr__" = some (some (.builtin "object.__setattr__")))
    (xe_OtherLevels : PySem.W.subIn K (.ref C_OtherLevels) (.type "BaseException") = some true)
    (xt_OtherLevels : PySem.W.typeIn K (.ref C_OtherLevels) = some (.type "type"))
    (xk_OtherLevels : PySem.W.keepIn K (.ref C_OtherLevels) = true)
    (fi_OtherLevels : PySem.W.findIn K (.ref C_OtherLevels) "__init__" = some (some (.ref a_OtherLevels_init)))
    (xa_OtherLevels : PySem.W.findIn K (.ref C_OtherLevels) "__getattribute__" = some (some (.builtin "BaseException.__getattribute__")))
    (xg_OtherLevels : PySem.W.findIn K (.ref C_OtherLevels) "__getattr__" = some none)
    (xh_OtherLevels : PySem.W.hasDictIn K C_OtherLevels = true)
    (xn_OtherLevels : PySem.W.findIn K (.ref C_OtherLevels) "given" = some none)
    (x4_OtherLevels : PySem.W.subIn K (.ref C_OtherLevels) (.ref C_OtherLevels) = some true)
    (ti_OtherLevels_init : PySem.W.typeIn K (.ref a_OtherLevels_init) = some (.type "function"))
    (l_OtherLevels_init : K.lookup a_OtherLevels_init = some ⟨oc_OtherLevels_init, od_OtherLevels_init, .func (PySem.W.fnOf "__init__" "OtherLevels.__init__" (defArgs s_OtherLevels_init) (defBody s_OtherLevels_init) (defScope s_OtherLevels_init) .none kv_OtherLevels_init dc_OtherLevels_init pm_OtherLevels_init an_OtherLevels_init cd_OtherLevels_init ct_OtherLevels_init), sl_OtherLevels_init⟩)
    (c_OtherLevels_init : PySem.W.codeIn K cd_OtherLevels_init "OtherLevels.__init__" = true)
    (k_OtherLevels_init : PySem.W.keepIn K (.ref a_OtherLevels_init) = true)
    (e_TooMany : PySem.W.nsIn K mainGlobals "TooMany" = some (some (.ref C_TooMany)))
    (xl_TooMany : K.lookup C_TooMany = some (PySem.excClassObj xnm_TooMany xq_TooMany C_TooMany xN_TooMany xbs_TooMany (Xb.refs [B0_TooMany] [.type "ArithmeticError", .type "Exception", .type "BaseException", .type "object"]) true xsn_TooMany xsub_TooMany xab_TooMany xcol_TooMany xdd_TooMany xk0_TooMany xk1_TooMany xk2_TooMany xk3_TooMany xk5_TooMany "ArithmeticError.__new__"))
    (xs_TooMany : PySem.W.findIn K (.ref C_TooMany) "__setattr__" = some (some (.builtin "object.__setattr__")))
    (xe_TooMany : PySem.W.subIn K (.ref C_TooMany) (.type "BaseException") = some true)
    (xt_TooMany : PySem.W.typeIn K (.ref C_TooMany) = some (.type "type"))
    (xk_TooMany : PySem.W.keepIn K (.ref C_TooMany) = true)
    (fi_TooMany : PySem.W.findIn K (.ref C_TooMany) "__init__" = some (some (.ref a_TooMany_init)))
    (xa_TooMany : PySem.W.findIn K (.ref C_TooMany) "__getattribute__" = some (some (.builtin "BaseException.__getattribute__")))
    (xg_TooMany : PySem.W.findIn K (.ref C_TooMany) "__getattr__" = some none)
    (xh_TooMany : PySem.W.hasDictIn K C_TooMany = true)
    (xn_TooMany : PySem.W.findIn K (.ref C_TooMany) "given" = some none)
    (x4_TooMany : PySem.W.subIn K (.ref C_TooMany) (.ref C_TooMany) = some true)
    (ti_TooMany_init : PySem.W.typeIn K (.ref a_TooMany_init) = some (.type "function"))
    (l_TooMany_init : K.lookup a_TooMany_init = some ⟨oc_TooMany_init, od_TooMany_init, .func (PySem.W.fnOf "__init__" "TooMany.__init__" (defArgs s_TooMany_init) (defBody s_TooMany_init) (defScope s_TooMany_init) .none kv_TooMany_init dc_TooMany_init pm_TooMany_init an_TooMany_init cd_TooMany_init ct_TooMany_init), sl_TooMany_init⟩)
    (c_TooMany_init : PySem.W.codeIn K cd_TooMany_init "TooMany.__init__" = true)
    (k_TooMany_init : PySem.W.keepIn K (.ref a_TooMany_init) = true)
    (e_TooFar : PySem.W.nsIn K mainGlobals "TooFar" = some (some (.ref C_TooFar)))
    (xl_TooFar : K.lookup C_TooFar = some (PySem.excClassObj xnm_TooFar xq_TooFar C_TooFar xN_TooFar xbs_TooFar (Xb.refs [B0_TooFar] [.type "ArithmeticError", .type "Exception", .type "BaseException", .type "object"]) true xsn_TooFar xsub_TooFar xab_TooFar xcol_TooFar xdd_TooFar xk0_TooFar xk1_TooFar xk2_TooFar xk3_TooFar xk5_TooFar "ArithmeticError.__new__"))
    (xs_TooFar : PySem.W.findIn K (.ref C_TooFar) "__setattr__" = some (some (.builtin "object.__setattr__")))
    (xe_TooFar : PySem.W.subIn K (.ref C_TooFar) (.type "BaseException") = some true)
    (xt_TooFar : PySem.W.typeIn K (.ref C_TooFar) = some (.type "type"))
    (xk_TooFar : PySem.W.keepIn K (.ref C_TooFar) = true)
    (fi_TooFar : PySem.W.findIn K (.ref C_TooFar) "__init__" = some (some (.ref a_TooFar_init)))
    (xa_TooFar : PySem.W.findIn K (.ref C_TooFar) "__getattribute__" = some (some (.builtin "BaseException.__getattribute__")))
    (xg_TooFar : PySem.W.findIn K (.ref C_TooFar) "__getattr__" = some none)
    (xh_TooFar : PySem.W.hasDictIn K C_TooFar = true)
    (xn_TooFar : PySem.W.findIn K (.ref C_TooFar) "given" = some none)
    (x4_TooFar : PySem.W.subIn K (.ref C_TooFar) (.ref C_TooFar) = some true)
    (ti_TooFar_init : PySem.W.typeIn K (.ref a_TooFar_init) = some (.type "function"))
    (l_TooFar_init : K.lookup a_TooFar_init = some ⟨oc_TooFar_init, od_TooFar_init, .func (PySem.W.fnOf "__init__" "TooFar.__init__" (defArgs s_TooFar_init) (defBody s_TooFar_init) (defScope s_TooFar_init) .none kv_TooFar_init dc_TooFar_init pm_TooFar_init an_TooFar_init cd_TooFar_init ct_TooFar_init), sl_TooFar_init⟩)
    (c_TooFar_init : PySem.W.codeIn K cd_TooFar_init "TooFar.__init__" = true)
    (k_TooFar_init : PySem.W.keepIn K (.ref a_TooFar_init) = true)
    (e_NothingToUndo : PySem.W.nsIn K mainGlobals "NothingToUndo" = some (some (.ref C_NothingToUndo)))
    (xx_NothingToUndo : PySem.W.excIn K C_NothingToUndo [.type "ArithmeticError", .type "Exception", .type "BaseException", .type "object"] "ArithmeticError.__new__" = true)
    (xe_NothingToUndo : PySem.W.subIn K (.ref C_NothingToUndo) (.type "BaseException") = some true)
    (xt_NothingToUndo : PySem.W.typeIn K (.ref C_NothingToUndo) = some (.type "type"))
    (x4_NothingToUndo : PySem.W.subIn K (.ref C_NothingToUndo) (.ref C_NothingToUndo) = some true)
    (xa_NothingToUndo : PySem.W.findIn K (.ref C_NothingToUndo) "__getattribute__" = some (some (.builtin "BaseException.__getattribute__")))
    (xg_NothingToUndo : PySem.W.findIn K (.ref C_NothingToUndo) "__getattr__" = some none)
    (e_Broken : PySem.W.nsIn K mainGlobals "Broken" = some (some (.ref C_Broken)))
    (xl_Broken : K.lookup C_Broken = some (PySem.excClassObj xnm_Broken xq_Broken C_Broken xN_Broken xbs_Broken (Xb.refs [B0_Broken] [.type "ArithmeticError", .type "Exception", .type "BaseException", .type "object"]) true xsn_Broken xsub_Broken xab_Broken xcol_Broken xdd_Broken xk0_Broken xk1_Broken xk2_Broken xk3_Broken xk5_Broken "ArithmeticError.__new__"))
    (xs_Broken : PySem.W.findIn K (.ref C_Broken) "__setattr__" = some (some (.builtin "object.__setattr__")))
    (xe_Broken : PySem.W.subIn K (.ref C_Broken) (.type "BaseException") = some true)
    (xt_Broken : PySem.W.typeIn K (.ref C_Broken) = some (.type "type"))
    (xk_Broken : PySem.W.keepIn K (.ref C_Broken) = true)
    (fi_Broken : PySem.W.findIn K (.ref C_Broken) "__init__" = some (some (.ref a_Broken_init)))
    (xa_Broken : PySem.W.findIn K (.ref C_Broken) "__getattribute__" = some (some (.builtin "BaseException.__getattribute__")))
    (xg_Broken : PySem.W.findIn K (.ref C_Broken) "__getattr__" = some none)
    (xh_Broken : PySem.W.hasDictIn K C_Broken = true)
    (xn_Broken : PySem.W.findIn K (.ref C_Broken) "index" = some none)
    (x4_Broken : PySem.W.subIn K (.ref C_Broken) (.ref C_Broken) = some true)
    (ti_Broken_init : PySem.W.typeIn K (.ref a_Broken_init) = some (.type "function"))
    (l_Broken_init : K.lookup a_Broken_init = some ⟨oc_Broken_init, od_Broken_init, .func (PySem.W.fnOf "__init__" "Broken.__init__" (defArgs s_Broken_init) (defBody s_Broken_init) (defScope s_Broken_init) .none kv_Broken_init dc_Broken_init pm_Broken_init an_Broken_init cd_Broken_init ct_Broken_init), sl_Broken_init⟩)
    (c_Broken_init : PySem.W.codeIn K cd_Broken_init "Broken.__init__" = true)
    (k_Broken_init : PySem.W.keepIn K (.ref a_Broken_init) = true)
    (e_WrongValue : PySem.W.nsIn K mainGlobals "WrongValue" = some (some (.ref C_WrongValue)))
    (xx_WrongValue : PySem.W.excIn K C_WrongValue [.type "ValueError", .type "Exception", .type "BaseException", .type "object"] "ValueError.__new__" = true)
    (xe_WrongValue : PySem.W.subIn K (.ref C_WrongValue) (.type "BaseException") = some true)
    (xt_WrongValue : PySem.W.typeIn K (.ref C_WrongValue) = some (.type "type"))
    (x4_WrongValue : PySem.W.subIn K (.ref C_WrongValue) (.ref C_WrongValue) = some true)
    (xa_WrongValue : PySem.W.findIn K (.ref C_WrongValue) "__getattribute__" = some (some (.builtin "BaseException.__getattribute__")))
    (xg_WrongValue : PySem.W.findIn K (.ref C_WrongValue) "__getattr__" = some none)
    (e_WrongName : PySem.W.nsIn K mainGlobals "WrongName" = some (some (.ref C_WrongName)))
    (xx_WrongName : PySem.W.excIn K C_WrongName [.type "LookupError", .type "Exception", .type "BaseException", .type "object"] "LookupError.__new__" = true)
    (xe_WrongName : PySem.W.subIn K (.ref C_WrongName) (.type "BaseException") = some true)
    (xt_WrongName : PySem.W.typeIn K (.ref C_WrongName) = some (.type "type"))
    (x4_WrongName : PySem.W.subIn K (.ref C_WrongName) (.ref C_WrongName) = some true)
    (xa_WrongName : PySem.W.findIn K (.ref C_WrongName) "__getattribute__" = some (some (.builtin "BaseException.__getattribute__")))
    (xg_WrongName : PySem.W.findIn K (.ref C_WrongName) "__getattr__" = some none)
    (e_NotPossible : PySem.W.nsIn K mainGlobals "NotPossible" = some (some (.ref C_NotPossible)))
    (xx_NotPossible : PySem.W.excIn K C_NotPossible [.type "ArithmeticError", .type "Exception", .type "BaseException", .type "object"] "ArithmeticError.__new__" = true)
    (xe_NotPossible : PySem.W.subIn K (.ref C_NotPossible) (.type "BaseException") = some true)
    (xt_NotPossible : PySem.W.typeIn K (.ref C_NotPossible) = some (.type "type"))
    (x4_NotPossible : PySem.W.subIn K (.ref C_NotPossible) (.ref C_NotPossible) = some true)
    (xa_NotPossible : PySem.W.findIn K (.ref C_NotPossible) "__getattribute__" = some (some (.builtin "BaseException.__getattribute__")))
    (xg_NotPossible : PySem.W.findIn K (.ref C_NotPossible) "__getattr__" = some none)
    (xi_InvalidText : PySem.W.isClsIn K C_InvalidText = true)
    (za_InvalidText : PySem.W.findIn K (.ref C_InvalidText) "__class__" = some (some (.builtin "object.__class__")))
    (zo_InvalidText : PySem.W.mroIn K C_InvalidText (.type "object") = some true)
    (zs_InvalidText : PySem.W.specialIn K (.builtin "object.__class__") "__get__" = some (some (.builtin "getset_descriptor.__get__")))
    (zt_InvalidText : PySem.W.takesIn K (.builtin "object.__class__") = some true)
    (xi_InvalidName : PySem.W.isClsIn K C_InvalidName = true)
    (za_InvalidName : PySem.W.findIn K (.ref C_InvalidName) "__class__" = some (some (.builtin "object.__class__")))
    (zo_InvalidName : PySem.W.mroIn K C_InvalidName (.type "object") = some true)
    (zs_InvalidName : PySem.W.specialIn K (.builtin "object.__class__") "__get__" = some (some (.builtin "getset_descriptor.__get__")))
    (zt_InvalidName : PySem.W.takesIn K (.builtin "object.__class__") = some true)
    (xi_InvalidIndex : PySem.W.isClsIn K C_InvalidIndex = true)
    (za_InvalidIndex : PySem.W.findIn K (.ref C_InvalidIndex) "__class__" = some (some (.builtin "object.__class__")))
    (zo_InvalidIndex : PySem.W.mroIn K C_InvalidIndex (.type "object") = some true)
    (zs_InvalidIndex : PySem.W.specialIn K (.builtin "object.__class__") "__get__" = some (some (.builtin "getset_descriptor.__get__")))
    (zt_InvalidIndex : PySem.W.takesIn K (.builtin "object.__class__") = some true)
    (xi_InvalidLevels : PySem.W.isClsIn K C_InvalidLevels = true)
    (za_InvalidLevels : PySem.W.findIn K (.ref C_InvalidLevels) "__class__" = some (some (.builtin "object.__class__")))
    (zo_InvalidLevels : PySem.W.mroIn K C_InvalidLevels (.type "object") = some true)
    (zs_InvalidLevels : PySem.W.specialIn K (.builtin "object.__class__") "__get__" = some (some (.builtin "getset_descriptor.__get__")))
    (zt_InvalidLevels : PySem.W.takesIn K (.builtin "object.__class__") = some true)
    (xi_InvalidNumber : PySem.W.isClsIn K C_InvalidNumber = true)
    (za_InvalidNumber : PySem.W.findIn K (.ref C_InvalidNumber) "__class__" = some (some (.builtin "object.__class__")))
    (zo_InvalidNumber : PySem.W.mroIn K C_InvalidNumber (.type "object") = some true)
    (zs_InvalidNumber : PySem.W.specialIn K (.builtin "object.__class__") "__get__" = some (some (.builtin "getset_descriptor.__get__")))
    (zt_InvalidNumber : PySem.W.takesIn K (.builtin "object.__class__") = some true)
    (xi_InvalidWish : PySem.W.isClsIn K C_InvalidWish = true)
    (za_InvalidWish : PySem.W.findIn K (.ref C_InvalidWish) "__class__" = some (some (.builtin "object.__class__")))
    (zo_InvalidWish : PySem.W.mroIn K C_InvalidWish (.type "object") = some true)
    (zs_InvalidWish : PySem.W.specialIn K (.builtin "object.__class__") "__get__" = some (some (.builtin "getset_descriptor.__get__")))
    (zt_InvalidWish : PySem.W.takesIn K (.builtin "object.__class__") = some true)
    (xi_NotRound : PySem.W.isClsIn K C_NotRound = true)
    (za_NotRound : PySem.W.findIn K (.ref C_NotRound) "__class__" = some (some (.builtin "object.__class__")))
    (zo_NotRound : PySem.W.mroIn K C_NotRound (.type "object") = some true)
    (zs_NotRound : PySem.W.specialIn K (.builtin "object.__class__") "__get__" = some (some (.builtin "getset_descriptor.__get__")))
    (zt_NotRound : PySem.W.takesIn K (.builtin "object.__class__") = some true)
    (xi_NotLot : PySem.W.isClsIn K C_NotLot = true)
    (za_NotLot : PySem.W.findIn K (.ref C_NotLot) "__class__" = some (some (.builtin "object.__class__")))
    (zo_NotLot : PySem.W.mroIn K C_NotLot (.type "object") = some true)
    (zs_NotLot : PySem.W.specialIn K (.builtin "object.__class__") "__get__" = some (some (.builtin "getset_descriptor.__get__")))
    (zt_NotLot : PySem.W.takesIn K (.builtin "object.__class__") = some true)
    (xi_InvalidLamps : PySem.W.isClsIn K C_InvalidLamps = true)
    (za_InvalidLamps : PySem.W.findIn K (.ref C_InvalidLamps) "__class__" = some (some (.builtin "object.__class__")))
    (zo_InvalidLamps : PySem.W.mroIn K C_InvalidLamps (.type "object") = some true)
    (zs_InvalidLamps : PySem.W.specialIn K (.builtin "object.__class__") "__get__" = some (some (.builtin "getset_descriptor.__get__")))
    (zt_InvalidLamps : PySem.W.takesIn K (.builtin "object.__class__") = some true)
    (xi_InvalidRounds : PySem.W.isClsIn K C_InvalidRounds = true)
    (za_InvalidRounds : PySem.W.findIn K (.ref C_InvalidRounds) "__class__" = some (some (.builtin "object.__class__")))
    (zo_InvalidRounds : PySem.W.mroIn K C_InvalidRounds (.type "object") = some true)
    (zs_InvalidRounds : PySem.W.specialIn K (.builtin "object.__class__") "__get__" = some (some (.builtin "getset_descriptor.__get__")))
    (zt_InvalidRounds : PySem.W.takesIn K (.builtin "object.__class__") = some true)
    (xi_InvalidSteps : PySem.W.isClsIn K C_InvalidSteps = true)
    (za_InvalidSteps : PySem.W.findIn K (.ref C_InvalidSteps) "__class__" = some (some (.builtin "object.__class__")))
    (zo_InvalidSteps : PySem.W.mroIn K C_InvalidSteps (.type "object") = some true)
    (zs_InvalidSteps : PySem.W.specialIn K (.builtin "object.__class__") "__get__" = some (some (.builtin "getset_descriptor.__get__")))
    (zt_InvalidSteps : PySem.W.takesIn K (.builtin "object.__class__") = some true)
    (xi_InvalidPlan : PySem.W.isClsIn K C_InvalidPlan = true)
    (za_InvalidPlan : PySem.W.findIn K (.ref C_InvalidPlan) "__class__" = some (some (.builtin "object.__class__")))
    (zo_InvalidPlan : PySem.W.mroIn K C_InvalidPlan (.type "object") = some true)
    (zs_InvalidPlan : PySem.W.specialIn K (.builtin "object.__class__") "__get__" = some (some (.builtin "getset_descriptor.__get__")))
    (zt_InvalidPlan : PySem.W.takesIn K (.builtin "object.__class__") = some true)
    (xi_InvalidChanges : PySem.W.isClsIn K C_InvalidChanges = true)
    (za_InvalidChanges : PySem.W.findIn K (.ref C_InvalidChanges) "__class__" = some (some (.builtin "object.__class__")))
    (zo_InvalidChanges : PySem.W.mroIn K C_InvalidChanges (.type "object") = some true)
    (zs_InvalidChanges : PySem.W.specialIn K (.builtin "object.__class__") "__get__" = some (some (.builtin "getset_descriptor.__get__")))
    (zt_InvalidChanges : PySem.W.takesIn K (.builtin "object.__class__") = some true)
    (xi_InvalidWishes : PySem.W.isClsIn K C_InvalidWishes = true)
    (za_InvalidWishes : PySem.W.findIn K (.ref C_InvalidWishes) "__class__" = some (some (.builtin "object.__class__")))
    (zo_InvalidWishes : PySem.W.mroIn K C_InvalidWishes (.type "object") = some true)
    (zs_InvalidWishes : PySem.W.specialIn K (.builtin "object.__class__") "__get__" = some (some (.builtin "getset_descriptor.__get__")))
    (zt_InvalidWishes : PySem.W.takesIn K (.builtin "object.__class__") = some true)
    (xi_UnknownName : PySem.W.isClsIn K C_UnknownName = true)
    (za_UnknownName : PySem.W.findIn K (.ref C_UnknownName) "__class__" = some (some (.builtin "object.__class__")))
    (zo_UnknownName : PySem.W.mroIn K C_UnknownName (.type "object") = some true)
    (zs_UnknownName : PySem.W.specialIn K (.builtin "object.__class__") "__get__" = some (some (.builtin "getset_descriptor.__get__")))
    (zt_UnknownName : PySem.W.takesIn K (.builtin "object.__class__") = some true)
    (xi_InUse : PySem.W.isClsIn K C_InUse = true)
    (za_InUse : PySem.W.findIn K (.ref C_InUse) "__class__" = some (some (.builtin "object.__class__")))
    (zo_InUse : PySem.W.mroIn K C_InUse (.type "object") = some true)
    (zs_InUse : PySem.W.specialIn K (.builtin "object.__class__") "__get__" = some (some (.builtin "getset_descriptor.__get__")))
    (zt_InUse : PySem.W.takesIn K (.builtin "object.__class__") = some true)
    (xi_OtherLevels : PySem.W.isClsIn K C_OtherLevels = true)
    (za_OtherLevels : PySem.W.findIn K (.ref C_OtherLevels) "__class__" = some (some (.builtin "object.__class__")))
    (zo_OtherLevels : PySem.W.mroIn K C_OtherLevels (.type "object") = some true)
    (zs_OtherLevels : PySem.W.specialIn K (.builtin "object.__class__") "__get__" = some (some (.builtin "getset_descriptor.__get__")))
    (zt_OtherLevels : PySem.W.takesIn K (.builtin "object.__class__") = some true)
    (xi_TooMany : PySem.W.isClsIn K C_TooMany = true)
    (za_TooMany : PySem.W.findIn K (.ref C_TooMany) "__class__" = some (some (.builtin "object.__class__")))
    (zo_TooMany : PySem.W.mroIn K C_TooMany (.type "object") = some true)
    (zs_TooMany : PySem.W.specialIn K (.builtin "object.__class__") "__get__" = some (some (.builtin "getset_descriptor.__get__")))
    (zt_TooMany : PySem.W.takesIn K (.builtin "object.__class__") = some true)
    (xi_TooFar : PySem.W.isClsIn K C_TooFar = true)
    (za_TooFar : PySem.W.findIn K (.ref C_TooFar) "__class__" = some (some (.builtin "object.__class__")))
    (zo_TooFar : PySem.W.mroIn K C_TooFar (.type "object") = some true)
    (zs_TooFar : PySem.W.specialIn K (.builtin "object.__class__") "__get__" = some (some (.builtin "getset_descriptor.__get__")))
    (zt_TooFar : PySem.W.takesIn K (.builtin "object.__class__") = some true)
    (xi_NothingToUndo : PySem.W.isClsIn K C_NothingToUndo = true)
    (xk_NothingToUndo : PySem.W.keepIn K (.ref C_NothingToUndo) = true)
    (za_NothingToUndo : PySem.W.findIn K (.ref C_NothingToUndo) "__class__" = some (some (.builtin "object.__class__")))
    (zo_NothingToUndo : PySem.W.mroIn K C_NothingToUndo (.type "object") = some true)
    (zs_NothingToUndo : PySem.W.specialIn K (.builtin "object.__class__") "__get__" = some (some (.builtin "getset_descriptor.__get__")))
    (zt_NothingToUndo : PySem.W.takesIn K (.builtin "object.__class__") = some true)
    (xi_Broken : PySem.W.isClsIn K C_Broken = true)
    (za_Broken : PySem.W.findIn K (.ref C_Broken) "__class__" = some (some (.builtin "object.__class__")))
    (zo_Broken : PySem.W.mroIn K C_Broken (.type "object") = some true)
    (zs_Broken : PySem.W.specialIn K (.builtin "object.__class__") "__get__" = some (some (.builtin "getset_descriptor.__get__")))
    (zt_Broken : PySem.W.takesIn K (.builtin "object.__class__") = some true)
    (xi_WrongValue : PySem.W.isClsIn K C_WrongValue = true)
    (xk_WrongValue : PySem.W.keepIn K (.ref C_WrongValue) = true)
    (za_WrongValue : PySem.W.findIn K (.ref C_WrongValue) "__class__" = some (some (.builtin "object.__class__")))
    (zo_WrongValue : PySem.W.mroIn K C_WrongValue (.type "object") = some true)
    (zs_WrongValue : PySem.W.specialIn K (.builtin "object.__class__") "__get__" = some (some (.builtin "getset_descriptor.__get__")))
    (zt_WrongValue : PySem.W.takesIn K (.builtin "object.__class__") = some true)
    (xi_WrongName : PySem.W.isClsIn K C_WrongName = true)
    (xk_WrongName : PySem.W.keepIn K (.ref C_WrongName) = true)
    (za_WrongName : PySem.W.findIn K (.ref C_WrongName) "__class__" = some (some (.builtin "object.__class__")))
    (zo_WrongName : PySem.W.mroIn K C_WrongName (.type "object") = some true)
    (zs_WrongName : PySem.W.specialIn K (.builtin "object.__class__") "__get__" = some (some (.builtin "getset_descriptor.__get__")))
    (zt_WrongName : PySem.W.takesIn K (.builtin "object.__class__") = some true)
    (xi_NotPossible : PySem.W.isClsIn K C_NotPossible = true)
    (xk_NotPossible : PySem.W.keepIn K (.ref C_NotPossible) = true)
    (za_NotPossible : PySem.W.findIn K (.ref C_NotPossible) "__class__" = some (some (.builtin "object.__class__")))
    (zo_NotPossible : PySem.W.mroIn K C_NotPossible (.type "object") = some true)
    (zs_NotPossible : PySem.W.specialIn K (.builtin "object.__class__") "__get__" = some (some (.builtin "getset_descriptor.__get__")))
    (zt_NotPossible : PySem.W.takesIn K (.builtin "object.__class__") = some true)
    (tr_InvalidText : Mi.rowM K (.ref C_InvalidText) [C_InvalidText, C_InvalidName, C_InvalidIndex, C_InvalidLevels, C_InvalidNumber, C_InvalidWish, C_NotRound, C_NotLot, C_InvalidLamps, C_InvalidRounds, C_InvalidSteps, C_InvalidPlan, C_InvalidChanges, C_InvalidWishes, C_UnknownName, C_InUse, C_OtherLevels, C_TooMany, C_TooFar, C_NothingToUndo, C_Broken, C_WrongValue, C_WrongName, C_NotPossible] = [some true, some false, some false, some false, some false, some false, some false, some false, some false, some false, some false, some false, some false, some false, some false, some false, some false, some false, some false, some false, some false, some false, some false, some false])
    (tr_InvalidName : Mi.rowM K (.ref C_InvalidName) [C_InvalidText, C_InvalidName, C_InvalidIndex, C_InvalidLevels, C_InvalidNumber, C_InvalidWish, C_NotRound, C_NotLot, C_InvalidLamps, C_InvalidRounds, C_InvalidSteps, C_InvalidPlan, C_InvalidChanges, C_InvalidWishes, C_UnknownName, C_InUse, C_OtherLevels, C_TooMany, C_TooFar, C_NothingToUndo, C_Broken, C_WrongValue, C_WrongName, C_NotPossible] = [some false, some true, some false, some false, some false, some false, some false, some false, some false, some false, some false, some false, some false, some false, some false, some false, some false, some false, some false, some false, some false, some false, some false, some false])
    (tr_InvalidIndex : Mi.rowM K (.ref C_InvalidIndex) [C_InvalidText, C_InvalidName, C_InvalidIndex, C_InvalidLevels, C_InvalidNumber, C_InvalidWish, C_NotRound, C_NotLot, C_InvalidLamps, C_InvalidRounds, C_InvalidSteps, C_InvalidPlan, C_InvalidChanges, C_InvalidWishes, C_UnknownName, C_InUse, C_OtherLevels, C_TooMany, C_TooFar, C_NothingToUndo, C_Broken, C_WrongValue, C_WrongName, C_NotPossible] = [some false, some false, some true, some false, some false, some false, some false, some false, some false, some false, some false, some false, some false, some false, some false, some false, some false, some false, some false, some false, some false, some false, some false, some false])
    (tr_InvalidLevels : Mi.rowM K (.ref C_InvalidLevels) [C_InvalidText, C_InvalidName, C_InvalidIndex, C_InvalidLevels, C_InvalidNumber, C_InvalidWish, C_NotRound, C_NotLot, C_InvalidLamps, C_InvalidRounds, C_InvalidSteps, C_InvalidPlan, C_InvalidChanges, C_InvalidWishes, C_UnknownName, C_InUse, C_OtherLevels, C_TooMany, C_TooFar, C_NothingToUndo, C_Broken, C_WrongValue, C_WrongName, C_NotPossible] = [some false, some false, some false, some true, some false, some false, some false, some false, some false, some false, some false, some false, some false, some false, some false, some false, some false, some false, some false, some false, some false, some false, some false, some false])
    (tr_InvalidNumber : Mi.rowM K (.ref C_InvalidNumber) [C_InvalidText, C_InvalidName, C_InvalidIndex, C_InvalidLevels, C_InvalidNumber, C_InvalidWish, C_NotRound, C_NotLot, C_InvalidLamps, C_InvalidRounds, C_InvalidSteps, C_InvalidPlan, C_InvalidChanges, C_InvalidWishes, C_UnknownName, C_InUse, C_OtherLevels, C_TooMany, C_TooFar, C_NothingToUndo, C_Broken, C_WrongValue, C_WrongName, C_NotPossible] = [some false, some false, some false, some false, some true, some false, some false, some false, some false, some false, some false, some false, some false, some false, some false, some false, some false, some false, some false, some false, some false, some false, some false, some false])
    (tr_InvalidWish : Mi.rowM K (.ref C_InvalidWish) [C_InvalidText, C_InvalidName, C_InvalidIndex, C_InvalidLevels, C_InvalidNumber, C_InvalidWish, C_NotRound, C_NotLot, C_InvalidLamps, C_InvalidRounds, C_InvalidSteps, C_InvalidPlan, C_InvalidChanges, C_InvalidWishes, C_UnknownName, C_InUse, C_OtherLevels, C_TooMany, C_TooFar, C_NothingToUndo, C_Broken, C_WrongValue, C_WrongName, C_NotPossible] = [some false, some false, some false, some false, some false, some true, some false, some false, some false, some false, some false, some false, some false, some false, some false, some false, some false, some false, some false, some false, some false, some false, some false, some false])
    (tr_NotRound : Mi.rowM K (.ref C_NotRound) [C_InvalidText, C_InvalidName, C_InvalidIndex, C_InvalidLevels, C_InvalidNumber, C_InvalidWish, C_NotRound, C_NotLot, C_InvalidLamps, C_InvalidRounds, C_InvalidSteps, C_InvalidPlan, C_InvalidChanges, C_InvalidWishes, C_UnknownName, C_InUse, C_OtherLevels, C_TooMany, C_TooFar, C_NothingToUndo, C_Broken, C_WrongValue, C_WrongName, C_NotPossible] = [some false, some false, some false, some false, some false, some false, some true, some false, some false, some false, some false, some false, some false, some false, some false, some false, some false, some false, some false, some false, some false, some false, some false, some false])
    (tr_NotLot : Mi.rowM K (.ref C_NotLot) [C_InvalidText, C_InvalidName, C_InvalidIndex, C_InvalidLevels, C_InvalidNumber, C_InvalidWish, C_NotRound, C_NotLot, C_InvalidLamps, C_InvalidRounds, C_InvalidSteps, C_InvalidPlan, C_InvalidChanges, C_InvalidWishes, C_UnknownName, C_InUse, C_OtherLevels, C_TooMany, C_TooFar, C_NothingToUndo, C_Broken, C_WrongValue, C_WrongName, C_NotPossible] = [some false, some false, some false, some false, some false, some false, some false, some true, some false, some false, some false, some false, some false, some false, some false, some false, some false, some false, some false, some false, some false, some false, some false, some false])
    (tr_InvalidLamps : Mi.rowM K (.ref C_InvalidLamps) [C_InvalidText, C_InvalidName, C_InvalidIndex, C_InvalidLevels, C_InvalidNumber, C_InvalidWish, C_NotRound, C_NotLot, C_InvalidLamps, C_InvalidRounds, C_InvalidSteps, C_InvalidPlan, C_InvalidChanges, C_InvalidWishes, C_UnknownName, C_InUse, C_OtherLevels, C_TooMany, C_TooFar, C_NothingToUndo, C_Broken, C_WrongValue, C_WrongName, C_NotPossible] = [some false, some false, some false, some false, some false, some false, some false, some false, some true, some false, some false, some false, some false, some false, some false, some false, some false, some false, some false, some false, some false, some false, some false, some false])
    (tr_InvalidRounds : Mi.rowM K (.ref C_InvalidRounds) [C_InvalidText, C_InvalidName, C_InvalidIndex, C_InvalidLevels, C_InvalidNumber, C_InvalidWish, C_NotRound, C_NotLot, C_InvalidLamps, C_InvalidRounds, C_InvalidSteps, C_InvalidPlan, C_InvalidChanges, C_InvalidWishes, C_UnknownName, C_InUse, C_OtherLevels, C_TooMany, C_TooFar, C_NothingToUndo, C_Broken, C_WrongValue, C_WrongName, C_NotPossible] = [some false, some false, some false, some false, some false, some false, some false, some false, some false, some true, some false, some false, some false, some false, some false, some false, some false, some false, some false, some false, some false, some false, some false, some false])
    (tr_InvalidSteps : Mi.rowM K (.ref C_InvalidSteps) [C_InvalidText, C_InvalidName, C_InvalidIndex, C_InvalidLevels, C_InvalidNumber, C_InvalidWish, C_NotRound, C_NotLot, C_InvalidLamps, C_InvalidRounds, C_InvalidSteps, C_InvalidPlan, C_InvalidChanges, C_InvalidWishes, C_UnknownName, C_InUse, C_OtherLevels, C_TooMany, C_TooFar, C_NothingToUndo, C_Broken, C_WrongValue, C_WrongName, C_NotPossible] = [some false, some false, some false, some false, some false, some false, some false, some false, some false, some false, some true, some false, some false, some false, some false, some false, some false, some false, some false, some false, some false, some false, some false, some false])
    (tr_InvalidPlan : Mi.rowM K (.ref C_InvalidPlan) [C_InvalidText, C_InvalidName, C_InvalidIndex, C_InvalidLevels, C_InvalidNumber, C_InvalidWish, C_NotRound, C_NotLot, C_InvalidLamps, C_InvalidRounds, C_InvalidSteps, C_InvalidPlan, C_InvalidChanges, C_InvalidWishes, C_UnknownName, C_InUse, C_OtherLevels, C_TooMany, C_TooFar, C_NothingToUndo, C_Broken, C_WrongValue, C_WrongName, C_NotPossible] = [some false, some false, some false, some false, some false, some false, some false, some false, some false, some false, some false, some true, some false, some false, some false, some false, some false, some false, some false, some false, some false, some false, some false, some false])
    (tr_InvalidChanges : Mi.rowM K (.ref C_InvalidChanges) [C_InvalidText, C_InvalidName, C_InvalidIndex, C_InvalidLevels, C_InvalidNumber, C_InvalidWish, C_NotRound, C_NotLot, C_InvalidLamps, C_InvalidRounds, C_InvalidSteps, C_InvalidPlan, C_InvalidChanges, C_InvalidWishes, C_UnknownName, C_InUse, C_OtherLevels, C_TooMany, C_TooFar, C_NothingToUndo, C_Broken, C_WrongValue, C_WrongName, C_NotPossible] = [some false, some false, some false, some false, some false, some false, some false, some false, some false, some false, some false, some false, some true, some false, some false, some false, some false, some false, some false, some false, some false, some false, some false, some false])
    (tr_InvalidWishes : Mi.rowM K (.ref C_InvalidWishes) [C_InvalidText, C_InvalidName, C_InvalidIndex, C_InvalidLevels, C_InvalidNumber, C_InvalidWish, C_NotRound, C_NotLot, C_InvalidLamps, C_InvalidRounds, C_InvalidSteps, C_InvalidPlan, C_InvalidChanges, C_InvalidWishes, C_UnknownName, C_InUse, C_OtherLevels, C_TooMany, C_TooFar, C_NothingToUndo, C_Broken, C_WrongValue, C_WrongName, C_NotPossible] = [some false, some false, some false, some false, some false, some false, some false, some false, some false, some false, some false, some false, some false, some true, some false, some false, some false, some false, some false, some false, some false, some false, some false, some false])
    (tr_UnknownName : Mi.rowM K (.ref C_UnknownName) [C_InvalidText, C_InvalidName, C_InvalidIndex, C_InvalidLevels, C_InvalidNumber, C_InvalidWish, C_NotRound, C_NotLot, C_InvalidLamps, C_InvalidRounds, C_InvalidSteps, C_InvalidPlan, C_InvalidChanges, C_InvalidWishes, C_UnknownName, C_InUse, C_OtherLevels, C_TooMany, C_TooFar, C_NothingToUndo, C_Broken, C_WrongValue, C_WrongName, C_NotPossible] = [some false, some false, some false, some false, some false, some false, some false, some false, some false, some false, some false, some false, some false, some false, some true, some false, some false, some false, some false, some false, some false, some false, some false, some false])
    (tr_InUse : Mi.rowM K (.ref C_InUse) [C_InvalidText, C_InvalidName, C_InvalidIndex, C_InvalidLevels, C_InvalidNumber, C_InvalidWish, C_NotRound, C_NotLot, C_InvalidLamps, C_InvalidRounds, C_InvalidSteps, C_InvalidPlan, C_InvalidChanges, C_InvalidWishes, C_UnknownName, C_InUse, C_OtherLevels, C_TooMany, C_TooFar, C_NothingToUndo, C_Broken, C_WrongValue, C_WrongName, C_NotPossible] = [some false, some false, some false, some false, some false, some false, some false, some false, some false, some false, some false, some false, some false, some false, some false, some true, some false, some false, some false, some false, some false, some false, some false, some false])
    (tr_OtherLevels : Mi.rowM K (.ref C_OtherLevels) [C_InvalidText, C_InvalidName, C_InvalidIndex, C_InvalidLevels, C_InvalidNumber, C_InvalidWish, C_NotRound, C_NotLot, C_InvalidLamps, C_InvalidRounds, C_InvalidSteps, C_InvalidPlan, C_InvalidChanges, C_InvalidWishes, C_UnknownName, C_InUse, C_OtherLevels, C_TooMany, C_TooFar, C_NothingToUndo, C_Broken, C_WrongValue, C_WrongName, C_NotPossible] = [some false, some false, some false, some false, some false, some false, some false, some false, some false, some false, some false, some false, some false, some false, some false, some false, some true, some false, some false, some false, some false, some false, some false, some false])
    (tr_TooMany : Mi.rowM K (.ref C_TooMany) [C_InvalidText, C_InvalidName, C_InvalidIndex, C_InvalidLevels, C_InvalidNumber, C_InvalidWish, C_NotRound, C_NotLot, C_InvalidLamps, C_InvalidRounds, C_InvalidSteps, C_InvalidPlan, C_InvalidChanges, C_InvalidWishes, C_UnknownName, C_InUse, C_OtherLevels, C_TooMany, C_TooFar, C_NothingToUndo, C_Broken, C_WrongValue, C_WrongName, C_NotPossible] = [some false, some false, some false, some false, some false, some false, some false, some false, some false, some false, some false, some false, some false, some false, some false, some false, some false, some true, some false, some false, some false, some false, some false, some false])
    (tr_TooFar : Mi.rowM K (.ref C_TooFar) [C_InvalidText, C_InvalidName, C_InvalidIndex, C_InvalidLevels, C_InvalidNumber, C_InvalidWish, C_NotRound, C_NotLot, C_InvalidLamps, C_InvalidRounds, C_InvalidSteps, C_InvalidPlan, C_InvalidChanges, C_InvalidWishes, C_UnknownName, C_InUse, C_OtherLevels, C_TooMany, C_TooFar, C_NothingToUndo, C_Broken, C_WrongValue, C_WrongName, C_NotPossible] = [some false, some false, some false, some false, some false, some false, some false, some false, some false, some false, some false, some false, some false, some false, some false, some false, some false, some false, some true, some false, some false, some false, some false, some false])
    (tr_NothingToUndo : Mi.rowM K (.ref C_NothingToUndo) [C_InvalidText, C_InvalidName, C_InvalidIndex, C_InvalidLevels, C_InvalidNumber, C_InvalidWish, C_NotRound, C_NotLot, C_InvalidLamps, C_InvalidRounds, C_InvalidSteps, C_InvalidPlan, C_InvalidChanges, C_InvalidWishes, C_UnknownName, C_InUse, C_OtherLevels, C_TooMany, C_TooFar, C_NothingToUndo, C_Broken, C_WrongValue, C_WrongName, C_NotPossible] = [some false, some false, some false, some false, some false, some false, some false, some false, some false, some false, some false, some false, some false, some false, some false, some false, some false, some false, some false, some true, some false, some false, some false, some false])
    (tr_Broken : Mi.rowM K (.ref C_Broken) [C_InvalidText, C_InvalidName, C_InvalidIndex, C_InvalidLevels, C_InvalidNumber, C_InvalidWish, C_NotRound, C_NotLot, C_InvalidLamps, C_InvalidRounds, C_InvalidSteps, C_InvalidPlan, C_InvalidChanges, C_InvalidWishes, C_UnknownName, C_InUse, C_OtherLevels, C_TooMany, C_TooFar, C_NothingToUndo, C_Broken, C_WrongValue, C_WrongName, C_NotPossible] = [some false, some false, some false, some false, some false, some false, some false, some false, some false, some false, some false, some false, some false, some false, some false, some false, some false, some false, some false, some false, some true, some false, some false, some false])
    (tr_WrongValue : Mi.rowM K (.ref C_WrongValue) [C_InvalidText, C_InvalidName, C_InvalidIndex, C_InvalidLevels, C_InvalidNumber, C_InvalidWish, C_NotRound, C_NotLot, C_InvalidLamps, C_InvalidRounds, C_InvalidSteps, C_InvalidPlan, C_InvalidChanges, C_InvalidWishes, C_UnknownName, C_InUse, C_OtherLevels, C_TooMany, C_TooFar, C_NothingToUndo, C_Broken, C_WrongValue, C_WrongName, C_NotPossible] = [some true, some true, some true, some true, some true, some true, some true, some true, some true, some true, some true, some true, some true, some true, some false, some false, some false, some false, some false, some false, some false, some true, some false, some false])
    (tr_WrongName : Mi.rowM K (.ref C_WrongName) [C_InvalidText, C_InvalidName, C_InvalidIndex, C_InvalidLevels, C_InvalidNumber, C_InvalidWish, C_NotRound, C_NotLot, C_InvalidLamps, C_InvalidRounds, C_InvalidSteps, C_InvalidPlan, C_InvalidChanges, C_InvalidWishes, C_UnknownName, C_InUse, C_OtherLevels, C_TooMany, C_TooFar, C_NothingToUndo, C_Broken, C_WrongValue, C_WrongName, C_NotPossible] = [some false, some false, some false, some false, some false, some false, some false, some false, some false, some false, some false, some false, some false, some false, some true, some true, some false, some false, some false, some false, some false, some false, some true, some false])
    (tr_NotPossible : Mi.rowM K (.ref C_NotPossible) [C_InvalidText, C_InvalidName, C_InvalidIndex, C_InvalidLevels, C_InvalidNumber, C_InvalidWish, C_NotRound, C_NotLot, C_InvalidLamps, C_InvalidRounds, C_InvalidSteps, C_InvalidPlan, C_InvalidChanges, C_InvalidWishes, C_UnknownName, C_InUse, C_OtherLevels, C_TooMany, C_TooFar, C_NothingToUndo, C_Broken, C_WrongValue, C_WrongName, C_NotPossible] = [some false, some false, some false, some false, some false, some false, some false, some false, some false, some false, some false, some false, some false, some false, some false, some false, some true, some true, some true, some true, some true, some false, some false, some true])
    (ts_ValueError : Mi.rowS K (.type "ValueError") [C_InvalidText, C_InvalidName, C_InvalidIndex, C_InvalidLevels, C_InvalidNumber, C_InvalidWish, C_NotRound, C_NotLot, C_InvalidLamps, C_InvalidRounds, C_InvalidSteps, C_InvalidPlan, C_InvalidChanges, C_InvalidWishes, C_UnknownName, C_InUse, C_OtherLevels, C_TooMany, C_TooFar, C_NothingToUndo, C_Broken, C_WrongValue, C_WrongName, C_NotPossible] = [some true, some true, some true, some true, some true, some true, some true, some true, some true, some true, some true, some true, some true, some true, some false, some false, some false, some false, some false, some false, some false, some true, some false, some false])
    (ts_LookupError : Mi.rowS K (.type "LookupError") [C_InvalidText, C_InvalidName, C_InvalidIndex, C_InvalidLevels, C_InvalidNumber, C_InvalidWish, C_NotRound, C_NotLot, C_InvalidLamps, C_InvalidRounds, C_InvalidSteps, C_InvalidPlan, C_InvalidChanges, C_InvalidWishes, C_UnknownName, C_InUse, C_OtherLevels, C_TooMany, C_TooFar, C_NothingToUndo, C_Broken, C_WrongValue, C_WrongName, C_NotPossible] = [some false, some false, some false, some false, some false, some false, some false, some false, some false, some false, some false, some false, some false, some false, some true, some true, some false, some false, some false, some false, some false, some false, some true, some false])
    (ts_ArithmeticError : Mi.rowS K (.type "ArithmeticError") [C_InvalidText, C_InvalidName, C_InvalidIndex, C_InvalidLevels, C_InvalidNumber, C_InvalidWish, C_NotRound, C_NotLot, C_InvalidLamps, C_InvalidRounds, C_InvalidSteps, C_InvalidPlan, C_InvalidChanges, C_InvalidWishes, C_UnknownName, C_InUse, C_OtherLevels, C_TooMany, C_TooFar, C_NothingToUndo, C_Broken, C_WrongValue, C_WrongName, C_NotPossible] = [some false, some false, some false, some false, some false, some false, some false, some false, some false, some false, some false, some false, some false, some false, some false, some false, some true, some true, some true, some true, some true, some false, some false, some true])
    (e_law_begun : PySem.W.nsIn K mainGlobals "_law_begun" = some (some (.ref a_law_begun)))
    (l_law_begun : K.lookup a_law_begun = some ⟨oc_law_begun, od_law_begun, .func (PySem.W.fnOf "_law_begun" "_law_begun" (defArgs s_law_begun) (defBody s_law_begun) (defScope s_law_begun) .none kv_law_begun dc_law_begun pm_law_begun an_law_begun cd_law_begun ct_law_begun), sl_law_begun⟩)
    (c_law_begun : PySem.W.codeIn K cd_law_begun "_law_begun" = true)
    (k_law_begun : PySem.W.keepIn K (.ref a_law_begun) = true)
    (e_law_cast : PySem.W.nsIn K mainGlobals "_law_cast" = some (some (.ref a_law_cast)))
    (l_law_cast : K.lookup a_law_cast = some ⟨oc_law_cast, od_law_cast, .func (PySem.W.fnOf "_law_cast" "_law_cast" (defArgs s_law_cast) (defBody s_law_cast) (defScope s_law_cast) .none kv_law_cast dc_law_cast pm_law_cast an_law_cast cd_law_cast ct_law_cast), sl_law_cast⟩)
    (c_law_cast : PySem.W.codeIn K cd_law_cast "_law_cast" = true)
    (k_law_cast : PySem.W.keepIn K (.ref a_law_cast) = true)
    (e_law_any_of : PySem.W.nsIn K mainGlobals "_law_any_of" = some (some (.ref a_law_any_of)))
    (l_law_any_of : K.lookup a_law_any_of = some ⟨oc_law_any_of, od_law_any_of, .func (PySem.W.fnOf "_law_any_of" "_law_any_of" (defArgs s_law_any_of) (defBody s_law_any_of) (defScope s_law_any_of) .none kv_law_any_of dc_law_any_of pm_law_any_of an_law_any_of cd_law_any_of ct_law_any_of), sl_law_any_of⟩)
    (c_law_any_of : PySem.W.codeIn K cd_law_any_of "_law_any_of" = true)
    (k_law_any_of : PySem.W.keepIn K (.ref a_law_any_of) = true)
    (e_law_thing : PySem.W.nsIn K mainGlobals "_law_thing" = some (some (.ref a_law_thing)))
    (l_law_thing : K.lookup a_law_thing = some ⟨oc_law_thing, od_law_thing, .func (PySem.W.fnOf "_law_thing" "_law_thing" (defArgs s_law_thing) (defBody s_law_thing) (defScope s_law_thing) .none kv_law_thing dc_law_thing pm_law_thing an_law_thing cd_law_thing ct_law_thing), sl_law_thing⟩)
    (c_law_thing : PySem.W.codeIn K cd_law_thing "_law_thing" = true)
    (k_law_thing : PySem.W.keepIn K (.ref a_law_thing) = true)
    (e_law_placed : PySem.W.nsIn K mainGlobals "_law_placed" = some (some (.ref a_law_placed)))
    (l_law_placed : K.lookup a_law_placed = some ⟨oc_law_placed, od_law_placed, .func (PySem.W.fnOf "_law_placed" "_law_placed" (defArgs s_law_placed) (defBody s_law_placed) (defScope s_law_placed) .none kv_law_placed dc_law_placed pm_law_placed an_law_placed cd_law_placed ct_law_placed), sl_law_placed⟩)
    (c_law_placed : PySem.W.codeIn K cd_law_placed "_law_placed" = true)
    (k_law_placed : PySem.W.keepIn K (.ref a_law_placed) = true)
    (e_law_named : PySem.W.nsIn K mainGlobals "_law_named" = some (some (.ref a_law_named)))
    (l_law_named : K.lookup a_law_named = some ⟨oc_law_named, od_law_named, .func (PySem.W.fnOf "_law_named" "_law_named" (defArgs s_law_named) (defBody s_law_named) (defScope s_law_named) .none kv_law_named dc_law_named pm_law_named an_law_named cd_law_named ct_law_named), sl_law_named⟩)
    (c_law_named : PySem.W.codeIn K cd_law_named "_law_named" = true)
    (k_law_named : PySem.W.keepIn K (.ref a_law_named) = true)
    (e_law_flags : PySem.W.nsIn K mainGlobals "_law_flags" = some (some (.ref a_law_flags)))
    (l_law_flags : K.lookup a_law_flags = some ⟨oc_law_flags, od_law_flags, .func (PySem.W.fnOf "_law_flags" "_law_flags" (defArgs s_law_flags) (defBody s_law_flags) (defScope s_law_flags) .none kv_law_flags dc_law_flags pm_law_flags an_law_flags cd_law_flags ct_law_flags), sl_law_flags⟩)
    (c_law_flags : PySem.W.codeIn K cd_law_flags "_law_flags" = true)
    (k_law_flags : PySem.W.keepIn K (.ref a_law_flags) = true)
    (e_law_bases : PySem.W.nsIn K mainGlobals "_law_bases" = some (some (.ref a_law_bases)))
    (l_law_bases : K.lookup a_law_bases = some ⟨oc_law_bases, od_law_bases, .func (PySem.W.fnOf "_law_bases" "_law_bases" (defArgs s_law_bases) (defBody s_law_bases) (defScope s_law_bases) .none kv_law_bases dc_law_bases pm_law_bases an_law_bases cd_law_bases ct_law_bases), sl_law_bases⟩)
    (c_law_bases : PySem.W.codeIn K cd_law_bases "_law_bases" = true)
    (k_law_bases : PySem.W.keepIn K (.ref a_law_bases) = true)
    (e_law_held : PySem.W.nsIn K mainGlobals "_law_held" = some (some (.ref a_law_held)))
    (l_law_held : K.lookup a_law_held = some ⟨oc_law_held, od_law_held, .func (PySem.W.fnOf "_law_held" "_law_held" (defArgs s_law_held) (defBody s_law_held) (defScope s_law_held) .none kv_law_held dc_law_held pm_law_held an_law_held cd_law_held ct_law_held), sl_law_held⟩)
    (c_law_held : PySem.W.codeIn K cd_law_held "_law_held" = true)
    (k_law_held : PySem.W.keepIn K (.ref a_law_held) = true)
    (e_law_some_right : PySem.W.nsIn K mainGlobals "_law_some_right" = some (some (.ref a_law_some_right)))
    (l_law_some_right : K.lookup a_law_some_right = some ⟨oc_law_some_right, od_law_some_right, .func (PySem.W.fnOf "_law_some_right" "_law_some_right" (defArgs s_law_some_right) (defBody s_law_some_right) (defScope s_law_some_right) .none kv_law_some_right dc_law_some_right pm_law_some_right an_law_some_right cd_law_some_right ct_law_some_right), sl_law_some_right⟩)
    (c_law_some_right : PySem.W.codeIn K cd_law_some_right "_law_some_right" = true)
    (k_law_some_right : PySem.W.keepIn K (.ref a_law_some_right) = true)
    (e_law_right : PySem.W.nsIn K mainGlobals "_law_right" = some (some (.ref a_law_right)))
    (l_law_right : K.lookup a_law_right = some ⟨oc_law_right, od_law_right, .func (PySem.W.fnOf "_law_right" "_law_right" (defArgs s_law_right) (defBody s_law_right) (defScope s_law_right) .none kv_law_right dc_law_right pm_law_right an_law_right cd_law_right ct_law_right), sl_law_right⟩)
    (c_law_right : PySem.W.codeIn K cd_law_right "_law_right" = true)
    (k_law_right : PySem.W.keepIn K (.ref a_law_right) = true)
    (e_law : PySem.W.nsIn K mainGlobals "law" = some (some (.ref a_law)))
    (l_law : K.lookup a_law = some ⟨oc_law, od_law, .func (PySem.W.fnOf "law" "law" (defArgs s_law) (defBody s_law) (defScope s_law) .none kv_law dc_law pm_law an_law cd_law ct_law), sl_law⟩)
    (c_law : PySem.W.codeIn K cd_law "law" = true)
    (k_law : PySem.W.keepIn K (.ref a_law) = true)
    (n_ArithmeticError : PySem.W.nsIn K mainGlobals "ArithmeticError" = some none)
    (n_LookupError : PySem.W.nsIn K mainGlobals "LookupError" = some none)
    (n_ValueError : PySem.W.nsIn K mainGlobals "ValueError" = some none)
    (n_abs : PySem.W.nsIn K mainGlobals "abs" = some none)
    (n_all : PySem.W.nsIn K mainGlobals "all" = some none)
    (n_divmod : PySem.W.nsIn K mainGlobals "divmod" = some none)
    (n_int : PySem.W.nsIn K mainGlobals "int" = some none)
    (n_isinstance : PySem.W.nsIn K mainGlobals "isinstance" = some none)
    (n_len : PySem.W.nsIn K mainGlobals "len" = some none)
    (n_max : PySem.W.nsIn K mainGlobals "max" = some none)
    (n_min : PySem.W.nsIn K mainGlobals "min" = some none)
    (n_range : PySem.W.nsIn K mainGlobals "range" = some none)
    (n_repr : PySem.W.nsIn K mainGlobals "repr" = some none)
    (e_LEVELS : PySem.W.nsIn K mainGlobals "LEVELS" = some (some (.ref x_LEVELS)))
    (y_LEVELS : K.lookup x_LEVELS = some ⟨.type "tuple", o_LEVELS, .seq #[.int 2 t0_LEVELS, .int 3 t1_LEVELS, .int 5 t2_LEVELS, .int 7 t3_LEVELS] m_LEVELS, z_LEVELS⟩)
    (e_MOST_LAMPS : PySem.W.nsIn K mainGlobals "MOST_LAMPS" = some (some (.int 400 t_MOST_LAMPS)))
    (e_MOST_STEPS : PySem.W.nsIn K mainGlobals "MOST_STEPS" = some (some (.int 4000 t_MOST_STEPS)))
    (e_MOST_ROUNDS : PySem.W.nsIn K mainGlobals "MOST_ROUNDS" = some (some (.int 4 t_MOST_ROUNDS)))
    (e_MOST_PLACE : PySem.W.nsIn K mainGlobals "MOST_PLACE" = some (some (.int 24 t_MOST_PLACE)))
    (e_MOST_END : PySem.W.nsIn K mainGlobals "MOST_END" = some (some (.int 8 t_MOST_END)))
    (e_MOST_NEAR : PySem.W.nsIn K mainGlobals "MOST_NEAR" = some (some (.int 40 t_MOST_NEAR)))
    (e_MOST_TIMES : PySem.W.nsIn K mainGlobals "MOST_TIMES" = some (some (.int 1000 t_MOST_TIMES)))
    (e_MOST_CHANGES : PySem.W.nsIn K mainGlobals "MOST_CHANGES" = some (some (.int 6 t_MOST_CHANGES))) : ∃ T : Tx K mg, T.a_law = fa := by
  have e := hfa.symm.trans (PySem.W.mg_of X G e_law)
  cases e
  exact ⟨{
      C_InvalidText := C_InvalidText
      g_InvalidText := (PySem.W.mg_of X G e_InvalidText)
      ox_InvalidText := (⟨⟨_, _, _, _, _, _, _, _, _, _, _, _, _, _, _, _, _, _, _, ⟨Xb.bVE, xl_InvalidText⟩⟩, xs_InvalidText, xe_InvalidText, xt_InvalidText, xk_InvalidText⟩)
      xf_InvalidText := (⟨⟨xa_InvalidText, xg_InvalidText, xe_InvalidText, xh_InvalidText⟩, xn_InvalidText⟩)
      xm_InvalidText := (PySem.W.exm_ref xe_InvalidText xh_InvalidText xt_InvalidText x4_InvalidText)
      a_InvalidText_init := a_InvalidText_init
      d_InvalidText_init := _
      F_InvalidText_init := (fun_mk (st := s_InvalidText_init) l_InvalidText_init c_InvalidText_init k_InvalidText_init)
      b_InvalidText_init := ((fun_mk (st := s_InvalidText_init) l_InvalidText_init c_InvalidText_init k_InvalidText_init).binds (ps := ["self", "given"]) fun _ _ _ _ _ _ us hl => match us, hl with | [_, _], _ => rfl)
      fi_InvalidText := fi_InvalidText
      ti_InvalidText := ti_InvalidText_init
      C_InvalidName := C_InvalidName
      g_InvalidName := (PySem.W.mg_of X G e_InvalidName)
      ox_InvalidName := (⟨⟨_, _, _, _, _, _, _, _, _, _, _, _, _, _, _, _, _, _, _, ⟨Xb.bVE, xl_InvalidName⟩⟩, xs_InvalidName, xe_InvalidName, xt_InvalidName, xk_InvalidName⟩)
      xf_InvalidName := (⟨⟨xa_InvalidName, xg_InvalidName, xe_InvalidName, xh_InvalidName⟩, xn_InvalidName⟩)
      xm_InvalidName := (PySem.W.exm_ref xe_InvalidName xh_InvalidName xt_InvalidName x4_InvalidName)
      a_InvalidName_init := a_InvalidName_init
      d_InvalidName_init := _
      F_InvalidName_init := (fun_mk (st := s_InvalidName_init) l_InvalidName_init c_InvalidName_init k_InvalidName_init)
      b_InvalidName_init := ((fun_mk (st := s_InvalidName_init) l_InvalidName_init c_InvalidName_init k_InvalidName_init).binds (ps := ["self", "given"]) fun _ _ _ _ _ _ us hl => match us, hl with | [_, _], _ => rfl)
      fi_InvalidName := fi_InvalidName
      ti_InvalidName := ti_InvalidName_init
      C_InvalidIndex := C_InvalidIndex
      g_InvalidIndex := (PySem.W.mg_of X G e_InvalidIndex)
      ox_InvalidIndex := (⟨⟨_, _, _, _, _, _, _, _, _, _, _, _, _, _, _, _, _, _, _, ⟨Xb.bVE, xl_InvalidIndex⟩⟩, xs_InvalidIndex, xe_InvalidIndex, xt_InvalidIndex, xk_InvalidIndex⟩)
      xf_InvalidIndex := (⟨⟨xa_InvalidIndex, xg_InvalidIndex, xe_InvalidIndex, xh_InvalidIndex⟩, xn_InvalidIndex⟩)
      xm_InvalidIndex := (PySem.W.exm_ref xe_InvalidIndex xh_InvalidIndex xt_InvalidIndex x4_InvalidIndex)
      a_InvalidIndex_init := a_InvalidIndex_init
      d_InvalidIndex_init := _
      F_InvalidIndex_init := (fun_mk (st := s_InvalidIndex_init) l_InvalidIndex_init c_InvalidIndex_init k_InvalidIndex_init)
      b_InvalidIndex_init := ((fun_mk (st := s_InvalidIndex_init) l_InvalidIndex_init c_InvalidIndex_init k_InvalidIndex_init).binds (ps := ["self", "given"]) fun _ _ _ _ _ _ us hl => match us, hl with | [_, _], _ => rfl)
      fi_InvalidIndex := fi_InvalidIndex
      ti_InvalidIndex := ti_InvalidIndex_init
      C_InvalidLevels := C_InvalidLevels
      g_InvalidLevels := (PySem.W.mg_of X G e_InvalidLevels)
      ox_InvalidLevels := (⟨⟨_, _, _, _, _, _, _, _, _, _, _, _, _, _, _, _, _, _, _, ⟨Xb.bVE, xl_InvalidLevels⟩⟩, xs_InvalidLevels, xe_InvalidLevels, xt_InvalidLevels, xk_InvalidLevels⟩)
      xf_InvalidLevels := (⟨⟨xa_InvalidLevels, xg_InvalidLevels, xe_InvalidLevels, xh_InvalidLevels⟩, xn_InvalidLevels⟩)
      xm_InvalidLevels := (PySem.W.exm_ref xe_InvalidLevels xh_InvalidLevels xt_InvalidLevels x4_InvalidLevels)
      a_InvalidLevels_init := a_InvalidLevels_init
      d_InvalidLevels_init := _
      F_InvalidLevels_init := (fun_mk (st := s_InvalidLevels_init) l_InvalidLevels_init c_InvalidLevels_init k_InvalidLevels_init)
      b_InvalidLevels_init := ((fun_mk (st := s_InvalidLevels_init) l_InvalidLevels_init c_InvalidLevels_init k_InvalidLevels_init).binds (ps := ["self", "given"]) fun _ _ _ _ _ _ us hl => match us, hl with | [_, _], _ => rfl)
      fi_InvalidLevels := fi_InvalidLevels
      ti_InvalidLevels := ti_InvalidLevels_init
      C_InvalidNumber := C_InvalidNumber
      g_InvalidNumber := (PySem.W.mg_of X G e_InvalidNumber)
      ox_InvalidNumber := (⟨⟨_, _, _, _, _, _, _, _, _, _, _, _, _, _, _, _, _, _, _, ⟨Xb.bVE, xl_InvalidNumber⟩⟩, xs_InvalidNumber, xe_InvalidNumber, xt_InvalidNumber, xk_InvalidNumber⟩)
      xf_InvalidNumber := (⟨⟨xa_InvalidNumber, xg_InvalidNumber, xe_InvalidNumber, xh_InvalidNumber⟩, xn_InvalidNumber⟩)
      xm_InvalidNumber := (PySem.W.exm_ref xe_InvalidNumber xh_InvalidNumber xt_InvalidNumber x4_InvalidNumber)
      a_InvalidNumber_init := a_InvalidNumber_init
      d_InvalidNumber_init := _
      F_InvalidNumber_init := (fun_mk (st := s_InvalidNumber_init) l_InvalidNumber_init c_InvalidNumber_init k_InvalidNumber_init)
      b_InvalidNumber_init := ((fun_mk (st := s_InvalidNumber_init) l_InvalidNumber_init c_InvalidNumber_init k_InvalidNumber_init).binds (ps := ["self", "given"]) fun _ _ _ _ _ _ us hl => match us, hl with | [_, _], _ => rfl)
      fi_InvalidNumber := fi_InvalidNumber
      ti_InvalidNumber := ti_InvalidNumber_init
      C_InvalidWish := C_InvalidWish
      g_InvalidWish := (PySem.W.mg_of X G e_InvalidWish)
      ox_InvalidWish := (⟨⟨_, _, _, _, _, _, _, _, _, _, _, _, _, _, _, _, _, _, _, ⟨Xb.bVE, xl_InvalidWish⟩⟩, xs_InvalidWish, xe_InvalidWish, xt_InvalidWish, xk_InvalidWish⟩)
      xf_InvalidWish := (⟨⟨xa_InvalidWish, xg_InvalidWish, xe_InvalidWish, xh_InvalidWish⟩, xn_InvalidWish⟩)
      xm_InvalidWish := (PySem.W.exm_ref xe_InvalidWish xh_InvalidWish xt_InvalidWish x4_InvalidWish)
      a_InvalidWish_init := a_InvalidWish_init
      d_InvalidWish_init := _
      F_InvalidWish_init := (fun_mk (st := s_InvalidWish_init) l_InvalidWish_init c_InvalidWish_init k_InvalidWish_init)
      b_InvalidWish_init := ((fun_mk (st := s_InvalidWish_init) l_InvalidWish_init c_InvalidWish_init k_InvalidWish_init).binds (ps := ["self", "given"]) fun _ _ _ _ _ _ us hl => match us, hl with | [_, _], _ => rfl)
      fi_InvalidWish := fi_InvalidWish
      ti_InvalidWish := ti_InvalidWish_init
      C_NotRound := C_NotRound
      g_NotRound := (PySem.W.mg_of X G e_NotRound)
      ox_NotRound := (⟨⟨_, _, _, _, _, _, _, _, _, _, _, _, _, _, _, _, _, _, _, ⟨Xb.bVE, xl_NotRound⟩⟩, xs_NotRound, xe_NotRound, xt_NotRound, xk_NotRound⟩)
      xf_NotRound := (⟨⟨xa_NotRound, xg_NotRound, xe_NotRound, xh_NotRound⟩, xn_NotRound⟩)
      xm_NotRound := (PySem.W.exm_ref xe_NotRound xh_NotRound xt_NotRound x4_NotRound)
      a_NotRound_init := a_NotRound_init
      d_NotRound_init := _
      F_NotRound_init := (fun_mk (st := s_NotRound_init) l_NotRound_init c_NotRound_init k_NotRound_init)
      b_NotRound_init := ((fun_mk (st := s_NotRound_init) l_NotRound_init c_NotRound_init k_NotRound_init).binds (ps := ["self", "given"]) fun _ _ _ _ _ _ us hl => match us, hl with | [_, _], _ => rfl)
      fi_NotRound := fi_NotRound
      ti_NotRound := ti_NotRound_init
      C_NotLot := C_NotLot
      g_NotLot := (PySem.W.mg_of X G e_NotLot)
      ox_NotLot := (⟨⟨_, _, _, _, _, _, _, _, _, _, _, _, _, _, _, _, _, _, _, ⟨Xb.bVE, xl_NotLot⟩⟩, xs_NotLot, xe_NotLot, xt_NotLot, xk_NotLot⟩)
      xf_NotLot := (⟨⟨xa_NotLot, xg_NotLot, xe_NotLot, xh_NotLot⟩, xn_NotLot⟩)
      xm_NotLot := (PySem.W.exm_ref xe_NotLot xh_NotLot xt_NotLot x4_NotLot)
      a_NotLot_init := a_NotLot_init
      d_NotLot_init := _
      F_NotLot_init := (fun_mk (st := s_NotLot_init) l_NotLot_init c_NotLot_init k_NotLot_init)
      b_NotLot_init := ((fun_mk (st := s_NotLot_init) l_NotLot_init c_NotLot_init k_NotLot_init).binds (ps := ["self", "given"]) fun _ _ _ _ _ _ us hl => match us, hl with | [_, _], _ => rfl)
      fi_NotLot := fi_NotLot
      ti_NotLot := ti_NotLot_init
      C_InvalidLamps := C_InvalidLamps
      g_InvalidLamps := (PySem.W.mg_of X G e_InvalidLamps)
      ox_InvalidLamps := (⟨⟨_, _, _, _, _, _, _, _, _, _, _, _, _, _, _, _, _, _, _, ⟨Xb.bVE, xl_InvalidLamps⟩⟩, xs_InvalidLamps, xe_InvalidLamps, xt_InvalidLamps, xk_InvalidLamps⟩)
      xf_InvalidLamps := (⟨⟨xa_InvalidLamps, xg_InvalidLamps, xe_InvalidLamps, xh_InvalidLamps⟩, xn_InvalidLamps⟩)
      xm_InvalidLamps := (PySem.W.exm_ref xe_InvalidLamps xh_InvalidLamps xt_InvalidLamps x4_InvalidLamps)
      a_InvalidLamps_init := a_InvalidLamps_init
      d_InvalidLamps_init := _
      F_InvalidLamps_init := (fun_mk (st := s_InvalidLamps_init) l_InvalidLamps_init c_InvalidLamps_init k_InvalidLamps_init)
      b_InvalidLamps_init := ((fun_mk (st := s_InvalidLamps_init) l_InvalidLamps_init c_InvalidLamps_init k_InvalidLamps_init).binds (ps := ["self", "index"]) fun _ _ _ _ _ _ us hl => match us, hl with | [_, _], _ => rfl)
      fi_InvalidLamps := fi_InvalidLamps
      ti_InvalidLamps := ti_InvalidLamps_init
      C_InvalidRounds := C_InvalidRounds
      g_InvalidRounds := (PySem.W.mg_of X G e_InvalidRounds)
      ox_InvalidRounds := (⟨⟨_, _, _, _, _, _, _, _, _, _, _, _, _, _, _, _, _, _, _, ⟨Xb.bVE, xl_InvalidRounds⟩⟩, xs_InvalidRounds, xe_InvalidRounds, xt_InvalidRounds, xk_InvalidRounds⟩)
      xf_InvalidRounds := (⟨⟨xa_InvalidRounds, xg_InvalidRounds, xe_InvalidRounds, xh_InvalidRounds⟩, xn_InvalidRounds⟩)
      xm_InvalidRounds := (PySem.W.exm_ref xe_InvalidRounds xh_InvalidRounds xt_InvalidRounds x4_InvalidRounds)
      a_InvalidRounds_init := a_InvalidRounds_init
      d_InvalidRounds_init := _
      F_InvalidRounds_init := (fun_mk (st := s_InvalidRounds_init) l_InvalidRounds_init c_InvalidRounds_init k_InvalidRounds_init)
      b_InvalidRounds_init := ((fun_mk (st := s_InvalidRounds_init) l_InvalidRounds_init c_InvalidRounds_init k_InvalidRounds_init).binds (ps := ["self", "index"]) fun _ _ _ _ _ _ us hl => match us, hl with | [_, _], _ => rfl)
      fi_InvalidRounds := fi_InvalidRounds
      ti_InvalidRounds := ti_InvalidRounds_init
      C_InvalidSteps := C_InvalidSteps
      g_InvalidSteps := (PySem.W.mg_of X G e_InvalidSteps)
      ox_InvalidSteps := (⟨⟨_, _, _, _, _, _, _, _, _, _, _, _, _, _, _, _, _, _, _, ⟨Xb.bVE, xl_InvalidSteps⟩⟩, xs_InvalidSteps, xe_InvalidSteps, xt_InvalidSteps, xk_InvalidSteps⟩)
      xf_InvalidSteps := (⟨⟨xa_InvalidSteps, xg_InvalidSteps, xe_InvalidSteps, xh_InvalidSteps⟩, xn_InvalidSteps⟩)
      xm_InvalidSteps := (PySem.W.exm_ref xe_InvalidSteps xh_InvalidSteps xt_InvalidSteps x4_InvalidSteps)
      a_InvalidSteps_init := a_InvalidSteps_init
      d_InvalidSteps_init := _
      F_InvalidSteps_init := (fun_mk (st := s_InvalidSteps_init) l_InvalidSteps_init c_InvalidSteps_init k_InvalidSteps_init)
      b_InvalidSteps_init := ((fun_mk (st := s_InvalidSteps_init) l_InvalidSteps_init c_InvalidSteps_init k_InvalidSteps_init).binds (ps := ["self", "index"]) fun _ _ _ _ _ _ us hl => match us, hl with | [_, _], _ => rfl)
      fi_InvalidSteps := fi_InvalidSteps
      ti_InvalidSteps := ti_InvalidSteps_init
      C_InvalidPlan := C_InvalidPlan
      g_InvalidPlan := (PySem.W.mg_of X G e_InvalidPlan)
      ox_InvalidPlan := (⟨⟨_, _, _, _, _, _, _, _, _, _, _, _, _, _, _, _, _, _, _, ⟨Xb.bVE, xl_InvalidPlan⟩⟩, xs_InvalidPlan, xe_InvalidPlan, xt_InvalidPlan, xk_InvalidPlan⟩)
      xf_InvalidPlan := (⟨⟨xa_InvalidPlan, xg_InvalidPlan, xe_InvalidPlan, xh_InvalidPlan⟩, xn_InvalidPlan⟩)
      xm_InvalidPlan := (PySem.W.exm_ref xe_InvalidPlan xh_InvalidPlan xt_InvalidPlan x4_InvalidPlan)
      a_InvalidPlan_init := a_InvalidPlan_init
      d_InvalidPlan_init := _
      F_InvalidPlan_init := (fun_mk (st := s_InvalidPlan_init) l_InvalidPlan_init c_InvalidPlan_init k_InvalidPlan_init)
      b_InvalidPlan_init := ((fun_mk (st := s_InvalidPlan_init) l_InvalidPlan_init c_InvalidPlan_init k_InvalidPlan_init).binds (ps := ["self", "index"]) fun _ _ _ _ _ _ us hl => match us, hl with | [_, _], _ => rfl)
      fi_InvalidPlan := fi_InvalidPlan
      ti_InvalidPlan := ti_InvalidPlan_init
      C_InvalidChanges := C_InvalidChanges
      g_InvalidChanges := (PySem.W.mg_of X G e_InvalidChanges)
      ox_InvalidChanges := (⟨⟨_, _, _, _, _, _, _, _, _, _, _, _, _, _, _, _, _, _, _, ⟨Xb.bVE, xl_InvalidChanges⟩⟩, xs_InvalidChanges, xe_InvalidChanges, xt_InvalidChanges, xk_InvalidChanges⟩)
      xf_InvalidChanges := (⟨⟨xa_InvalidChanges, xg_InvalidChanges, xe_InvalidChanges, xh_InvalidChanges⟩, xn_InvalidChanges⟩)
      xm_InvalidChanges := (PySem.W.exm_ref xe_InvalidChanges xh_InvalidChanges xt_InvalidChanges x4_InvalidChanges)
      a_InvalidChanges_init := a_InvalidChanges_init
      d_InvalidChanges_init := _
      F_InvalidChanges_init := (fun_mk (st := s_InvalidChanges_init) l_InvalidChanges_init c_InvalidChanges_init k_InvalidChanges_init)
      b_InvalidChanges_init := ((fun_mk (st := s_InvalidChanges_init) l_InvalidChanges_init c_InvalidChanges_init k_InvalidChanges_init).binds (ps := ["self", "index"]) fun _ _ _ _ _ _ us hl => match us, hl with | [_, _], _ => rfl)
      fi_InvalidChanges := fi_InvalidChanges
      ti_InvalidChanges := ti_InvalidChanges_init
      C_InvalidWishes := C_InvalidWishes
      g_InvalidWishes := (PySem.W.mg_of X G e_InvalidWishes)
      ox_InvalidWishes := (⟨⟨_, _, _, _, _, _, _, _, _, _, _, _, _, _, _, _, _, _, _, ⟨Xb.bVE, xl_InvalidWishes⟩⟩, xs_InvalidWishes, xe_InvalidWishes, xt_InvalidWishes, xk_InvalidWishes⟩)
      xf_InvalidWishes := (⟨⟨xa_InvalidWishes, xg_InvalidWishes, xe_InvalidWishes, xh_InvalidWishes⟩, xn_InvalidWishes⟩)
      xm_InvalidWishes := (PySem.W.exm_ref xe_InvalidWishes xh_InvalidWishes xt_InvalidWishes x4_InvalidWishes)
      a_InvalidWishes_init := a_InvalidWishes_init
      d_InvalidWishes_init := _
      F_InvalidWishes_init := (fun_mk (st := s_InvalidWishes_init) l_InvalidWishes_init c_InvalidWishes_init k_InvalidWishes_init)
      b_InvalidWishes_init := ((fun_mk (st := s_InvalidWishes_init) l_InvalidWishes_init c_InvalidWishes_init k_InvalidWishes_init).binds (ps := ["self", "index"]) fun _ _ _ _ _ _ us hl => match us, hl with | [_, _], _ => rfl)
      fi_InvalidWishes := fi_InvalidWishes
      ti_InvalidWishes := ti_InvalidWishes_init
      C_UnknownName := C_UnknownName
      g_UnknownName := (PySem.W.mg_of X G e_UnknownName)
      ox_UnknownName := (⟨⟨_, _, _, _, _, _, _, _, _, _, _, _, _, _, _, _, _, _, _, ⟨Xb.bLE, xl_UnknownName⟩⟩, xs_UnknownName, xe_UnknownName, xt_UnknownName, xk_UnknownName⟩)
      xf_UnknownName := (⟨⟨xa_UnknownName, xg_UnknownName, xe_UnknownName, xh_UnknownName⟩, xn_UnknownName⟩)
      xm_UnknownName := (PySem.W.exm_ref xe_UnknownName xh_UnknownName xt_UnknownName x4_UnknownName)
      a_UnknownName_init := a_UnknownName_init
      d_UnknownName_init := _
      F_UnknownName_init := (fun_mk (st := s_UnknownName_init) l_UnknownName_init c_UnknownName_init k_UnknownName_init)
      b_UnknownName_init := ((fun_mk (st := s_UnknownName_init) l_UnknownName_init c_UnknownName_init k_UnknownName_init).binds (ps := ["self", "given"]) fun _ _ _ _ _ _ us hl => match us, hl with | [_, _], _ => rfl)
      fi_UnknownName := fi_UnknownName
      ti_UnknownName := ti_UnknownName_init
      C_InUse := C_InUse
      g_InUse := (PySem.W.mg_of X G e_InUse)
      ox_InUse := (⟨⟨_, _, _, _, _, _, _, _, _, _, _, _, _, _, _, _, _, _, _, ⟨Xb.bLE, xl_InUse⟩⟩, xs_InUse, xe_InUse, xt_InUse, xk_InUse⟩)
      xf_InUse := (⟨⟨xa_InUse, xg_InUse, xe_InUse, xh_InUse⟩, xn_InUse⟩)
      xm_InUse := (PySem.W.exm_ref xe_InUse xh_InUse xt_InUse x4_InUse)
      a_InUse_init := a_InUse_init
      d_InUse_init := _
      F_InUse_init := (fun_mk (st := s_InUse_init) l_InUse_init c_InUse_init k_InUse_init)
      b_InUse_init := ((fun_mk (st := s_InUse_init) l_InUse_init c_InUse_init k_InUse_init).binds (ps := ["self", "index"]) fun _ _ _ _ _ _ us hl => match us, hl with | [_, _], _ => rfl)
      fi_InUse := fi_InUse
      ti_InUse := ti_InUse_init
      C_OtherLevels := C_OtherLevels
      g_OtherLevels := (PySem.W.mg_of X G e_OtherLevels)
      ox_OtherLevels := (⟨⟨_, _, _, _, _, _, _, _, _, _, _, _, _, _, _, _, _, _, _, ⟨Xb.bAE, xl_OtherLevels⟩⟩, xs_OtherLevels, xe_OtherLevels, xt_OtherLevels, xk_OtherLevels⟩)
      xf_OtherLevels := (⟨⟨xa_OtherLevels, xg_OtherLevels, xe_OtherLevels, xh_OtherLevels⟩, xn_OtherLevels⟩)
      xm_OtherLevels := (PySem.W.exm_ref xe_OtherLevels xh_OtherLevels xt_OtherLevels x4_OtherLevels)
      a_OtherLevels_init := a_OtherLevels_init
      d_OtherLevels_init := _
      F_OtherLevels_init := (fun_mk (st := s_OtherLevels_init) l_OtherLevels_init c_OtherLevels_init k_OtherLevels_init)
      b_OtherLevels_init := ((fun_mk (st := s_OtherLevels_init) l_OtherLevels_init c_OtherLevels_init k_OtherLevels_init).binds (ps := ["self", "given"]) fun _ _ _ _ _ _ us hl => match us, hl with | [_, _], _ => rfl)
      fi_OtherLevels := fi_OtherLevels
      ti_OtherLevels := ti_OtherLevels_init
      C_TooMany := C_TooMany
      g_TooMany := (PySem.W.mg_of X G e_TooMany)
      ox_TooMany := (⟨⟨_, _, _, _, _, _, _, _, _, _, _, _, _, _, _, _, _, _, _, ⟨Xb.bAE, xl_TooMany⟩⟩, xs_TooMany, xe_TooMany, xt_TooMany, xk_TooMany⟩)
      xf_TooMany := (⟨⟨xa_TooMany, xg_TooMany, xe_TooMany, xh_TooMany⟩, xn_TooMany⟩)
      xm_TooMany := (PySem.W.exm_ref xe_TooMany xh_TooMany xt_TooMany x4_TooMany)
      a_TooMany_init := a_TooMany_init
      d_TooMany_init := _
      F_TooMany_init := (fun_mk (st := s_TooMany_init) l_TooMany_init c_TooMany_init k_TooMany_init)
      b_TooMany_init := ((fun_mk (st := s_TooMany_init) l_TooMany_init c_TooMany_init k_TooMany_init).binds (ps := ["self", "given"]) fun _ _ _ _ _ _ us hl => match us, hl with | [_, _], _ => rfl)
      fi_TooMany := fi_TooMany
      ti_TooMany := ti_TooMany_init
      C_TooFar := C_TooFar
      g_TooFar := (PySem.W.mg_of X G e_TooFar)
      ox_TooFar := (⟨⟨_, _, _, _, _, _, _, _, _, _, _, _, _, _, _, _, _, _, _, ⟨Xb.bAE, xl_TooFar⟩⟩, xs_TooFar, xe_TooFar, xt_TooFar, xk_TooFar⟩)
      xf_TooFar := (⟨⟨xa_TooFar, xg_TooFar, xe_TooFar, xh_TooFar⟩, xn_TooFar⟩)
      xm_TooFar := (PySem.W.exm_ref xe_TooFar xh_TooFar xt_TooFar x4_TooFar)
      a_TooFar_init := a_TooFar_init
      d_TooFar_init := _
      F_TooFar_init := (fun_mk (st := s_TooFar_init) l_TooFar_init c_TooFar_init k_TooFar_init)
      b_TooFar_init := ((fun_mk (st := s_TooFar_init) l_TooFar_init c_TooFar_init k_TooFar_init).binds (ps := ["self", "given"]) fun _ _ _ _ _ _ us hl => match us, hl with | [_, _], _ => rfl)
      fi_TooFar := fi_TooFar
      ti_TooFar := ti_TooFar_init
      C_NothingToUndo := C_NothingToUndo
      g_NothingToUndo := (PySem.W.mg_of X G e_NothingToUndo)
      xx_NothingToUndo := xx_NothingToUndo
      xt_NothingToUndo := xt_NothingToUndo
      xe_NothingToUndo := xe_NothingToUndo
      x4_NothingToUndo := x4_NothingToUndo
      C_Broken := C_Broken
      g_Broken := (PySem.W.mg_of X G e_Broken)
      ox_Broken := (⟨⟨_, _, _, _, _, _, _, _, _, _, _, _, _, _, _, _, _, _, _, ⟨Xb.bAE, xl_Broken⟩⟩, xs_Broken, xe_Broken, xt_Broken, xk_Broken⟩)
      xf_Broken := (⟨⟨xa_Broken, xg_Broken, xe_Broken, xh_Broken⟩, xn_Broken⟩)
      xm_Broken := (PySem.W.exm_ref xe_Broken xh_Broken xt_Broken x4_Broken)
      a_Broken_init := a_Broken_init
      d_Broken_init := _
      F_Broken_init := (fun_mk (st := s_Broken_init) l_Broken_init c_Broken_init k_Broken_init)
      b_Broken_init := ((fun_mk (st := s_Broken_init) l_Broken_init c_Broken_init k_Broken_init).binds (ps := ["self", "index"]) fun _ _ _ _ _ _ us hl => match us, hl with | [_, _], _ => rfl)
      fi_Broken := fi_Broken
      ti_Broken := ti_Broken_init
      C_WrongValue := C_WrongValue
      g_WrongValue := (PySem.W.mg_of X G e_WrongValue)
      xx_WrongValue := xx_WrongValue
      xt_WrongValue := xt_WrongValue
      xe_WrongValue := xe_WrongValue
      x4_WrongValue := x4_WrongValue
      C_WrongName := C_WrongName
      g_WrongName := (PySem.W.mg_of X G e_WrongName)
      xx_WrongName := xx_WrongName
      xt_WrongName := xt_WrongName
      xe_WrongName := xe_WrongName
      x4_WrongName := x4_WrongName
      C_NotPossible := C_NotPossible
      g_NotPossible := (PySem.W.mg_of X G e_NotPossible)
      xx_NotPossible := xx_NotPossible
      xt_NotPossible := xt_NotPossible
      xe_NotPossible := xe_NotPossible
      x4_NotPossible := x4_NotPossible
      xi_InvalidText := (⟨xi_InvalidText, xa_InvalidText, xg_InvalidText, xe_InvalidText, za_InvalidText, zs_InvalidText, zt_InvalidText, zo_InvalidText⟩)
      kb_InvalidText_init_given := (⟨fun s us ws _ l1 l2 => match us, ws, l1, l2 with | [_], [_], _, _ => .of_eq rfl⟩)
      xi_InvalidName := (⟨xi_InvalidName, xa_InvalidName, xg_InvalidName, xe_InvalidName, za_InvalidName, zs_InvalidName, zt_InvalidName, zo_InvalidName⟩)
      kb_InvalidName_init_given := (⟨fun s us ws _ l1 l2 => match us, ws, l1, l2 with | [_], [_], _, _ => .of_eq rfl⟩)
      xi_InvalidIndex := (⟨xi_InvalidIndex, xa_InvalidIndex, xg_InvalidIndex, xe_InvalidIndex, za_InvalidIndex, zs_InvalidIndex, zt_InvalidIndex, zo_InvalidIndex⟩)
      kb_InvalidIndex_init_given := (⟨fun s us ws _ l1 l2 => match us, ws, l1, l2 with | [_], [_], _, _ => .of_eq rfl⟩)
      xi_InvalidLevels := (⟨xi_InvalidLevels, xa_InvalidLevels, xg_InvalidLevels, xe_InvalidLevels, za_InvalidLevels, zs_InvalidLevels, zt_InvalidLevels, zo_InvalidLevels⟩)
      kb_InvalidLevels_init_given := (⟨fun s us ws _ l1 l2 => match us, ws, l1, l2 with | [_], [_], _, _ => .of_eq rfl⟩)
      xi_InvalidNumber := (⟨xi_InvalidNumber, xa_InvalidNumber, xg_InvalidNumber, xe_InvalidNumber, za_InvalidNumber, zs_InvalidNumber, zt_InvalidNumber, zo_InvalidNumber⟩)
      kb_InvalidNumber_init_given := (⟨fun s us ws _ l1 l2 => match us, ws, l1, l2 with | [_], [_], _, _ => .of_eq rfl⟩)
      xi_InvalidWish := (⟨xi_InvalidWish, xa_InvalidWish, xg_InvalidWish, xe_InvalidWish, za_InvalidWish, zs_InvalidWish, zt_InvalidWish, zo_InvalidWish⟩)
      kb_InvalidWish_init_given := (⟨fun s us ws _ l1 l2 => match us, ws, l1, l2 with | [_], [_], _, _ => .of_eq rfl⟩)
      xi_NotRound := (⟨xi_NotRound, xa_NotRound, xg_NotRound, xe_NotRound, za_NotRound, zs_NotRound, zt_NotRound, zo_NotRound⟩)
      kb_NotRound_init_given := (⟨fun s us ws _ l1 l2 => match us, ws, l1, l2 with | [_], [_], _, _ => .of_eq rfl⟩)
      xi_NotLot := (⟨xi_NotLot, xa_NotLot, xg_NotLot, xe_NotLot, za_NotLot, zs_NotLot, zt_NotLot, zo_NotLot⟩)
      kb_NotLot_init_given := (⟨fun s us ws _ l1 l2 => match us, ws, l1, l2 with | [_], [_], _, _ => .of_eq rfl⟩)
      xi_InvalidLamps := (⟨xi_InvalidLamps, xa_InvalidLamps, xg_InvalidLamps, xe_InvalidLamps, za_InvalidLamps, zs_InvalidLamps, zt_InvalidLamps, zo_InvalidLamps⟩)
      kb_InvalidLamps_init_index := (⟨fun s us ws _ l1 l2 => match us, ws, l1, l2 with | [_], [_], _, _ => .of_eq rfl⟩)
      xi_InvalidRounds := (⟨xi_InvalidRounds, xa_InvalidRounds, xg_InvalidRounds, xe_InvalidRounds, za_InvalidRounds, zs_InvalidRounds, zt_InvalidRounds, zo_InvalidRounds⟩)
      kb_InvalidRounds_init_index := (⟨fun s us ws _ l1 l2 => match us, ws, l1, l2 with | [_], [_], _, _ => .of_eq rfl⟩)
      xi_InvalidSteps := (⟨xi_InvalidSteps, xa_InvalidSteps, xg_InvalidSteps, xe_InvalidSteps, za_InvalidSteps, zs_InvalidSteps, zt_InvalidSteps, zo_InvalidSteps⟩)
      kb_InvalidSteps_init_index := (⟨fun s us ws _ l1 l2 => match us, ws, l1, l2 with | [_], [_], _, _ => .of_eq rfl⟩)
      xi_InvalidPlan := (⟨xi_InvalidPlan, xa_InvalidPlan, xg_InvalidPlan, xe_InvalidPlan, za_InvalidPlan, zs_InvalidPlan, zt_InvalidPlan, zo_InvalidPlan⟩)
      kb_InvalidPlan_init_index := (⟨fun s us ws _ l1 l2 => match us, ws, l1, l2 with | [_], [_], _, _ => .of_eq rfl⟩)
      xi_InvalidChanges := (⟨xi_InvalidChanges, xa_InvalidChanges, xg_InvalidChanges, xe_InvalidChanges, za_InvalidChanges, zs_InvalidChanges, zt_InvalidChanges, zo_InvalidChanges⟩)
      kb_InvalidChanges_init_index := (⟨fun s us ws _ l1 l2 => match us, ws, l1, l2 with | [_], [_], _, _ => .of_eq rfl⟩)
      xi_InvalidWishes := (⟨xi_InvalidWishes, xa_InvalidWishes, xg_InvalidWishes, xe_InvalidWishes, za_InvalidWishes, zs_InvalidWishes, zt_InvalidWishes, zo_InvalidWishes⟩)
      kb_InvalidWishes_init_index := (⟨fun s us ws _ l1 l2 => match us, ws, l1, l2 with | [_], [_], _, _ => .of_eq rfl⟩)
      xi_UnknownName := (⟨xi_UnknownName, xa_UnknownName, xg_UnknownName, xe_UnknownName, za_UnknownName, zs_UnknownName, zt_UnknownName, zo_UnknownName⟩)
      kb_UnknownName_init_given := (⟨fun s us ws _ l1 l2 => match us, ws, l1, l2 with | [_], [_], _, _ => .of_eq rfl⟩)
      xi_InUse := (⟨xi_InUse, xa_InUse, xg_InUse, xe_InUse, za_InUse, zs_InUse, zt_InUse, zo_InUse⟩)
      kb_InUse_init_index := (⟨fun s us ws _ l1 l2 => match us, ws, l1, l2 with | [_], [_], _, _ => .of_eq rfl⟩)
      xi_OtherLevels := (⟨xi_OtherLevels, xa_OtherLevels, xg_OtherLevels, xe_OtherLevels, za_OtherLevels, zs_OtherLevels, zt_OtherLevels, zo_OtherLevels⟩)
      kb_OtherLevels_init_given := (⟨fun s us ws _ l1 l2 => match us, ws, l1, l2 with | [_], [_], _, _ => .of_eq rfl⟩)
      xi_TooMany := (⟨xi_TooMany, xa_TooMany, xg_TooMany, xe_TooMany, za_TooMany, zs_TooMany, zt_TooMany, zo_TooMany⟩)
      kb_TooMany_init_given := (⟨fun s us ws _ l1 l2 => match us, ws, l1, l2 with | [_], [_], _, _ => .of_eq rfl⟩)
      xi_TooFar := (⟨xi_TooFar, xa_TooFar, xg_TooFar, xe_TooFar, za_TooFar, zs_TooFar, zt_TooFar, zo_TooFar⟩)
      kb_TooFar_init_given := (⟨fun s us ws _ l1 l2 => match us, ws, l1, l2 with | [_], [_], _, _ => .of_eq rfl⟩)
      xk_NothingToUndo := xk_NothingToUndo
      xi_NothingToUndo := (⟨xi_NothingToUndo, xa_NothingToUndo, xg_NothingToUndo, xe_NothingToUndo, za_NothingToUndo, zs_NothingToUndo, zt_NothingToUndo, zo_NothingToUndo⟩)
      xi_Broken := (⟨xi_Broken, xa_Broken, xg_Broken, xe_Broken, za_Broken, zs_Broken, zt_Broken, zo_Broken⟩)
      kb_Broken_init_index := (⟨fun s us ws _ l1 l2 => match us, ws, l1, l2 with | [_], [_], _, _ => .of_eq rfl⟩)
      xk_WrongValue := xk_WrongValue
      xi_WrongValue := (⟨xi_WrongValue, xa_WrongValue, xg_WrongValue, xe_WrongValue, za_WrongValue, zs_WrongValue, zt_WrongValue, zo_WrongValue⟩)
      xk_WrongName := xk_WrongName
      xi_WrongName := (⟨xi_WrongName, xa_WrongName, xg_WrongName, xe_WrongName, za_WrongName, zs_WrongName, zt_WrongName, zo_WrongName⟩)
      xk_NotPossible := xk_NotPossible
      xi_NotPossible := (⟨xi_NotPossible, xa_NotPossible, xg_NotPossible, xe_NotPossible, za_NotPossible, zs_NotPossible, zt_NotPossible, zo_NotPossible⟩)
      tx_InvalidText := (fun k C b e e2 => Mi.ko_own xi_InvalidText xt_InvalidText (Mi.row_at (f := fun C => PySem.W.mroIn K C (.ref C_InvalidText)) (cs := [C_InvalidText, C_InvalidName, C_InvalidIndex, C_InvalidLevels, C_InvalidNumber, C_InvalidWish, C_NotRound, C_NotLot, C_InvalidLamps, C_InvalidRounds, C_InvalidSteps, C_InvalidPlan, C_InvalidChanges, C_InvalidWishes, C_UnknownName, C_InUse, C_OtherLevels, C_TooMany, C_TooFar, C_NothingToUndo, C_Broken, C_WrongValue, C_WrongName, C_NotPossible]) (tbl := [true, false, false, false, false, false, false, false, false, false, false, false, false, false, false, false, false, false, false, false, false, false, false, false]) tr_InvalidText (k := 0) rfl rfl) (Mi.row_at (f := fun C => PySem.W.mroIn K C (.ref C_InvalidText)) (tbl := [true, false, false, false, false, false, false, false, false, false, false, false, false, false, false, false, false, false, false, false, false, false, false, false]) tr_InvalidText e e2))
      tx_InvalidName := (fun k C b e e2 => Mi.ko_own xi_InvalidName xt_InvalidName (Mi.row_at (f := fun C => PySem.W.mroIn K C (.ref C_InvalidName)) (cs := [C_InvalidText, C_InvalidName, C_InvalidIndex, C_InvalidLevels, C_InvalidNumber, C_InvalidWish, C_NotRound, C_NotLot, C_InvalidLamps, C_InvalidRounds, C_InvalidSteps, C_InvalidPlan, C_InvalidChanges, C_InvalidWishes, C_UnknownName, C_InUse, C_OtherLevels, C_TooMany, C_TooFar, C_NothingToUndo, C_Broken, C_WrongValue, C_WrongName, C_NotPossible]) (tbl := [false, true, false, false, false, false, false, false, false, false, false, false, false, false, false, false, false, false, false, false, false, false, false, false]) tr_InvalidName (k := 1) rfl rfl) (Mi.row_at (f := fun C => PySem.W.mroIn K C (.ref C_InvalidName)) (tbl := [false, true, false, false, false, false, false, false, false, false, false, false, false, false, false, false, false, false, false, false, false, false, false, false]) tr_InvalidName e e2))
      tx_InvalidIndex := (fun k C b e e2 => Mi.ko_own xi_InvalidIndex xt_InvalidIndex (Mi.row_at (f := fun C => PySem.W.mroIn K C (.ref C_InvalidIndex)) (cs := [C_InvalidText, C_InvalidName, C_InvalidIndex, C_InvalidLevels, C_InvalidNumber, C_InvalidWish, C_NotRound, C_NotLot, C_InvalidLamps, C_InvalidRounds, C_InvalidSteps, C_InvalidPlan, C_InvalidChanges, C_InvalidWishes, C_UnknownName, C_InUse, C_OtherLevels, C_TooMany, C_TooFar, C_NothingToUndo, C_Broken, C_WrongValue, C_WrongName, C_NotPossible]) (tbl := [false, false, true, false, false, false, false, false, false, false, false, false, false, false, false, false, false, false, false, false, false, false, false, false]) tr_InvalidIndex (k := 2) rfl rfl) (Mi.row_at (f := fun C => PySem.W.mroIn K C (.ref C_InvalidIndex)) (tbl := [false, false, true, false, false, false, false, false, false, false, false, false, false, false, false, false, false, false, false, false, false, false, false, false]) tr_InvalidIndex e e2))
      tx_InvalidLevels := (fun k C b e e2 => Mi.ko_own xi_InvalidLevels xt_InvalidLevels (Mi.row_at (f := fun C => PySem.W.mroIn K C (.ref C_InvalidLevels)) (cs := [C_InvalidText, C_InvalidName, C_InvalidIndex, C_InvalidLevels, C_InvalidNumber, C_InvalidWish, C_NotRound, C_NotLot, C_InvalidLamps, C_InvalidRounds, C_InvalidSteps, C_InvalidPlan, C_InvalidChanges, C_InvalidWishes, C_UnknownName, C_InUse, C_OtherLevels, C_TooMany, C_TooFar, C_NothingToUndo, C_Broken, C_WrongValue, C_WrongName, C_NotPossible]) (tbl := [false, false, false, true, false, false, false, false, false, false, false, false, false, false, false, false, false, false, false, false, false, false, false, false]) tr_InvalidLevels (k := 3) rfl rfl) (Mi.row_at (f := fun C => PySem.W.mroIn K C (.ref C_InvalidLevels)) (tbl := [false, false, false, true, false, false, false, false, false, false, false, false, false, false, false, false, false, false, false, false, false, false, false, false]) tr_InvalidLevels e e2))
      tx_InvalidNumber := (fun k C b e e2 => Mi.ko_own xi_InvalidNumber xt_InvalidNumber (Mi.row_at (f := fun C => PySem.W.mroIn K C (.ref C_InvalidNumber)) (cs := [C_InvalidText, C_InvalidName, C_InvalidIndex, C_InvalidLevels, C_InvalidNumber, C_InvalidWish, C_NotRound, C_NotLot, C_InvalidLamps, C_InvalidRounds, C_InvalidSteps, C_InvalidPlan, C_InvalidChanges, C_InvalidWishes, C_UnknownName, C_InUse, C_OtherLevels, C_TooMany, C_TooFar, C_NothingToUndo, C_Broken, C_WrongValue, C_WrongName, C_NotPossible]) (tbl := [false, false, false, false, true, false, false, false, false, false, false, false, false, false, false, false, false, false, false, false, false, false, false, false]) tr_InvalidNumber (k := 4) rfl rfl) (Mi.row_at (f := fun C => PySem.W.mroIn K C (.ref C_InvalidNumber)) (tbl := [false, false, false, false, true, false, false, false, false, false, false, false, false, false, false, false, false, false, false, false, false, false, false, false]) tr_InvalidNumber e e2))
      tx_InvalidWish := (fun k C b e e2 => Mi.ko_own xi_InvalidWish xt_InvalidWish (Mi.row_at (f := fun C => PySem.W.mroIn K C (.ref C_InvalidWish)) (cs := [C_InvalidText, C_InvalidName, C_InvalidIndex, C_InvalidLevels, C_InvalidNumber, C_InvalidWish, C_NotRound, C_NotLot, C_InvalidLamps, C_InvalidRounds, C_InvalidSteps, C_InvalidPlan, C_InvalidChanges, C_InvalidWishes, C_UnknownName, C_InUse, C_OtherLevels, C_TooMany, C_TooFar, C_NothingToUndo, C_Broken, C_WrongValue, C_WrongName, C_NotPossible]) (tbl := [false, false, false, false, false, true, false, false, false, false, false, false, false, false, false, false, false, false, false, false, false, false, false, false]) tr_InvalidWish (k := 5) rfl rfl) (Mi.row_at (f := fun C => PySem.W.mroIn K C (.ref C_InvalidWish)) (tbl := [false, false, false, false, false, true, false, false, false, false, false, false, false, false, false, false, false, false, false, false, false, false, false, false]) tr_InvalidWish e e2))
      tx_NotRound := (fun k C b e e2 => Mi.ko_own xi_NotRound xt_NotRound (Mi.row_at (f := fun C => PySem.W.mroIn K C (.ref C_NotRound)) (cs := [C_InvalidText, C_InvalidName, C_InvalidIndex, C_InvalidLevels, C_InvalidNumber, C_InvalidWish, C_NotRound, C_NotLot, C_InvalidLamps, C_InvalidRounds, C_InvalidSteps, C_InvalidPlan, C_InvalidChanges, C_InvalidWishes, C_UnknownName, C_InUse, C_OtherLevels, C_TooMany, C_TooFar, C_NothingToUndo, C_Broken, C_WrongValue, C_WrongName, C_NotPossible]) (tbl := [false, false, false, false, false, false, true, false, false, false, false, false, false, false, false, false, false, false, false, false, false, false, false, false]) tr_NotRound (k := 6) rfl rfl) (Mi.row_at (f := fun C => PySem.W.mroIn K C (.ref C_NotRound)) (tbl := [false, false, false, false, false, false, true, false, false, false, false, false, false, false, false, false, false, false, false, false, false, false, false, false]) tr_NotRound e e2))
      tx_NotLot := (fun k C b e e2 => Mi.ko_own xi_NotLot xt_NotLot (Mi.row_at (f := fun C => PySem.W.mroIn K C (.ref C_NotLot)) (cs := [C_InvalidText, C_InvalidName, C_InvalidIndex, C_InvalidLevels, C_InvalidNumber, C_InvalidWish, C_NotRound, C_NotLot, C_InvalidLamps, C_InvalidRounds, C_InvalidSteps, C_InvalidPlan, C_InvalidChanges, C_InvalidWishes, C_UnknownName, C_InUse, C_OtherLevels, C_TooMany, C_TooFar, C_NothingToUndo, C_Broken, C_WrongValue, C_WrongName, C_NotPossible]) (tbl := [false, false, false, false, false, false, false, true, false, false, false, false, false, false, false, false, false, false, false, false, false, false, false, false]) tr_NotLot (k := 7) rfl rfl) (Mi.row_at (f := fun C => PySem.W.mroIn K C (.ref C_NotLot)) (tbl := [false, false, false, false, false, false, false, true, false, false, false, false, false, false, false, false, false, false, false, false, false, false, false, false]) tr_NotLot e e2))
      tx_InvalidLamps := (fun k C b e e2 => Mi.ko_own xi_InvalidLamps xt_InvalidLamps (Mi.row_at (f := fun C => PySem.W.mroIn K C (.ref C_InvalidLamps)) (cs := [C_InvalidText, C_InvalidName, C_InvalidIndex, C_InvalidLevels, C_InvalidNumber, C_InvalidWish, C_NotRound, C_NotLot, C_InvalidLamps, C_InvalidRounds, C_InvalidSteps, C_InvalidPlan, C_InvalidChanges, C_InvalidWishes, C_UnknownName, C_InUse, C_OtherLevels, C_TooMany, C_TooFar, C_NothingToUndo, C_Broken, C_WrongValue, C_WrongName, C_NotPossible]) (tbl := [false, false, false, false, false, false, false, false, true, false, false, false, false, false, false, false, false, false, false, false, false, false, false, false]) tr_InvalidLamps (k := 8) rfl rfl) (Mi.row_at (f := fun C => PySem.W.mroIn K C (.ref C_InvalidLamps)) (tbl := [false, false, false, false, false, false, false, false, true, false, false, false, false, false, false, false, false, false, false, false, false, false, false, false]) tr_InvalidLamps e e2))
      tx_InvalidRounds := (fun k C b e e2 => Mi.ko_own xi_InvalidRounds xt_InvalidRounds (Mi.row_at (f := fun C => PySem.W.mroIn K C (.ref C_InvalidRounds)) (cs := [C_InvalidText, C_InvalidName, C_InvalidIndex, C_InvalidLevels, C_InvalidNumber, C_InvalidWish, C_NotRound, C_NotLot, C_InvalidLamps, C_InvalidRounds, C_InvalidSteps, C_InvalidPlan, C_InvalidChanges, C_InvalidWishes, C_UnknownName, C_InUse, C_OtherLevels, C_TooMany, C_TooFar, C_NothingToUndo, C_Broken, C_WrongValue, C_WrongName, C_NotPossible]) (tbl := [false, false, false, false, false, false, false, false, false, true, false, false, false, false, false, false, false, false, false, false, false, false, false, false]) tr_InvalidRounds (k := 9) rfl rfl) (Mi.row_at (f := fun C => PySem.W.mroIn K C (.ref C_InvalidRounds)) (tbl := [false, false, false, false, false, false, false, false, false, true, false, false, false, false, false, false, false, false, false, false, false, false, false, false]) tr_InvalidRounds e e2))
      tx_InvalidSteps := (fun k C b e e2 => Mi.ko_own xi_InvalidSteps xt_InvalidSteps (Mi.row_at (f := fun C => PySem.W.mroIn K C (.ref C_InvalidSteps)) (cs := [C_InvalidText, C_InvalidName, C_InvalidIndex, C_InvalidLevels, C_InvalidNumber, C_InvalidWish, C_NotRound, C_NotLot, C_InvalidLamps, C_InvalidRounds, C_InvalidSteps, C_InvalidPlan, C_InvalidChanges, C_InvalidWishes, C_UnknownName, C_InUse, C_OtherLevels, C_TooMany, C_TooFar, C_NothingToUndo, C_Broken, C_WrongValue, C_WrongName, C_NotPossible]) (tbl := [false, false, false, false, false, false, false, false, false, false, true, false, false, false, false, false, false, false, false, false, false, false, false, false]) tr_InvalidSteps (k := 10) rfl rfl) (Mi.row_at (f := fun C => PySem.W.mroIn K C (.ref C_InvalidSteps)) (tbl := [false, false, false, false, false, false, false, false, false, false, true, false, false, false, false, false, false, false, false, false, false, false, false, false]) tr_InvalidSteps e e2))
      tx_InvalidPlan := (fun k C b e e2 => Mi.ko_own xi_InvalidPlan xt_InvalidPlan (Mi.row_at (f := fun C => PySem.W.mroIn K C (.ref C_InvalidPlan)) (cs := [C_InvalidText, C_InvalidName, C_InvalidIndex, C_InvalidLevels, C_InvalidNumber, C_InvalidWish, C_NotRound, C_NotLot, C_InvalidLamps, C_InvalidRounds, C_InvalidSteps, C_InvalidPlan, C_InvalidChanges, C_InvalidWishes, C_UnknownName, C_InUse, C_OtherLevels, C_TooMany, C_TooFar, C_NothingToUndo, C_Broken, C_WrongValue, C_WrongName, C_NotPossible]) (tbl := [false, false, false, false, false, false, false, false, false, false, false, true, false, false, false, false, false, false, false, false, false, false, false, false]) tr_InvalidPlan (k := 11) rfl rfl) (Mi.row_at (f := fun C => PySem.W.mroIn K C (.ref C_InvalidPlan)) (tbl := [false, false, false, false, false, false, false, false, false, false, false, true, false, false, false, false, false, false, false, false, false, false, false, false]) tr_InvalidPlan e e2))
      tx_InvalidChanges := (fun k C b e e2 => Mi.ko_own xi_InvalidChanges xt_InvalidChanges (Mi.row_at (f := fun C => PySem.W.mroIn K C (.ref C_InvalidChanges)) (cs := [C_InvalidText, C_InvalidName, C_InvalidIndex, C_InvalidLevels, C_InvalidNumber, C_InvalidWish, C_NotRound, C_NotLot, C_InvalidLamps, C_InvalidRounds, C_InvalidSteps, C_InvalidPlan, C_InvalidChanges, C_InvalidWishes, C_UnknownName, C_InUse, C_OtherLevels, C_TooMany, C_TooFar, C_NothingToUndo, C_Broken, C_WrongValue, C_WrongName, C_NotPossible]) (tbl := [false, false, false, false, false, false, false, false, false, false, false, false, true, false, false, false, false, false, false, false, false, false, false, false]) tr_InvalidChanges (k := 12) rfl rfl) (Mi.row_at (f := fun C => PySem.W.mroIn K C (.ref C_InvalidChanges)) (tbl := [false, false, false, false, false, false, false, false, false, false, false, false, true, false, false, false, false, false, false, false, false, false, false, false]) tr_InvalidChanges e e2))
      tx_InvalidWishes := (fun k C b e e2 => Mi.ko_own xi_InvalidWishes xt_InvalidWishes (Mi.row_at (f := fun C => PySem.W.mroIn K C (.ref C_InvalidWishes)) (cs := [C_InvalidText, C_InvalidName, C_InvalidIndex, C_InvalidLevels, C_InvalidNumber, C_InvalidWish, C_NotRound, C_NotLot, C_InvalidLamps, C_InvalidRounds, C_InvalidSteps, C_InvalidPlan, C_InvalidChanges, C_InvalidWishes, C_UnknownName, C_InUse, C_OtherLevels, C_TooMany, C_TooFar, C_NothingToUndo, C_Broken, C_WrongValue, C_WrongName, C_NotPossible]) (tbl := [false, false, false, false, false, false, false, false, false, false, false, false, false, true, false, false, false, false, false, false, false, false, false, false]) tr_InvalidWishes (k := 13) rfl rfl) (Mi.row_at (f := fun C => PySem.W.mroIn K C (.ref C_InvalidWishes)) (tbl := [false, false, false, false, false, false, false, false, false, false, false, false, false, true, false, false, false, false, false, false, false, false, false, false]) tr_InvalidWishes e e2))
      tx_UnknownName := (fun k C b e e2 => Mi.ko_own xi_UnknownName xt_UnknownName (Mi.row_at (f := fun C => PySem.W.mroIn K C (.ref C_UnknownName)) (cs := [C_InvalidText, C_InvalidName, C_InvalidIndex, C_InvalidLevels, C_InvalidNumber, C_InvalidWish, C_NotRound, C_NotLot, C_InvalidLamps, C_InvalidRounds, C_InvalidSteps, C_InvalidPlan, C_InvalidChanges, C_InvalidWishes, C_UnknownName, C_InUse, C_OtherLevels, C_TooMany, C_TooFar, C_NothingToUndo, C_Broken, C_WrongValue, C_WrongName, C_NotPossible]) (tbl := [false, false, false, false, false, false, false, false, false, false, false, false, false, false, true, false, false, false, false, false, false, false, false, false]) tr_UnknownName (k := 14) rfl rfl) (Mi.row_at (f := fun C => PySem.W.mroIn K C (.ref C_UnknownName)) (tbl := [false, false, false, false, false, false, false, false, false, false, false, false, false, false, true, false, false, false, false, false, false, false, false, false]) tr_UnknownName e e2))
      tx_InUse := (fun k C b e e2 => Mi.ko_own xi_InUse xt_InUse (Mi.row_at (f := fun C => PySem.W.mroIn K C (.ref C_InUse)) (cs := [C_InvalidText, C_InvalidName, C_InvalidIndex, C_InvalidLevels, C_InvalidNumber, C_InvalidWish, C_NotRound, C_NotLot, C_InvalidLamps, C_InvalidRounds, C_InvalidSteps, C_InvalidPlan, C_InvalidChanges, C_InvalidWishes, C_UnknownName, C_InUse, C_OtherLevels, C_TooMany, C_TooFar, C_NothingToUndo, C_Broken, C_WrongValue, C_WrongName, C_NotPossible]) (tbl := [false, false, false, false, false, false, false, false, false, false, false, false, false, false, false, true, false, false, false, false, false, false, false, false]) tr_InUse (k := 15) rfl rfl) (Mi.row_at (f := fun C => PySem.W.mroIn K C (.ref C_InUse)) (tbl := [false, false, false, false, false, false, false, false, false, false, false, false, false, false, false, true, false, false, false, false, false, false, false, false]) tr_InUse e e2))
      tx_OtherLevels := (fun k C b e e2 => Mi.ko_own xi_OtherLevels xt_OtherLevels (Mi.row_at (f := fun C => PySem.W.mroIn K C (.ref C_OtherLevels)) (cs := [C_InvalidText, C_InvalidName, C_InvalidIndex, C_InvalidLevels, C_InvalidNumber, C_InvalidWish, C_NotRound, C_NotLot, C_InvalidLamps, C_InvalidRounds, C_InvalidSteps, C_InvalidPlan, C_InvalidChanges, C_InvalidWishes, C_UnknownName, C_InUse, C_OtherLevels, C_TooMany, C_TooFar, C_NothingToUndo, C_Broken, C_WrongValue, C_WrongName, C_NotPossible]) (tbl := [false, false, false, false, false, false, false, false, false, false, false, false, false, false, false, false, true, false, false, false, false, false, false, false]) tr_OtherLevels (k := 16) rfl rfl) (Mi.row_at (f := fun C => PySem.W.mroIn K C (.ref C_OtherLevels)) (tbl := [false, false, false, false, false, false, false, false, false, false, false, false, false, false, false, false, true, false, false, false, false, false, false, false]) tr_OtherLevels e e2))
      tx_TooMany := (fun k C b e e2 => Mi.ko_own xi_TooMany xt_TooMany (Mi.row_at (f := fun C => PySem.W.mroIn K C (.ref C_TooMany)) (cs := [C_InvalidText, C_InvalidName, C_InvalidIndex, C_InvalidLevels, C_InvalidNumber, C_InvalidWish, C_NotRound, C_NotLot, C_InvalidLamps, C_InvalidRounds, C_InvalidSteps, C_InvalidPlan, C_InvalidChanges, C_InvalidWishes, C_UnknownName, C_InUse, C_OtherLevels, C_TooMany, C_TooFar, C_NothingToUndo, C_Broken, C_WrongValue, C_WrongName, C_NotPossible]) (tbl := [false, false, false, false, false, false, false, false, false, false, false, false, false, false, false, false, false, true, false, false, false, false, false, false]) tr_TooMany (k := 17) rfl rfl) (Mi.row_at (f := fun C => PySem.W.mroIn K C (.ref C_TooMany)) (tbl := [false, false, false, false, false, false, false, false, false, false, false, false, false, false, false, false, false, true, false, false, false, false, false, false]) tr_TooMany e e2))
      tx_TooFar := (fun k C b e e2 => Mi.ko_own xi_TooFar xt_TooFar (Mi.row_at (f := fun C => PySem.W.mroIn K C (.ref C_TooFar)) (cs := [C_InvalidText, C_InvalidName, C_InvalidIndex, C_InvalidLevels, C_InvalidNumber, C_InvalidWish, C_NotRound, C_NotLot, C_InvalidLamps, C_InvalidRounds, C_InvalidSteps, C_InvalidPlan, C_InvalidChanges, C_InvalidWishes, C_UnknownName, C_InUse, C_OtherLevels, C_TooMany, C_TooFar, C_NothingToUndo, C_Broken, C_WrongValue, C_WrongName, C_NotPossible]) (tbl := [false, false, false, false, false, false, false, false, false, false, false, false, false, false, false, false, false, false, true, false, false, false, false, false]) tr_TooFar (k := 18) rfl rfl) (Mi.row_at (f := fun C => PySem.W.mroIn K C (.ref C_TooFar)) (tbl := [false, false, false, false, false, false, false, false, false, false, false, false, false, false, false, false, false, false, true, false, false, false, false, false]) tr_TooFar e e2))
      tx_NothingToUndo := (fun k C b e e2 => Mi.ko_own xi_NothingToUndo xt_NothingToUndo (Mi.row_at (f := fun C => PySem.W.mroIn K C (.ref C_NothingToUndo)) (cs := [C_InvalidText, C_InvalidName, C_InvalidIndex, C_InvalidLevels, C_InvalidNumber, C_InvalidWish, C_NotRound, C_NotLot, C_InvalidLamps, C_InvalidRounds, C_InvalidSteps, C_InvalidPlan, C_InvalidChanges, C_InvalidWishes, C_UnknownName, C_InUse, C_OtherLevels, C_TooMany, C_TooFar, C_NothingToUndo, C_Broken, C_WrongValue, C_WrongName, C_NotPossible]) (tbl := [false, false, false, false, false, false, false, false, false, false, false, false, false, false, false, false, false, false, false, true, false, false, false, false]) tr_NothingToUndo (k := 19) rfl rfl) (Mi.row_at (f := fun C => PySem.W.mroIn K C (.ref C_NothingToUndo)) (tbl := [false, false, false, false, false, false, false, false, false, false, false, false, false, false, false, false, false, false, false, true, false, false, false, false]) tr_NothingToUndo e e2))
      tx_Broken := (fun k C b e e2 => Mi.ko_own xi_Broken xt_Broken (Mi.row_at (f := fun C => PySem.W.mroIn K C (.ref C_Broken)) (cs := [C_InvalidText, C_InvalidName, C_InvalidIndex, C_InvalidLevels, C_InvalidNumber, C_InvalidWish, C_NotRound, C_NotLot, C_InvalidLamps, C_InvalidRounds, C_InvalidSteps, C_InvalidPlan, C_InvalidChanges, C_InvalidWishes, C_UnknownName, C_InUse, C_OtherLevels, C_TooMany, C_TooFar, C_NothingToUndo, C_Broken, C_WrongValue, C_WrongName, C_NotPossible]) (tbl := [false, false, false, false, false, false, false, false, false, false, false, false, false, false, false, false, false, false, false, false, true, false, false, false]) tr_Broken (k := 20) rfl rfl) (Mi.row_at (f := fun C => PySem.W.mroIn K C (.ref C_Broken)) (tbl := [false, false, false, false, false, false, false, false, false, false, false, false, false, false, false, false, false, false, false, false, true, false, false, false]) tr_Broken e e2))
      tx_WrongValue := (fun k C b e e2 => Mi.ko_own xi_WrongValue xt_WrongValue (Mi.row_at (f := fun C => PySem.W.mroIn K C (.ref C_WrongValue)) (cs := [C_InvalidText, C_InvalidName, C_InvalidIndex, C_InvalidLevels, C_InvalidNumber, C_InvalidWish, C_NotRound, C_NotLot, C_InvalidLamps, C_InvalidRounds, C_InvalidSteps, C_InvalidPlan, C_InvalidChanges, C_InvalidWishes, C_UnknownName, C_InUse, C_OtherLevels, C_TooMany, C_TooFar, C_NothingToUndo, C_Broken, C_WrongValue, C_WrongName, C_NotPossible]) (tbl := [true, true, true, true, true, true, true, true, true, true, true, true, true, true, false, false, false, false, false, false, false, true, false, false]) tr_WrongValue (k := 21) rfl rfl) (Mi.row_at (f := fun C => PySem.W.mroIn K C (.ref C_WrongValue)) (tbl := [true, true, true, true, true, true, true, true, true, true, true, true, true, true, false, false, false, false, false, false, false, true, false, false]) tr_WrongValue e e2))
      tx_WrongName := (fun k C b e e2 => Mi.ko_own xi_WrongName xt_WrongName (Mi.row_at (f := fun C => PySem.W.mroIn K C (.ref C_WrongName)) (cs := [C_InvalidText, C_InvalidName, C_InvalidIndex, C_InvalidLevels, C_InvalidNumber, C_InvalidWish, C_NotRound, C_NotLot, C_InvalidLamps, C_InvalidRounds, C_InvalidSteps, C_InvalidPlan, C_InvalidChanges, C_InvalidWishes, C_UnknownName, C_InUse, C_OtherLevels, C_TooMany, C_TooFar, C_NothingToUndo, C_Broken, C_WrongValue, C_WrongName, C_NotPossible]) (tbl := [false, false, false, false, false, false, false, false, false, false, false, false, false, false, true, true, false, false, false, false, false, false, true, false]) tr_WrongName (k := 22) rfl rfl) (Mi.row_at (f := fun C => PySem.W.mroIn K C (.ref C_WrongName)) (tbl := [false, false, false, false, false, false, false, false, false, false, false, false, false, false, true, true, false, false, false, false, false, false, true, false]) tr_WrongName e e2))
      tx_NotPossible := (fun k C b e e2 => Mi.ko_own xi_NotPossible xt_NotPossible (Mi.row_at (f := fun C => PySem.W.mroIn K C (.ref C_NotPossible)) (cs := [C_InvalidText, C_InvalidName, C_InvalidIndex, C_InvalidLevels, C_InvalidNumber, C_InvalidWish, C_NotRound, C_NotLot, C_InvalidLamps, C_InvalidRounds, C_InvalidSteps, C_InvalidPlan, C_InvalidChanges, C_InvalidWishes, C_UnknownName, C_InUse, C_OtherLevels, C_TooMany, C_TooFar, C_NothingToUndo, C_Broken, C_WrongValue, C_WrongName, C_NotPossible]) (tbl := [false, false, false, false, false, false, false, false, false, false, false, false, false, false, false, false, true, true, true, true, true, false, false, true]) tr_NotPossible (k := 23) rfl rfl) (Mi.row_at (f := fun C => PySem.W.mroIn K C (.ref C_NotPossible)) (tbl := [false, false, false, false, false, false, false, false, false, false, false, false, false, false, false, false, true, true, true, true, true, false, false, true]) tr_NotPossible e e2))
      ty_ValueError := (fun k C b e e2 => Mi.ko_bt (by decide +kernel) (Mi.row_at (f := fun C => PySem.W.subIn K (.ref C) (.type "ValueError")) (tbl := [true, true, true, true, true, true, true, true, true, true, true, true, true, true, false, false, false, false, false, false, false, true, false, false]) ts_ValueError e e2))
      ty_LookupError := (fun k C b e e2 => Mi.ko_bt (by decide +kernel) (Mi.row_at (f := fun C => PySem.W.subIn K (.ref C) (.type "LookupError")) (tbl := [false, false, false, false, false, false, false, false, false, false, false, false, false, false, true, true, false, false, false, false, false, false, true, false]) ts_LookupError e e2))
      ty_ArithmeticError := (fun k C b e e2 => Mi.ko_bt (by decide +kernel) (Mi.row_at (f := fun C => PySem.W.subIn K (.ref C) (.type "ArithmeticError")) (tbl := [false, false, false, false, false, false, false, false, false, false, false, false, false, false, false, false, true, true, true, true, true, false, false, true]) ts_ArithmeticError e e2))
      a_law_begun := a_law_begun
      d_law_begun := _
      F_law_begun := (fun_mk (st := s_law_begun) l_law_begun c_law_begun k_law_begun)
      b_law_begun := ((fun_mk (st := s_law_begun) l_law_begun c_law_begun k_law_begun).binds (ps := ["_law_script", "_law_turn"]) fun _ _ _ _ _ _ us hl => match us, hl with | [_, _], _ => rfl)
      g_law_begun := (PySem.W.mg_of X G e_law_begun)
      a_law_cast := a_law_cast
      d_law_cast := _
      F_law_cast := (fun_mk (st := s_law_cast) l_law_cast c_law_cast k_law_cast)
      b_law_cast := ((fun_mk (st := s_law_cast) l_law_cast c_law_cast k_law_cast).binds (ps := ["_law_pail", "_law_many"]) fun _ _ _ _ _ _ us hl => match us, hl with | [_, _], _ => rfl)
      g_law_cast := (PySem.W.mg_of X G e_law_cast)
      a_law_any_of := a_law_any_of
      d_law_any_of := _
      F_law_any_of := (fun_mk (st := s_law_any_of) l_law_any_of c_law_any_of k_law_any_of)
      b_law_any_of := ((fun_mk (st := s_law_any_of) l_law_any_of c_law_any_of k_law_any_of).binds (ps := ["_law_pail", "_law_some"]) fun _ _ _ _ _ _ us hl => match us, hl with | [_, _], _ => rfl)
      g_law_any_of := (PySem.W.mg_of X G e_law_any_of)
      a_law_thing := a_law_thing
      d_law_thing := _
      F_law_thing := (fun_mk (st := s_law_thing) l_law_thing c_law_thing k_law_thing)
      b_law_thing := ((fun_mk (st := s_law_thing) l_law_thing c_law_thing k_law_thing).binds (ps := ["_law_pail"]) fun _ _ _ _ _ _ us hl => match us, hl with | [_], _ => rfl)
      g_law_thing := (PySem.W.mg_of X G e_law_thing)
      a_law_placed := a_law_placed
      d_law_placed := _
      F_law_placed := (fun_mk (st := s_law_placed) l_law_placed c_law_placed k_law_placed)
      b_law_placed := ((fun_mk (st := s_law_placed) l_law_placed c_law_placed k_law_placed).binds (ps := ["_law_thing_here"]) fun _ _ _ _ _ _ us hl => match us, hl with | [_], _ => rfl)
      g_law_placed := (PySem.W.mg_of X G e_law_placed)
      a_law_named := a_law_named
      d_law_named := _
      F_law_named := (fun_mk (st := s_law_named) l_law_named c_law_named k_law_named)
      b_law_named := ((fun_mk (st := s_law_named) l_law_named c_law_named k_law_named).binds (ps := ["_law_thing_here"]) fun _ _ _ _ _ _ us hl => match us, hl with | [_], _ => rfl)
      g_law_named := (PySem.W.mg_of X G e_law_named)
      a_law_flags := a_law_flags
      d_law_flags := _
      F_law_flags := (fun_mk (st := s_law_flags) l_law_flags c_law_flags k_law_flags)
      b_law_flags := ((fun_mk (st := s_law_flags) l_law_flags c_law_flags k_law_flags).binds (ps := ["_law_e"]) fun _ _ _ _ _ _ us hl => match us, hl with | [_], _ => rfl)
      g_law_flags := (PySem.W.mg_of X G e_law_flags)
      a_law_bases := a_law_bases
      d_law_bases := _
      F_law_bases := (fun_mk (st := s_law_bases) l_law_bases c_law_bases k_law_bases)
      b_law_bases := ((fun_mk (st := s_law_bases) l_law_bases c_law_bases k_law_bases).binds (ps := ["_law_e"]) fun _ _ _ _ _ _ us hl => match us, hl with | [_], _ => rfl)
      g_law_bases := (PySem.W.mg_of X G e_law_bases)
      a_law_held := a_law_held
      d_law_held := _
      F_law_held := (fun_mk (st := s_law_held) l_law_held c_law_held k_law_held)
      b_law_held := ((fun_mk (st := s_law_held) l_law_held c_law_held k_law_held).binds (ps := ["_law_e", "_law_at"]) fun _ _ _ _ _ _ us hl => match us, hl with | [_, _], _ => rfl)
      g_law_held := (PySem.W.mg_of X G e_law_held)
      a_law_some_right := a_law_some_right
      d_law_some_right := _
      F_law_some_right := (fun_mk (st := s_law_some_right) l_law_some_right c_law_some_right k_law_some_right)
      b_law_some_right := ((fun_mk (st := s_law_some_right) l_law_some_right c_law_some_right k_law_some_right).binds (ps := ["_law_some", "_law_thing_here"]) fun _ _ _ _ _ _ us hl => match us, hl with | [_, _], _ => rfl)
      g_law_some_right := (PySem.W.mg_of X G e_law_some_right)
      a_law_right := a_law_right
      d_law_right := _
      F_law_right := (fun_mk (st := s_law_right) l_law_right c_law_right k_law_right)
      b_law_right := ((fun_mk (st := s_law_right) l_law_right c_law_right k_law_right).binds (ps := ["_law_pail"]) fun _ _ _ _ _ _ us hl => match us, hl with | [_], _ => rfl)
      g_law_right := (PySem.W.mg_of X G e_law_right)
      a_law := fa
      d_law := _
      F_law := (fun_mk (st := s_law) l_law c_law k_law)
      b_law := ((fun_mk (st := s_law) l_law c_law k_law).binds (ps := ["_law_script"]) fun _ _ _ _ _ _ us hl => match us, hl with | [_], _ => rfl)
      bt_law := (fun s v => .of_eq rfl)
      g_law := (PySem.W.mg_of X G e_law)
      n_ArithmeticError := (PySem.W.mg_none_of X G n_ArithmeticError)
      n_LookupError := (PySem.W.mg_none_of X G n_LookupError)
      n_ValueError := (PySem.W.mg_none_of X G n_ValueError)
      n_abs := (PySem.W.mg_none_of X G n_abs)
      n_all := (PySem.W.mg_none_of X G n_all)
      n_divmod := (PySem.W.mg_none_of X G n_divmod)
      n_int := (PySem.W.mg_none_of X G n_int)
      n_isinstance := (PySem.W.mg_none_of X G n_isinstance)
      n_len := (PySem.W.mg_none_of X G n_len)
      n_max := (PySem.W.mg_none_of X G n_max)
      n_min := (PySem.W.mg_none_of X G n_min)
      n_range := (PySem.W.mg_none_of X G n_range)
      n_repr := (PySem.W.mg_none_of X G n_repr)
      x_LEVELS := x_LEVELS
      g_LEVELS := (PySem.W.mg_of X G e_LEVELS)
      w_LEVELS := (fun _ => Or.inr ⟨_, _, _, y_LEVELS, rfl, rfl, (by show 4 ≤ sizeLine; decide), Paired.cons ⟨t0_LEVELS, rfl⟩ (Paired.cons ⟨t1_LEVELS, rfl⟩ (Paired.cons ⟨t2_LEVELS, rfl⟩ (Paired.cons ⟨t3_LEVELS, rfl⟩ (Paired.nil))))⟩)
      g_MOST_LAMPS := (⟨_, PySem.W.mg_of X G e_MOST_LAMPS⟩)
      g_MOST_STEPS := (⟨_, PySem.W.mg_of X G e_MOST_STEPS⟩)
      g_MOST_ROUNDS := (⟨_, PySem.W.mg_of X G e_MOST_ROUNDS⟩)
      g_MOST_PLACE := (⟨_, PySem.W.mg_of X G e_MOST_PLACE⟩)
      g_MOST_END := (⟨_, PySem.W.mg_of X G e_MOST_END⟩)
      g_MOST_NEAR := (⟨_, PySem.W.mg_of X G e_MOST_NEAR⟩)
      g_MOST_TIMES := (⟨_, PySem.W.mg_of X G e_MOST_TIMES⟩)
      g_MOST_CHANGES := (⟨_, PySem.W.mg_of X G e_MOST_CHANGES⟩)
    }, rfl⟩
abbrev wd {K : PySem.W.Frag} {mg : Str → Option Value} (T : Tx K mg) : Wd := ⟨K, fun _ => 0, fun _ => true, fun _ => [], fun _ => (0, ""), fun c => match c with | 0 => T.C_InvalidText | 1 => T.C_InvalidName | 2 => T.C_InvalidIndex | 3 => T.C_InvalidLevels | 4 => T.C_InvalidNumber | 5 => T.C_InvalidWish | 6 => T.C_NotRound | 7 => T.C_NotLot | 8 => T.C_InvalidLamps | 9 => T.C_InvalidRounds | 10 => T.C_InvalidSteps | 11 => T.C_InvalidPlan | 12 => T.C_InvalidChanges | 13 => T.C_InvalidWishes | 14 => T.C_UnknownName | 15 => T.C_InUse | 16 => T.C_OtherLevels | 17 => T.C_TooMany | 18 => T.C_TooFar | 19 => T.C_NothingToUndo | 20 => T.C_Broken | 21 => T.C_WrongValue | 22 => T.C_WrongName | 23 => T.C_NotPossible | _ => 0⟩
theorem okx_InvalidText {P : Program} {w : World} {K : PySem.W.Frag} {mg : Str → Option Value} {base : Heap} (T : Tx K mg) : FnOk P w K mg base CX0 2 T.a_InvalidText_init T.d_InvalidText_init ["self", "given"] (xSp T.C_InvalidText "given") := okX T.F_InvalidText_init sc_InvalidText_init rfl T.ox_InvalidText T.xf_InvalidText.no (.inl rfl) (.inl rfl) rfl rfl
theorem okx_InvalidName {P : Program} {w : World} {K : PySem.W.Frag} {mg : Str → Option Value} {base : Heap} (T : Tx K mg) : FnOk P w K mg base CX0 2 T.a_InvalidName_init T.d_InvalidName_init ["self", "given"] (xSp T.C_InvalidName "given") := okX T.F_InvalidName_init sc_InvalidName_init rfl T.ox_InvalidName T.xf_InvalidName.no (.inl rfl) (.inl rfl) rfl rfl
theorem okx_InvalidIndex {P : Program} {w : World} {K : PySem.W.Frag} {mg : Str → Option Value} {base : Heap} (T : Tx K mg) : FnOk P w K mg base CX0 2 T.a_InvalidIndex_init T.d_InvalidIndex_init ["self", "given"] (xSp T.C_InvalidIndex "given") := okX T.F_InvalidIndex_init sc_InvalidIndex_init rfl T.ox_InvalidIndex T.xf_InvalidIndex.no (.inl rfl) (.inl rfl) rfl rfl
theorem okx_InvalidLevels {P : Program} {w : World} {K : PySem.W.Frag} {mg : Str → Option Value} {base : Heap} (T : Tx K mg) : FnOk P w K mg base CX0 2 T.a_InvalidLevels_init T.d_InvalidLevels_init ["self", "given"] (xSp T.C_InvalidLevels "given") := okX T.F_InvalidLevels_init sc_InvalidLevels_init rfl T.ox_InvalidLevels T.xf_InvalidLevels.no (.inl rfl) (.inl rfl) rfl rfl
theorem okx_InvalidNumber {P : Program} {w : World} {K : PySem.W.Frag} {mg : Str → Option Value} {base : Heap} (T : Tx K mg) : FnOk P w K mg base CX0 2 T.a_InvalidNumber_init T.d_InvalidNumber_init ["self", "given"] (xSp T.C_InvalidNumber "given") := okX T.F_InvalidNumber_init sc_InvalidNumber_init rfl T.ox_InvalidNumber T.xf_InvalidNumber.no (.inl rfl) (.inl rfl) rfl rfl
theorem okx_InvalidWish {P : Program} {w : World} {K : PySem.W.Frag} {mg : Str → Option Value} {base : Heap} (T : Tx K mg) : FnOk P w K mg base CX0 2 T.a_InvalidWish_init T.d_InvalidWish_init ["self", "given"] (xSp T.C_InvalidWish "given") := okX T.F_InvalidWish_init sc_InvalidWish_init rfl T.ox_InvalidWish T.xf_InvalidWish.no (.inl rfl) (.inl rfl) rfl rfl
theorem okx_NotRound {P : Program} {w : World} {K : PySem.W.Frag} {mg : Str → Option Value} {base : Heap} (T : Tx K mg) : FnOk P w K mg base CX0 2 T.a_NotRound_init T.d_NotRound_init ["self", "given"] (xSp T.C_NotRound "given") := okX T.F_NotRound_init sc_NotRound_init rfl T.ox_NotRound T.xf_NotRound.no (.inl rfl) (.inl rfl) rfl rfl
theorem okx_NotLot {P : Program} {w : World} {K : PySem.W.Frag} {mg : Str → Option Value} {base : Heap} (T : Tx K mg) : FnOk P w K mg base CX0 2 T.a_NotLot_init T.d_NotLot_init ["self", "given"] (xSp T.C_NotLot "given") := okX T.F_NotLot_init sc_NotLot_init rfl T.ox_NotLot T.xf_NotLot.no (.inl rfl) (.inl rfl) rfl rfl
theorem okx_InvalidLamps {P : Program} {w : World} {K : PySem.W.Frag} {mg : Str → Option Value} {base : Heap} (T : Tx K mg) : FnOk P w K mg base CX0 2 T.a_InvalidLamps_init T.d_InvalidLamps_init ["self", "index"] (xSp T.C_InvalidLamps "index") := okX T.F_InvalidLamps_init sc_InvalidLamps_init rfl T.ox_InvalidLamps T.xf_InvalidLamps.no (.inl rfl) (.inl rfl) rfl rfl
theorem okx_InvalidRounds {P : Program} {w : World} {K : PySem.W.Frag} {mg : Str → Option Value} {base : Heap} (T : Tx K mg) : FnOk P w K mg base CX0 2 T.a_InvalidRounds_init T.d_InvalidRounds_init ["self", "index"] (xSp T.C_InvalidRounds "index") := okX T.F_InvalidRounds_init sc_InvalidRounds_init rfl T.ox_InvalidRounds T.xf_InvalidRounds.no (.inl rfl) (.inl rfl) rfl rfl
theorem okx_InvalidSteps {P : Program} {w : World} {K : PySem.W.Frag} {mg : Str → Option Value} {base : Heap} (T : Tx K mg) : FnOk P w K mg base CX0 2 T.a_InvalidSteps_init T.d_InvalidSteps_init ["self", "index"] (xSp T.C_InvalidSteps "index") := okX T.F_InvalidSteps_init sc_InvalidSteps_init rfl T.ox_InvalidSteps T.xf_InvalidSteps.no (.inl rfl) (.inl rfl) rfl rfl
theorem okx_InvalidPlan {P : Program} {w : World} {K : PySem.W.Frag} {mg : Str → Option Value} {base : Heap} (T : Tx K mg) : FnOk P w K mg base CX0 2 T.a_InvalidPlan_init T.d_InvalidPlan_init ["self", "index"] (xSp T.C_InvalidPlan "index") := okX T.F_InvalidPlan_init sc_InvalidPlan_init rfl T.ox_InvalidPlan T.xf_InvalidPlan.no (.inl rfl) (.inl rfl) rfl rfl
theorem okx_InvalidChanges {P : Program} {w : World} {K : PySem.W.Frag} {mg : Str → Option Value} {base : Heap} (T : Tx K mg) : FnOk P w K mg base CX0 2 T.a_InvalidChanges_init T.d_InvalidChanges_init ["self", "index"] (xSp T.C_InvalidChanges "index") := okX T.F_InvalidChanges_init sc_InvalidChanges_init rfl T.ox_InvalidChanges T.xf_InvalidChanges.no (.inl rfl) (.inl rfl) rfl rfl
theorem okx_InvalidWishes {P : Program} {w : World} {K : PySem.W.Frag} {mg : Str → Option Value} {base : Heap} (T : Tx K mg) : FnOk P w K mg base CX0 2 T.a_InvalidWishes_init T.d_InvalidWishes_init ["self", "index"] (xSp T.C_InvalidWishes "index") := okX T.F_InvalidWishes_init sc_InvalidWishes_init rfl T.ox_InvalidWishes T.xf_InvalidWishes.no (.inl rfl) (.inl rfl) rfl rfl
theorem okx_UnknownName {P : Program} {w : World} {K : PySem.W.Frag} {mg : Str → Option Value} {base : Heap} (T : Tx K mg) : FnOk P w K mg base CX0 2 T.a_UnknownName_init T.d_UnknownName_init ["self", "given"] (xSp T.C_UnknownName "given") := okX T.F_UnknownName_init sc_UnknownName_init rfl T.ox_UnknownName T.xf_UnknownName.no (.inl rfl) (.inl rfl) rfl rfl
theorem okx_InUse {P : Program} {w : World} {K : PySem.W.Frag} {mg : Str → Option Value} {base : Heap} (T : Tx K mg) : FnOk P w K mg base CX0 2 T.a_InUse_init T.d_InUse_init ["self", "index"] (xSp T.C_InUse "index") := okX T.F_InUse_init sc_InUse_init rfl T.ox_InUse T.xf_InUse.no (.inl rfl) (.inl rfl) rfl rfl
theorem okx_OtherLevels {P : Program} {w : World} {K : PySem.W.Frag} {mg : Str → Option Value} {base : Heap} (T : Tx K mg) : FnOk P w K mg base CX0 2 T.a_OtherLevels_init T.d_OtherLevels_init ["self", "given"] (xSp T.C_OtherLevels "given") := okX T.F_OtherLevels_init sc_OtherLevels_init rfl T.ox_OtherLevels T.xf_OtherLevels.no (.inl rfl) (.inl rfl) rfl rfl
theorem okx_TooMany {P : Program} {w : World} {K : PySem.W.Frag} {mg : Str → Option Value} {base : Heap} (T : Tx K mg) : FnOk P w K mg base CX0 2 T.a_TooMany_init T.d_TooMany_init ["self", "given"] (xSp T.C_TooMany "given") := okX T.F_TooMany_init sc_TooMany_init rfl T.ox_TooMany T.xf_TooMany.no (.inl rfl) (.inl rfl) rfl rfl
theorem okx_TooFar {P : Program} {w : World} {K : PySem.W.Frag} {mg : Str → Option Value} {base : Heap} (T : Tx K mg) : FnOk P w K mg base CX0 2 T.a_TooFar_init T.d_TooFar_init ["self", "given"] (xSp T.C_TooFar "given") := okX T.F_TooFar_init sc_TooFar_init rfl T.ox_TooFar T.xf_TooFar.no (.inl rfl) (.inl rfl) rfl rfl
theorem okx_Broken {P : Program} {w : World} {K : PySem.W.Frag} {mg : Str → Option Value} {base : Heap} (T : Tx K mg) : FnOk P w K mg base CX0 2 T.a_Broken_init T.d_Broken_init ["self", "index"] (xSp T.C_Broken "index") := okX T.F_Broken_init sc_Broken_init rfl T.ox_Broken T.xf_Broken.no (.inl rfl) (.inl rfl) rfl rfl
section
variable {K : PySem.W.Frag} {mg : Str → Option Value}
theorem xall (T : Tx K mg) : ∀ c, c < ([T.C_InvalidText, T.C_InvalidName, T.C_InvalidIndex, T.C_InvalidLevels, T.C_InvalidNumber, T.C_InvalidWish, T.C_NotRound, T.C_NotLot, T.C_InvalidLamps, T.C_InvalidRounds, T.C_InvalidSteps, T.C_InvalidPlan, T.C_InvalidChanges, T.C_InvalidWishes, T.C_UnknownName, T.C_InUse, T.C_OtherLevels, T.C_TooMany, T.C_TooFar, T.C_NothingToUndo, T.C_Broken, T.C_WrongValue, T.C_WrongName, T.C_NotPossible] : List Addr).length → XiC (wd T).K ((wd T).eC c) ∧ ([T.C_InvalidText, T.C_InvalidName, T.C_InvalidIndex, T.C_InvalidLevels, T.C_InvalidNumber, T.C_InvalidWish, T.C_NotRound, T.C_NotLot, T.C_InvalidLamps, T.C_InvalidRounds, T.C_InvalidSteps, T.C_InvalidPlan, T.C_InvalidChanges, T.C_InvalidWishes, T.C_UnknownName, T.C_InUse, T.C_OtherLevels, T.C_TooMany, T.C_TooFar, T.C_NothingToUndo, T.C_Broken, T.C_WrongValue, T.C_WrongName, T.C_NotPossible] : List Addr)[c]? = some ((wd T).eC c)
  | 0, _ => ⟨T.xi_InvalidText, rfl⟩
  | 1, _ => ⟨T.xi_InvalidName, rfl⟩
  | 2, _ => ⟨T.xi_InvalidIndex, rfl⟩
  | 3, _ => ⟨T.xi_InvalidLevels, rfl⟩
  | 4, _ => ⟨T.xi_InvalidNumber, rfl⟩
  | 5, _ => ⟨T.xi_InvalidWish, rfl⟩
  | 6, _ => ⟨T.xi_NotRound, rfl⟩
  | 7, _ => ⟨T.xi_NotLot, rfl⟩
  | 8, _ => ⟨T.xi_InvalidLamps, rfl⟩
  | 9, _ => ⟨T.xi_InvalidRounds, rfl⟩
  | 10, _ => ⟨T.xi_InvalidSteps, rfl⟩
  | 11, _ => ⟨T.xi_InvalidPlan, rfl⟩
  | 12, _ => ⟨T.xi_InvalidChanges, rfl⟩
  | 13, _ => ⟨T.xi_InvalidWishes, rfl⟩
  | 14, _ => ⟨T.xi_UnknownName, rfl⟩
  | 15, _ => ⟨T.xi_InUse, rfl⟩
  | 16, _ => ⟨T.xi_OtherLevels, rfl⟩
  | 17, _ => ⟨T.xi_TooMany, rfl⟩
  | 18, _ => ⟨T.xi_TooFar, rfl⟩
  | 19, _ => ⟨T.xi_NothingToUndo, rfl⟩
  | 20, _ => ⟨T.xi_Broken, rfl⟩
  | 21, _ => ⟨T.xi_WrongValue, rfl⟩
  | 22, _ => ⟨T.xi_WrongName, rfl⟩
  | 23, _ => ⟨T.xi_NotPossible, rfl⟩
  | k + 24, h => absurd h (by simp)
theorem xtb_InvalidText (T : Tx K mg) : XTbl (wd T) (.ref T.C_InvalidText) [true, false, false, false, false, false, false, false, false, false, false, false, false, false, false, false, false, false, false, false, false, false, false, false] := xtbl_of (xall T) rfl T.tx_InvalidText
theorem xtb_InvalidName (T : Tx K mg) : XTbl (wd T) (.ref T.C_InvalidName) [false, true, false, false, false, false, false, false, false, false, false, false, false, false, false, false, false, false, false, false, false, false, false, false] := xtbl_of (xall T) rfl T.tx_InvalidName
theorem xtb_InvalidIndex (T : Tx K mg) : XTbl (wd T) (.ref T.C_InvalidIndex) [false, false, true, false, false, false, false, false, false, false, false, false, false, false, false, false, false, false, false, false, false, false, false, false] := xtbl_of (xall T) rfl T.tx_InvalidIndex
theorem xtb_InvalidLevels (T : Tx K mg) : XTbl (wd T) (.ref T.C_InvalidLevels) [false, false, false, true, false, false, false, false, false, false, false, false, false, false, false, false, false, false, false, false, false, false, false, false] := xtbl_of (xall T) rfl T.tx_InvalidLevels
theorem xtb_InvalidNumber (T : Tx K mg) : XTbl (wd T) (.ref T.C_InvalidNumber) [false, false, false, false, true, false, false, false, false, false, false, false, false, false, false, false, false, false, false, false, false, false, false, false] := xtbl_of (xall T) rfl T.tx_InvalidNumber
theorem xtb_InvalidWish (T : Tx K mg) : XTbl (wd T) (.ref T.C_InvalidWish) [false, false, false, false, false, true, false, false, false, false, false, false, false, false, false, false, false, false, false, false, false, false, false, false] := xtbl_of (xall T) rfl T.tx_InvalidWish
theorem xtb_NotRound (T : Tx K mg) : XTbl (wd T) (.ref T.C_NotRound) [false, false, false, false, false, false, true, false, false, false, false, false, false, false, false, false, false, false, false, false, false, false, false, false] := xtbl_of (xall T) rfl T.tx_NotRound
theorem xtb_NotLot (T : Tx K mg) : XTbl (wd T) (.ref T.C_NotLot) [false, false, false, false, false, false, false, true, false, false, false, false, false, false, false, false, false, false, false, false, false, false, false, false] := xtbl_of (xall T) rfl T.tx_NotLot
theorem xtb_InvalidLamps (T : Tx K mg) : XTbl (wd T) (.ref T.C_InvalidLamps) [false, false, false, false, false, false, false, false, true, false, false, false, false, false, false, false, false, false, false, false, false, false, false, false] := xtbl_of (xall T) rfl T.tx_InvalidLamps
theorem xtb_InvalidRounds (T : Tx K mg) : XTbl (wd T) (.ref T.C_InvalidRounds) [false, false, false, false, false, false, false, false, false, true, false, false, false, false, false, false, false, false, false, false, false, false, false, false] := xtbl_of (xall T) rfl T.tx_InvalidRounds
theorem xtb_InvalidSteps (T : Tx K mg) : XTbl (wd T) (.ref T.C_InvalidSteps) [false, false, false, false, false, false, false, false, false, false, true, false, false, false, false, false, false, false, false, false, false, false, false, false] := xtbl_of (xall T) rfl T.tx_InvalidSteps
theorem xtb_InvalidPlan (T : Tx K mg) : XTbl (wd T) (.ref T.C_InvalidPlan) [false, false, false, false, false, false, false, false, false, false, false, true, false, false, false, false, false, false, false, false, false, false, false, false] := xtbl_of (xall T) rfl T.tx_InvalidPlan
theorem xtb_InvalidChanges (T : Tx K mg) : XTbl (wd T) (.ref T.C_InvalidChanges) [false, false, false, false, false, false, false, false, false, false, false, false, true, false, false, false, false, false, false, false, false, false, false, false] := xtbl_of (xall T) rfl T.tx_InvalidChanges
theorem xtb_InvalidWishes (T : Tx K mg) : XTbl (wd T) (.ref T.C_InvalidWishes) [false, false, false, false, false, false, false, false, false, false, false, false, false, true, false, false, false, false, false, false, false, false, false, false] := xtbl_of (xall T) rfl T.tx_InvalidWishes
theorem xtb_UnknownName (T : Tx K mg) : XTbl (wd T) (.ref T.C_UnknownName) [false, false, false, false, false, false, false, false, false, false, false, false, false, false, true, false, false, false, false, false, false, false, false, false] := xtbl_of (xall T) rfl T.tx_UnknownName
theorem xtb_InUse (T : Tx K mg) : XTbl (wd T) (.ref T.C_InUse) [false, false, false, false, false, false, false, false, false, false, false, false, false, false, false, true, false, false, false, false, false, false, false, false] := xtbl_of (xall T) rfl T.tx_InUse
theorem xtb_OtherLevels (T : Tx K mg) : XTbl (wd T) (.ref T.C_OtherLevels) [false, false, false, false, false, false, false, false, false, false, false, false, false, false, false, false, true, false, false, false, false, false, false, false] := xtbl_of (xall T) rfl T.tx_OtherLevels
theorem xtb_TooMany (T : Tx K mg) : XTbl (wd T) (.ref T.C_TooMany) [false, false, false, false, false, false, false, false, false, false, false, false, false, false, false, false, false, true, false, false, false, false, false, false] := xtbl_of (xall T) rfl T.tx_TooMany
theorem xtb_TooFar (T : Tx K mg) : XTbl (wd T) (.ref T.C_TooFar) [false, false, false, false, false, false, false, false, false, false, false, false, false, false, false, false, false, false, true, false, false, false, false, false] := xtbl_of (xall T) rfl T.tx_TooFar
theorem xtb_NothingToUndo (T : Tx K mg) : XTbl (wd T) (.ref T.C_NothingToUndo) [false, false, false, false, false, false, false, false, false, false, false, false, false, false, false, false, false, false, false, true, false, false, false, false] := xtbl_of (xall T) rfl T.tx_NothingToUndo
theorem xtb_Broken (T : Tx K mg) : XTbl (wd T) (.ref T.C_Broken) [false, false, false, false, false, false, false, false, false, false, false, false, false, false, false, false, false, false, false, false, true, false, false, false] := xtbl_of (xall T) rfl T.tx_Broken
theorem xtb_WrongValue (T : Tx K mg) : XTbl (wd T) (.ref T.C_WrongValue) [true, true, true, true, true, true, true, true, true, true, true, true, true, true, false, false, false, false, false, false, false, true, false, false] := xtbl_of (xall T) rfl T.tx_WrongValue
theorem xtb_WrongName (T : Tx K mg) : XTbl (wd T) (.ref T.C_WrongName) [false, false, false, false, false, false, false, false, false, false, false, false, false, false, true, true, false, false, false, false, false, false, true, false] := xtbl_of (xall T) rfl T.tx_WrongName
theorem xtb_NotPossible (T : Tx K mg) : XTbl (wd T) (.ref T.C_NotPossible) [false, false, false, false, false, false, false, false, false, false, false, false, false, false, false, false, true, true, true, true, true, false, false, true] := xtbl_of (xall T) rfl T.tx_NotPossible
theorem xtb_ValueError (T : Tx K mg) : XTbl (wd T) (.type "ValueError") [true, true, true, true, true, true, true, true, true, true, true, true, true, true, false, false, false, false, false, false, false, true, false, false] := xtbl_of (xall T) rfl T.ty_ValueError
theorem xtb_LookupError (T : Tx K mg) : XTbl (wd T) (.type "LookupError") [false, false, false, false, false, false, false, false, false, false, false, false, false, false, true, true, false, false, false, false, false, false, true, false] := xtbl_of (xall T) rfl T.ty_LookupError
theorem xtb_ArithmeticError (T : Tx K mg) : XTbl (wd T) (.type "ArithmeticError") [false, false, false, false, false, false, false, false, false, false, false, false, false, false, false, false, true, true, true, true, true, false, false, true] := xtbl_of (xall T) rfl T.ty_ArithmeticError
theorem xfl_given (T : Tx K mg) : ∀ c, c ∈ [0, 1, 2, 3, 4, 5, 6, 7, 14, 16, 17, 18] → XfF (wd T).K ((wd T).eC c) "given" := fun c h => by
  simp only [List.mem_cons, List.not_mem_nil, or_false] at h
  rcases h with rfl | rfl | rfl | rfl | rfl | rfl | rfl | rfl | rfl | rfl | rfl | rfl
  · exact T.xf_InvalidText
  · exact T.xf_InvalidName
  · exact T.xf_InvalidIndex
  · exact T.xf_InvalidLevels
  · exact T.xf_InvalidNumber
  · exact T.xf_InvalidWish
  · exact T.xf_NotRound
  · exact T.xf_NotLot
  · exact T.xf_UnknownName
  · exact T.xf_OtherLevels
  · exact T.xf_TooMany
  · exact T.xf_TooFar
theorem xfl_index (T : Tx K mg) : ∀ c, c ∈ [8, 9, 10, 11, 12, 13, 15, 20] → XfF (wd T).K ((wd T).eC c) "index" := fun c h => by
  simp only [List.mem_cons, List.not_mem_nil, or_false] at h
  rcases h with rfl | rfl | rfl | rfl | rfl | rfl | rfl | rfl
  · exact T.xf_InvalidLamps
  · exact T.xf_InvalidRounds
  · exact T.xf_InvalidSteps
  · exact T.xf_InvalidPlan
  · exact T.xf_InvalidChanges
  · exact T.xf_InvalidWishes
  · exact T.xf_InUse
  · exact T.xf_Broken
end
end Mi
namespace Mi
open PySem PySem.Spec PyProof.Rows L2 Lamp SlX Gd
noncomputable section
variable {P : Program} {w : World} {K : PySem.W.Frag} {mg : Str → Option Value} {base : Heap}
def m_law_cast : SM := (sSeq (sIf (mOp cGt (mOp dIx (eBor 0) (eC (.int 0))) (eC (.int 0))) (sSeq (sAsg (mPrim dDivmod [(mOp dIx (eBor 0) (eC (.int 0))), (eBor 1)]) (gTp [(gSubM 0 (eC (.int 0))), (gNm 2)]))
    (sRet (eVar 2))) sNil)
    (sSeq (sAsg (mOp dAdd (mOp dIx (eBor 0) (eC (.int 2))) (eC (.int 1))) (gSubM 0 (eC (.int 2))))
    (sSeq (sAsg (mOp dMod (mPrim dInt [(mOp dAdd (mOp dAdd (mOp dMulI (mOp dIx (eBor 0) (eC (.int 1))) (mOp dAdd (eC (.int 36809)) (mOp dMulI (eC (.int 2)) (mOp dIx (eBor 0) (eC (.int 2)))))) (mOp dMulI (eC (.int 5303)) (mOp dIx (eBor 0) (eC (.int 2))))) (eC (.int 7)))]) (eC (.int 2147483629))) (gNm 3))
    (sSeq (sAsg (mOp dMod (mPrim dInt [(mOp dAdd (mOp dAdd (mOp dMulI (eBor 3) (eC (.int 45413))) (mOp dMulI (eC (.int 3)) (mOp dIx (eBor 0) (eC (.int 2))))) (eC (.int 1)))]) (eC (.int 2147483587))) (gSubM 0 (eC (.int 1))))
    (sRet (mOp dMod (mPrim dInt [(mOp dDiv (mOp dIx (eBor 0) (eC (.int 1))) (eC (.int 256)))]) (eBor 1)))))))
def fn_law_cast : Fn := runFn 4 m_law_cast
theorem ok_law_cast (T : Tx K mg) : FnM P w (wd T) mg base 2 T.a_law_cast T.d_law_cast ["_law_pail", "_law_many"] fn_law_cast := okM T.F_law_cast sc_law_cast (by decide) fun cdv A outer s H E ρ hgd hr => (sims_cons (sims_if (simtc c_gt (simx (x_any rfl (Nat.lt_of_le_of_lt (Nat.add_le_add_left (by decide) _) hr.units)) (sim_bor 0 rfl (by first | exact .inl rfl | exact .inr (.inl rfl) | exact .inr (.inr rfl))) sim_int (fun _ _ => rfl)) sim_int (nomark _)) (sims_cons (sims_asg (simb k_divmod T.n_divmod rfl (by decide +kernel) (sim_cons (simx (x_any rfl (Nat.lt_of_le_of_lt (Nat.add_le_add_left (by decide) _) hr.units)) (sim_bor 0 rfl (by first | exact .inl rfl | exact .inr (.inl rfl) | exact .inr (.inr rfl))) sim_int (fun _ _ => rfl)) (sim_cons (sim_bor 1 rfl (by first | exact .inl rfl | exact .inr (.inl rfl) | exact .inr (.inr rfl))) sim_nil))) (simg_tup rfl rfl (simg_cons (simg_sub 0 (Nat.lt_of_le_of_lt (Nat.add_le_add_left (by decide) _) hr.units) rfl (by first | exact .inl rfl | exact .inr (.inl rfl) | exact .inr (.inr rfl)) sim_int) (simg_cons (simg_name 2 sc_law_cast.nd rfl (by first | exact .inl rfl | exact .inr rfl)) simg_nil)) rfl))
      (sims_one (sims_ret (sim_var 2 rfl (by first | exact .inl rfl | exact .inr (.inl rfl) | exact .inr (.inr rfl)))))) sims_nil)
      (sims_cons (sims_asg (simo (o_add rfl) (simx (x_any rfl (Nat.lt_of_le_of_lt (Nat.add_le_add_left (by decide) _) hr.units)) (sim_bor 0 rfl (by first | exact .inl rfl | exact .inr (.inl rfl) | exact .inr (.inr rfl))) sim_int (fun _ _ => rfl)) sim_int) (simg_sub 0 (Nat.lt_of_le_of_lt (Nat.add_le_add_left (by decide) _) hr.units) rfl (by first | exact .inl rfl | exact .inr (.inl rfl) | exact .inr (.inr rfl)) sim_int))
      (sims_cons (sims_set 3 sc_law_cast.nd rfl (by first | exact .inl rfl | exact .inr rfl) (simo o_mod (simty k_int T.n_int rfl (by decide +kernel) (sim_cons (simo (o_add rfl) (simo (o_add rfl) (simo o_mulI (simx (x_any rfl (Nat.lt_of_le_of_lt (Nat.add_le_add_left (by decide) _) hr.units)) (sim_bor 0 rfl (by first | exact .inl rfl | exact .inr (.inl rfl) | exact .inr (.inr rfl))) sim_int (fun _ _ => rfl)) (simo (o_add rfl) sim_int (simo o_mulI sim_int (simx (x_any rfl (Nat.lt_of_le_of_lt (Nat.add_le_add_left (by decide) _) hr.units)) (sim_bor 0 rfl (by first | exact .inl rfl | exact .inr (.inl rfl) | exact .inr (.inr rfl))) sim_int (fun _ _ => rfl))))) (simo o_mulI sim_int (simx (x_any rfl (Nat.lt_of_le_of_lt (Nat.add_le_add_left (by decide) _) hr.units)) (sim_bor 0 rfl (by first | exact .inl rfl | exact .inr (.inl rfl) | exact .inr (.inr rfl))) sim_int (fun _ _ => rfl)))) sim_int) sim_nil)) sim_int))
      (sims_cons (sims_asg (simo o_mod (simty k_int T.n_int rfl (by decide +kernel) (sim_cons (simo (o_add rfl) (simo (o_add rfl) (simo o_mulI (sim_bor 3 rfl (by first | exact .inl rfl | exact .inr (.inl rfl) | exact .inr (.inr rfl))) sim_int) (simo o_mulI sim_int (simx (x_any rfl (Nat.lt_of_le_of_lt (Nat.add_le_add_left (by decide) _) hr.units)) (sim_bor 0 rfl (by first | exact .inl rfl | exact .inr (.inl rfl) | exact .inr (.inr rfl))) sim_int (fun _ _ => rfl)))) sim_int) sim_nil)) sim_int) (simg_sub 0 (Nat.lt_of_le_of_lt (Nat.add_le_add_left (by decide) _) hr.units) rfl (by first | exact .inl rfl | exact .inr (.inl rfl) | exact .inr (.inr rfl)) sim_int))
      (sims_one (sims_ret (simo o_mod (simty k_int T.n_int rfl (by decide +kernel) (sim_cons (simo o_div (simx (x_any rfl (Nat.lt_of_le_of_lt (Nat.add_le_add_left (by decide) _) hr.units)) (sim_bor 0 rfl (by first | exact .inl rfl | exact .inr (.inl rfl) | exact .inr (.inr rfl))) sim_int (fun _ _ => rfl)) sim_int) sim_nil)) (sim_bor 1 rfl (by first | exact .inl rfl | exact .inr (.inl rfl) | exact .inr (.inr rfl))))))))))
def m_law_any_of : SM := (sRet (mOp dIx (eBor 1) (fz (mCall fn_law_cast [(eVar 0), (mPrim dLen [(eBor 1)])]))))
def fn_law_any_of : Fn := runFn 2 m_law_any_of
theorem ok_law_any_of (T : Tx K mg) : FnM P w (wd T) mg base 3 T.a_law_any_of T.d_law_any_of ["_law_pail", "_law_some"] fn_law_any_of := okM T.F_law_any_of sc_law_any_of (by decide) fun cdv A outer s H E ρ hgd hr => (sims_one (sims_ret (simx (x_any rfl (Nat.lt_of_le_of_lt (Nat.add_le_add_left (by decide) _) hr.units)) (sim_bor 1 rfl (by first | exact .inl rfl | exact .inr (.inl rfl) | exact .inr (.inr rfl))) (sim_fz (sim_call (ok_law_cast T) rfl hgd (hr.mono (by decide)) T.g_law_cast T.F_law_cast.kp T.b_law_cast passM rfl (sim_cons (sim_var 0 rfl (by first | exact .inl rfl | exact .inr (.inl rfl) | exact .inr (.inr rfl))) (sim_cons (simb (k_len rfl) T.n_len rfl (by decide +kernel) (sim_cons (sim_bor 1 rfl (by first | exact .inl rfl | exact .inr (.inl rfl) | exact .inr (.inr rfl))) sim_nil)) sim_nil)))) (fun _ _ => rfl))))
def m_law_thing : SM := (sSeq (sAsg (mLst [(eC .non), (eC (.bl true)), (eC (.bl false)), (eC (.int 0)), (eC (.int 1)), (mUn dNeg (eC (.int 1))), (eC (.int 2)), (eC (.int 4)), (mUn dNeg (mOp dPow (eC (.int 10)) (eC (.int 39)))), (eC (.str "")), (eC (.str "a")), (eC (.str "levels 2 end 0 dark")), (mTup []), (mTup [(eC (.int 0))]), (mTup [(eC (.int 0)), (eC (.int 1))]), (eC (.str "A"))]) (gNm 1))
    (sSeq (sAsg (mOp dAdd (eBor 1) (fz (mLst [(fz (mLst [])), (fz (mLst [(eC (.int 1))])), (fz mDic0), (fz (mDisp [((eC (.str "a")), (eC (.int 1)))])), (mTup [(mTup [(eC (.int 0)), (eC (.int 1))])]), (mTup [(mTup [(eC (.int 1)), (eC (.int 1))]), (mTup [(eC (.int 0)), (eC (.int 1))])]), (mTup [(eC (.str "step")), (eC (.int 1))]), (mTup [(eC .non)]), (eC (.str "abcdefghi")), (eC (.str "+>")), (eC (.int 11))]))) (gNm 1))
    (sRet (mCall fn_law_any_of [(eVar 0), (eVar 1)]))))
def fn_law_thing : Fn := runFn 2 m_law_thing
theorem ok_law_thing (T : Tx K mg) : FnM P w (wd T) mg base 4 T.a_law_thing T.d_law_thing ["_law_pail"] fn_law_thing := okM T.F_law_thing sc_law_thing (by decide) fun cdv A outer s H E ρ hgd hr => (sims_cons (sims_set 1 sc_law_thing.nd rfl (by first | exact .inl rfl | exact .inr rfl) (sim_lst (sim_cons sim_non (sim_cons sim_bl (sim_cons sim_bl (sim_cons sim_int (sim_cons sim_int (sim_cons (sim_neg sim_int) (sim_cons sim_int (sim_cons sim_int (sim_cons (sim_neg (simo o_pow sim_int sim_int)) (sim_cons sim_str (sim_cons sim_str (sim_cons sim_str (sim_cons (sim_tup sim_nil) (sim_cons (sim_tup (sim_cons sim_int sim_nil)) (sim_cons (sim_tup (sim_cons sim_int (sim_cons sim_int sim_nil))) (sim_cons sim_str sim_nil))))))))))))))))))
      (sims_cons (sims_set 1 sc_law_thing.nd rfl (by first | exact .inl rfl | exact .inr rfl) (simo (o_add rfl) (sim_bor 1 rfl (by first | exact .inl rfl | exact .inr (.inl rfl) | exact .inr (.inr rfl))) (sim_fz (sim_lst (sim_cons (sim_fz (sim_lst sim_nil)) (sim_cons (sim_fz (sim_lst (sim_cons sim_int sim_nil))) (sim_cons (sim_fz sim_dic0) (sim_cons (sim_fz (sim_disp (l := [((eC (.str "a")), (eC (.int 1)))]) (pps_cons sim_str sim_int pps_nil))) (sim_cons (sim_tup (sim_cons (sim_tup (sim_cons sim_int (sim_cons sim_int sim_nil))) sim_nil)) (sim_cons (sim_tup (sim_cons (sim_tup (sim_cons sim_int (sim_cons sim_int sim_nil))) (sim_cons (sim_tup (sim_cons sim_int (sim_cons sim_int sim_nil))) sim_nil))) (sim_cons (sim_tup (sim_cons sim_str (sim_cons sim_int sim_nil))) (sim_cons (sim_tup (sim_cons sim_non sim_nil)) (sim_cons sim_str (sim_cons sim_str (sim_cons sim_int sim_nil)))))))))))))))
      (sims_one (sims_ret (sim_call (ok_law_any_of T) rfl hgd (hr.mono (by decide)) T.g_law_any_of T.F_law_any_of.kp T.b_law_any_of passM rfl (sim_cons (sim_var 0 rfl (by first | exact .inl rfl | exact .inr (.inl rfl) | exact .inr (.inr rfl))) (sim_cons (sim_var 1 rfl (by first | exact .inl rfl | exact .inr (.inl rfl) | exact .inr (.inr rfl))) sim_nil)))))))
def m_law_bases : SM := (sSeq (sAsg (mLst [(mUn (isiX [true, true, true, true, true, true, true, true, true, true, true, true, true, true, false, false, false, false, false, false, false, true, false, false]) (eBor 0)), (mUn (isiX [false, false, false, false, false, false, false, false, false, false, false, false, false, false, true, true, false, false, false, false, false, false, true, false]) (eBor 0)), (mUn (isiX [false, false, false, false, false, false, false, false, false, false, false, false, false, false, false, false, true, true, true, true, true, false, false, true]) (eBor 0))]) (gNm 1))
    (sRet (mOp dAdd (eBor 1) (fz (mLst [(mUn (isiX [true, true, true, true, true, true, true, true, true, true, true, true, true, true, false, false, false, false, false, false, false, true, false, false]) (eBor 0)), (mUn (isiX [false, false, false, false, false, false, false, false, false, false, false, false, false, false, true, true, false, false, false, false, false, false, true, false]) (eBor 0)), (mUn (isiX [false, false, false, false, false, false, false, false, false, false, false, false, false, false, false, false, true, true, true, true, true, false, false, true]) (eBor 0))])))))
def fn_law_bases : Fn := runFn 2 m_law_bases
theorem ok_law_bases (T : Tx K mg) : FnM P w (wd T) mg base 2 T.a_law_bases T.d_law_bases ["_law_e"] fn_law_bases := okM T.F_law_bases sc_law_bases (by decide) fun cdv A outer s H E ρ hgd hr => (sims_cons (sims_set 1 sc_law_bases.nd rfl (by first | exact .inl rfl | exact .inr rfl) (sim_lst (sim_cons (sim_isiX (c := .ref T.C_WrongValue) rfl (xtb_WrongValue T) (fun _ r => r) T.n_isinstance rfl (sim_bor 0 rfl (by first | exact .inl rfl | exact .inr (.inl rfl) | exact .inr (.inr rfl))) (pe_glob (v := .ref T.C_WrongValue) rfl T.g_WrongValue rfl)) (sim_cons (sim_isiX (c := .ref T.C_WrongName) rfl (xtb_WrongName T) (fun _ r => r) T.n_isinstance rfl (sim_bor 0 rfl (by first | exact .inl rfl | exact .inr (.inl rfl) | exact .inr (.inr rfl))) (pe_glob (v := .ref T.C_WrongName) rfl T.g_WrongName rfl)) (sim_cons (sim_isiX (c := .ref T.C_NotPossible) rfl (xtb_NotPossible T) (fun _ r => r) T.n_isinstance rfl (sim_bor 0 rfl (by first | exact .inl rfl | exact .inr (.inl rfl) | exact .inr (.inr rfl))) (pe_glob (v := .ref T.C_NotPossible) rfl T.g_NotPossible rfl)) sim_nil)))))
      (sims_one (sims_ret (simo (o_add rfl) (sim_bor 1 rfl (by first | exact .inl rfl | exact .inr (.inl rfl) | exact .inr (.inr rfl))) (sim_fz (sim_lst (sim_cons (sim_isiX (c := .ty "ValueError") rfl (xtb_ValueError T) (fun _ r => r) T.n_isinstance rfl (sim_bor 0 rfl (by first | exact .inl rfl | exact .inr (.inl rfl) | exact .inr (.inr rfl))) (pe_bltn (v := .ty "ValueError") rfl T.n_ValueError (by decide +kernel) rfl (by decide) (by decide))) (sim_cons (sim_isiX (c := .ty "LookupError") rfl (xtb_LookupError T) (fun _ r => r) T.n_isinstance rfl (sim_bor 0 rfl (by first | exact .inl rfl | exact .inr (.inl rfl) | exact .inr (.inr rfl))) (pe_bltn (v := .ty "LookupError") rfl T.n_LookupError (by decide +kernel) rfl (by decide) (by decide))) (sim_cons (sim_isiX (c := .ty "ArithmeticError") rfl (xtb_ArithmeticError T) (fun _ r => r) T.n_isinstance rfl (sim_bor 0 rfl (by first | exact .inl rfl | exact .inr (.inl rfl) | exact .inr (.inr rfl))) (pe_bltn (v := .ty "ArithmeticError") rfl T.n_ArithmeticError (by decide +kernel) rfl (by decide) (by decide))) sim_nil)))))))))
def m_law_flags : SM := (sSeq (sAsg (mLst [(mUn (isiX [true, false, false, false, false, false, false, false, false, false, false, false, false, false, false, false, false, false, false, false, false, false, false, false]) (eBor 0)), (mUn (isiX [false, true, false, false, false, false, false, false, false, false, false, false, false, false, false, false, false, false, false, false, false, false, false, false]) (eBor 0)), (mUn (isiX [false, false, true, false, false, false, false, false, false, false, false, false, false, false, false, false, false, false, false, false, false, false, false, false]) (eBor 0))]) (gNm 1))
    (sSeq (sAsg (mOp dAdd (eBor 1) (fz (mLst [(mUn (isiX [false, false, false, true, false, false, false, false, false, false, false, false, false, false, false, false, false, false, false, false, false, false, false, false]) (eBor 0)), (mUn (isiX [false, false, false, false, true, false, false, false, false, false, false, false, false, false, false, false, false, false, false, false, false, false, false, false]) (eBor 0)), (mUn (isiX [false, false, false, false, false, true, false, false, false, false, false, false, false, false, false, false, false, false, false, false, false, false, false, false]) (eBor 0))]))) (gNm 1))
    (sSeq (sAsg (mOp dAdd (eBor 1) (fz (mLst [(mUn (isiX [false, false, false, false, false, false, true, false, false, false, false, false, false, false, false, false, false, false, false, false, false, false, false, false]) (eBor 0)), (mUn (isiX [false, false, false, false, false, false, false, true, false, false, false, false, false, false, false, false, false, false, false, false, false, false, false, false]) (eBor 0)), (mUn (isiX [false, false, false, false, false, false, false, false, true, false, false, false, false, false, false, false, false, false, false, false, false, false, false, false]) (eBor 0))]))) (gNm 1))
    (sSeq (sAsg (mOp dAdd (eBor 1) (fz (mLst [(mUn (isiX [false, false, false, false, false, false, false, false, false, true, false, false, false, false, false, false, false, false, false, false, false, false, false, false]) (eBor 0)), (mUn (isiX [false, false, false, false, false, false, false, false, false, false, true, false, false, false, false, false, false, false, false, false, false, false, false, false]) (eBor 0)), (mUn (isiX [false, false, false, false, false, false, false, false, false, false, false, true, false, false, false, false, false, false, false, false, false, false, false, false]) (eBor 0))]))) (gNm 1))
    (sSeq (sAsg (mOp dAdd (eBor 1) (fz (mLst [(mUn (isiX [false, false, false, false, false, false, false, false, false, false, false, false, true, false, false, false, false, false, false, false, false, false, false, false]) (eBor 0)), (mUn (isiX [false, false, false, false, false, false, false, false, false, false, false, false, false, true, false, false, false, false, false, false, false, false, false, false]) (eBor 0)), (mUn (isiX [false, false, false, false, false, false, false, false, false, false, false, false, false, false, true, false, false, false, false, false, false, false, false, false]) (eBor 0))]))) (gNm 1))
    (sSeq (sAsg (mOp dAdd (eBor 1) (fz (mLst [(mUn (isiX [false, false, false, false, false, false, false, false, false, false, false, false, false, false, false, true, false, false, false, false, false, false, false, false]) (eBor 0)), (mUn (isiX [false, false, false, false, false, false, false, false, false, false, false, false, false, false, false, false, true, false, false, false, false, false, false, false]) (eBor 0)), (mUn (isiX [false, false, false, false, false, false, false, false, false, false, false, false, false, false, false, false, false, true, false, false, false, false, false, false]) (eBor 0)), (mUn (isiX [false, false, false, false, false, false, false, false, false, false, false, false, false, false, false, false, false, false, true, false, false, false, false, false]) (eBor 0))]))) (gNm 1))
    (sRet (mOp dAdd (eBor 1) (fz (mLst [(mUn (isiX [false, false, false, false, false, false, false, false, false, false, false, false, false, false, false, false, false, false, false, true, false, false, false, false]) (eBor 0)), (mUn (isiX [false, false, false, false, false, false, false, false, false, false, false, false, false, false, false, false, false, false, false, false, true, false, false, false]) (eBor 0))]))))))))))
def fn_law_flags : Fn := runFn 2 m_law_flags
theorem ok_law_flags (T : Tx K mg) : FnM P w (wd T) mg base 2 T.a_law_flags T.d_law_flags ["_law_e"] fn_law_flags := okM T.F_law_flags sc_law_flags (by decide) fun cdv A outer s H E ρ hgd hr => (sims_cons (sims_set 1 sc_law_flags.nd rfl (by first | exact .inl rfl | exact .inr rfl) (sim_lst (sim_cons (sim_isiX (c := .ref T.C_InvalidText) rfl (xtb_InvalidText T) (fun _ r => r) T.n_isinstance rfl (sim_bor 0 rfl (by first | exact .inl rfl | exact .inr (.inl rfl) | exact .inr (.inr rfl))) (pe_glob (v := .ref T.C_InvalidText) rfl T.g_InvalidText rfl)) (sim_cons (sim_isiX (c := .ref T.C_InvalidName) rfl (xtb_InvalidName T) (fun _ r => r) T.n_isinstance rfl (sim_bor 0 rfl (by first | exact .inl rfl | exact .inr (.inl rfl) | exact .inr (.inr rfl))) (pe_glob (v := .ref T.C_InvalidName) rfl T.g_InvalidName rfl)) (sim_cons (sim_isiX (c := .ref T.C_InvalidIndex) rfl (xtb_InvalidIndex T) (fun _ r => r) T.n_isinstance rfl (sim_bor 0 rfl (by first | exact .inl rfl | exact .inr (.inl rfl) | exact .inr (.inr rfl))) (pe_glob (v := .ref T.C_InvalidIndex) rfl T.g_InvalidIndex rfl)) sim_nil)))))
      (sims_cons (sims_set 1 sc_law_flags.nd rfl (by first | exact .inl rfl | exact .inr rfl) (simo (o_add rfl) (sim_bor 1 rfl (by first | exact .inl rfl | exact .inr (.inl rfl) | exact .inr (.inr rfl))) (sim_fz (sim_lst (sim_cons (sim_isiX (c := .ref T.C_InvalidLevels) rfl (xtb_InvalidLevels T) (fun _ r => r) T.n_isinstance rfl (sim_bor 0 rfl (by first | exact .inl rfl | exact .inr (.inl rfl) | exact .inr (.inr rfl))) (pe_glob (v := .ref T.C_InvalidLevels) rfl T.g_InvalidLevels rfl)) (sim_cons (sim_isiX (c := .ref T.C_InvalidNumber) rfl (xtb_InvalidNumber T) (fun _ r => r) T.n_isinstance rfl (sim_bor 0 rfl (by first | exact .inl rfl | exact .inr (.inl rfl) | exact .inr (.inr rfl))) (pe_glob (v := .ref T.C_InvalidNumber) rfl T.g_InvalidNumber rfl)) (sim_cons (sim_isiX (c := .ref T.C_InvalidWish) rfl (xtb_InvalidWish T) (fun _ r => r) T.n_isinstance rfl (sim_bor 0 rfl (by first | exact .inl rfl | exact .inr (.inl rfl) | exact .inr (.inr rfl))) (pe_glob (v := .ref T.C_InvalidWish) rfl T.g_InvalidWish rfl)) sim_nil)))))))
      (sims_cons (sims_set 1 sc_law_flags.nd rfl (by first | exact .inl rfl | exact .inr rfl) (simo (o_add rfl) (sim_bor 1 rfl (by first | exact .inl rfl | exact .inr (.inl rfl) | exact .inr (.inr rfl))) (sim_fz (sim_lst (sim_cons (sim_isiX (c := .ref T.C_NotRound) rfl (xtb_NotRound T) (fun _ r => r) T.n_isinstance rfl (sim_bor 0 rfl (by first | exact .inl rfl | exact .inr (.inl rfl) | exact .inr (.inr rfl))) (pe_glob (v := .ref T.C_NotRound) rfl T.g_NotRound rfl)) (sim_cons (sim_isiX (c := .ref T.C_NotLot) rfl (xtb_NotLot T) (fun _ r => r) T.n_isinstance rfl (sim_bor 0 rfl (by first | exact .inl rfl | exact .inr (.inl rfl) | exact .inr (.inr rfl))) (pe_glob (v := .ref T.C_NotLot) rfl T.g_NotLot rfl)) (sim_cons (sim_isiX (c := .ref T.C_InvalidLamps) rfl (xtb_InvalidLamps T) (fun _ r => r) T.n_isinstance rfl (sim_bor 0 rfl (by first | exact .inl rfl | exact .inr (.inl rfl) | exact .inr (.inr rfl))) (pe_glob (v := .ref T.C_InvalidLamps) rfl T.g_InvalidLamps rfl)) sim_nil)))))))
      (sims_cons (sims_set 1 sc_law_flags.nd rfl (by first | exact .inl rfl | exact .inr rfl) (simo (o_add rfl) (sim_bor 1 rfl (by first | exact .inl rfl | exact .inr (.inl rfl) | exact .inr (.inr rfl))) (sim_fz (sim_lst (sim_cons (sim_isiX (c := .ref T.C_InvalidRounds) rfl (xtb_InvalidRounds T) (fun _ r => r) T.n_isinstance rfl (sim_bor 0 rfl (by first | exact .inl rfl | exact .inr (.inl rfl) | exact .inr (.inr rfl))) (pe_glob (v := .ref T.C_InvalidRounds) rfl T.g_InvalidRounds rfl)) (sim_cons (sim_isiX (c := .ref T.C_InvalidSteps) rfl (xtb_InvalidSteps T) (fun _ r => r) T.n_isinstance rfl (sim_bor 0 rfl (by first | exact .inl rfl | exact .inr (.inl rfl) | exact .inr (.inr rfl))) (pe_glob (v := .ref T.C_InvalidSteps) rfl T.g_InvalidSteps rfl)) (sim_cons (sim_isiX (c := .ref T.C_InvalidPlan) rfl (xtb_InvalidPlan T) (fun _ r => r) T.n_isinstance rfl (sim_bor 0 rfl (by first | exact .inl rfl | exact .inr (.inl rfl) | exact .inr (.inr rfl))) (pe_glob (v := .ref T.C_InvalidPlan) rfl T.g_InvalidPlan rfl)) sim_nil)))))))
      (sims_cons (sims_set 1 sc_law_flags.nd rfl (by first | exact .inl rfl | exact .inr rfl) (simo (o_add rfl) (sim_bor 1 rfl (by first | exact .inl rfl | exact .inr (.inl rfl) | exact .inr (.inr rfl))) (sim_fz (sim_lst (sim_cons (sim_isiX (c := .ref T.C_InvalidChanges) rfl (xtb_InvalidChanges T) (fun _ r => r) T.n_isinstance rfl (sim_bor 0 rfl (by first | exact .inl rfl | exact .inr (.inl rfl) | exact .inr (.inr rfl))) (pe_glob (v := .ref T.C_InvalidChanges) rfl T.g_InvalidChanges rfl)) (sim_cons (sim_isiX (c := .ref T.C_InvalidWishes) rfl (xtb_InvalidWishes T) (fun _ r => r) T.n_isinstance rfl (sim_bor 0 rfl (by first | exact .inl rfl | exact .inr (.inl rfl) | exact .inr (.inr rfl))) (pe_glob (v := .ref T.C_InvalidWishes) rfl T.g_InvalidWishes rfl)) (sim_cons (sim_isiX (c := .ref T.C_UnknownName) rfl (xtb_UnknownName T) (fun _ r => r) T.n_isinstance rfl (sim_bor 0 rfl (by first | exact .inl rfl | exact .inr (.inl rfl) | exact .inr (.inr rfl))) (pe_glob (v := .ref T.C_UnknownName) rfl T.g_UnknownName rfl)) sim_nil)))))))
      (sims_cons (sims_set 1 sc_law_flags.nd rfl (by first | exact .inl rfl | exact .inr rfl) (simo (o_add rfl) (sim_bor 1 rfl (by first | exact .inl rfl | exact .inr (.inl rfl) | exact .inr (.inr rfl))) (sim_fz (sim_lst (sim_cons (sim_isiX (c := .ref T.C_InUse) rfl (xtb_InUse T) (fun _ r => r) T.n_isinstance rfl (sim_bor 0 rfl (by first | exact .inl rfl | exact .inr (.inl rfl) | exact .inr (.inr rfl))) (pe_glob (v := .ref T.C_InUse) rfl T.g_InUse rfl)) (sim_cons (sim_isiX (c := .ref T.C_OtherLevels) rfl (xtb_OtherLevels T) (fun _ r => r) T.n_isinstance rfl (sim_bor 0 rfl (by first | exact .inl rfl | exact .inr (.inl rfl) | exact .inr (.inr rfl))) (pe_glob (v := .ref T.C_OtherLevels) rfl T.g_OtherLevels rfl)) (sim_cons (sim_isiX (c := .ref T.C_TooMany) rfl (xtb_TooMany T) (fun _ r => r) T.n_isinstance rfl (sim_bor 0 rfl (by first | exact .inl rfl | exact .inr (.inl rfl) | exact .inr (.inr rfl))) (pe_glob (v := .ref T.C_TooMany) rfl T.g_TooMany rfl)) (sim_cons (sim_isiX (c := .ref T.C_TooFar) rfl (xtb_TooFar T) (fun _ r => r) T.n_isinstance rfl (sim_bor 0 rfl (by first | exact .inl rfl | exact .inr (.inl rfl) | exact .inr (.inr rfl))) (pe_glob (v := .ref T.C_TooFar) rfl T.g_TooFar rfl)) sim_nil))))))))
      (sims_one (sims_ret (simo (o_add rfl) (sim_bor 1 rfl (by first | exact .inl rfl | exact .inr (.inl rfl) | exact .inr (.inr rfl))) (sim_fz (sim_lst (sim_cons (sim_isiX (c := .ref T.C_NothingToUndo) rfl (xtb_NothingToUndo T) (fun _ r => r) T.n_isinstance rfl (sim_bor 0 rfl (by first | exact .inl rfl | exact .inr (.inl rfl) | exact .inr (.inr rfl))) (pe_glob (v := .ref T.C_NothingToUndo) rfl T.g_NothingToUndo rfl)) (sim_cons (sim_isiX (c := .ref T.C_Broken) rfl (xtb_Broken T) (fun _ r => r) T.n_isinstance rfl (sim_bor 0 rfl (by first | exact .inl rfl | exact .inr (.inl rfl) | exact .inr (.inr rfl))) (pe_glob (v := .ref T.C_Broken) rfl T.g_Broken rfl)) sim_nil)))))))))))))
def m_law_held : SM := (sRet (mIf (mOp cIn (eBor 1) (fz (mLst [(eC (.int 8)), (eC (.int 9)), (eC (.int 10)), (eC (.int 11)), (eC (.int 12)), (eC (.int 13)), (eC (.int 15)), (eC (.int 20))]))) (mUn (fldX [8, 9, 10, 11, 12, 13, 15, 20] "index") (eBor 0)) (mUn (fldX [0, 1, 2, 3, 4, 5, 6, 7, 14, 16, 17, 18] "given") (eBor 0))))
def fn_law_held : Fn := runFn 2 m_law_held
theorem ok_law_held (T : Tx K mg) : FnM P w (wd T) mg base 2 T.a_law_held T.d_law_held ["_law_e", "_law_at"] fn_law_held := okM T.F_law_held sc_law_held (by decide) fun cdv A outer s H E ρ hgd hr => (sims_one (sims_ret (sim_if (simtc (c_in rfl (Nat.lt_of_le_of_lt (Nat.add_le_add_left (by decide) _) hr.units)) (sim_bor 1 rfl (by first | exact .inl rfl | exact .inr (.inl rfl) | exact .inr (.inr rfl))) (sim_fz (sim_lst (sim_cons sim_int (sim_cons sim_int (sim_cons sim_int (sim_cons sim_int (sim_cons sim_int (sim_cons sim_int (sim_cons sim_int (sim_cons sim_int sim_nil)))))))))) rfl) (sim_fldX rfl (xfl_index T) (sim_bor 0 rfl (by first | exact .inl rfl | exact .inr (.inl rfl) | exact .inr (.inr rfl)))) (sim_fldX rfl (xfl_given T) (sim_bor 0 rfl (by first | exact .inl rfl | exact .inr (.inl rfl) | exact .inr (.inr rfl)))))))
noncomputable def e1_law_some_right : EM := (mOp (eqP false) (eBor 4) (eBor 2))
noncomputable def e2_law_some_right : EM := (mOp (eqP false) (eBor 4) (eBor 3))
noncomputable def b1_law_some_right : SM := (sSeq (sAsg (mIf (mOp cLtI (eBor 2) (eC (.int 14))) (eC (.int 0)) (mIf (mOp cLtI (eBor 2) (eC (.int 16))) (eC (.int 1)) (eC (.int 2)))) (gNm 3))
    (sSeq (sIf (mOp (eqP true) (fz (mCall fn_law_flags [(mOp dIx (eBor 0) (eBor 2))])) (fz (mLc (srcA rng1 [(eC (.int 21))]) (gNm 4) (eC (.bl true)) e1_law_some_right [4]))) (sRet (eC (.bl false))) sNil)
    (sSeq (sIf (mOp (eqP true) (fz (mCall fn_law_bases [(mOp dIx (eBor 0) (eBor 2))])) (fz (mOp dRepL (fz (mLc (srcA rng1 [(eC (.int 3))]) (gNm 4) (eC (.bl true)) e2_law_some_right [4])) (eC (.int 2))))) (sRet (eC (.bl false))) sNil)
    (sIf (mAnd (mOp (eqP true) (eBor 2) (eC (.int 19))) (mOp (eqP true) (mPrim dReprA [(fz (mCall fn_law_held [(mOp dIx (eBor 0) (eBor 2)), (eVar 2)]))]) (mPrim dReprA [(eBor 1)]))) (sRet (eC (.bl false))) sNil))))
def m_law_some_right : SM := (sSeq (sFor (srcA rng1 [(eC (.int 21))]) (gNm 2) b1_law_some_right)
    (sRet (mOp (eqP false) (mPrim dLen [(eBor 0)]) (eC (.int 21)))))
def fn_law_some_right : Fn := runFn 5 m_law_some_right
theorem ok_law_some_right (T : Tx K mg) : FnM P w (wd T) mg base 3 T.a_law_some_right T.d_law_some_right ["_law_some", "_law_thing_here"] fn_law_some_right := okM T.F_law_some_right sc_law_some_right (by decide) fun cdv A outer s H E ρ hgd hr => (sims_cons (sims_for (passes_of rfl) rfl (simi_range1 T.n_range rfl (sim_cons sim_int sim_nil)) (simg_name 2 sc_law_some_right.nd rfl (by first | exact .inl rfl | exact .inr rfl)) (sims_cons (sims_set 3 sc_law_some_right.nd rfl (by first | exact .inl rfl | exact .inr rfl) (sim_if (simtc c_lt (sim_bor 2 rfl (by first | exact .inl rfl | exact .inr (.inl rfl) | exact .inr (.inr rfl))) sim_int (nomark _)) sim_int (sim_if (simtc c_lt (sim_bor 2 rfl (by first | exact .inl rfl | exact .inr (.inl rfl) | exact .inr (.inr rfl))) sim_int (nomark _)) sim_int sim_int)))
      (sims_cons (sims_if (simtc (c_ne rfl hr.units) (sim_fz (sim_call (ok_law_flags T) rfl hgd (hr.mono (by decide)) T.g_law_flags T.F_law_flags.kp T.b_law_flags passM rfl (sim_cons (simx (x_any rfl (Nat.lt_of_le_of_lt (Nat.add_le_add_left (by decide) _) hr.units)) (sim_bor 0 rfl (by first | exact .inl rfl | exact .inr (.inl rfl) | exact .inr (.inr rfl))) (sim_bor 2 rfl (by first | exact .inl rfl | exact .inr (.inl rfl) | exact .inr (.inr rfl))) (fun _ _ => rfl)) sim_nil))) (sim_fz (sim_lc (own := [("_law_k", 4)]) rfl sc_law_some_right.nd (simi_range1 T.n_range rfl (sim_cons sim_int sim_nil)) (blkOk_by (own := [("_law_k", 4)]) (N := ["_law_some", "_law_thing_here", "_law_at", "_law_base", "_law_k"]) (sc := defScope s_law_some_right) (by decide +kernel)) (by decide) (fun _ _ _ _ _ => (simg_name 4 sc_law_some_right.nd rfl (by first | exact .inl rfl | exact .inr rfl) (Or.inr rfl))) (fun _ _ _ _ _ => simts_nil) (fun _ _ _ _ _ => (simc (c_eq rfl hr.units) (sim_bor 4 rfl (by first | exact .inl rfl | exact .inr (.inl rfl) | exact .inr (.inr rfl))) (sim_bor 2 rfl (by first | exact .inl rfl | exact .inr (.inl rfl) | exact .inr (.inr rfl))) (nomark _))))) (nomark _)) (sims_one (sims_ret sim_bl)) sims_nil)
      (sims_cons (sims_if (simtc (c_ne rfl hr.units) (sim_fz (sim_call (ok_law_bases T) rfl hgd (hr.mono (by decide)) T.g_law_bases T.F_law_bases.kp T.b_law_bases passM rfl (sim_cons (simx (x_any rfl (Nat.lt_of_le_of_lt (Nat.add_le_add_left (by decide) _) hr.units)) (sim_bor 0 rfl (by first | exact .inl rfl | exact .inr (.inl rfl) | exact .inr (.inr rfl))) (sim_bor 2 rfl (by first | exact .inl rfl | exact .inr (.inl rfl) | exact .inr (.inr rfl))) (fun _ _ => rfl)) sim_nil))) (sim_fz (simo o_repL (sim_fz (sim_lc (own := [("_law_k", 4)]) rfl sc_law_some_right.nd (simi_range1 T.n_range rfl (sim_cons sim_int sim_nil)) (blkOk_by (own := [("_law_k", 4)]) (N := ["_law_some", "_law_thing_here", "_law_at", "_law_base", "_law_k"]) (sc := defScope s_law_some_right) (by decide +kernel)) (by decide) (fun _ _ _ _ _ => (simg_name 4 sc_law_some_right.nd rfl (by first | exact .inl rfl | exact .inr rfl) (Or.inr rfl))) (fun _ _ _ _ _ => simts_nil) (fun _ _ _ _ _ => (simc (c_eq rfl hr.units) (sim_bor 4 rfl (by first | exact .inl rfl | exact .inr (.inl rfl) | exact .inr (.inr rfl))) (sim_bor 3 rfl (by first | exact .inl rfl | exact .inr (.inl rfl) | exact .inr (.inr rfl))) (nomark _))))) sim_int)) (nomark _)) (sims_one (sims_ret sim_bl)) sims_nil)
      (sims_one (sims_if (PW.pt (simt_and (simtc (c_ne rfl hr.units) (sim_bor 2 rfl (by first | exact .inl rfl | exact .inr (.inl rfl) | exact .inr (.inr rfl))) sim_int (nomark _)) (simt_and1 (simtc (c_ne rfl hr.units) (simb (k_reprA rfl hgd (L2H.roomH_of hr)) T.n_repr rfl (by decide +kernel) (sim_cons (sim_fz (sim_call (ok_law_held T) rfl hgd (hr.mono (by decide)) T.g_law_held T.F_law_held.kp T.b_law_held passM rfl (sim_cons (simx (x_any rfl (Nat.lt_of_le_of_lt (Nat.add_le_add_left (by decide) _) hr.units)) (sim_bor 0 rfl (by first | exact .inl rfl | exact .inr (.inl rfl) | exact .inr (.inr rfl))) (sim_bor 2 rfl (by first | exact .inl rfl | exact .inr (.inl rfl) | exact .inr (.inr rfl))) (fun _ _ => rfl)) (sim_cons (sim_var 2 rfl (by first | exact .inl rfl | exact .inr (.inl rfl) | exact .inr (.inr rfl))) sim_nil)))) sim_nil)) (simb (k_reprA rfl hgd (L2H.roomH_of hr)) T.n_repr rfl (by decide +kernel) (sim_cons (sim_bor 1 rfl (by first | exact .inl rfl | exact .inr (.inl rfl) | exact .inr (.inr rfl))) sim_nil)) (nomark _))))) (sims_one (sims_ret sim_bl)) sims_nil))))))
      (sims_one (sims_ret (simc (c_eq rfl hr.units) (simb (k_len rfl) T.n_len rfl (by decide +kernel) (sim_cons (sim_bor 0 rfl (by first | exact .inl rfl | exact .inr (.inl rfl) | exact .inr (.inr rfl))) sim_nil)) sim_int (nomark _)))))
def m_law_placed : SM := (sSeq (sAsg (mLst [(fz (mNewX 0 "given" (eBor 0))), (fz (mNewX 1 "given" (eBor 0))), (fz (mNewX 2 "given" (eBor 0))), (fz (mNewX 3 "given" (eBor 0))), (fz (mNewX 4 "given" (eBor 0)))]) (gNm 1))
    (sSeq (sAsg (mOp dAdd (eBor 1) (fz (mLst [(fz (mNewX 5 "given" (eBor 0))), (fz (mNewX 6 "given" (eBor 0))), (fz (mNewX 7 "given" (eBor 0))), (fz (mNewX 8 "index" (eBor 0))), (fz (mNewX 9 "index" (eBor 0)))]))) (gNm 1))
    (sSeq (sAsg (mOp dAdd (eBor 1) (fz (mLst [(fz (mNewX 10 "index" (eBor 0))), (fz (mNewX 11 "index" (eBor 0))), (fz (mNewX 12 "index" (eBor 0))), (fz (mNewX 13 "index" (eBor 0)))]))) (gNm 1))
    (sSeq (sAsg (mOp dAdd (eBor 1) (fz (mLst [(fz (mNewX 14 "given" (eBor 0))), (fz (mNewX 15 "index" (eBor 0))), (fz (mNewX 16 "given" (eBor 0))), (fz (mNewX 17 "given" (eBor 0))), (fz (mNewX 18 "given" (eBor 0)))]))) (gNm 1))
    (sRet (mOp dAdd (eBor 1) (fz (mLst [(fz (mNew0 19)), (fz (mNewX 20 "index" (eBor 0)))]))))))))
def fn_law_placed : Fn := runFn 2 m_law_placed
theorem ok_law_placed (T : Tx K mg) : FnM P w (wd T) mg base 4 T.a_law_placed T.d_law_placed ["_law_thing_here"] fn_law_placed := okM T.F_law_placed sc_law_placed (by decide) fun cdv A outer s H E ρ hgd hr => (sims_cons (sims_set 1 sc_law_placed.nd rfl (by first | exact .inl rfl | exact .inr rfl) (sim_lst (sim_cons (sim_fz (sim_newX 0 rfl T.ox_InvalidText T.fi_InvalidText T.ti_InvalidText (okx_InvalidText T) (hr.mono (by decide)) T.b_InvalidText_init rfl T.g_InvalidText (sim_bor 0 rfl (by first | exact .inl rfl | exact .inr (.inl rfl) | exact .inr (.inr rfl))))) (sim_cons (sim_fz (sim_newX 1 rfl T.ox_InvalidName T.fi_InvalidName T.ti_InvalidName (okx_InvalidName T) (hr.mono (by decide)) T.b_InvalidName_init rfl T.g_InvalidName (sim_bor 0 rfl (by first | exact .inl rfl | exact .inr (.inl rfl) | exact .inr (.inr rfl))))) (sim_cons (sim_fz (sim_newX 2 rfl T.ox_InvalidIndex T.fi_InvalidIndex T.ti_InvalidIndex (okx_InvalidIndex T) (hr.mono (by decide)) T.b_InvalidIndex_init rfl T.g_InvalidIndex (sim_bor 0 rfl (by first | exact .inl rfl | exact .inr (.inl rfl) | exact .inr (.inr rfl))))) (sim_cons (sim_fz (sim_newX 3 rfl T.ox_InvalidLevels T.fi_InvalidLevels T.ti_InvalidLevels (okx_InvalidLevels T) (hr.mono (by decide)) T.b_InvalidLevels_init rfl T.g_InvalidLevels (sim_bor 0 rfl (by first | exact .inl rfl | exact .inr (.inl rfl) | exact .inr (.inr rfl))))) (sim_cons (sim_fz (sim_newX 4 rfl T.ox_InvalidNumber T.fi_InvalidNumber T.ti_InvalidNumber (okx_InvalidNumber T) (hr.mono (by decide)) T.b_InvalidNumber_init rfl T.g_InvalidNumber (sim_bor 0 rfl (by first | exact .inl rfl | exact .inr (.inl rfl) | exact .inr (.inr rfl))))) sim_nil)))))))
      (sims_cons (sims_set 1 sc_law_placed.nd rfl (by first | exact .inl rfl | exact .inr rfl) (simo (o_add rfl) (sim_bor 1 rfl (by first | exact .inl rfl | exact .inr (.inl rfl) | exact .inr (.inr rfl))) (sim_fz (sim_lst (sim_cons (sim_fz (sim_newX 5 rfl T.ox_InvalidWish T.fi_InvalidWish T.ti_InvalidWish (okx_InvalidWish T) (hr.mono (by decide)) T.b_InvalidWish_init rfl T.g_InvalidWish (sim_bor 0 rfl (by first | exact .inl rfl | exact .inr (.inl rfl) | exact .inr (.inr rfl))))) (sim_cons (sim_fz (sim_newX 6 rfl T.ox_NotRound T.fi_NotRound T.ti_NotRound (okx_NotRound T) (hr.mono (by decide)) T.b_NotRound_init rfl T.g_NotRound (sim_bor 0 rfl (by first | exact .inl rfl | exact .inr (.inl rfl) | exact .inr (.inr rfl))))) (sim_cons (sim_fz (sim_newX 7 rfl T.ox_NotLot T.fi_NotLot T.ti_NotLot (okx_NotLot T) (hr.mono (by decide)) T.b_NotLot_init rfl T.g_NotLot (sim_bor 0 rfl (by first | exact .inl rfl | exact .inr (.inl rfl) | exact .inr (.inr rfl))))) (sim_cons (sim_fz (sim_newX 8 rfl T.ox_InvalidLamps T.fi_InvalidLamps T.ti_InvalidLamps (okx_InvalidLamps T) (hr.mono (by decide)) T.b_InvalidLamps_init rfl T.g_InvalidLamps (sim_bor 0 rfl (by first | exact .inl rfl | exact .inr (.inl rfl) | exact .inr (.inr rfl))))) (sim_cons (sim_fz (sim_newX 9 rfl T.ox_InvalidRounds T.fi_InvalidRounds T.ti_InvalidRounds (okx_InvalidRounds T) (hr.mono (by decide)) T.b_InvalidRounds_init rfl T.g_InvalidRounds (sim_bor 0 rfl (by first | exact .inl rfl | exact .inr (.inl rfl) | exact .inr (.inr rfl))))) sim_nil)))))))))
      (sims_cons (sims_set 1 sc_law_placed.nd rfl (by first | exact .inl rfl | exact .inr rfl) (simo (o_add rfl) (sim_bor 1 rfl (by first | exact .inl rfl | exact .inr (.inl rfl) | exact .inr (.inr rfl))) (sim_fz (sim_lst (sim_cons (sim_fz (sim_newX 10 rfl T.ox_InvalidSteps T.fi_InvalidSteps T.ti_InvalidSteps (okx_InvalidSteps T) (hr.mono (by decide)) T.b_InvalidSteps_init rfl T.g_InvalidSteps (sim_bor 0 rfl (by first | exact .inl rfl | exact .inr (.inl rfl) | exact .inr (.inr rfl))))) (sim_cons (sim_fz (sim_newX 11 rfl T.ox_InvalidPlan T.fi_InvalidPlan T.ti_InvalidPlan (okx_InvalidPlan T) (hr.mono (by decide)) T.b_InvalidPlan_init rfl T.g_InvalidPlan (sim_bor 0 rfl (by first | exact .inl rfl | exact .inr (.inl rfl) | exact .inr (.inr rfl))))) (sim_cons (sim_fz (sim_newX 12 rfl T.ox_InvalidChanges T.fi_InvalidChanges T.ti_InvalidChanges (okx_InvalidChanges T) (hr.mono (by decide)) T.b_InvalidChanges_init rfl T.g_InvalidChanges (sim_bor 0 rfl (by first | exact .inl rfl | exact .inr (.inl rfl) | exact .inr (.inr rfl))))) (sim_cons (sim_fz (sim_newX 13 rfl T.ox_InvalidWishes T.fi_InvalidWishes T.ti_InvalidWishes (okx_InvalidWishes T) (hr.mono (by decide)) T.b_InvalidWishes_init rfl T.g_InvalidWishes (sim_bor 0 rfl (by first | exact .inl rfl | exact .inr (.inl rfl) | exact .inr (.inr rfl))))) sim_nil))))))))
      (sims_cons (sims_set 1 sc_law_placed.nd rfl (by first | exact .inl rfl | exact .inr rfl) (simo (o_add rfl) (sim_bor 1 rfl (by first | exact .inl rfl | exact .inr (.inl rfl) | exact .inr (.inr rfl))) (sim_fz (sim_lst (sim_cons (sim_fz (sim_newX 14 rfl T.ox_UnknownName T.fi_UnknownName T.ti_UnknownName (okx_UnknownName T) (hr.mono (by decide)) T.b_UnknownName_init rfl T.g_UnknownName (sim_bor 0 rfl (by first | exact .inl rfl | exact .inr (.inl rfl) | exact .inr (.inr rfl))))) (sim_cons (sim_fz (sim_newX 15 rfl T.ox_InUse T.fi_InUse T.ti_InUse (okx_InUse T) (hr.mono (by decide)) T.b_InUse_init rfl T.g_InUse (sim_bor 0 rfl (by first | exact .inl rfl | exact .inr (.inl rfl) | exact .inr (.inr rfl))))) (sim_cons (sim_fz (sim_newX 16 rfl T.ox_OtherLevels T.fi_OtherLevels T.ti_OtherLevels (okx_OtherLevels T) (hr.mono (by decide)) T.b_OtherLevels_init rfl T.g_OtherLevels (sim_bor 0 rfl (by first | exact .inl rfl | exact .inr (.inl rfl) | exact .inr (.inr rfl))))) (sim_cons (sim_fz (sim_newX 17 rfl T.ox_TooMany T.fi_TooMany T.ti_TooMany (okx_TooMany T) (hr.mono (by decide)) T.b_TooMany_init rfl T.g_TooMany (sim_bor 0 rfl (by first | exact .inl rfl | exact .inr (.inl rfl) | exact .inr (.inr rfl))))) (sim_cons (sim_fz (sim_newX 18 rfl T.ox_TooFar T.fi_TooFar T.ti_TooFar (okx_TooFar T) (hr.mono (by decide)) T.b_TooFar_init rfl T.g_TooFar (sim_bor 0 rfl (by first | exact .inl rfl | exact .inr (.inl rfl) | exact .inr (.inr rfl))))) sim_nil)))))))))
      (sims_one (sims_ret (simo (o_add rfl) (sim_bor 1 rfl (by first | exact .inl rfl | exact .inr (.inl rfl) | exact .inr (.inr rfl))) (sim_fz (sim_lst (sim_cons (sim_fz (sim_newX0 19 rfl Xb.bAE.F T.xx_NothingToUndo T.g_NothingToUndo T.xk_NothingToUndo rfl)) (sim_cons (sim_fz (sim_newX 20 rfl T.ox_Broken T.fi_Broken T.ti_Broken (okx_Broken T) (hr.mono (by decide)) T.b_Broken_init rfl T.g_Broken (sim_bor 0 rfl (by first | exact .inl rfl | exact .inr (.inl rfl) | exact .inr (.inr rfl))))) sim_nil)))))))))))
def m_law_named : SM := (sSeq (sAsg (mLst [(fz (mNewX 0 "given" (eBor 0))), (fz (mNewX 1 "given" (eBor 0))), (fz (mNewX 2 "given" (eBor 0))), (fz (mNewX 3 "given" (eBor 0)))]) (gNm 1))
    (sSeq (sAsg (mOp dAdd (eBor 1) (fz (mLst [(fz (mNewX 4 "given" (eBor 0))), (fz (mNewX 5 "given" (eBor 0))), (fz (mNewX 6 "given" (eBor 0))), (fz (mNewX 7 "given" (eBor 0)))]))) (gNm 1))
    (sSeq (sAsg (mOp dAdd (eBor 1) (fz (mLst [(fz (mNewX 8 "index" (eBor 0))), (fz (mNewX 9 "index" (eBor 0))), (fz (mNewX 10 "index" (eBor 0)))]))) (gNm 1))
    (sSeq (sAsg (mOp dAdd (eBor 1) (fz (mLst [(fz (mNewX 11 "index" (eBor 0))), (fz (mNewX 12 "index" (eBor 0))), (fz (mNewX 13 "index" (eBor 0)))]))) (gNm 1))
    (sSeq (sAsg (mOp dAdd (eBor 1) (fz (mLst [(fz (mNewX 14 "given" (eBor 0))), (fz (mNewX 15 "index" (eBor 0))), (fz (mNewX 16 "given" (eBor 0))), (fz (mNewX 17 "given" (eBor 0)))]))) (gNm 1))
    (sRet (mOp dAdd (eBor 1) (fz (mLst [(fz (mNewX 18 "given" (eBor 0))), (fz (mNew0 19)), (fz (mNewX 20 "index" (eBor 0)))])))))))))
def fn_law_named : Fn := runFn 2 m_law_named
theorem ok_law_named (T : Tx K mg) : FnM P w (wd T) mg base 4 T.a_law_named T.d_law_named ["_law_thing_here"] fn_law_named := okM T.F_law_named sc_law_named (by decide) fun cdv A outer s H E ρ hgd hr => (sims_cons (sims_set 1 sc_law_named.nd rfl (by first | exact .inl rfl | exact .inr rfl) (sim_lst (sim_cons (sim_fz (sim_newXK 0 rfl T.ox_InvalidText T.fi_InvalidText T.ti_InvalidText (okx_InvalidText T) (hr.mono (by decide)) T.kb_InvalidText_init_given rfl T.g_InvalidText (sim_bor 0 rfl (by first | exact .inl rfl | exact .inr (.inl rfl) | exact .inr (.inr rfl))))) (sim_cons (sim_fz (sim_newXK 1 rfl T.ox_InvalidName T.fi_InvalidName T.ti_InvalidName (okx_InvalidName T) (hr.mono (by decide)) T.kb_InvalidName_init_given rfl T.g_InvalidName (sim_bor 0 rfl (by first | exact .inl rfl | exact .inr (.inl rfl) | exact .inr (.inr rfl))))) (sim_cons (sim_fz (sim_newXK 2 rfl T.ox_InvalidIndex T.fi_InvalidIndex T.ti_InvalidIndex (okx_InvalidIndex T) (hr.mono (by decide)) T.kb_InvalidIndex_init_given rfl T.g_InvalidIndex (sim_bor 0 rfl (by first | exact .inl rfl | exact .inr (.inl rfl) | exact .inr (.inr rfl))))) (sim_cons (sim_fz (sim_newXK 3 rfl T.ox_InvalidLevels T.fi_InvalidLevels T.ti_InvalidLevels (okx_InvalidLevels T) (hr.mono (by decide)) T.kb_InvalidLevels_init_given rfl T.g_InvalidLevels (sim_bor 0 rfl (by first | exact .inl rfl | exact .inr (.inl rfl) | exact .inr (.inr rfl))))) sim_nil))))))
      (sims_cons (sims_set 1 sc_law_named.nd rfl (by first | exact .inl rfl | exact .inr rfl) (simo (o_add rfl) (sim_bor 1 rfl (by first | exact .inl rfl | exact .inr (.inl rfl) | exact .inr (.inr rfl))) (sim_fz (sim_lst (sim_cons (sim_fz (sim_newXK 4 rfl T.ox_InvalidNumber T.fi_InvalidNumber T.ti_InvalidNumber (okx_InvalidNumber T) (hr.mono (by decide)) T.kb_InvalidNumber_init_given rfl T.g_InvalidNumber (sim_bor 0 rfl (by first | exact .inl rfl | exact .inr (.inl rfl) | exact .inr (.inr rfl))))) (sim_cons (sim_fz (sim_newXK 5 rfl T.ox_InvalidWish T.fi_InvalidWish T.ti_InvalidWish (okx_InvalidWish T) (hr.mono (by decide)) T.kb_InvalidWish_init_given rfl T.g_InvalidWish (sim_bor 0 rfl (by first | exact .inl rfl | exact .inr (.inl rfl) | exact .inr (.inr rfl))))) (sim_cons (sim_fz (sim_newXK 6 rfl T.ox_NotRound T.fi_NotRound T.ti_NotRound (okx_NotRound T) (hr.mono (by decide)) T.kb_NotRound_init_given rfl T.g_NotRound (sim_bor 0 rfl (by first | exact .inl rfl | exact .inr (.inl rfl) | exact .inr (.inr rfl))))) (sim_cons (sim_fz (sim_newXK 7 rfl T.ox_NotLot T.fi_NotLot T.ti_NotLot (okx_NotLot T) (hr.mono (by decide)) T.kb_NotLot_init_given rfl T.g_NotLot (sim_bor 0 rfl (by first | exact .inl rfl | exact .inr (.inl rfl) | exact .inr (.inr rfl))))) sim_nil))))))))
      (sims_cons (sims_set 1 sc_law_named.nd rfl (by first | exact .inl rfl | exact .inr rfl) (simo (o_add rfl) (sim_bor 1 rfl (by first | exact .inl rfl | exact .inr (.inl rfl) | exact .inr (.inr rfl))) (sim_fz (sim_lst (sim_cons (sim_fz (sim_newXK 8 rfl T.ox_InvalidLamps T.fi_InvalidLamps T.ti_InvalidLamps (okx_InvalidLamps T) (hr.mono (by decide)) T.kb_InvalidLamps_init_index rfl T.g_InvalidLamps (sim_bor 0 rfl (by first | exact .inl rfl | exact .inr (.inl rfl) | exact .inr (.inr rfl))))) (sim_cons (sim_fz (sim_newXK 9 rfl T.ox_InvalidRounds T.fi_InvalidRounds T.ti_InvalidRounds (okx_InvalidRounds T) (hr.mono (by decide)) T.kb_InvalidRounds_init_index rfl T.g_InvalidRounds (sim_bor 0 rfl (by first | exact .inl rfl | exact .inr (.inl rfl) | exact .inr (.inr rfl))))) (sim_cons (sim_fz (sim_newXK 10 rfl T.ox_InvalidSteps T.fi_InvalidSteps T.ti_InvalidSteps (okx_InvalidSteps T) (hr.mono (by decide)) T.kb_InvalidSteps_init_index rfl T.g_InvalidSteps (sim_bor 0 rfl (by first | exact .inl rfl | exact .inr (.inl rfl) | exact .inr (.inr rfl))))) sim_nil)))))))
      (sims_cons (sims_set 1 sc_law_named.nd rfl (by first | exact .inl rfl | exact .inr rfl) (simo (o_add rfl) (sim_bor 1 rfl (by first | exact .inl rfl | exact .inr (.inl rfl) | exact .inr (.inr rfl))) (sim_fz (sim_lst (sim_cons (sim_fz (sim_newXK 11 rfl T.ox_InvalidPlan T.fi_InvalidPlan T.ti_InvalidPlan (okx_InvalidPlan T) (hr.mono (by decide)) T.kb_InvalidPlan_init_index rfl T.g_InvalidPlan (sim_bor 0 rfl (by first | exact .inl rfl | exact .inr (.inl rfl) | exact .inr (.inr rfl))))) (sim_cons (sim_fz (sim_newXK 12 rfl T.ox_InvalidChanges T.fi_InvalidChanges T.ti_InvalidChanges (okx_InvalidChanges T) (hr.mono (by decide)) T.kb_InvalidChanges_init_index rfl T.g_InvalidChanges (sim_bor 0 rfl (by first | exact .inl rfl | exact .inr (.inl rfl) | exact .inr (.inr rfl))))) (sim_cons (sim_fz (sim_newXK 13 rfl T.ox_InvalidWishes T.fi_InvalidWishes T.ti_InvalidWishes (okx_InvalidWishes T) (hr.mono (by decide)) T.kb_InvalidWishes_init_index rfl T.g_InvalidWishes (sim_bor 0 rfl (by first | exact .inl rfl | exact .inr (.inl rfl) | exact .inr (.inr rfl))))) sim_nil)))))))
      (sims_cons (sims_set 1 sc_law_named.nd rfl (by first | exact .inl rfl | exact .inr rfl) (simo (o_add rfl) (sim_bor 1 rfl (by first | exact .inl rfl | exact .inr (.inl rfl) | exact .inr (.inr rfl))) (sim_fz (sim_lst (sim_cons (sim_fz (sim_newXK 14 rfl T.ox_UnknownName T.fi_UnknownName T.ti_UnknownName (okx_UnknownName T) (hr.mono (by decide)) T.kb_UnknownName_init_given rfl T.g_UnknownName (sim_bor 0 rfl (by first | exact .inl rfl | exact .inr (.inl rfl) | exact .inr (.inr rfl))))) (sim_cons (sim_fz (sim_newXK 15 rfl T.ox_InUse T.fi_InUse T.ti_InUse (okx_InUse T) (hr.mono (by decide)) T.kb_InUse_init_index rfl T.g_InUse (sim_bor 0 rfl (by first | exact .inl rfl | exact .inr (.inl rfl) | exact .inr (.inr rfl))))) (sim_cons (sim_fz (sim_newXK 16 rfl T.ox_OtherLevels T.fi_OtherLevels T.ti_OtherLevels (okx_OtherLevels T) (hr.mono (by decide)) T.kb_OtherLevels_init_given rfl T.g_OtherLevels (sim_bor 0 rfl (by first | exact .inl rfl | exact .inr (.inl rfl) | exact .inr (.inr rfl))))) (sim_cons (sim_fz (sim_newXK 17 rfl T.ox_TooMany T.fi_TooMany T.ti_TooMany (okx_TooMany T) (hr.mono (by decide)) T.kb_TooMany_init_given rfl T.g_TooMany (sim_bor 0 rfl (by first | exact .inl rfl | exact .inr (.inl rfl) | exact .inr (.inr rfl))))) sim_nil))))))))
      (sims_one (sims_ret (simo (o_add rfl) (sim_bor 1 rfl (by first | exact .inl rfl | exact .inr (.inl rfl) | exact .inr (.inr rfl))) (sim_fz (sim_lst (sim_cons (sim_fz (sim_newXK 18 rfl T.ox_TooFar T.fi_TooFar T.ti_TooFar (okx_TooFar T) (hr.mono (by decide)) T.kb_TooFar_init_given rfl T.g_TooFar (sim_bor 0 rfl (by first | exact .inl rfl | exact .inr (.inl rfl) | exact .inr (.inr rfl))))) (sim_cons (sim_fz (sim_newX0 19 rfl Xb.bAE.F T.xx_NothingToUndo T.g_NothingToUndo T.xk_NothingToUndo rfl)) (sim_cons (sim_fz (sim_newXK 20 rfl T.ox_Broken T.fi_Broken T.ti_Broken (okx_Broken T) (hr.mono (by decide)) T.kb_Broken_init_index rfl T.g_Broken (sim_bor 0 rfl (by first | exact .inl rfl | exact .inr (.inl rfl) | exact .inr (.inr rfl))))) sim_nil)))))))))))))
noncomputable def b1_law_right : SM := (sSeq (sAsg (mCall fn_law_thing [(eVar 0)]) (gNm 2))
    (sIf (mOr (mNot (mTru (fz (mCall fn_law_some_right [(fz (mCall fn_law_placed [(eVar 2)])), (eVar 2)])))) (mNot (mTru (fz (mCall fn_law_some_right [(fz (mCall fn_law_named [(eVar 2)])), (eVar 2)]))))) (sRet (eC (.bl false))) sNil))
noncomputable def e1_law_right : EM := (fz (mSl dSl (fz (mCall fn_law_bases [(eVar 4)])) none (some (eC (.int 3)))))
def m_law_right : SM := (sSeq (sFor (srcA rng1 [(eC (.int 4))]) (gNm 1) b1_law_right)
    (sSeq (sAsg (mLc (srcE seqOf (fz (mLst [(fz (mNew0 21)), (fz (mNew0 22)), (fz (mNew0 23))]))) (gNm 4) (eC (.bl true)) e1_law_right [4]) (gNm 3))
    (sRet (mOp (eqP false) (eBor 3) (fz (mLst [(fz (mLst [(eC (.bl true)), (eC (.bl false)), (eC (.bl false))])), (fz (mLst [(eC (.bl false)), (eC (.bl true)), (eC (.bl false))])), (fz (mLst [(eC (.bl false)), (eC (.bl false)), (eC (.bl true))]))]))))))
def fn_law_right : Fn := runFn 5 m_law_right
theorem ok_law_right (T : Tx K mg) : FnM P w (wd T) mg base 5 T.a_law_right T.d_law_right ["_law_pail"] fn_law_right := okM T.F_law_right sc_law_right (by decide) fun cdv A outer s H E ρ hgd hr => (sims_cons (sims_for (passes_of rfl) rfl (simi_range1 T.n_range rfl (sim_cons sim_int sim_nil)) (simg_name 1 sc_law_right.nd rfl (by first | exact .inl rfl | exact .inr rfl)) (sims_cons (sims_set 2 sc_law_right.nd rfl (by first | exact .inl rfl | exact .inr rfl) (sim_call (ok_law_thing T) rfl hgd (hr.mono (by decide)) T.g_law_thing T.F_law_thing.kp T.b_law_thing passM rfl (sim_cons (sim_var 0 rfl (by first | exact .inl rfl | exact .inr (.inl rfl) | exact .inr (.inr rfl))) sim_nil)))
      (sims_one (sims_if (PW.pt (simt_or (simt_not (simt_tru rfl (sim_fz (sim_call (ok_law_some_right T) rfl hgd (hr.mono (by decide)) T.g_law_some_right T.F_law_some_right.kp T.b_law_some_right passM rfl (sim_cons (sim_fz (sim_call (ok_law_placed T) rfl hgd (hr.mono (by decide)) T.g_law_placed T.F_law_placed.kp T.b_law_placed passM rfl (sim_cons (sim_var 2 rfl (by first | exact .inl rfl | exact .inr (.inl rfl) | exact .inr (.inr rfl))) sim_nil))) (sim_cons (sim_var 2 rfl (by first | exact .inl rfl | exact .inr (.inl rfl) | exact .inr (.inr rfl))) sim_nil)))))) (simt_or1 (simt_not (simt_tru rfl (sim_fz (sim_call (ok_law_some_right T) rfl hgd (hr.mono (by decide)) T.g_law_some_right T.F_law_some_right.kp T.b_law_some_right passM rfl (sim_cons (sim_fz (sim_call (ok_law_named T) rfl hgd (hr.mono (by decide)) T.g_law_named T.F_law_named.kp T.b_law_named passM rfl (sim_cons (sim_var 2 rfl (by first | exact .inl rfl | exact .inr (.inl rfl) | exact .inr (.inr rfl))) sim_nil))) (sim_cons (sim_var 2 rfl (by first | exact .inl rfl | exact .inr (.inl rfl) | exact .inr (.inr rfl))) sim_nil))))))))) (sims_one (sims_ret sim_bl)) sims_nil))))
      (sims_cons (sims_setLc 3 (own := [("_law_e", 4)]) rfl sc_law_right.nd rfl rfl (sw_true rfl rfl rfl (by decide +kernel)) (simi rfl (sim_fz (sim_lst (sim_cons (sim_fz (sim_newX0 21 rfl Xb.bVE.F T.xx_WrongValue T.g_WrongValue T.xk_WrongValue rfl)) (sim_cons (sim_fz (sim_newX0 22 rfl Xb.bLE.F T.xx_WrongName T.g_WrongName T.xk_WrongName rfl)) (sim_cons (sim_fz (sim_newX0 23 rfl Xb.bAE.F T.xx_NotPossible T.g_NotPossible T.xk_NotPossible rfl)) sim_nil)))))) (blkOk_by (own := [("_law_e", 4)]) (N := ["_law_pail", "_law_turn", "_law_thing_here", "_law_told", "_law_e"]) (sc := defScope s_law_right) (by decide +kernel)) (by decide) (fun _ _ _ _ _ => (simg_name 4 sc_law_right.nd rfl (by first | exact .inl rfl | exact .inr rfl) (Or.inr rfl))) (fun _ _ _ _ _ => simts_nil) (fun _ _ _ _ _ => (sim_fz (sim_sl rfl (sim_fz (sim_call (ok_law_bases T) rfl hgd (hr.mono (by decide)) T.g_law_bases T.F_law_bases.kp T.b_law_bases passE rfl (sim_cons (sim_var 4 rfl (by first | exact .inl rfl | exact .inr (.inl rfl) | exact .inr (.inr rfl))) sim_nil))) so_none (so_some sim_int)))))
      (sims_one (sims_ret (simc (c_eq rfl hr.units) (sim_bor 3 rfl (by first | exact .inl rfl | exact .inr (.inl rfl) | exact .inr (.inr rfl))) (sim_fz (sim_lst (sim_cons (sim_fz (sim_lst (sim_cons sim_bl (sim_cons sim_bl (sim_cons sim_bl sim_nil))))) (sim_cons (sim_fz (sim_lst (sim_cons sim_bl (sim_cons sim_bl (sim_cons sim_bl sim_nil))))) (sim_cons (sim_fz (sim_lst (sim_cons sim_bl (sim_cons sim_bl (sim_cons sim_bl sim_nil))))) sim_nil))))) (nomark _))))))
noncomputable def b1_law_begun : SM := (sAsg (mOp dMod (mPrim dInt [(mOp dAdd (mOp dAdd (mOp dMulI (eBor 3) (eC (.int 30269))) (mOp dMulI (eBor 4) (eC (.int 7)))) (eC (.int 13)))]) (eC (.int 2147483629))) (gNm 3))
def m_law_begun : SM := (sSeq (sAsg (mIf (mOp cLtI (eBor 1) (mPrim dLen [(eBor 0)])) (mOp dIx (eBor 0) (eBor 1)) (eC (.int 0))) (gNm 2))
    (sSeq (sAsg (mOp dAdd (eC (.int 60013)) (mOp dMulI (eC (.int 7727)) (eBor 1))) (gNm 3))
    (sSeq (sFor (srcE seqOf (fz (mSl dSl (eBor 0) none (some (eC (.int 6)))))) (gNm 4) b1_law_begun)
    (sRet (mLst [(mIf (mOr (mOp cLtI (eBor 2) (eC (.int 0))) (mOp cGe (eBor 2) (mOp dPow (eC (.int 10)) (eC (.int 18))))) (mPrim dAbs [(eBor 2)]) (eC (.int 0))), (mOp dMod (mPrim dInt [(mOp dAdd (mOp dAdd (mOp dMulI (eBor 3) (eC (.int 53))) (fz (mOp dMulI (eBor 2) (eBor 2)))) (mOp dMulI (eC (.int 17)) (eBor 1)))]) (eC (.int 2147483629))), (eC (.int 0))])))))
def fn_law_begun : Fn := runFn 5 m_law_begun
theorem ok_law_begun (T : Tx K mg) : FnM P w (wd T) mg base 2 T.a_law_begun T.d_law_begun ["_law_script", "_law_turn"] fn_law_begun := okM T.F_law_begun sc_law_begun (by decide) fun cdv A outer s H E ρ hgd hr => (sims_cons (sims_set 2 sc_law_begun.nd rfl (by first | exact .inl rfl | exact .inr rfl) (sim_if (simtc c_lt (sim_bor 1 rfl (by first | exact .inl rfl | exact .inr (.inl rfl) | exact .inr (.inr rfl))) (simb (k_len rfl) T.n_len rfl (by decide +kernel) (sim_cons (sim_bor 0 rfl (by first | exact .inl rfl | exact .inr (.inl rfl) | exact .inr (.inr rfl))) sim_nil)) (nomark _)) (simx (x_any rfl (Nat.lt_of_le_of_lt (Nat.add_le_add_left (by decide) _) hr.units)) (sim_bor 0 rfl (by first | exact .inl rfl | exact .inr (.inl rfl) | exact .inr (.inr rfl))) (sim_bor 1 rfl (by first | exact .inl rfl | exact .inr (.inl rfl) | exact .inr (.inr rfl))) (fun _ _ => rfl)) sim_int))
      (sims_cons (sims_set 3 sc_law_begun.nd rfl (by first | exact .inl rfl | exact .inr rfl) (simo (o_add rfl) sim_int (simo o_mulI sim_int (sim_bor 1 rfl (by first | exact .inl rfl | exact .inr (.inl rfl) | exact .inr (.inr rfl))))))
      (sims_cons (sims_for (passes_of rfl) rfl (simi rfl (sim_fz (sim_sl rfl (sim_bor 0 rfl (by first | exact .inl rfl | exact .inr (.inl rfl) | exact .inr (.inr rfl))) so_none (so_some sim_int)))) (simg_name 4 sc_law_begun.nd rfl (by first | exact .inl rfl | exact .inr rfl)) (sims_one (sims_set 3 sc_law_begun.nd rfl (by first | exact .inl rfl | exact .inr rfl) (simo o_mod (simty k_int T.n_int rfl (by decide +kernel) (sim_cons (simo (o_add rfl) (simo (o_add rfl) (simo o_mulI (sim_bor 3 rfl (by first | exact .inl rfl | exact .inr (.inl rfl) | exact .inr (.inr rfl))) sim_int) (simo o_mulI (sim_bor 4 rfl (by first | exact .inl rfl | exact .inr (.inl rfl) | exact .inr (.inr rfl))) sim_int)) sim_int) sim_nil)) sim_int))))
      (sims_one (sims_ret (sim_lst (sim_cons (sim_if (PW.pt (simt_or (simtc c_lt (sim_bor 2 rfl (by first | exact .inl rfl | exact .inr (.inl rfl) | exact .inr (.inr rfl))) sim_int (nomark _)) (simt_or1 (simtc c_ge (sim_bor 2 rfl (by first | exact .inl rfl | exact .inr (.inl rfl) | exact .inr (.inr rfl))) (simo o_pow sim_int sim_int) (nomark _))))) (simb k_abs T.n_abs rfl (by decide +kernel) (sim_cons (sim_bor 2 rfl (by first | exact .inl rfl | exact .inr (.inl rfl) | exact .inr (.inr rfl))) sim_nil)) sim_int) (sim_cons (simo o_mod (simty k_int T.n_int rfl (by decide +kernel) (sim_cons (simo (o_add rfl) (simo (o_add rfl) (simo o_mulI (sim_bor 3 rfl (by first | exact .inl rfl | exact .inr (.inl rfl) | exact .inr (.inr rfl))) sim_int) (sim_fz (simo o_mulI (sim_bor 2 rfl (by first | exact .inl rfl | exact .inr (.inl rfl) | exact .inr (.inr rfl))) (sim_bor 2 rfl (by first | exact .inl rfl | exact .inr (.inl rfl) | exact .inr (.inr rfl)))))) (simo o_mulI sim_int (sim_bor 1 rfl (by first | exact .inl rfl | exact .inr (.inl rfl) | exact .inr (.inr rfl))))) sim_nil)) sim_int) (sim_cons sim_int sim_nil)))))))))
noncomputable def e1_law : EM := (fz (mCall fn_law_right [(mCell (mCall fn_law_begun [(eVar 0), (eVar 2)]))]))
def m_law : SM := (sSeq (sAsg (mLst [(eC (.kup [2, 3, 5, 7])), (eC (.int 400)), (eC (.int 4000)), (eC (.int 4)), (eC (.int 24)), (eC (.int 8)), (eC (.int 40)), (eC (.int 1000))]) (gNm 1))
    (sSeq (sIf (mOp (eqP true) (mPrim dRepr [(fz (mOp dAdd (eBor 1) (fz (mLst [(eC (.int 6))]))))]) (mPrim dRepr [(fz (mLst [(mTup [(eC (.int 2)), (eC (.int 3)), (eC (.int 5)), (eC (.int 7))]), (eC (.int 400)), (eC (.int 4000)), (eC (.int 4)), (eC (.int 24)), (eC (.int 8)), (eC (.int 40)), (eC (.int 1000)), (eC (.int 6))]))])) (sRet (eC (.bl false))) sNil)
    (sRet (mPrim dAll [(fz (mLc (srcA rng1 [(mPrim dMax [(eC (.int 2)), (mPrim dMinA [(mPrim dLen [(eBor 0)]), (eC (.int 5))])])]) (gNm 2) (eC (.bl true)) e1_law [2]))]))))
def fn_law : Fn := runFn 3 m_law
theorem ok_law (T : Tx K mg) : FnM P w (wd T) mg base 6 T.a_law T.d_law ["_law_script"] fn_law := okM T.F_law sc_law (by decide) fun cdv A outer s H E ρ hgd hr => (sims_cons (sims_set 1 sc_law.nd rfl (by first | exact .inl rfl | exact .inr rfl) (sim_lst (sim_cons (sim_kup (ns := [2, 3, 5, 7]) (pe_glob (v := .ref T.x_LEVELS) rfl T.g_LEVELS rfl) (kup_of T.w_LEVELS)) (sim_cons (sim_g (d := .int 400) (v := .int 400) T.g_MOST_LAMPS.choose_spec (fun _ _ => .int _) ⟨_, rfl⟩ rfl) (sim_cons (sim_g (d := .int 4000) (v := .int 4000) T.g_MOST_STEPS.choose_spec (fun _ _ => .int _) ⟨_, rfl⟩ rfl) (sim_cons (sim_g (d := .int 4) (v := .int 4) T.g_MOST_ROUNDS.choose_spec (fun _ _ => .int _) ⟨_, rfl⟩ rfl) (sim_cons (sim_g (d := .int 24) (v := .int 24) T.g_MOST_PLACE.choose_spec (fun _ _ => .int _) ⟨_, rfl⟩ rfl) (sim_cons (sim_g (d := .int 8) (v := .int 8) T.g_MOST_END.choose_spec (fun _ _ => .int _) ⟨_, rfl⟩ rfl) (sim_cons (sim_g (d := .int 40) (v := .int 40) T.g_MOST_NEAR.choose_spec (fun _ _ => .int _) ⟨_, rfl⟩ rfl) (sim_cons (sim_g (d := .int 1000) (v := .int 1000) T.g_MOST_TIMES.choose_spec (fun _ _ => .int _) ⟨_, rfl⟩ rfl) sim_nil))))))))))
      (sims_cons (sims_if (simtc (c_ne rfl hr.units) (simb (k_repr rfl hgd hr) T.n_repr rfl (by decide +kernel) (sim_cons (sim_fz (simo (o_add rfl) (sim_bor 1 rfl (by first | exact .inl rfl | exact .inr (.inl rfl) | exact .inr (.inr rfl))) (sim_fz (sim_lst (sim_cons (sim_g (d := .int 6) (v := .int 6) T.g_MOST_CHANGES.choose_spec (fun _ _ => .int _) ⟨_, rfl⟩ rfl) sim_nil))))) sim_nil)) (simb (k_repr rfl hgd hr) T.n_repr rfl (by decide +kernel) (sim_cons (sim_fz (sim_lst (sim_cons (sim_tup (sim_cons sim_int (sim_cons sim_int (sim_cons sim_int (sim_cons sim_int sim_nil))))) (sim_cons sim_int (sim_cons sim_int (sim_cons sim_int (sim_cons sim_int (sim_cons sim_int (sim_cons sim_int (sim_cons sim_int (sim_cons sim_int sim_nil))))))))))) sim_nil)) (nomark _)) (sims_one (sims_ret sim_bl)) sims_nil)
      (sims_one (sims_ret (simb (k_all rfl rfl) T.n_all rfl (by decide +kernel) (sim_cons (sim_fz (sim_lc (own := [("_law_turn", 2)]) rfl sc_law.nd (simi_range1 T.n_range rfl (sim_cons (simb (k_max rfl rfl) T.n_max rfl (by decide +kernel) (sim_cons sim_int (sim_cons (simb (k_minA rfl rfl) T.n_min rfl (by decide +kernel) (sim_cons (simb (k_len rfl) T.n_len rfl (by decide +kernel) (sim_cons (sim_bor 0 rfl (by first | exact .inl rfl | exact .inr (.inl rfl) | exact .inr (.inr rfl))) sim_nil)) (sim_cons sim_int sim_nil))) sim_nil))) sim_nil)) (blkOk_by (own := [("_law_turn", 2)]) (N := ["_law_script", "_law_some", "_law_turn"]) (sc := defScope s_law) (by decide +kernel)) (by decide) (fun _ _ _ _ _ => (simg_name 2 sc_law.nd rfl (by first | exact .inl rfl | exact .inr rfl) (Or.inr rfl))) (fun _ _ _ _ _ => simts_nil) (fun _ _ _ _ _ => (sim_fz (sim_call (ok_law_right T) rfl hgd (hr.mono (by decide)) T.g_law_right T.F_law_right.kp T.b_law_right passE rfl (sim_cons (sim_cell (sim_call (ok_law_begun T) rfl hgd (hr.mono (by decide)) T.g_law_begun T.F_law_begun.kp T.b_law_begun passE rfl (sim_cons (sim_var 0 rfl (by first | exact .inl rfl | exact .inr (.inl rfl) | exact .inr (.inr rfl))) (sim_cons (sim_var 2 rfl (by first | exact .inl rfl | exact .inr (.inl rfl) | exact .inr (.inr rfl))) sim_nil)))) sim_nil)))))) sim_nil))))))
end
end Mi
/-! ## Plain: loops, comprehensions, junk -/
namespace Mi
open PySem PySem.Spec PyProof.Rows L2 Lamp SlX Gd
/-- what a name holds that is not read before it is stored -/
def jk : Option D → Slot
  | none => .no
  | some d => .sh d
@[simp] theorem jk_none : jk none = .no := rfl
@[simp] theorem jk_some (d : D) : jk (some d) = .sh d := rfl
def opn : Slot → Bool
  | .lk _ => false | .lz _ => false | .self _ _ _ => false | _ => true
@[simp] theorem opn_jk (o : Option D) : opn (jk o) = true := by cases o <;> rfl
@[simp] theorem opn_no : opn .no = true := rfl
@[simp] theorem opn_sh (d : D) : opn (.sh d) = true := rfl
@[simp] theorem opn_ow (d : D) : opn (.ow d) = true := rfl
@[simp] theorem opn_lk (d : D) : opn (.lk d) = false := rfl
@[simp] theorem opn_lz (d : D) : opn (.lz d) = false := rfl
theorem openAt_eq (p : PS) (i : Nat) : openAt p i = (match p.env[i]? with | some s => opn s | none => true) := by
  unfold openAt
  cases p.env[i]? with
  | none => rfl
  | some s => cases s <;> rfl
@[simp] theorem own_jk (o : Option D) : (jk o).owned = false := by cases o <;> rfl
/-- a for by an invariant -/
theorem forL_inv {gm : GM} {b : SM} (I : List D → PS → Prop) (step : ∀ d ds p, I (d :: ds) p → ∃ p1 p2, gm (.sh d) p = some p1 ∧ (b p1 = some (.next p2) ∨ b p1 = some (.cont p2)) ∧ I ds p2) :
    ∀ ds p, I ds p → ∃ p', forL gm b yes ds p = some (.next p') ∧ I [] p'
  | [], p, h => ⟨p, rfl, h⟩
  | d :: ds, p, h => by
    obtain ⟨p1, p2, e1, e2, h2⟩ := step d ds p h
    obtain ⟨p', e3, h3⟩ := forL_inv I step ds p2 h2
    refine ⟨p', ?_, h3⟩
    unfold forL
    rcases e2 with e2 | e2
    · simp only [yes, if_true, e1, e2]; exact e3
    · simp only [yes, if_true, e1, e2]; exact e3
/-- .. that may end early -/
theorem forL_inv' {gm : GM} {b : SM} (I : List D → PS → Prop) (F : SR → Prop) (step : ∀ d ds p, I (d :: ds) p → ∃ p1, gm (.sh d) p = some p1 ∧ ((∃ p2, (b p1 = some (.next p2) ∨ b p1 = some (.cont p2)) ∧ I ds p2) ∨ ∃ r p, b p1 = some (.ret r p) ∧ F (.ret r p))) :
    ∀ ds p, I ds p → (∃ p', forL gm b yes ds p = some (.next p') ∧ I [] p') ∨ ∃ r p', forL gm b yes ds p = some (.ret r p') ∧ F (.ret r p')
  | [], p, h => .inl ⟨p, rfl, h⟩
  | d :: ds, p, h => by
    obtain ⟨p1, e1, h1⟩ := step d ds p h
    rcases h1 with ⟨p2, e2, h2⟩ | ⟨r, p2, e2, h2⟩
    · rcases forL_inv' I F step ds p2 h2 with ⟨p', e3, h3⟩ | ⟨r, p', e3, h3⟩
      · refine .inl ⟨p', ?_, h3⟩
        unfold forL
        rcases e2 with e2 | e2 <;> (simp only [yes, if_true, e1, e2]; exact e3)
      · refine .inr ⟨r, p', ?_, h3⟩
        unfold forL
        rcases e2 with e2 | e2 <;> (simp only [yes, if_true, e1, e2]; exact e3)
    · refine .inr ⟨r, p2, ?_, h2⟩
      unfold forL
      simp only [yes, if_true, e1, e2]
/-- a for as a fold; j: what the names of a turn hold behind it -/
theorem forL_fold {ι α J : Type} {gm : GM} {b : SM} (en : ι → D) (P : α → J → PS) (f : α → ι → α) (ok : α → List ι → Prop)
    (step : ∀ a i r j, ok a (i :: r) → ∃ p1 j', gm (.sh (en i)) (P a j) = some p1 ∧ b p1 = some (.next (P (f a i) j')) ∧ ok (f a i) r) :
    ∀ l a j, ok a l → ∃ j', forL gm b yes (l.map en) (P a j) = some (.next (P (l.foldl f a) j')) ∧ ok (l.foldl f a) []
  | [], a, j, h => ⟨j, rfl, h⟩
  | i :: r, a, j, h => by
    obtain ⟨p1, j1, e1, e2, h2⟩ := step a i r j h
    obtain ⟨j', e3, h3⟩ := forL_fold en P f ok step r (f a i) j1 h2
    refine ⟨j', ?_, h3⟩
    rw [List.map_cons]
    unfold forL
    simp only [yes, if_true, e1, e2]
    exact e3
/-- a comprehension whose turns change nothing -/
theorem lcL_map {ι : Type} {gm : GM} {mt me : EM} {vs : List Nat} {p : PS} (en : ι → D) (f : ι → Option D) : ∀ (l : List ι) (acc : List D), (∀ i ∈ l, lcTurn gm mt me vs (en i) p = some (f i, p)) → acc.length + l.length ≤ sizeLine →
    lcL gm mt me vs (l.map en) acc p = some (acc ++ l.filterMap f, p)
  | [], acc, _, _ => by simp [lcL]
  | i :: r, acc, h, hl => by
    have e := h i List.mem_cons_self
    rw [List.map_cons]
    unfold lcL
    rw [e]
    cases c : f i with
    | none =>
      simp only
      rw [lcL_map en f r acc (fun k hk => h k (List.mem_cons_of_mem _ hk)) (by simp at hl; omega), List.filterMap_cons, c]
    | some d =>
      simp only
      rw [if_pos (by simp at hl; omega), lcL_map en f r (acc ++ [d]) (fun k hk => h k (List.mem_cons_of_mem _ hk)) (by simp at hl ⊢; omega), List.filterMap_cons, c]
      simp
/-- .. all of them kept -/
theorem lcL_all {ι : Type} {gm : GM} {mt me : EM} {vs : List Nat} {p : PS} (en : ι → D) (f : ι → D) (l : List ι) (h : ∀ i ∈ l, lcTurn gm mt me vs (en i) p = some (some (f i), p)) (hl : l.length ≤ sizeLine) :
    lcL gm mt me vs (l.map en) [] p = some (l.map f, p) := by
  rw [lcL_map en (fun i => some (f i)) l [] h (by simpa using hl)]
  simp
/-- .. by an invariant -/
theorem lcL_inv {gm : GM} {mt me : EM} {vs : List Nat} (I : List D → List D → PS → Prop) (step : ∀ d ds acc p, I (d :: ds) acc p → ∃ o p', lcTurn gm mt me vs d p = some (o, p') ∧ (∀ y, o = some y → acc.length < sizeLine ∧ I ds (acc ++ [y]) p') ∧ (o = none → I ds acc p')) :
    ∀ ds acc p, I ds acc p → ∃ acc' p', lcL gm mt me vs ds acc p = some (acc', p') ∧ I [] acc' p'
  | [], acc, p, h => ⟨acc, p, rfl, h⟩
  | d :: ds, acc, p, h => by
    obtain ⟨o, p1, e, k1, k2⟩ := step d ds acc p h
    cases o with
    | none =>
      obtain ⟨acc', p', e2, h2⟩ := lcL_inv I step ds acc p1 (k2 rfl)
      refine ⟨acc', p', ?_, h2⟩
      unfold lcL
      rw [e]
      exact e2
    | some y =>
      obtain ⟨hl, h1⟩ := k1 y rfl
      obtain ⟨acc', p', e2, h2⟩ := lcL_inv I step ds (acc ++ [y]) p1 h1
      refine ⟨acc', p', ?_, h2⟩
      unfold lcL
      rw [e]
      simp only [if_pos hl]
      exact e2
theorem rng1_ok {j : Int} (h0 : -4611686018427387904 ≤ j) (h1 : j < 4611686018427387904) : rng1 [.int j] = some (rangeL 0 j) := by
  have z : (2 : Int) ^ 62 = 4611686018427387904 := by decide
  unfold rng1
  simp only [z]
  rw [if_pos ⟨h0, h1⟩]
theorem rng2_ok {i j : Int} (h0 : -4611686018427387904 ≤ i) (h1 : i < 4611686018427387904) (h2 : -4611686018427387904 ≤ j) (h3 : j < 4611686018427387904) : rng2 [.int i, .int j] = some (rangeL i j) := by
  have z : (2 : Int) ^ 62 = 4611686018427387904 := by decide
  unfold rng2
  simp only [z]
  rw [if_pos ⟨h0, h1, h2, h3⟩]
theorem rangeL_map (n : Nat) : rangeL 0 (n : Int) = (List.range n).map fun (i : Nat) => D.int i := by
  unfold rangeL
  simp
/-! by what the parts give: the kernel must not reckon ranges -/
theorem sSeq_next {a b : SM} {p p' : PS} (h : a p = some (.next p')) : sSeq a b p = b p' := by
  unfold sSeq
  rw [h]
theorem sSeq_ret {a b : SM} {p p' : PS} {r : RV} (h : a p = some (.ret r p')) : sSeq a b p = some (.ret r p') := by
  unfold sSeq
  rw [h]
theorem sSeq_exc {a b : SM} {p : PS} {x : Ex} {st : List D} (h : a p = some (.exc x st)) : sSeq a b p = some (.exc x st) := by
  unfold sSeq
  rw [h]
theorem sSeq_cont {a b : SM} {p p' : PS} (h : a p = some (.cont p')) : sSeq a b p = some (.cont p') := by
  unfold sSeq
  rw [h]
theorem srcA_at {f : List D → Option (List D)} {ms : List EM} {p p' : PS} {rs : List RV} {ds es : List D} (h : args ms p = some (.vals rs p')) (h2 : shs rs = some ds) (h3 : f ds = some es) : srcA f ms p = some (.items es p') := by
  unfold srcA
  rw [h]
  simp only [h2, h3]
theorem srcE_at {f : D → Option (List D)} {m : EM} {p p' : PS} {d : D} {es : List D} (h : m p = some (.val (.sh d) p')) (h3 : f d = some es) : srcE f m p = some (.items es p') := by
  unfold srcE
  rw [h]
  simp only [h3]
theorem sFor_at {m : IM} {gm : GM} {b : SM} {p p' : PS} {ds : List D} (h : m p = some (.items ds p')) : sFor m gm b p = forL gm b yes ds p' := by
  unfold sFor
  rw [h]
theorem mLc_at {m : IM} {gm : GM} {mt me : EM} {vs : List Nat} {p p1 p2 : PS} {ds acc : List D} (h : m p = some (.items ds p1)) (h2 : ownOk p1.env vs = true) (h3 : lcL gm mt me vs ds [] { p1 with env := wipeE p1.env vs } = some (acc, p2)) (h4 : p2.env.length ≤ p1.env.length) :
    mLc m gm mt me vs p = some (.val (.fr (.lst acc)) { p2 with env := restE p1.env p2.env vs }) := by
  unfold mLc
  rw [h]
  simp only [h2, if_true, h3, h4]
theorem dTuple_lst (ds : List D) : dTuple [.lst ds] = some (.sh (.tup ds)) := rfl
theorem dInt_i (i : Int) : dInt [.int i] = some (.sh (.int i)) := rfl
theorem dInt_b (k : Bool) : dInt [.bl k] = some (.sh (.int (if k then 1 else 0))) := rfl
theorem dTuple_tup (ds : List D) : dTuple [.tup ds] = some (.sh (.tup ds)) := rfl
theorem atI_nat {α : Type} (l : List α) (n : Nat) : atI l (n : Int) = l[n]? := by
  unfold atI ixN
  by_cases h : (n : Int) < l.length
  · have h' : n < l.length := by omega
    simp [h']
  · have h' : ¬ n < l.length := by omega
    simp [h', List.getElem?_eq_none (Nat.le_of_not_lt h')]
@[simp] theorem atI_3 {α : Type} (l : List α) : atI l 3 = l[3]? := atI_nat l 3
@[simp] theorem atI_4 {α : Type} (l : List α) : atI l 4 = l[4]? := atI_nat l 4
@[simp] theorem atI_5 {α : Type} (l : List α) : atI l 5 = l[5]? := atI_nat l 5
theorem sz_le {n : Nat} (h : n ≤ 1000000) : n ≤ sizeLine := Nat.le_of_lt (small1M h)
theorem sz_lt {n : Nat} (h : n ≤ 1000000) : n < sizeLine := small1M h
@[simp] theorem eqI {i j : Int} : eqP false (.int i) (.int j) = some (.sh (.bl (decide (i = j)))) := by
  show some (RV.sh (D.bl (PyData.eqv (.int i) (.int j)))) = _
  first
    | (congr 3; done)
    | (by_cases h : i = j <;> simp [h, PyData.eqv])
@[simp] theorem neI {i j : Int} : eqP true (.int i) (.int j) = some (.sh (.bl (!decide (i = j)))) := by
  show some (RV.sh (D.bl (!PyData.eqv (.int i) (.int j)))) = _
  by_cases h : i = j <;> simp [h, PyData.eqv]
@[simp] theorem eqS {a b : Str} : eqP false (.str a) (.str b) = some (.sh (.bl (decide (a = b)))) := by
  rfl
@[simp] theorem neS {a b : Str} : eqP true (.str a) (.str b) = some (.sh (.bl (!decide (a = b)))) := by
  rfl
@[simp] theorem eqB {a b : Bool} : eqP false (.bl a) (.bl b) = some (.sh (.bl (decide (a = b)))) := by
  show some (RV.sh (D.bl (PyData.eqv (.bool a) (.bool b)))) = _
  cases a <;> cases b <;> rfl
@[simp] theorem neB {a b : Bool} : eqP true (.bl a) (.bl b) = some (.sh (.bl (!decide (a = b)))) := by
  show some (RV.sh (D.bl (!PyData.eqv (.bool a) (.bool b)))) = _
  cases a <;> cases b <;> rfl
@[simp] theorem ofString_eq (a b : String) : Str.ofString a = Str.ofString b ↔ a = b := by
  constructor
  · intro h
    have e : TL.tl (Str.ofString a) = TL.tl (Str.ofString b) := by rw [h]
    rw [TL.tl_ofString, TL.tl_ofString] at e
    have inj : ∀ (l m : List Char), l.map Char.toNat = m.map Char.toNat → l = m := by
      intro l
      induction l with
      | nil => intro m h; cases m with
        | nil => rfl
        | cons c m => simp at h
      | cons c l ih => intro m h; cases m with
        | nil => simp at h
        | cons d m =>
          simp at h
          rw [ih m h.2, Char.toNat_inj.mp h.1]
    exact String.toList_inj.mp (inj _ _ e)
  · rintro rfl
    rfl
theorem setD_lst (ds : List D) (k : Int) (d : D) : setD (.lst ds) (.int k) d = (ixN ds.length k).map fun j => .lst (ds.set j d) := rfl
theorem dLen_lst (ds : List D) : Mi.dLen [.lst ds] = some (.sh (.int ds.length)) := rfl
theorem dLen_tup (ds : List D) : Mi.dLen [.tup ds] = some (.sh (.int ds.length)) := rfl
theorem dLen_scr (ds : List Int) : Mi.dLen [.scr ds] = some (.sh (.int ds.length)) := rfl
theorem dLen_str {s : Str} (h : s.length ≤ sizeLine) : Mi.dLen [.str s] = some (.sh (.int s.length)) := if_pos h
@[simp] theorem deref_cel (p : PS) (n : Nat) : deref p (.cel n) = p.st[n]? := rfl
@[simp] theorem deref_non (p : PS) : deref p .non = some .non := rfl
@[simp] theorem deref_int (p : PS) (i : Int) : deref p (.int i) = some (.int i) := rfl
@[simp] theorem deref_bl (p : PS) (i : Bool) : deref p (.bl i) = some (.bl i) := rfl
@[simp] theorem deref_str (p : PS) (i : Str) : deref p (.str i) = some (.str i) := rfl
@[simp] theorem deref_tup (p : PS) (i : List D) : deref p (.tup i) = some (.tup i) := rfl
@[simp] theorem deref_lst (p : PS) (i : List D) : deref p (.lst i) = some (.lst i) := rfl
@[simp] theorem deref_dic (p : PS) (i : List (D × D)) : deref p (.dic i) = some (.dic i) := rfl
@[simp] theorem deref_obj (p : PS) (c : Nat) (i : List D) : deref p (.obj c i) = some (.obj c i) := rfl
@[simp] theorem deref_scr (p : PS) (i : List Int) : deref p (.scr i) = some (.scr i) := rfl
@[simp] theorem deref_pr (p : PS) (i : List D) : deref p (.pr i) = some (.pr i) := rfl
theorem dSortedA_lst (ds : List D) : dSortedA [.lst ds] = dSorted [.lst ds] := by
  unfold dSortedA
  split
  · rename_i h
    cases h
  · rfl
@[simp] theorem shs_comp {ι : Type} (f : ι → D) (l : List ι) : shs (l.map (RV.sh ∘ f)) = some (l.map f) := by
  induction l with
  | nil => rfl
  | cons a l ih =>
    rw [List.map_cons]
    show (match shs (l.map (RV.sh ∘ f)) with | some ds => some (f a :: ds) | none => none) = _
    rw [ih]
    rfl
@[simp] theorem shs_map (l : List D) : shs (l.map RV.sh) = some l := by
  have := shs_comp (id : D → D) l
  simpa using this
@[simp] theorem shs_app (a b : List RV) : shs (a ++ b) = (shs a).bind fun x => (shs b).map fun y => x ++ y := by
  induction a with
  | nil =>
    show shs b = (some []).bind fun x => (shs b).map fun y => x ++ y
    cases shs b <;> rfl
  | cons r a ih =>
    cases r with
    | sh d =>
      show (match shs (a ++ b) with | some ds => some (d :: ds) | none => none) = ((match shs a with | some ds => some (d :: ds) | none => none) : Option (List D)).bind _
      rw [ih]
      cases shs a with
      | none => rfl
      | some x => cases shs b <;> rfl
    | fr d => rfl
    | pl i => rfl
theorem mul_ok {i j : Int} (hi : Fin1 i) (hj : Fin1 j) : mulOk i j = true := by
  unfold mulOk
  rw [Bool.and_eq_true]
  exact ⟨decide_eq_true hi.bits, decide_eq_true hj.bits⟩
theorem log256 : Nat.log2 256 < 9000 := by decide +kernel
theorem atI_at {α : Type} {l : List α} {x : Int} (h0 : 0 ≤ x) (h1 : x < l.length) : ∃ y, atI l x = some y ∧ y ∈ l := by
  have hx : x.toNat < l.length := by omega
  refine ⟨l[x.toNat], ?_, List.getElem_mem hx⟩
  unfold atI ixN
  rw [if_pos h0, if_pos (by omega)]
  show l[x.toNat]? = _
  rw [List.getElem?_eq_getElem hx]
theorem bits_ok {i j : Int} (hi : Builtin.Int.intBits i ≤ 1048576) (hj : Builtin.Int.intBits j ≤ 1048576) : mulOk i j = true := by
  unfold mulOk
  rw [Bool.and_eq_true]
  exact ⟨decide_eq_true (by omega), decide_eq_true (by omega)⟩
theorem fin_bits {i : Int} (h : Fin1 i) : Builtin.Int.intBits i ≤ 1048576 := by
  have h1 := h.log
  unfold Builtin.Int.intBits
  split <;> omega
end Mi

/-! ## Plain: the pail -/
namespace Mi
open PySem PySem.Spec PyProof.Rows L2 Lamp SlX Gd
def nextS (b c : Int) : Int := (b * (36809 + 2 * (c + 1)) + 5303 * (c + 1) + 7).fmod 2147483629
def nextB (b c : Int) : Int := (nextS b c * 45413 + 3 * (c + 1) + 1).fmod 2147483587
theorem nextB_le (b c : Int) : 0 ≤ nextB b c ∧ nextB b c < 2147483629 :=
  ⟨Int.fmod_nonneg_of_pos _ (by decide), Int.lt_trans (Int.fmod_lt_of_pos _ (by decide)) (by decide)⟩
theorem cast_small {b c n : Int} {st : List D} {i : Nat} (h : st[i]? = some (.lst [.int 0, .int b, .int c])) (hn : 0 < n) (hb : 0 ≤ b) (hb2 : b < 2147483629) (hc : 0 ≤ c) (hc2 : c < 10 ^ 9) :
    fn_law_cast [.cel i, .int n] st = some (.ret (.sh (.int (((nextB b c).fdiv 256).fmod n))) (st.set i (.lst [.int 0, .int (nextB b c), .int (c + 1)]))) := by
  have m1 : mulOk 2 (c + 1) = true := mul_ok (by unfold Fin1; omega) (by unfold Fin1; omega)
  have m2 : mulOk b (36809 + 2 * (c + 1)) = true := mul_ok (by unfold Fin1; omega) (by unfold Fin1; omega)
  have m3 : mulOk 5303 (c + 1) = true := mul_ok (by unfold Fin1; omega) (by unfold Fin1; omega)
  have e1 : (b * (36809 + 2 * (c + 1)) + 5303 * (c + 1) + 7).fmod 2147483629 = nextS b c := rfl
  have s0 : 0 ≤ nextS b c := Int.fmod_nonneg_of_pos _ (by decide)
  have s1 : nextS b c < 2147483629 := Int.fmod_lt_of_pos _ (by decide)
  have m4 : mulOk (nextS b c) 45413 = true := mul_ok (by unfold Fin1; omega) (by unfold Fin1; omega)
  have m5 : mulOk 3 (c + 1) = true := mul_ok (by unfold Fin1; omega) (by unfold Fin1; omega)
  have e2 : (nextS b c * 45413 + 3 * (c + 1) + 1).fmod 2147483587 = nextB b c := rfl
  have hi : i < st.length := (List.getElem?_eq_some_iff.mp h).1
  have hs : ∀ d : D, (st.set i d)[i]? = some d := fun d => List.getElem?_set_self hi
  have n0 : ¬ n = 0 := by omega
  simp [fn_law_cast, m_law_cast, h, m1, m2, m3, e1, m4, m5, e2, n0, hs, log256, sSeq, sForC, srcC, mLcC, mMutC, sFor, srcA, srcE, mLc, seqOf, ownOk, wipeE, restE, Slot.owned, dTuple_lst, dTuple_tup, mDic0, sIf, sAsg, sRet, sRetN, sExpr, sNil, bindE, bindS, eBor, eC, eVar, fz, know, mOp, mUn, op2, op1, get, get0, Slot.rd, ret, asB, mPrim, bindA, args, opN, gets, gNm, gTp, gAll, gSubM, setAt, openAt_eq, enter, leave, runFn, mCall, callF, shs, backF, dIx, ixS, cGt, cGe, cLtI, cLe, Mi.b2, dAdd, addS, addL, addT, dMulI, dSub, Mi.i2, dMod, dDiv, sz_le, sz_lt, setD_lst, dInt_i, dInt_b, ixN, mIf, mAnd, mOr, mNot, mTru, tru, isiT, tyD, inK, eqF, D.scal, dLen_lst, dLen_tup, dLen_scr, dLen_str, dNeg, isP, isNon, mChain, mTup, mLst, mProp, mMth, noX, mCallK, permL, mCell, sSelfC, sSelf, sPar, sAug, dAbs, mMut, tyName, mMeth, mMethS, opMS, isTy, opM, uApp, uExt, mSl, mPart, asPart, isFr, dMax, dMin, dMinA, srcA, enumA, enum1, enumAS, enumS]
theorem cast_big {a b c n : Int} {st : List D} {i : Nat} (h : st[i]? = some (.lst [.int a, .int b, .int c])) (ha : 0 < a) (hn : 0 < n) (hn2 : n < 1073741824) :
    fn_law_cast [.cel i, .int n] st = some (.ret (.sh (.int (a % n))) (st.set i (.lst [.int (a / n), .int b, .int c]))) := by
  have hi : i < st.length := (List.getElem?_eq_some_iff.mp h).1
  have hs : ∀ d : D, (st.set i d)[i]? = some d := fun d => List.getElem?_set_self hi
  simp [fn_law_cast, m_law_cast, h, ha, hn, hn2, hs, dDivmod, sSeq, sForC, srcC, mLcC, mMutC, sFor, srcA, srcE, mLc, seqOf, ownOk, wipeE, restE, Slot.owned, dTuple_lst, dTuple_tup, mDic0, sIf, sAsg, sRet, sRetN, sExpr, sNil, bindE, bindS, eBor, eC, eVar, fz, know, mOp, mUn, op2, op1, get, get0, Slot.rd, ret, asB, mPrim, bindA, args, opN, gets, gNm, gTp, gAll, gSubM, setAt, openAt_eq, enter, leave, runFn, mCall, callF, shs, backF, dIx, ixS, cGt, cGe, cLtI, cLe, Mi.b2, dAdd, addS, addL, addT, dMulI, dSub, Mi.i2, dMod, dDiv, sz_le, sz_lt, setD_lst, dInt_i, dInt_b, ixN, mIf, mAnd, mOr, mNot, mTru, tru, isiT, tyD, inK, eqF, D.scal, dLen_lst, dLen_tup, dLen_scr, dLen_str, dNeg, isP, isNon, mChain, mTup, mLst, mProp, mMth, noX, mCallK, permL, mCell, sSelfC, sSelf, sPar, sAug, dAbs, mMut, tyName, mMeth, mMethS, opMS, isTy, opM, uApp, uExt, mSl, mPart, asPart, isFr, dMax, dMin, dMinA, srcA, enumA, enum1, enumAS, enumS]
end Mi

/-! ## Plain: what is drawn -/
namespace Mi
open PySem PySem.Spec PyProof.Rows L2 Lamp SlX Gd
/-- a pail from which k figures may still be drawn -/
def Pail (k : Nat) (d : D) : Prop := ∃ a b c, d = .lst [.int a, .int b, .int c] ∧ 0 ≤ a ∧ 0 ≤ b ∧ b < 2147483629 ∧ 0 ≤ c ∧ c + (k : Int) < 10 ^ 9
theorem Pail.le {j k : Nat} {d : D} (h : Pail k d) (l : j ≤ k) : Pail j d := by
  obtain ⟨a, b, c, e, h1, h2, h3, h4, h5⟩ := h
  exact ⟨a, b, c, e, h1, h2, h3, h4, by omega⟩
/-- a call that draws: the pail at i is another one behind it -/
def Ran (i k : Nat) (st : List D) (f : Option FR) (P : D → Prop) : Prop := ∃ v d, f = some (.ret (.sh v) (st.set i d)) ∧ P v ∧ Pail k d
theorem cast_run {k i : Nat} {st : List D} {d : D} {n : Int} (h : st[i]? = some d) (p : Pail (k + 1) d) (hn : 0 < n) (hn2 : n < 1073741824) : Ran i k st (fn_law_cast [.cel i, .int n] st) fun v => ∃ x, v = .int x ∧ 0 ≤ x ∧ x < n := by
  obtain ⟨a, b, c, rfl, h1, h2, h3, h4, h5⟩ := p
  by_cases ha : a = 0
  · subst ha
    have q := nextB_le b c
    exact ⟨_, _, cast_small h hn h2 h3 h4 (by omega), ⟨_, rfl, Int.fmod_nonneg_of_pos _ hn, Int.fmod_lt_of_pos _ hn⟩, 0, _, _, rfl, by omega, q.1, q.2, by omega, by omega⟩
  · exact ⟨_, _, cast_big h (by omega) hn hn2, ⟨_, rfl, Int.emod_nonneg _ (by omega), Int.emod_lt_of_pos _ hn⟩, _, _, _, rfl, Int.ediv_nonneg h1 (by omega), h2, h3, h4, by omega⟩
theorem any_run {k i : Nat} {st : List D} {d s : D} {ds : List D} (h : st[i]? = some d) (p : Pail (k + 1) d) (hs : s = .lst ds ∨ s = .tup ds) (hne : ds ≠ []) (hl : ds.length < 1000000) : Ran i k st (fn_law_any_of [.cel i, s] st) fun v => v ∈ ds := by
  have hpos : 0 < ds.length := List.length_pos_iff.mpr hne
  obtain ⟨v, d', e, ⟨x, rfl, h0, h1⟩, p'⟩ := cast_run (n := (ds.length : Int)) h p (by omega) (by omega)
  obtain ⟨y, e2, my⟩ := atI_at h0 h1
  refine ⟨y, d', ?_, my, p'⟩
  rcases hs with rfl | rfl
  · simp [fn_law_any_of, m_law_any_of, e, e2, sSeq, sForC, srcC, mLcC, mMutC, sFor, srcA, srcE, mLc, seqOf, ownOk, wipeE, restE, Slot.owned, dTuple_lst, dTuple_tup, mDic0, sIf, sAsg, sRet, sRetN, sExpr, sNil, bindE, bindS, eBor, eC, eVar, fz, know, mOp, mUn, op2, op1, get, get0, Slot.rd, ret, asB, mPrim, bindA, args, opN, gets, gNm, gTp, gAll, gSubM, setAt, openAt_eq, enter, leave, runFn, mCall, callF, shs, backF, dIx, ixS, cGt, cGe, cLtI, cLe, Mi.b2, dAdd, addS, addL, addT, dMulI, dSub, Mi.i2, dMod, dDiv, sz_le, sz_lt, setD_lst, dInt_i, dInt_b, ixN, mIf, mAnd, mOr, mNot, mTru, tru, isiT, tyD, inK, eqF, D.scal, dLen_lst, dLen_tup, dLen_scr, dLen_str, dNeg, isP, isNon, mChain, mTup, mLst, mProp, mMth, noX, mCallK, permL, mCell, sSelfC, sSelf, sPar, sAug, dAbs, mMut, tyName, mMeth, mMethS, opMS, isTy, opM, uApp, uExt, mSl, mPart, asPart, isFr, dMax, dMin, dMinA, srcA, enumA, enum1, enumAS, enumS]
  · simp [fn_law_any_of, m_law_any_of, e, e2, sSeq, sForC, srcC, mLcC, mMutC, sFor, srcA, srcE, mLc, seqOf, ownOk, wipeE, restE, Slot.owned, dTuple_lst, dTuple_tup, mDic0, sIf, sAsg, sRet, sRetN, sExpr, sNil, bindE, bindS, eBor, eC, eVar, fz, know, mOp, mUn, op2, op1, get, get0, Slot.rd, ret, asB, mPrim, bindA, args, opN, gets, gNm, gTp, gAll, gSubM, setAt, openAt_eq, enter, leave, runFn, mCall, callF, shs, backF, dIx, ixS, cGt, cGe, cLtI, cLe, Mi.b2, dAdd, addS, addL, addT, dMulI, dSub, Mi.i2, dMod, dDiv, sz_le, sz_lt, setD_lst, dInt_i, dInt_b, ixN, mIf, mAnd, mOr, mNot, mTru, tru, isiT, tyD, inK, eqF, D.scal, dLen_lst, dLen_tup, dLen_scr, dLen_str, dNeg, isP, isNon, mChain, mTup, mLst, mProp, mMth, noX, mCallK, permL, mCell, sSelfC, sSelf, sPar, sAug, dAbs, mMut, tyName, mMeth, mMethS, opMS, isTy, opM, uApp, uExt, mSl, mPart, asPart, isFr, dMax, dMin, dMinA, srcA, enumA, enum1, enumAS, enumS]
end Mi

/-! ## Plain: draws, one behind another -/
namespace Mi
open PySem PySem.Spec PyProof.Rows L2 Lamp SlX Gd TL
/-- a further call that draws -/
theorem cast_next {k i : Nat} {st : List D} {d : D} {n : Int} (hi : i < st.length) (p : Pail (k + 1) d) (hn : 0 < n) (hn2 : n < 1073741824) : ∃ x d', fn_law_cast [.cel i, .int n] (st.set i d) = some (.ret (.sh (.int x)) (st.set i d')) ∧ 0 ≤ x ∧ x < n ∧ Pail k d' := by
  obtain ⟨v, d', e, ⟨x, rfl, h0, h1⟩, p'⟩ := cast_run (st := st.set i d) (List.getElem?_set_self hi) p hn hn2
  rw [List.set_set] at e
  exact ⟨x, d', e, h0, h1, p'⟩
theorem any_next {k i : Nat} {st : List D} {d : D} {ds : List D} (hi : i < st.length) (p : Pail (k + 1) d) (hne : ds ≠ []) (hl : ds.length < 1000000) : ∃ v d', fn_law_any_of [.cel i, .lst ds] (st.set i d) = some (.ret (.sh v) (st.set i d')) ∧ v ∈ ds ∧ Pail k d' := by
  obtain ⟨v, d', e, m, p'⟩ := any_run (st := st.set i d) (List.getElem?_set_self hi) p (.inl rfl) hne hl
  rw [List.set_set] at e
  exact ⟨v, d', e, m, p'⟩
theorem anyT_next {k i : Nat} {st : List D} {d : D} {ds : List D} (hi : i < st.length) (p : Pail (k + 1) d) (hne : ds ≠ []) (hl : ds.length < 1000000) : ∃ v d', fn_law_any_of [.cel i, .tup ds] (st.set i d) = some (.ret (.sh v) (st.set i d')) ∧ v ∈ ds ∧ Pail k d' := by
  obtain ⟨v, d', e, m, p'⟩ := any_run (st := st.set i d) (List.getElem?_set_self hi) p (.inr rfl) hne hl
  rw [List.set_set] at e
  exact ⟨v, d', e, m, p'⟩
end Mi

/-! ## Plain: values of any kind -/
namespace Mi
open PySem PySem.Spec PyProof.Rows L2 Lamp SlX Gd TL
theorem strOk_of (s : String) : PyData.strOk (Str.ofString s) = true := by
  rw [Str.ofString_eq_toList]
  unfold PyData.strOk
  rw [Array.all_eq_true]
  intro i hi
  simp only [List.getElem_toArray, List.getElem_map, decide_eq_true_eq]
  have hv := (s.toList[i]'(by simpa using hi)).valid
  rcases hv with h | h
  · exact Nat.lt_trans h (by decide)
  · exact h.2
/-- x is told by repr as z -/
def Told (x : D) : Prop := ∃ z, dReprA [x] = some (.sh (.str z)) ∧ PyData.strOk z = true
theorem told_int {i : Int} (h : i.natAbs.log2 < 1920) : Told (.int i) := ⟨_, if_pos h, strOk_of _⟩
theorem told_str {s : Str} (h : (reprText s).length ≤ sizeLine) (k : PyData.strOk (reprText s) = true) : Told (.str s) := ⟨_, if_pos h, k⟩
theorem told_non : Told .non := ⟨_, rfl, strOk_of _⟩
theorem told_bl (b : Bool) : Told (.bl b) := ⟨_, rfl, by cases b <;> exact strOk_of _⟩
theorem told_tup {ds : List D} {q : PyData} (e : toPy (.tup ds) = some q) (r : reprOk q = true) (k : PyData.strOk q.shown = true) : Told (.tup ds) := ⟨q.shown, by
  show dRepr [.tup ds] = _
  unfold dRepr
  simp only [e]
  rw [if_pos r], k⟩
theorem told_lst {ds : List D} {q : PyData} (e : toPy (.lst ds) = some q) (r : reprOk q = true) (k : PyData.strOk q.shown = true) : Told (.lst ds) := ⟨q.shown, by
  show dRepr [.lst ds] = _
  unfold dRepr
  simp only [e]
  rw [if_pos r], k⟩
theorem told_dic {kvs : List (D × D)} {q : List (PyData × PyData)} (e : pyKs kvs = some q) (r : ((PyData.dict q).showable && decide ((PyData.dict q).depth ≤ 40) && decide ((PyData.dict q).shown.length ≤ sizeLine)) = true) (k : PyData.strOk (PyData.dict q).shown = true) : Told (.dic kvs) := ⟨(PyData.dict q).shown, by
  show dReprD kvs = _
  unfold dReprD
  simp only [e]
  rw [if_pos r], k⟩
/-- no round, and told by repr -/
structure Thing (x : D) : Prop where
  no : isiC 1 0 x = some (.sh (.bl false))
  told : Told x
def menu : List D := [.non, .bl true, .bl false, .int 0, .int 1, .int (-1), .int 2, .int 4, .int (-1000000000000000000000000000000000000000), .str "", .str "a", .str "levels 2 end 0 dark", .tup [], .tup [.int 0], .tup [.int 0, .int 1], .str "A",
  .lst [], .lst [.int 1], .dic [], .dic [(.str "a", .int 1)], .tup [.tup [.int 0, .int 1]], .tup [.tup [.int 1, .int 1], .tup [.int 0, .int 1]], .tup [.str "step", .int 1], .tup [.non], .str "abcdefghi", .str "+>", .int 11]
theorem menu_ok : ∀ x ∈ menu, Thing x := by
  intro x m
  unfold menu at m
  simp only [List.mem_cons, List.not_mem_nil, or_false] at m
  rcases m with rfl | rfl | rfl | rfl | rfl | rfl | rfl | rfl | rfl | rfl | rfl | rfl | rfl | rfl | rfl | rfl | rfl | rfl | rfl | rfl | rfl | rfl | rfl | rfl | rfl | rfl | rfl
  · exact ⟨rfl, told_non⟩
  · exact ⟨rfl, told_bl _⟩
  · exact ⟨rfl, told_bl _⟩
  · exact ⟨rfl, told_int (by decide +kernel)⟩
  · exact ⟨rfl, told_int (by decide +kernel)⟩
  · exact ⟨rfl, told_int (by decide +kernel)⟩
  · exact ⟨rfl, told_int (by decide +kernel)⟩
  · exact ⟨rfl, told_int (by decide +kernel)⟩
  · exact ⟨rfl, told_int (by decide +kernel)⟩
  · exact ⟨rfl, told_str (by decide +kernel) (by decide +kernel)⟩
  · exact ⟨rfl, told_str (by decide +kernel) (by decide +kernel)⟩
  · exact ⟨rfl, told_str (by decide +kernel) (by decide +kernel)⟩
  · exact ⟨rfl, told_tup (q := .tuple []) rfl (by decide +kernel) (by decide +kernel)⟩
  · exact ⟨rfl, told_tup (q := .tuple [.int 0]) rfl (by decide +kernel) (by decide +kernel)⟩
  · exact ⟨rfl, told_tup (q := .tuple [.int 0, .int 1]) rfl (by decide +kernel) (by decide +kernel)⟩
  · exact ⟨rfl, told_str (by decide +kernel) (by decide +kernel)⟩
  · exact ⟨rfl, told_lst (q := .list []) rfl (by decide +kernel) (by decide +kernel)⟩
  · exact ⟨rfl, told_lst (q := .list [.int 1]) rfl (by decide +kernel) (by decide +kernel)⟩
  · exact ⟨rfl, told_dic (q := []) rfl (by decide +kernel) (by decide +kernel)⟩
  · exact ⟨rfl, told_dic (q := [(.str "a", .int 1)]) rfl (by decide +kernel) (by decide +kernel)⟩
  · exact ⟨rfl, told_tup (q := .tuple [.tuple [.int 0, .int 1]]) rfl (by decide +kernel) (by decide +kernel)⟩
  · exact ⟨rfl, told_tup (q := .tuple [.tuple [.int 1, .int 1], .tuple [.int 0, .int 1]]) rfl (by decide +kernel) (by decide +kernel)⟩
  · exact ⟨rfl, told_tup (q := .tuple [.str "step", .int 1]) rfl (by decide +kernel) (by decide +kernel)⟩
  · exact ⟨rfl, told_tup (q := .tuple [.none]) rfl (by decide +kernel) (by decide +kernel)⟩
  · exact ⟨rfl, told_str (by decide +kernel) (by decide +kernel)⟩
  · exact ⟨rfl, told_str (by decide +kernel) (by decide +kernel)⟩
  · exact ⟨rfl, told_int (by decide +kernel)⟩
theorem thing_next {k i : Nat} {st : List D} {d : D} (hi : i < st.length) (pl : Pail (k + 1) d) : ∃ x d', fn_law_thing [.cel i] (st.set i d) = some (.ret (.sh x) (st.set i d')) ∧ x ∈ menu ∧ Pail k d' := by
  obtain ⟨v, d1, e1, m1, p1⟩ := any_next (k := k) (ds := menu) hi pl (by simp [menu]) (by simp [menu])
  have pw : dPow (.int 10) (.int 39) = some (.sh (.int 1000000000000000000000000000000000000000)) := rfl
  have mp : mDisp [((eC (.str "a")), (eC (.int 1)))] = fun p => some (.val (.fr (.dic [(.str "a", .int 1)])) p) := by
    funext p
    simp [mDisp, dispD, flatP, asKey, mergeD, putD, dropD, lookD, sSeq, sForC, srcC, mLcC, mMutC, sFor, srcA, srcE, mLc, seqOf, ownOk, wipeE, restE, Slot.owned, dTuple_lst, dTuple_tup, mDic0, sIf, sAsg, sRet, sRetN, sExpr, sNil, bindE, bindS, eBor, eC, eVar, fz, know, mOp, mUn, op2, op1, get, get0, Slot.rd, ret, asB, mPrim, bindA, args, opN, gets, gNm, gTp, gAll, gSubM, setAt, openAt_eq, enter, leave, runFn, mCall, callF, shs, backF, dIx, ixS, cGt, cGe, cLtI, cLe, Mi.b2, dAdd, addS, addL, addT, dMulI, dSub, Mi.i2, dMod, dDiv, sz_le, sz_lt, setD_lst, dInt_i, dInt_b, ixN, mIf, mAnd, mOr, mNot, mTru, tru, isiT, tyD, inK, eqF, D.scal, dLen_lst, dLen_tup, dLen_scr, dLen_str, dNeg, isP, isNon, mChain, mTup, mLst, mProp, mMth, noX, mCallK, permL, mCell, sSelfC, sSelf, sPar, sAug, dAbs, mMut, tyName, mMeth, mMethS, opMS, isTy, opM, uApp, uExt, mSl, mPart, asPart, isFr, dMax, dMin, dMinA, srcA, enumA, enum1, enumAS, enumS]
  refine ⟨v, d1, ?_, m1, p1⟩
  unfold menu at e1
  simp [fn_law_thing, m_law_thing, pw, mp, addL, e1, sSeq, sForC, srcC, mLcC, mMutC, sFor, srcA, srcE, mLc, seqOf, ownOk, wipeE, restE, Slot.owned, dTuple_lst, dTuple_tup, mDic0, sIf, sAsg, sRet, sRetN, sExpr, sNil, bindE, bindS, eBor, eC, eVar, fz, know, mOp, mUn, op2, op1, get, get0, Slot.rd, ret, asB, mPrim, bindA, args, opN, gets, gNm, gTp, gAll, gSubM, setAt, openAt_eq, enter, leave, runFn, mCall, callF, shs, backF, dIx, ixS, cGt, cGe, cLtI, cLe, Mi.b2, dAdd, addS, addL, addT, dMulI, dSub, Mi.i2, dMod, dDiv, sz_le, sz_lt, setD_lst, dInt_i, dInt_b, ixN, mIf, mAnd, mOr, mNot, mTru, tru, isiT, tyD, inK, eqF, D.scal, dLen_lst, dLen_tup, dLen_scr, dLen_str, dNeg, isP, isNon, mChain, mTup, mLst, mProp, mMth, noX, mCallK, permL, mCell, sSelfC, sSelf, sPar, sAug, dAbs, mMut, tyName, mMeth, mMethS, opMS, isTy, opM, uApp, uExt, mSl, mPart, asPart, isFr, dMax, dMin, dMinA, srcA, enumA, enum1, enumAS, enumS]
end Mi

/-! ## Plain: the source of the draws -/
namespace Mi
open PySem PySem.Spec PyProof.Rows L2 Lamp SlX Gd TL
theorem begun_i {ns : List Int} {t : Int} (hb : ∀ z ∈ ns, Builtin.Int.intBits z ≤ 1048576) (h0 : 0 ≤ t) (h1 : t < 1000) (st : List D) : ∃ d, fn_law_begun [.scr ns, .int t] st = some (.ret (.fr d) st) ∧ Pail 1000000 d := by
  have own : ∃ o : Int, (if t < ns.length then (atI ns t) else some 0) = some o ∧ Builtin.Int.intBits o ≤ 1048576 := by
    by_cases c : t < ns.length
    · obtain ⟨y, e, m⟩ := atI_at h0 c
      exact ⟨y, by rw [if_pos c, e], hb y m⟩
    · exact ⟨0, by rw [if_neg c], fin_bits (by unfold Fin1; omega)⟩
  obtain ⟨o, eo, bo⟩ := own
  have loop := forL_inv (gm := gNm 4) (b := b1_law_begun) (fun ds q => ∃ (x : Int) (s4 : Slot), (∀ d ∈ ds, ∃ z, d = .int z ∧ Builtin.Int.intBits z ≤ 1048576) ∧ opn s4 = true ∧ 0 ≤ x ∧ x < 3000000000 ∧ q = ⟨[.sh (.scr ns), .sh (.int t), .sh (.int o), .sh (.int x), s4], st⟩) (by
      rintro d ds q ⟨x, s4, hd, ho, x0, x1, rfl⟩
      obtain ⟨z, rfl, hz⟩ := hd d List.mem_cons_self
      have m1 : mulOk x 30269 = true := mul_ok (by unfold Fin1; omega) (by unfold Fin1; omega)
      have m2 : mulOk z 7 = true := bits_ok hz (fin_bits (by unfold Fin1; omega))
      refine ⟨⟨[.sh (.scr ns), .sh (.int t), .sh (.int o), .sh (.int x), .sh (.int z)], st⟩, _, ?_, .inl ?_, (x * 30269 + z * 7 + 13).fmod 2147483629, .sh (.int z), fun d h => hd d (List.mem_cons_of_mem _ h), rfl, Int.fmod_nonneg_of_pos _ (by decide), Int.lt_trans (Int.fmod_lt_of_pos _ (by decide)) (by decide), rfl⟩
      · simp [gNm, openAt_eq, ho]
      · simp [b1_law_begun, m1, m2, sSeq, sForC, srcC, mLcC, mMutC, sFor, srcA, srcE, mLc, seqOf, ownOk, wipeE, restE, Slot.owned, dTuple_lst, dTuple_tup, mDic0, sIf, sAsg, sRet, sRetN, sExpr, sNil, bindE, bindS, eBor, eC, eVar, fz, know, mOp, mUn, op2, op1, get, get0, Slot.rd, ret, asB, mPrim, bindA, args, opN, gets, gNm, gTp, gAll, gSubM, setAt, openAt_eq, enter, leave, runFn, mCall, callF, shs, backF, dIx, ixS, cGt, cGe, cLtI, cLe, Mi.b2, dAdd, addS, addL, addT, dMulI, dSub, Mi.i2, dMod, dDiv, sz_le, sz_lt, setD_lst, dInt_i, dInt_b, ixN, mIf, mAnd, mOr, mNot, mTru, tru, isiT, tyD, inK, eqF, D.scal, dLen_lst, dLen_tup, dLen_scr, dLen_str, dNeg, isP, isNon, mChain, mTup, mLst, mProp, mMth, noX, mCallK, permL, mCell, sSelfC, sSelf, sPar, sAug, dAbs, mMut, tyName, mMeth, mMethS, opMS, isTy, opM, uApp, uExt, mSl, mPart, asPart, isFr, dMax, dMin, dMinA, srcA, enumA, enum1, enumAS, enumS])
    ((cutL ns none (some 6)).map .int) ⟨[.sh (.scr ns), .sh (.int t), .sh (.int o), .sh (.int (60013 + 7727 * t)), .no], st⟩ ⟨_, _, (by
      intro d hd
      obtain ⟨z, hz, rfl⟩ := List.mem_map.mp hd
      exact ⟨z, rfl, hb z (List.mem_of_mem_drop (List.mem_of_mem_take hz))⟩), rfl, by omega, by omega, rfl⟩
  obtain ⟨q, e, x, s4, _, ho, x0, x1, rfl⟩ := loop
  have m1 : mulOk x 53 = true := mul_ok (by unfold Fin1; omega) (by unfold Fin1; omega)
  have m2 : mulOk o o = true := bits_ok bo bo
  have m3 : mulOk 17 t = true := mul_ok (by unfold Fin1; omega) (by unfold Fin1; omega)
  have m4 : mulOk 7727 t = true := mul_ok (by unfold Fin1; omega) (by unfold Fin1; omega)
  have p18 : dPow (.int 10) (.int 18) = some (.sh (.int 1000000000000000000)) := rfl
  refine ⟨.lst [.int (if o < 0 ∨ 1000000000000000000 ≤ o then (if o < 0 then -o else o) else 0), .int ((x * 53 + o * o + 17 * t).fmod 2147483629), .int 0], ?_, _, _, _, rfl, by split <;> (try split) <;> omega, Int.fmod_nonneg_of_pos _ (by decide), Int.fmod_lt_of_pos _ (by decide), by decide, by decide⟩
  by_cases c : t < ns.length
  · rw [if_pos c] at eo
    by_cases c1 : o < 0
    · simp [fn_law_begun, m_law_begun, c, eo, e, m1, m2, m3, m4, c1, dSl, p18, sSeq, sForC, srcC, mLcC, mMutC, sFor, srcA, srcE, mLc, seqOf, ownOk, wipeE, restE, Slot.owned, dTuple_lst, dTuple_tup, mDic0, sIf, sAsg, sRet, sRetN, sExpr, sNil, bindE, bindS, eBor, eC, eVar, fz, know, mOp, mUn, op2, op1, get, get0, Slot.rd, ret, asB, mPrim, bindA, args, opN, gets, gNm, gTp, gAll, gSubM, setAt, openAt_eq, enter, leave, runFn, mCall, callF, shs, backF, dIx, ixS, cGt, cGe, cLtI, cLe, Mi.b2, dAdd, addS, addL, addT, dMulI, dSub, Mi.i2, dMod, dDiv, sz_le, sz_lt, setD_lst, dInt_i, dInt_b, ixN, mIf, mAnd, mOr, mNot, mTru, tru, isiT, tyD, inK, eqF, D.scal, dLen_lst, dLen_tup, dLen_scr, dLen_str, dNeg, isP, isNon, mChain, mTup, mLst, mProp, mMth, noX, mCallK, permL, mCell, sSelfC, sSelf, sPar, sAug, dAbs, mMut, tyName, mMeth, mMethS, opMS, isTy, opM, uApp, uExt, mSl, mPart, asPart, isFr, dMax, dMin, dMinA, srcA, enumA, enum1, enumAS, enumS]
    · by_cases c2 : 1000000000000000000 ≤ o <;> simp [fn_law_begun, m_law_begun, c, eo, e, m1, m2, m3, m4, c1, c2, dSl, p18, sSeq, sForC, srcC, mLcC, mMutC, sFor, srcA, srcE, mLc, seqOf, ownOk, wipeE, restE, Slot.owned, dTuple_lst, dTuple_tup, mDic0, sIf, sAsg, sRet, sRetN, sExpr, sNil, bindE, bindS, eBor, eC, eVar, fz, know, mOp, mUn, op2, op1, get, get0, Slot.rd, ret, asB, mPrim, bindA, args, opN, gets, gNm, gTp, gAll, gSubM, setAt, openAt_eq, enter, leave, runFn, mCall, callF, shs, backF, dIx, ixS, cGt, cGe, cLtI, cLe, Mi.b2, dAdd, addS, addL, addT, dMulI, dSub, Mi.i2, dMod, dDiv, sz_le, sz_lt, setD_lst, dInt_i, dInt_b, ixN, mIf, mAnd, mOr, mNot, mTru, tru, isiT, tyD, inK, eqF, D.scal, dLen_lst, dLen_tup, dLen_scr, dLen_str, dNeg, isP, isNon, mChain, mTup, mLst, mProp, mMth, noX, mCallK, permL, mCell, sSelfC, sSelf, sPar, sAug, dAbs, mMut, tyName, mMeth, mMethS, opMS, isTy, opM, uApp, uExt, mSl, mPart, asPart, isFr, dMax, dMin, dMinA, srcA, enumA, enum1, enumAS, enumS]
  · rw [if_neg c] at eo
    cases eo
    simp [fn_law_begun, m_law_begun, c, e, m1, m2, m3, m4, dSl, p18, sSeq, sForC, srcC, mLcC, mMutC, sFor, srcA, srcE, mLc, seqOf, ownOk, wipeE, restE, Slot.owned, dTuple_lst, dTuple_tup, mDic0, sIf, sAsg, sRet, sRetN, sExpr, sNil, bindE, bindS, eBor, eC, eVar, fz, know, mOp, mUn, op2, op1, get, get0, Slot.rd, ret, asB, mPrim, bindA, args, opN, gets, gNm, gTp, gAll, gSubM, setAt, openAt_eq, enter, leave, runFn, mCall, callF, shs, backF, dIx, ixS, cGt, cGe, cLtI, cLe, Mi.b2, dAdd, addS, addL, addT, dMulI, dSub, Mi.i2, dMod, dDiv, sz_le, sz_lt, setD_lst, dInt_i, dInt_b, ixN, mIf, mAnd, mOr, mNot, mTru, tru, isiT, tyD, inK, eqF, D.scal, dLen_lst, dLen_tup, dLen_scr, dLen_str, dNeg, isP, isNon, mChain, mTup, mLst, mProp, mMth, noX, mCallK, permL, mCell, sSelfC, sSelf, sPar, sAug, dAbs, mMut, tyName, mMeth, mMethS, opMS, isTy, opM, uApp, uExt, mSl, mPart, asPart, isFr, dMax, dMin, dMinA, srcA, enumA, enum1, enumAS, enumS]
end Mi

/-! ## Plain: k01: errors of all classes -/
namespace Mi
open PySem PySem.Spec PyProof.Rows L2 Lamp SlX Gd TL
def errs (x : D) : List D := [.exo 0 "given" x, .exo 1 "given" x, .exo 2 "given" x, .exo 3 "given" x, .exo 4 "given" x, .exo 5 "given" x, .exo 6 "given" x, .exo 7 "given" x, .exo 8 "index" x, .exo 9 "index" x, .exo 10 "index" x, .exo 11 "index" x, .exo 12 "index" x, .exo 13 "index" x, .exo 14 "given" x, .exo 15 "index" x, .exo 16 "given" x, .exo 17 "given" x, .exo 18 "given" x, .ex0 19, .exo 20 "index" x]
def only (m n : Nat) : List D := (List.range m).map fun k => .bl (decide (k = n))
def baseOf (n : Nat) : Nat := if n < 14 then 0 else if n < 16 then 1 else 2
theorem all21 {n : Nat} (h : n < 21) : n = 0 ∨ n = 1 ∨ n = 2 ∨ n = 3 ∨ n = 4 ∨ n = 5 ∨ n = 6 ∨ n = 7 ∨ n = 8 ∨ n = 9 ∨ n = 10 ∨ n = 11 ∨ n = 12 ∨ n = 13 ∨ n = 14 ∨ n = 15 ∨ n = 16 ∨ n = 17 ∨ n = 18 ∨ n = 19 ∨ n = 20 := by omega
theorem flags_i (x : D) (st : List D) (n : Nat) (h : n < 21) : ∃ e, (errs x)[n]? = some e ∧ fn_law_flags [e] st = some (.ret (.fr (.lst (only 21 n))) st) ∧ fn_law_bases [e] st = some (.ret (.fr (.lst (only 3 (baseOf n) ++ only 3 (baseOf n)))) st) ∧ (n ≠ 19 → (∀ q, deref q x = some x) → fn_law_held [e, .int n] st = some (.ret (.sh x) st)) ∧ ∀ q, deref q e = some e := by
  rcases all21 h with rfl | rfl | rfl | rfl | rfl | rfl | rfl | rfl | rfl | rfl | rfl | rfl | rfl | rfl | rfl | rfl | rfl | rfl | rfl | rfl | rfl
  · exact ⟨_, rfl, by kernel_rfl, by kernel_rfl, fun _ _ => by kernel_rfl, fun _ => rfl⟩
  · exact ⟨_, rfl, by kernel_rfl, by kernel_rfl, fun _ _ => by kernel_rfl, fun _ => rfl⟩
  · exact ⟨_, rfl, by kernel_rfl, by kernel_rfl, fun _ _ => by kernel_rfl, fun _ => rfl⟩
  · exact ⟨_, rfl, by kernel_rfl, by kernel_rfl, fun _ _ => by kernel_rfl, fun _ => rfl⟩
  · exact ⟨_, rfl, by kernel_rfl, by kernel_rfl, fun _ _ => by kernel_rfl, fun _ => rfl⟩
  · exact ⟨_, rfl, by kernel_rfl, by kernel_rfl, fun _ _ => by kernel_rfl, fun _ => rfl⟩
  · exact ⟨_, rfl, by kernel_rfl, by kernel_rfl, fun _ _ => by kernel_rfl, fun _ => rfl⟩
  · exact ⟨_, rfl, by kernel_rfl, by kernel_rfl, fun _ _ => by kernel_rfl, fun _ => rfl⟩
  · exact ⟨_, rfl, by kernel_rfl, by kernel_rfl, fun _ _ => by kernel_rfl, fun _ => rfl⟩
  · exact ⟨_, rfl, by kernel_rfl, by kernel_rfl, fun _ _ => by kernel_rfl, fun _ => rfl⟩
  · exact ⟨_, rfl, by kernel_rfl, by kernel_rfl, fun _ _ => by kernel_rfl, fun _ => rfl⟩
  · exact ⟨_, rfl, by kernel_rfl, by kernel_rfl, fun _ _ => by kernel_rfl, fun _ => rfl⟩
  · exact ⟨_, rfl, by kernel_rfl, by kernel_rfl, fun _ _ => by kernel_rfl, fun _ => rfl⟩
  · exact ⟨_, rfl, by kernel_rfl, by kernel_rfl, fun _ _ => by kernel_rfl, fun _ => rfl⟩
  · exact ⟨_, rfl, by kernel_rfl, by kernel_rfl, fun _ _ => by kernel_rfl, fun _ => rfl⟩
  · exact ⟨_, rfl, by kernel_rfl, by kernel_rfl, fun _ _ => by kernel_rfl, fun _ => rfl⟩
  · exact ⟨_, rfl, by kernel_rfl, by kernel_rfl, fun _ _ => by kernel_rfl, fun _ => rfl⟩
  · exact ⟨_, rfl, by kernel_rfl, by kernel_rfl, fun _ _ => by kernel_rfl, fun _ => rfl⟩
  · exact ⟨_, rfl, by kernel_rfl, by kernel_rfl, fun _ _ => by kernel_rfl, fun _ => rfl⟩
  · exact ⟨_, rfl, by kernel_rfl, by kernel_rfl, fun z => (z rfl).elim, fun _ => rfl⟩
  · exact ⟨_, rfl, by kernel_rfl, by kernel_rfl, fun _ _ => by kernel_rfl, fun _ => rfl⟩
theorem src_r (m : Nat) (h : m ≤ 100) : srcA rng1 [(eC (.int m))] = fun p => some (.items (rangeL 0 m) p) := by
  funext p
  have r := rng1_ok (j := (m : Int)) (by omega) (by omega)
  simp [r, sSeq, sForC, srcC, mLcC, mMutC, sFor, srcA, srcE, mLc, seqOf, ownOk, wipeE, restE, Slot.owned, dTuple_lst, dTuple_tup, mDic0, sIf, sAsg, sRet, sRetN, sExpr, sNil, bindE, bindS, eBor, eC, eVar, fz, know, mOp, mUn, op2, op1, get, get0, Slot.rd, ret, asB, mPrim, bindA, args, opN, gets, gNm, gTp, gAll, gSubM, setAt, openAt_eq, enter, leave, runFn, mCall, callF, shs, backF, dIx, ixS, cGt, cGe, cLtI, cLe, Mi.b2, dAdd, addS, addL, addT, dMulI, dSub, Mi.i2, dMod, dDiv, sz_le, sz_lt, setD_lst, dInt_i, dInt_b, ixN, mIf, mAnd, mOr, mNot, mTru, tru, isiT, tyD, inK, eqF, D.scal, dLen_lst, dLen_tup, dLen_scr, dLen_str, dNeg, isP, isNon, mChain, mTup, mLst, mProp, mMth, noX, mCallK, permL, mCell, sSelfC, sSelf, sPar, sAug, dAbs, mMut, tyName, mMeth, mMethS, opMS, isTy, opM, uApp, uExt, mSl, mPart, asPart, isFr, dMax, dMin, dMinA, srcA, enumA, enum1, enumAS, enumS]
theorem only21 (L x : D) (S : List D) (s3 : Slot) (n : Nat) (h : n < 21) : (mLc (srcA rng1 [(eC (.int 21))]) (gNm 4) (eC (.bl true)) e1_law_some_right [4]) ⟨[.sh L, .sh x, .sh (.int n), s3, .no], S⟩ = some (.val (.fr (.lst (only 21 n))) ⟨[.sh L, .sh x, .sh (.int n), s3, .no], S⟩) := by
  rw [show (.int 21 : D) = .int ((21 : Nat) : Int) from rfl, src_r 21 (by decide)]
  rcases all21 h with rfl | rfl | rfl | rfl | rfl | rfl | rfl | rfl | rfl | rfl | rfl | rfl | rfl | rfl | rfl | rfl | rfl | rfl | rfl | rfl | rfl <;> kernel_rfl
theorem only3 (L x : D) (S : List D) (s2 : Slot) (b : Nat) (h : b < 3) : (mLc (srcA rng1 [(eC (.int 3))]) (gNm 4) (eC (.bl true)) e2_law_some_right [4]) ⟨[.sh L, .sh x, s2, .sh (.int b), .no], S⟩ = some (.val (.fr (.lst (only 3 b))) ⟨[.sh L, .sh x, s2, .sh (.int b), .no], S⟩) := by
  rw [show (.int 3 : D) = .int ((3 : Nat) : Int) from rfl, src_r 3 (by decide)]
  rcases (show b = 0 ∨ b = 1 ∨ b = 2 by omega) with rfl | rfl | rfl <;> kernel_rfl
theorem eq21 (n : Nat) (h : n < 21) : eqP true (.lst (only 21 n)) (.lst (only 21 n)) = some (.sh (.bl false)) := by
  rcases all21 h with rfl | rfl | rfl | rfl | rfl | rfl | rfl | rfl | rfl | rfl | rfl | rfl | rfl | rfl | rfl | rfl | rfl | rfl | rfl | rfl | rfl <;> kernel_rfl
theorem eq6 (b : Nat) (h : b < 3) : eqP true (.lst (only 3 b ++ only 3 b)) (.lst (only 3 b ++ only 3 b)) = some (.sh (.bl false)) := by
  rcases (show b = 0 ∨ b = 1 ∨ b = 2 by omega) with rfl | rfl | rfl <;> kernel_rfl
theorem rep2 (b : Nat) (h : b < 3) : dRepL (.lst (only 3 b)) (.int 2) = some (.fr (.lst (only 3 b ++ only 3 b))) := by
  unfold dRepL
  simp only
  rw [if_pos ⟨by decide, by decide, sz_le (by simp [only])⟩]
  rcases (show b = 0 ∨ b = 1 ∨ b = 2 by omega) with rfl | rfl | rfl <;> kernel_rfl
theorem base_lt (n : Nat) : baseOf n < 3 := by unfold baseOf; split <;> (try split) <;> omega
noncomputable def q0_b1_law_some_right : SM := (sAsg (mIf (mOp cLtI (eBor 2) (eC (.int 14))) (eC (.int 0)) (mIf (mOp cLtI (eBor 2) (eC (.int 16))) (eC (.int 1)) (eC (.int 2)))) (gNm 3))
noncomputable def q1_b1_law_some_right : SM := (sIf (mOp (eqP true) (fz (mCall fn_law_flags [(mOp dIx (eBor 0) (eBor 2))])) (fz (mLc (srcA rng1 [(eC (.int 21))]) (gNm 4) (eC (.bl true)) e1_law_some_right [4]))) (sRet (eC (.bl false))) sNil)
noncomputable def q2_b1_law_some_right : SM := (sIf (mOp (eqP true) (fz (mCall fn_law_bases [(mOp dIx (eBor 0) (eBor 2))])) (fz (mOp dRepL (fz (mLc (srcA rng1 [(eC (.int 3))]) (gNm 4) (eC (.bl true)) e2_law_some_right [4])) (eC (.int 2))))) (sRet (eC (.bl false))) sNil)
noncomputable def q3_b1_law_some_right : SM := (sIf (mAnd (mOp (eqP true) (eBor 2) (eC (.int 19))) (mOp (eqP true) (mPrim dReprA [(fz (mCall fn_law_held [(mOp dIx (eBor 0) (eBor 2)), (eVar 2)]))]) (mPrim dReprA [(eBor 1)]))) (sRet (eC (.bl false))) sNil)
theorem b1_law_some_right_parts : b1_law_some_right = (sSeq q0_b1_law_some_right (sSeq q1_b1_law_some_right (sSeq q2_b1_law_some_right q3_b1_law_some_right))) := rfl
theorem turn_e {x : D} {z : Str} (hz : dReprA [x] = some (.sh (.str z))) (dq : ∀ q, deref q x = some x) (n : Nat) (h : n < 21) (s3 : Slot) (o3 : opn s3 = true) (S : List D) :
    b1_law_some_right ⟨[.sh (.lst (errs x)), .sh x, .sh (.int n), s3, .no], S⟩ = some (.next ⟨[.sh (.lst (errs x)), .sh x, .sh (.int n), .sh (.int (baseOf n)), .no], S⟩) := by
  obtain ⟨e, he, hf, hb, hh, de⟩ := flags_i x S n h
  have hx : atI (errs x) (n : Int) = some e := by rw [atI_nat]; exact he
  have l0 : (errs x).length = 21 := rfl
  have y0 : q0_b1_law_some_right ⟨[.sh (.lst (errs x)), .sh x, .sh (.int n), s3, .no], S⟩ = some (.next ⟨[.sh (.lst (errs x)), .sh x, .sh (.int n), .sh (.int (baseOf n)), .no], S⟩) := by
    by_cases c1 : (n : Int) < 14
    · have c1' : n < 14 := by omega
      simp [q0_b1_law_some_right, baseOf, c1, c1', o3, sSeq, sForC, srcC, mLcC, mMutC, sFor, srcA, srcE, mLc, seqOf, ownOk, wipeE, restE, Slot.owned, dTuple_lst, dTuple_tup, mDic0, sIf, sAsg, sRet, sRetN, sExpr, sNil, bindE, bindS, eBor, eC, eVar, fz, know, mOp, mUn, op2, op1, get, get0, Slot.rd, ret, asB, mPrim, bindA, args, opN, gets, gNm, gTp, gAll, gSubM, setAt, openAt_eq, enter, leave, runFn, mCall, callF, shs, backF, dIx, ixS, cGt, cGe, cLtI, cLe, Mi.b2, dAdd, addS, addL, addT, dMulI, dSub, Mi.i2, dMod, dDiv, sz_le, sz_lt, setD_lst, dInt_i, dInt_b, ixN, mIf, mAnd, mOr, mNot, mTru, tru, isiT, tyD, inK, eqF, D.scal, dLen_lst, dLen_tup, dLen_scr, dLen_str, dNeg, isP, isNon, mChain, mTup, mLst, mProp, mMth, noX, mCallK, permL, mCell, sSelfC, sSelf, sPar, sAug, dAbs, mMut, tyName, mMeth, mMethS, opMS, isTy, opM, uApp, uExt, mSl, mPart, asPart, isFr, dMax, dMin, dMinA, srcA, enumA, enum1, enumAS, enumS]
    · have c1' : ¬ n < 14 := by omega
      by_cases c2 : (n : Int) < 16
      · have c2' : n < 16 := by omega
        simp [q0_b1_law_some_right, baseOf, c1, c2, c1', c2', o3, sSeq, sForC, srcC, mLcC, mMutC, sFor, srcA, srcE, mLc, seqOf, ownOk, wipeE, restE, Slot.owned, dTuple_lst, dTuple_tup, mDic0, sIf, sAsg, sRet, sRetN, sExpr, sNil, bindE, bindS, eBor, eC, eVar, fz, know, mOp, mUn, op2, op1, get, get0, Slot.rd, ret, asB, mPrim, bindA, args, opN, gets, gNm, gTp, gAll, gSubM, setAt, openAt_eq, enter, leave, runFn, mCall, callF, shs, backF, dIx, ixS, cGt, cGe, cLtI, cLe, Mi.b2, dAdd, addS, addL, addT, dMulI, dSub, Mi.i2, dMod, dDiv, sz_le, sz_lt, setD_lst, dInt_i, dInt_b, ixN, mIf, mAnd, mOr, mNot, mTru, tru, isiT, tyD, inK, eqF, D.scal, dLen_lst, dLen_tup, dLen_scr, dLen_str, dNeg, isP, isNon, mChain, mTup, mLst, mProp, mMth, noX, mCallK, permL, mCell, sSelfC, sSelf, sPar, sAug, dAbs, mMut, tyName, mMeth, mMethS, opMS, isTy, opM, uApp, uExt, mSl, mPart, asPart, isFr, dMax, dMin, dMinA, srcA, enumA, enum1, enumAS, enumS]
      · have c2' : ¬ n < 16 := by omega
        simp [q0_b1_law_some_right, baseOf, c1, c2, c1', c2', o3, sSeq, sForC, srcC, mLcC, mMutC, sFor, srcA, srcE, mLc, seqOf, ownOk, wipeE, restE, Slot.owned, dTuple_lst, dTuple_tup, mDic0, sIf, sAsg, sRet, sRetN, sExpr, sNil, bindE, bindS, eBor, eC, eVar, fz, know, mOp, mUn, op2, op1, get, get0, Slot.rd, ret, asB, mPrim, bindA, args, opN, gets, gNm, gTp, gAll, gSubM, setAt, openAt_eq, enter, leave, runFn, mCall, callF, shs, backF, dIx, ixS, cGt, cGe, cLtI, cLe, Mi.b2, dAdd, addS, addL, addT, dMulI, dSub, Mi.i2, dMod, dDiv, sz_le, sz_lt, setD_lst, dInt_i, dInt_b, ixN, mIf, mAnd, mOr, mNot, mTru, tru, isiT, tyD, inK, eqF, D.scal, dLen_lst, dLen_tup, dLen_scr, dLen_str, dNeg, isP, isNon, mChain, mTup, mLst, mProp, mMth, noX, mCallK, permL, mCell, sSelfC, sSelf, sPar, sAug, dAbs, mMut, tyName, mMeth, mMethS, opMS, isTy, opM, uApp, uExt, mSl, mPart, asPart, isFr, dMax, dMin, dMinA, srcA, enumA, enum1, enumAS, enumS]
  have i1 := only21 (.lst (errs x)) x S (.sh (.int (baseOf n))) n h
  have i2 := only3 (.lst (errs x)) x S (.sh (.int n)) (baseOf n) (base_lt n)
  have e1 := eq21 n h
  have e2 := eq6 (baseOf n) (base_lt n)
  have r2 := rep2 (baseOf n) (base_lt n)
  generalize only 3 (baseOf n) = T3 at *
  generalize T3 ++ T3 = T6 at *
  generalize only 21 n = T21 at *
  generalize errs x = L at *
  have y1 : q1_b1_law_some_right ⟨[.sh (.lst L), .sh x, .sh (.int n), .sh (.int (baseOf n)), .no], S⟩ = some (.next ⟨[.sh (.lst L), .sh x, .sh (.int n), .sh (.int (baseOf n)), .no], S⟩) := by
    unfold q1_b1_law_some_right
    generalize (mLc (srcA rng1 [(eC (.int 21))]) (gNm 4) (eC (.bl true)) e1_law_some_right [4]) = C1 at *
    simp [hx, hf, i1, e1, sSeq, sForC, srcC, mLcC, mMutC, sFor, srcA, srcE, mLc, seqOf, ownOk, wipeE, restE, Slot.owned, dTuple_lst, dTuple_tup, mDic0, sIf, sAsg, sRet, sRetN, sExpr, sNil, bindE, bindS, eBor, eC, eVar, fz, know, mOp, mUn, op2, op1, get, get0, Slot.rd, ret, asB, mPrim, bindA, args, opN, gets, gNm, gTp, gAll, gSubM, setAt, openAt_eq, enter, leave, runFn, mCall, callF, shs, backF, dIx, ixS, cGt, cGe, cLtI, cLe, Mi.b2, dAdd, addS, addL, addT, dMulI, dSub, Mi.i2, dMod, dDiv, sz_le, sz_lt, setD_lst, dInt_i, dInt_b, ixN, mIf, mAnd, mOr, mNot, mTru, tru, isiT, tyD, inK, eqF, D.scal, dLen_lst, dLen_tup, dLen_scr, dLen_str, dNeg, isP, isNon, mChain, mTup, mLst, mProp, mMth, noX, mCallK, permL, mCell, sSelfC, sSelf, sPar, sAug, dAbs, mMut, tyName, mMeth, mMethS, opMS, isTy, opM, uApp, uExt, mSl, mPart, asPart, isFr, dMax, dMin, dMinA, srcA, enumA, enum1, enumAS, enumS]
  have y2 : q2_b1_law_some_right ⟨[.sh (.lst L), .sh x, .sh (.int n), .sh (.int (baseOf n)), .no], S⟩ = some (.next ⟨[.sh (.lst L), .sh x, .sh (.int n), .sh (.int (baseOf n)), .no], S⟩) := by
    unfold q2_b1_law_some_right
    generalize (mLc (srcA rng1 [(eC (.int 3))]) (gNm 4) (eC (.bl true)) e2_law_some_right [4]) = C2 at *
    simp [hx, hb, i2, r2, e2, sSeq, sForC, srcC, mLcC, mMutC, sFor, srcA, srcE, mLc, seqOf, ownOk, wipeE, restE, Slot.owned, dTuple_lst, dTuple_tup, mDic0, sIf, sAsg, sRet, sRetN, sExpr, sNil, bindE, bindS, eBor, eC, eVar, fz, know, mOp, mUn, op2, op1, get, get0, Slot.rd, ret, asB, mPrim, bindA, args, opN, gets, gNm, gTp, gAll, gSubM, setAt, openAt_eq, enter, leave, runFn, mCall, callF, shs, backF, dIx, ixS, cGt, cGe, cLtI, cLe, Mi.b2, dAdd, addS, addL, addT, dMulI, dSub, Mi.i2, dMod, dDiv, sz_le, sz_lt, setD_lst, dInt_i, dInt_b, ixN, mIf, mAnd, mOr, mNot, mTru, tru, isiT, tyD, inK, eqF, D.scal, dLen_lst, dLen_tup, dLen_scr, dLen_str, dNeg, isP, isNon, mChain, mTup, mLst, mProp, mMth, noX, mCallK, permL, mCell, sSelfC, sSelf, sPar, sAug, dAbs, mMut, tyName, mMeth, mMethS, opMS, isTy, opM, uApp, uExt, mSl, mPart, asPart, isFr, dMax, dMin, dMinA, srcA, enumA, enum1, enumAS, enumS]
  have y3 : q3_b1_law_some_right ⟨[.sh (.lst L), .sh x, .sh (.int n), .sh (.int (baseOf n)), .no], S⟩ = some (.next ⟨[.sh (.lst L), .sh x, .sh (.int n), .sh (.int (baseOf n)), .no], S⟩) := by
    by_cases c : n = 19
    · subst c
      simp [q3_b1_law_some_right, sSeq, sForC, srcC, mLcC, mMutC, sFor, srcA, srcE, mLc, seqOf, ownOk, wipeE, restE, Slot.owned, dTuple_lst, dTuple_tup, mDic0, sIf, sAsg, sRet, sRetN, sExpr, sNil, bindE, bindS, eBor, eC, eVar, fz, know, mOp, mUn, op2, op1, get, get0, Slot.rd, ret, asB, mPrim, bindA, args, opN, gets, gNm, gTp, gAll, gSubM, setAt, openAt_eq, enter, leave, runFn, mCall, callF, shs, backF, dIx, ixS, cGt, cGe, cLtI, cLe, Mi.b2, dAdd, addS, addL, addT, dMulI, dSub, Mi.i2, dMod, dDiv, sz_le, sz_lt, setD_lst, dInt_i, dInt_b, ixN, mIf, mAnd, mOr, mNot, mTru, tru, isiT, tyD, inK, eqF, D.scal, dLen_lst, dLen_tup, dLen_scr, dLen_str, dNeg, isP, isNon, mChain, mTup, mLst, mProp, mMth, noX, mCallK, permL, mCell, sSelfC, sSelf, sPar, sAug, dAbs, mMut, tyName, mMeth, mMethS, opMS, isTy, opM, uApp, uExt, mSl, mPart, asPart, isFr, dMax, dMin, dMinA, srcA, enumA, enum1, enumAS, enumS]
    · have c' : ¬ (n : Int) = 19 := by omega
      have h3 := hh c dq
      simp [q3_b1_law_some_right, c', hx, h3, dq, hz, sSeq, sForC, srcC, mLcC, mMutC, sFor, srcA, srcE, mLc, seqOf, ownOk, wipeE, restE, Slot.owned, dTuple_lst, dTuple_tup, mDic0, sIf, sAsg, sRet, sRetN, sExpr, sNil, bindE, bindS, eBor, eC, eVar, fz, know, mOp, mUn, op2, op1, get, get0, Slot.rd, ret, asB, mPrim, bindA, args, opN, gets, gNm, gTp, gAll, gSubM, setAt, openAt_eq, enter, leave, runFn, mCall, callF, shs, backF, dIx, ixS, cGt, cGe, cLtI, cLe, Mi.b2, dAdd, addS, addL, addT, dMulI, dSub, Mi.i2, dMod, dDiv, sz_le, sz_lt, setD_lst, dInt_i, dInt_b, ixN, mIf, mAnd, mOr, mNot, mTru, tru, isiT, tyD, inK, eqF, D.scal, dLen_lst, dLen_tup, dLen_scr, dLen_str, dNeg, isP, isNon, mChain, mTup, mLst, mProp, mMth, noX, mCallK, permL, mCell, sSelfC, sSelf, sPar, sAug, dAbs, mMut, tyName, mMeth, mMethS, opMS, isTy, opM, uApp, uExt, mSl, mPart, asPart, isFr, dMax, dMin, dMinA, srcA, enumA, enum1, enumAS, enumS]
  exact (congrFun b1_law_some_right_parts _).trans ((sSeq_next y0).trans ((sSeq_next y1).trans ((sSeq_next y2).trans y3)))
theorem some_right_i {x : D} {z : Str} (hz : dReprA [x] = some (.sh (.str z))) (dq : ∀ q, deref q x = some x) (S : List D) : fn_law_some_right [.lst (errs x), x] S = some (.ret (.sh (.bl true)) S) := by
  have loop := forL_inv (gm := gNm 2) (b := b1_law_some_right) (fun ds q => ∃ s2 s3, (∀ y ∈ ds, ∃ n : Nat, n < 21 ∧ y = D.int n) ∧ opn s2 = true ∧ opn s3 = true ∧ q = ⟨[.sh (.lst (errs x)), .sh x, s2, s3, .no], S⟩) (by
      rintro y ds q ⟨s2, s3, hd, o2, o3, rfl⟩
      obtain ⟨n, hn, rfl⟩ := hd y List.mem_cons_self
      refine ⟨⟨[.sh (.lst (errs x)), .sh x, .sh (.int n), s3, .no], S⟩, _, ?_, .inl (turn_e hz dq n hn s3 o3 S), _, _, fun y h => hd y (List.mem_cons_of_mem _ h), rfl, rfl, rfl⟩
      simp [gNm, openAt_eq, o2])
    (rangeL 0 21) ⟨[.sh (.lst (errs x)), .sh x, .no, .no, .no], S⟩ ⟨_, _, (by
      intro y m
      unfold rangeL at m
      obtain ⟨k, hk, rfl⟩ := List.mem_map.mp m
      exact ⟨k, by simpa using hk, by simp⟩), rfl, rfl, rfl⟩
  obtain ⟨q, e, s2, s3, _, _, _, rfl⟩ := loop
  have r := rng1_ok (j := 21) (by decide) (by decide)
  have l0 : (errs x).length = 21 := rfl
  generalize errs x = L at *
  simp [fn_law_some_right, m_law_some_right, r, e, l0, sSeq, sForC, srcC, mLcC, mMutC, sFor, srcA, srcE, mLc, seqOf, ownOk, wipeE, restE, Slot.owned, dTuple_lst, dTuple_tup, mDic0, sIf, sAsg, sRet, sRetN, sExpr, sNil, bindE, bindS, eBor, eC, eVar, fz, know, mOp, mUn, op2, op1, get, get0, Slot.rd, ret, asB, mPrim, bindA, args, opN, gets, gNm, gTp, gAll, gSubM, setAt, openAt_eq, enter, leave, runFn, mCall, callF, shs, backF, dIx, ixS, cGt, cGe, cLtI, cLe, Mi.b2, dAdd, addS, addL, addT, dMulI, dSub, Mi.i2, dMod, dDiv, sz_le, sz_lt, setD_lst, dInt_i, dInt_b, ixN, mIf, mAnd, mOr, mNot, mTru, tru, isiT, tyD, inK, eqF, D.scal, dLen_lst, dLen_tup, dLen_scr, dLen_str, dNeg, isP, isNon, mChain, mTup, mLst, mProp, mMth, noX, mCallK, permL, mCell, sSelfC, sSelf, sPar, sAug, dAbs, mMut, tyName, mMeth, mMethS, opMS, isTy, opM, uApp, uExt, mSl, mPart, asPart, isFr, dMax, dMin, dMinA, srcA, enumA, enum1, enumAS, enumS]
end Mi

/-! ## Plain: k01, whole -/
namespace Mi
open PySem PySem.Spec PyProof.Rows L2 Lamp SlX Gd TL
theorem menu_dq {x : D} (m : x ∈ menu) : ∀ q, deref q x = some x := by
  unfold menu at m
  simp only [List.mem_cons, List.not_mem_nil, or_false] at m
  rcases m with rfl | rfl | rfl | rfl | rfl | rfl | rfl | rfl | rfl | rfl | rfl | rfl | rfl | rfl | rfl | rfl | rfl | rfl | rfl | rfl | rfl | rfl | rfl | rfl | rfl | rfl | rfl <;> exact fun _ => rfl
theorem placed_i {x : D} (m : x ∈ menu) (S : List D) : fn_law_placed [x] S = some (.ret (.fr (.lst (errs x))) S) := by
  unfold menu at m
  simp only [List.mem_cons, List.not_mem_nil, or_false] at m
  rcases m with rfl | rfl | rfl | rfl | rfl | rfl | rfl | rfl | rfl | rfl | rfl | rfl | rfl | rfl | rfl | rfl | rfl | rfl | rfl | rfl | rfl | rfl | rfl | rfl | rfl | rfl | rfl <;> kernel_rfl
theorem named_i {x : D} (m : x ∈ menu) (S : List D) : fn_law_named [x] S = some (.ret (.fr (.lst (errs x))) S) := by
  unfold menu at m
  simp only [List.mem_cons, List.not_mem_nil, or_false] at m
  rcases m with rfl | rfl | rfl | rfl | rfl | rfl | rfl | rfl | rfl | rfl | rfl | rfl | rfl | rfl | rfl | rfl | rfl | rfl | rfl | rfl | rfl | rfl | rfl | rfl | rfl | rfl | rfl <;> kernel_rfl
noncomputable def q0_m_law_right : SM := (sFor (srcA rng1 [(eC (.int 4))]) (gNm 1) b1_law_right)
noncomputable def q1_m_law_right : SM := (sAsg (mLc (srcE seqOf (fz (mLst [(fz (mNew0 21)), (fz (mNew0 22)), (fz (mNew0 23))]))) (gNm 4) (eC (.bl true)) e1_law_right [4]) (gNm 3))
noncomputable def q2_m_law_right : SM := (sRet (mOp (eqP false) (eBor 3) (fz (mLst [(fz (mLst [(eC (.bl true)), (eC (.bl false)), (eC (.bl false))])), (fz (mLst [(eC (.bl false)), (eC (.bl true)), (eC (.bl false))])), (fz (mLst [(eC (.bl false)), (eC (.bl false)), (eC (.bl true))]))]))))
theorem m_law_right_parts : m_law_right = (sSeq q0_m_law_right (sSeq q1_m_law_right q2_m_law_right)) := rfl
noncomputable def q0_m_law : SM := (sAsg (mLst [(eC (.kup [2, 3, 5, 7])), (eC (.int 400)), (eC (.int 4000)), (eC (.int 4)), (eC (.int 24)), (eC (.int 8)), (eC (.int 40)), (eC (.int 1000))]) (gNm 1))
noncomputable def q1_m_law : SM := (sIf (mOp (eqP true) (mPrim dRepr [(fz (mOp dAdd (eBor 1) (fz (mLst [(eC (.int 6))]))))]) (mPrim dRepr [(fz (mLst [(mTup [(eC (.int 2)), (eC (.int 3)), (eC (.int 5)), (eC (.int 7))]), (eC (.int 400)), (eC (.int 4000)), (eC (.int 4)), (eC (.int 24)), (eC (.int 8)), (eC (.int 40)), (eC (.int 1000)), (eC (.int 6))]))])) (sRet (eC (.bl false))) sNil)
noncomputable def q2_m_law : SM := (sRet (mPrim dAll [(fz (mLc (srcA rng1 [(mPrim dMax [(eC (.int 2)), (mPrim dMinA [(mPrim dLen [(eBor 0)]), (eC (.int 5))])])]) (gNm 2) (eC (.bl true)) e1_law [2]))]))
theorem m_law_whole : m_law = (sSeq q0_m_law (sSeq q1_m_law q2_m_law)) := rfl
theorem turn_k {k i : Nat} {st : List D} {d : D} (hi : i < st.length) (pl : Pail (k + 1) d) (s1 s2 : Slot) (o2 : opn s2 = true) :
    ∃ t2 d', b1_law_right ⟨[.sh (.cel i), s1, s2, .no, .no], st.set i d⟩ = some (.next ⟨[.sh (.cel i), s1, t2, .no, .no], st.set i d'⟩) ∧ opn t2 = true ∧ Pail k d' := by
  obtain ⟨x, d', e, m, p'⟩ := thing_next hi pl
  obtain ⟨z, hz, _⟩ := (menu_ok x m).told
  have dq := menu_dq m
  have h1 := placed_i m (st.set i d')
  have h2 := named_i m (st.set i d')
  have h3 := some_right_i hz dq (st.set i d')
  generalize errs x = L at *
  refine ⟨.sh x, d', ?_, rfl, p'⟩
  simp [b1_law_right, e, h1, h2, h3, dq, o2, sSeq, sForC, srcC, mLcC, mMutC, sFor, srcA, srcE, mLc, seqOf, ownOk, wipeE, restE, Slot.owned, dTuple_lst, dTuple_tup, mDic0, sIf, sAsg, sRet, sRetN, sExpr, sNil, bindE, bindS, eBor, eC, eVar, fz, know, mOp, mUn, op2, op1, get, get0, Slot.rd, ret, asB, mPrim, bindA, args, opN, gets, gNm, gTp, gAll, gSubM, setAt, openAt_eq, enter, leave, runFn, mCall, callF, shs, backF, dIx, ixS, cGt, cGe, cLtI, cLe, Mi.b2, dAdd, addS, addL, addT, dMulI, dSub, Mi.i2, dMod, dDiv, sz_le, sz_lt, setD_lst, dInt_i, dInt_b, ixN, mIf, mAnd, mOr, mNot, mTru, tru, isiT, tyD, inK, eqF, D.scal, dLen_lst, dLen_tup, dLen_scr, dLen_str, dNeg, isP, isNon, mChain, mTup, mLst, mProp, mMth, noX, mCallK, permL, mCell, sSelfC, sSelf, sPar, sAug, dAbs, mMut, tyName, mMeth, mMethS, opMS, isTy, opM, uApp, uExt, mSl, mPart, asPart, isFr, dMax, dMin, dMinA, srcA, enumA, enum1, enumAS, enumS]
theorem right_i (st : List D) (i : Nat) (d : D) (hi : i < st.length) (pl : Pail 10 d) : ∃ d', fn_law_right [.cel i] (st.set i d) = some (.ret (.sh (.bl true)) (st.set i d')) := by
  have loop := forL_inv (gm := gNm 1) (b := b1_law_right) (fun ds q => ∃ s1 s2 d, (∀ y ∈ ds, ∃ z, y = D.int z) ∧ opn s1 = true ∧ opn s2 = true ∧ Pail (1 * ds.length) d ∧ q = ⟨[.sh (.cel i), s1, s2, .no, .no], st.set i d⟩) (by
      rintro y ds q ⟨s1, s2, d, hd, o1, o2, w, rfl⟩
      obtain ⟨z, rfl⟩ := hd y List.mem_cons_self
      simp only [List.length_cons] at w
      obtain ⟨t2, d', e, p2, w'⟩ := turn_k (k := 1 * ds.length) hi (w.le (by omega)) (.sh (.int z)) s2 o2
      refine ⟨⟨[.sh (.cel i), .sh (.int z), s2, .no, .no], st.set i d⟩, _, ?_, .inl e, .sh (.int z), t2, d', fun y h => hd y (List.mem_cons_of_mem _ h), rfl, p2, w', rfl⟩
      simp [gNm, openAt_eq, o1])
    (rangeL 0 4) ⟨[.sh (.cel i), .no, .no, .no, .no], st.set i d⟩ ⟨_, _, d, (by
      intro y m
      unfold rangeL at m
      obtain ⟨k, hk, rfl⟩ := List.mem_map.mp m
      exact ⟨_, rfl⟩), rfl, rfl, pl.le (by simp [rangeL]), rfl⟩
  obtain ⟨q, e, s1, s2, d', _, _, _, _, rfl⟩ := loop
  have r4 := rng1_ok (j := 4) (by decide) (by decide)
  have y0 : q0_m_law_right ⟨[.sh (.cel i), .no, .no, .no, .no], st.set i d⟩ = some (.next ⟨[.sh (.cel i), s1, s2, .no, .no], st.set i d'⟩) := by
    simp [q0_m_law_right, r4, e, sSeq, sForC, srcC, mLcC, mMutC, sFor, srcA, srcE, mLc, seqOf, ownOk, wipeE, restE, Slot.owned, dTuple_lst, dTuple_tup, mDic0, sIf, sAsg, sRet, sRetN, sExpr, sNil, bindE, bindS, eBor, eC, eVar, fz, know, mOp, mUn, op2, op1, get, get0, Slot.rd, ret, asB, mPrim, bindA, args, opN, gets, gNm, gTp, gAll, gSubM, setAt, openAt_eq, enter, leave, runFn, mCall, callF, shs, backF, dIx, ixS, cGt, cGe, cLtI, cLe, Mi.b2, dAdd, addS, addL, addT, dMulI, dSub, Mi.i2, dMod, dDiv, sz_le, sz_lt, setD_lst, dInt_i, dInt_b, ixN, mIf, mAnd, mOr, mNot, mTru, tru, isiT, tyD, inK, eqF, D.scal, dLen_lst, dLen_tup, dLen_scr, dLen_str, dNeg, isP, isNon, mChain, mTup, mLst, mProp, mMth, noX, mCallK, permL, mCell, sSelfC, sSelf, sPar, sAug, dAbs, mMut, tyName, mMeth, mMethS, opMS, isTy, opM, uApp, uExt, mSl, mPart, asPart, isFr, dMax, dMin, dMinA, srcA, enumA, enum1, enumAS, enumS]
  have y1 : ∃ s3, q1_m_law_right ⟨[.sh (.cel i), s1, s2, .no, .no], st.set i d'⟩ = some (.next ⟨[.sh (.cel i), s1, s2, s3, .no], st.set i d'⟩) ∧ q2_m_law_right ⟨[.sh (.cel i), s1, s2, s3, .no], st.set i d'⟩ = some (.ret (.sh (.bl true)) ⟨[.sh (.cel i), s1, s2, s3, .no], st.set i d'⟩) := by
    generalize st.set i d' = S
    exact ⟨.ow (.lst [.lst [.bl true, .bl false, .bl false], .lst [.bl false, .bl true, .bl false], .lst [.bl false, .bl false, .bl true]]), by kernel_rfl, by kernel_rfl⟩
  obtain ⟨s3, y1, y2⟩ := y1
  have run := (congrFun m_law_right_parts _).trans ((sSeq_next y0).trans ((sSeq_next y1).trans y2))
  refine ⟨d', ?_⟩
  simp [fn_law_right, run, sSeq, sForC, srcC, mLcC, mMutC, sFor, srcA, srcE, mLc, seqOf, ownOk, wipeE, restE, Slot.owned, dTuple_lst, dTuple_tup, mDic0, sIf, sAsg, sRet, sRetN, sExpr, sNil, bindE, bindS, eBor, eC, eVar, fz, know, mOp, mUn, op2, op1, get, get0, Slot.rd, ret, asB, mPrim, bindA, args, opN, gets, gNm, gTp, gAll, gSubM, setAt, openAt_eq, enter, leave, runFn, mCall, callF, shs, backF, dIx, ixS, cGt, cGe, cLtI, cLe, Mi.b2, dAdd, addS, addL, addT, dMulI, dSub, Mi.i2, dMod, dDiv, sz_le, sz_lt, setD_lst, dInt_i, dInt_b, ixN, mIf, mAnd, mOr, mNot, mTru, tru, isiT, tyD, inK, eqF, D.scal, dLen_lst, dLen_tup, dLen_scr, dLen_str, dNeg, isP, isNon, mChain, mTup, mLst, mProp, mMth, noX, mCallK, permL, mCell, sSelfC, sSelf, sPar, sAug, dAbs, mMut, tyName, mMeth, mMethS, opMS, isTy, opM, uApp, uExt, mSl, mPart, asPart, isFr, dMax, dMin, dMinA, srcA, enumA, enum1, enumAS, enumS]
theorem plain (ns : List Int) (hl : ns.length ≤ 63) (hb : ∀ z ∈ ns, Builtin.Int.intBits z ≤ 1048576) : ∃ st, fn_law [.scr ns] [] = some (.ret (.sh (.bl true)) st) := by
  obtain ⟨m, hm, hm0⟩ : ∃ m : Nat, (if (if (5 : Int) < ns.length then 5 else (ns.length : Int)) > 2 then (if (5 : Int) < ns.length then 5 else (ns.length : Int)) else 2) = (m : Int) ∧ m ≤ 5 := by
    by_cases c : (5 : Int) < ns.length
    · exact ⟨5, by simp [c], by omega⟩
    · by_cases c2 : (2 : Int) < ns.length
      · exact ⟨ns.length, by simp [c, c2], by omega⟩
      · exact ⟨2, by simp [c, c2], by omega⟩
  have lc := fun (s1 : Slot) => lcL_inv (gm := gNm 2) (mt := eC (.bl true)) (me := e1_law) (vs := [2]) (fun ds acc q => ∃ st, (∀ d ∈ ds, ∃ t : Int, d = .int t ∧ 0 ≤ t ∧ t < 1000) ∧ acc.length + ds.length ≤ 6 ∧ (∃ j, acc = (List.replicate j true).map D.bl) ∧ q = ⟨[.sh (.scr ns), s1, .no], st⟩) (by
      rintro d ds acc q ⟨st, hd, hl2, ⟨j, rfl⟩, rfl⟩
      obtain ⟨t, rfl, t0, t1⟩ := hd d List.mem_cons_self
      obtain ⟨d0, e0, p0⟩ := begun_i hb t0 t1 st
      obtain ⟨d', e1⟩ := right_i (st ++ [d0]) st.length d0 (by simp) (p0.le (by decide))
      have e1' : fn_law_right [.cel st.length] (st ++ [d0]) = some (.ret (.sh (.bl true)) (st ++ [d'])) := by
        have s1 : (st ++ [d0]).set st.length d0 = st ++ [d0] := by simp
        have s2 : (st ++ [d0]).set st.length d' = st ++ [d'] := by simp
        rw [s1, s2] at e1
        exact e1
      refine ⟨some (.bl true), ⟨[.sh (.scr ns), s1, .no], st ++ [d']⟩, ?_, fun y hy => ?_, fun h => by cases h⟩
      · simp [lcTurn, e1_law, e0, e1', sSeq, sForC, srcC, mLcC, mMutC, sFor, srcA, srcE, mLc, seqOf, ownOk, wipeE, restE, Slot.owned, dTuple_lst, dTuple_tup, mDic0, sIf, sAsg, sRet, sRetN, sExpr, sNil, bindE, bindS, eBor, eC, eVar, fz, know, mOp, mUn, op2, op1, get, get0, Slot.rd, ret, asB, mPrim, bindA, args, opN, gets, gNm, gTp, gAll, gSubM, setAt, openAt_eq, enter, leave, runFn, mCall, callF, shs, backF, dIx, ixS, cGt, cGe, cLtI, cLe, Mi.b2, dAdd, addS, addL, addT, dMulI, dSub, Mi.i2, dMod, dDiv, sz_le, sz_lt, setD_lst, dInt_i, dInt_b, ixN, mIf, mAnd, mOr, mNot, mTru, tru, isiT, tyD, inK, eqF, D.scal, dLen_lst, dLen_tup, dLen_scr, dLen_str, dNeg, isP, isNon, mChain, mTup, mLst, mProp, mMth, noX, mCallK, permL, mCell, sSelfC, sSelf, sPar, sAug, dAbs, mMut, tyName, mMeth, mMethS, opMS, isTy, opM, uApp, uExt, mSl, mPart, asPart, isFr, dMax, dMin, dMinA, srcA, enumA, enum1, enumAS, enumS]
      · cases hy
        refine ⟨sz_lt (by simp at hl2 ⊢; omega), st ++ [d'], fun d h => hd d (List.mem_cons_of_mem _ h), by simp at hl2 ⊢; omega, ⟨j + 1, ?_⟩, rfl⟩
        rw [List.replicate_succ', List.map_append]
        rfl)
    (rangeL 0 (m : Int)) [] ⟨[.sh (.scr ns), s1, .no], []⟩ ⟨[], (by
      intro d hd
      rw [rangeL_map] at hd
      obtain ⟨i, hi, rfl⟩ := List.mem_map.mp hd
      have := List.mem_range.mp hi
      exact ⟨i, rfl, by omega, by omega⟩), by rw [rangeL_map]; simp; omega, ⟨0, rfl⟩, rfl⟩
  have r1 := rng1_ok (j := (m : Int)) (by omega) (by omega)
  simp only [gt_iff_lt] at hm
  obtain ⟨L8, y0, y1⟩ : ∃ L8, q0_m_law ⟨[.sh (.scr ns), .no, .no], []⟩ = some (.next ⟨[.sh (.scr ns), .ow (.lst L8), .no], []⟩) ∧ q1_m_law ⟨[.sh (.scr ns), .ow (.lst L8), .no], []⟩ = some (.next ⟨[.sh (.scr ns), .ow (.lst L8), .no], []⟩) :=
    ⟨[.kup [2, 3, 5, 7], .int 400, .int 4000, .int 4, .int 24, .int 8, .int 40, .int 1000], by kernel_rfl, by kernel_rfl⟩
  obtain ⟨acc, q, e, st, _, _, ⟨j, rfl⟩, rfl⟩ := lc (.ow (.lst L8))
  have al : dAll [.lst ((List.replicate j true).map D.bl)] = some (.sh (.bl true)) := by
    simp only [dAll, asBls_map]
    simp
  simp only [List.map_replicate] at al
  have y2 : q2_m_law ⟨[.sh (.scr ns), .ow (.lst L8), .no], []⟩ = some (.ret (.sh (.bl true)) ⟨[.sh (.scr ns), .ow (.lst L8), .no], st⟩) := by
    simp [q2_m_law, hm, r1, e, al, sSeq, sForC, srcC, mLcC, mMutC, sFor, srcA, srcE, mLc, seqOf, ownOk, wipeE, restE, Slot.owned, dTuple_lst, dTuple_tup, mDic0, sIf, sAsg, sRet, sRetN, sExpr, sNil, bindE, bindS, eBor, eC, eVar, fz, know, mOp, mUn, op2, op1, get, get0, Slot.rd, ret, asB, mPrim, bindA, args, opN, gets, gNm, gTp, gAll, gSubM, setAt, openAt_eq, enter, leave, runFn, mCall, callF, shs, backF, dIx, ixS, cGt, cGe, cLtI, cLe, Mi.b2, dAdd, addS, addL, addT, dMulI, dSub, Mi.i2, dMod, dDiv, sz_le, sz_lt, setD_lst, dInt_i, dInt_b, ixN, mIf, mAnd, mOr, mNot, mTru, tru, isiT, tyD, inK, eqF, D.scal, dLen_lst, dLen_tup, dLen_scr, dLen_str, dNeg, isP, isNon, mChain, mTup, mLst, mProp, mMth, noX, mCallK, permL, mCell, sSelfC, sSelf, sPar, sAug, dAbs, mMut, tyName, mMeth, mMethS, opMS, isTy, opM, uApp, uExt, mSl, mPart, asPart, isFr, dMax, dMin, dMinA, srcA, enumA, enum1, enumAS, enumS]
  have run := (congrFun m_law_whole _).trans ((sSeq_next y0).trans ((sSeq_next y1).trans y2))
  refine ⟨st, ?_⟩
  simp [fn_law, run, sSeq, sForC, srcC, mLcC, mMutC, sFor, srcA, srcE, mLc, seqOf, ownOk, wipeE, restE, Slot.owned, dTuple_lst, dTuple_tup, mDic0, sIf, sAsg, sRet, sRetN, sExpr, sNil, bindE, bindS, eBor, eC, eVar, fz, know, mOp, mUn, op2, op1, get, get0, Slot.rd, ret, asB, mPrim, bindA, args, opN, gets, gNm, gTp, gAll, gSubM, setAt, openAt_eq, enter, leave, runFn, mCall, callF, shs, backF, dIx, ixS, cGt, cGe, cLtI, cLe, Mi.b2, dAdd, addS, addL, addT, dMulI, dSub, Mi.i2, dMod, dDiv, sz_le, sz_lt, setD_lst, dInt_i, dInt_b, ixN, mIf, mAnd, mOr, mNot, mTru, tru, isiT, tyD, inK, eqF, D.scal, dLen_lst, dLen_tup, dLen_scr, dLen_str, dNeg, isP, isNon, mChain, mTup, mLst, mProp, mMth, noX, mCallK, permL, mCell, sSelfC, sSelf, sPar, sAug, dAbs, mMut, tyName, mMeth, mMethS, opMS, isTy, opM, uApp, uExt, mSl, mPart, asPart, isFr, dMax, dMin, dMinA, srcA, enumA, enum1, enumAS, enumS]
end Mi

namespace Mi
open PySem PySem.Spec PyProof.Rows L2 Lamp SlX Gd
theorem withTx {K : PySem.W.Frag} {mg : Str → Option Value} {fa : Addr} {Z : Prop} (hT : ∃ T : Tx K mg, T.a_law = fa) (F : ∀ T : Tx K mg, T.a_law = fa → Z) : Z := by
  obtain ⟨T, h⟩ := hT
  exact F T h
theorem law_ok {P : Program} {w : World} {K : PySem.W.Frag} {mg : Str → Option Value} {base : Heap} (T : Tx K mg) : FnG P w K mg base CX0 6 T.a_law T.d_law ["_law_script"] (lawSp K) := law_end (ok_law T) plain
end Mi
open PySem PySem.W PyProof.Rows
local macro_rules | `(tactic| o_head $H) => `(tactic| o_headL $H)
local macro_rules | `(tactic| o_head ($f:term $K:term $as:term $e:term $ts:term)) => `(tactic| o_headL (kHook $K $as $e))
set_option maxRecDepth 100000 in
set_option maxHeartbeats 0 in
theorem PySem.Challenge.cw_lamprounds_k01_limits_and_errors_holds : PySem.Challenge.rw_lamprounds_k01_limits_and_errors.Holds := by
  w_on; o_law; k_head; (case hw => w_witness2)
  k_fill
  refine Gd.walkG (l := PySem.Challenge.rw_lamprounds_k01_limits_and_errors) (k := 6) (x := "_law_script") (sp := Mi.lawSp) rfl rfl ⟨rfl, by decide, by decide⟩ (fun w h Y => PySem.W.kIn_of Y) ?F ?S
  case F =>
    intro w mg fa h KX G hmg
    refine' Mi.withTx (Mi.mkTx KX G hmg ?e_InvalidText ?xl_InvalidText ?xs_InvalidText ?xe_InvalidText ?xt_InvalidText ?xk_InvalidText ?fi_InvalidText ?xa_InvalidText ?xg_InvalidText ?xh_InvalidText ?xn_InvalidText ?x4_InvalidText ?ti_InvalidText_init ?l_InvalidText_init ?c_InvalidText_init ?k_InvalidText_init ?e_InvalidName ?xl_InvalidName ?xs_InvalidName ?xe_InvalidName ?xt_InvalidName ?xk_InvalidName ?fi_InvalidName ?xa_InvalidName ?xg_InvalidName ?xh_InvalidName ?xn_InvalidName ?x4_InvalidName ?ti_InvalidName_init ?l_InvalidName_init ?c_InvalidName_init ?k_InvalidName_init ?e_InvalidIndex ?xl_InvalidIndex ?xs_InvalidIndex ?xe_InvalidIndex ?xt_InvalidIndex ?xk_InvalidIndex ?fi_InvalidIndex ?xa_InvalidIndex ?xg_InvalidIndex ?xh_InvalidIndex ?xn_InvalidIndex ?x4_InvalidIndex ?ti_InvalidIndex_init ?l_InvalidIndex_init ?c_InvalidIndex_init ?k_InvalidIndex_init ?e_InvalidLevels ?xl_InvalidLevels ?xs_InvalidLevels ?xe_InvalidLevels ?xt_InvalidLevels ?xk_InvalidLevels ?fi_InvalidLevels ?xa_InvalidLevels ?xg_InvalidLevels ?xh_InvalidLevels ?xn_InvalidLevels ?x4_InvalidLevels ?ti_InvalidLevels_init ?l_InvalidLevels_init ?c_InvalidLevels_init ?k_InvalidLevels_init ?e_InvalidNumber ?xl_InvalidNumber ?xs_InvalidNumber ?xe_InvalidNumber ?xt_InvalidNumber ?xk_InvalidNumber ?fi_InvalidNumber ?xa_InvalidNumber ?xg_InvalidNumber ?xh_InvalidNumber ?xn_InvalidNumber ?x4_InvalidNumber ?ti_InvalidNumber_init ?l_InvalidNumber_init ?c_InvalidNumber_init ?k_InvalidNumber_init ?e_InvalidWish ?xl_InvalidWish ?xs_InvalidWish ?xe_InvalidWish ?xt_InvalidWish ?xk_InvalidWish ?fi_InvalidWish ?xa_InvalidWish ?xg_InvalidWish ?xh_InvalidWish ?xn_InvalidWish ?x4_InvalidWish ?ti_InvalidWish_init ?l_InvalidWish_init ?c_InvalidWish_init ?k_InvalidWish_init ?e_NotRound ?xl_NotRound ?xs_NotRound ?xe_NotRound ?xt_NotRound ?xk_NotRound ?fi_NotRound ?xa_NotRound ?xg_NotRound ?xh_NotRound ?xn_NotRound ?x4_NotRound ?ti_NotRound_init ?l_NotRound_init ?c_NotRound_init ?k_NotRound_init ?e_NotLot ?xl_NotLot ?xs_NotLot ?xe_NotLot ?xt_NotLot ?xk_NotLot ?fi_NotLot ?xa_NotLot ?xg_NotLot ?xh_NotLot ?xn_NotLot ?x4_NotLot ?ti_NotLot_init ?l_NotLot_init ?c_NotLot_init ?k_NotLot_init ?e_InvalidLamps ?xl_InvalidLamps ?xs_InvalidLamps ?xe_InvalidLamps ?xt_InvalidLamps ?xk_InvalidLamps ?fi_InvalidLamps ?xa_InvalidLamps ?xg_InvalidLamps ?xh_InvalidLamps ?xn_InvalidLamps ?x4_InvalidLamps ?ti_InvalidLamps_init ?l_InvalidLamps_init ?c_InvalidLamps_init ?k_InvalidLamps_init ?e_InvalidRounds ?xl_InvalidRounds ?xs_InvalidRounds ?xe_InvalidRounds ?xt_InvalidRounds ?xk_InvalidRounds ?fi_InvalidRounds ?xa_InvalidRounds ?xg_InvalidRounds ?xh_InvalidRounds ?xn_InvalidRounds ?x4_InvalidRounds ?ti_InvalidRounds_init ?l_InvalidRounds_init ?c_InvalidRounds_init ?k_InvalidRounds_init ?e_InvalidSteps ?xl_InvalidSteps ?xs_InvalidSteps ?xe_InvalidSteps ?xt_InvalidSteps ?xk_InvalidSteps ?fi_InvalidSteps ?xa_InvalidSteps ?xg_InvalidSteps ?xh_InvalidSteps ?xn_InvalidSteps ?x4_InvalidSteps ?ti_InvalidSteps_init ?l_InvalidSteps_init ?c_InvalidSteps_init ?k_InvalidSteps_init ?e_InvalidPlan ?xl_InvalidPlan ?xs_InvalidPlan ?xe_InvalidPlan ?xt_InvalidPlan ?xk_InvalidPlan ?fi_InvalidPlan ?xa_InvalidPlan ?xg_InvalidPlan ?xh_InvalidPlan ?xn_InvalidPlan ?x4_InvalidPlan ?ti_InvalidPlan_init ?l_InvalidPlan_init ?c_InvalidPlan_init ?k_InvalidPlan_init ?e_InvalidChanges ?xl_InvalidChanges ?xs_InvalidChanges ?xe_InvalidChanges ?xt_InvalidChanges ?xk_InvalidChanges ?fi_InvalidChanges ?xa_InvalidChanges ?xg_InvalidChanges ?xh_InvalidChanges ?xn_InvalidChanges ?x4_InvalidChanges ?ti_InvalidChanges_init ?l_InvalidChanges_init ?c_InvalidChanges_init ?k_InvalidChanges_init ?e_InvalidWishes ?xl_InvalidWishes ?xs_InvalidWishes ?xe_InvalidWishes ?xt_InvalidWishes ?xk_InvalidWishes ?fi_InvalidWishes ?xa_InvalidWishes ?xg_InvalidWishes ?xh_InvalidWishes ?xn_InvalidWishes ?x4_InvalidWishes ?ti_InvalidWishes_init ?l_InvalidWishes_init ?c_InvalidWishes_init ?k_InvalidWishes_init ?e_UnknownName ?xl_UnknownName ?xs_UnknownName ?xe_UnknownName ?xt_UnknownName ?xk_UnknownName ?fi_UnknownName ?xa_UnknownName ?xg_UnknownName ?xh_UnknownName ?xn_UnknownName ?x4_UnknownName ?ti_UnknownName_init ?l_UnknownName_init ?c_UnknownName_init ?k_UnknownName_init ?e_InUse ?xl_InUse ?xs_InUse ?xe_InUse ?xt_InUse ?xk_InUse ?fi_InUse ?xa_InUse ?xg_InUse ?xh_InUse ?xn_InUse ?x4_InUse ?ti_InUse_init ?l_InUse_init ?c_InUse_init ?k_InUse_init ?e_OtherLevels ?xl_OtherLevels ?xs_OtherLevels ?xe_OtherLevels ?xt_OtherLevels ?xk_OtherLevels ?fi_OtherLevels ?xa_OtherLevels ?xg_OtherLevels ?xh_OtherLevels ?xn_OtherLevels ?x4_OtherLevels ?ti_OtherLevels_init ?l_OtherLevels_init ?c_OtherLevels_init ?k_OtherLevels_init ?e_TooMany ?xl_TooMany ?xs_TooMany ?xe_TooMany ?xt_TooMany ?xk_TooMany ?fi_TooMany ?xa_TooMany ?xg_TooMany ?xh_TooMany ?xn_TooMany ?x4_TooMany ?ti_TooMany_init ?l_TooMany_init ?c_TooMany_init ?k_TooMany_init ?e_TooFar ?xl_TooFar ?xs_TooFar ?xe_TooFar ?xt_TooFar ?xk_TooFar ?fi_TooFar ?xa_TooFar ?xg_TooFar ?xh_TooFar ?xn_TooFar ?x4_TooFar ?ti_TooFar_init ?l_TooFar_init ?c_TooFar_init ?k_TooFar_init ?e_NothingToUndo ?xx_NothingToUndo ?xe_NothingToUndo ?xt_NothingToUndo ?x4_NothingToUndo ?xa_NothingToUndo ?xg_NothingToUndo ?e_Broken ?xl_Broken ?xs_Broken ?xe_Broken ?xt_Broken ?xk_Broken ?fi_Broken ?xa_Broken ?xg_Broken ?xh_Broken ?xn_Broken ?x4_Broken ?ti_Broken_init ?l_Broken_init ?c_Broken_init ?k_Broken_init ?e_WrongValue ?xx_WrongValue ?xe_WrongValue ?xt_WrongValue ?x4_WrongValue ?xa_WrongValue ?xg_WrongValue ?e_WrongName ?xx_WrongName ?xe_WrongName ?xt_WrongName ?x4_WrongName ?xa_WrongName ?xg_WrongName ?e_NotPossible ?xx_NotPossible ?xe_NotPossible ?xt_NotPossible ?x4_NotPossible ?xa_NotPossible ?xg_NotPossible ?xi_InvalidText ?za_InvalidText ?zo_InvalidText ?zs_InvalidText ?zt_InvalidText ?xi_InvalidName ?za_InvalidName ?zo_InvalidName ?zs_InvalidName ?zt_InvalidName ?xi_InvalidIndex ?za_InvalidIndex ?zo_InvalidIndex ?zs_InvalidIndex ?zt_InvalidIndex ?xi_InvalidLevels ?za_InvalidLevels ?zo_InvalidLevels ?zs_InvalidLevels ?zt_InvalidLevels ?xi_InvalidNumber ?za_InvalidNumber ?zo_InvalidNumber ?zs_InvalidNumber ?zt_InvalidNumber ?xi_InvalidWish ?za_InvalidWish ?zo_InvalidWish ?zs_InvalidWish ?zt_InvalidWish ?xi_NotRound ?za_NotRound ?zo_NotRound ?zs_NotRound ?zt_NotRound ?xi_NotLot ?za_NotLot ?zo_NotLot ?zs_NotLot ?zt_NotLot ?xi_InvalidLamps ?za_InvalidLamps ?zo_InvalidLamps ?zs_InvalidLamps ?zt_InvalidLamps ?xi_InvalidRounds ?za_InvalidRounds ?zo_InvalidRounds ?zs_InvalidRounds ?zt_InvalidRounds ?xi_InvalidSteps ?za_InvalidSteps ?zo_InvalidSteps ?zs_InvalidSteps ?zt_InvalidSteps ?xi_InvalidPlan ?za_InvalidPlan ?zo_InvalidPlan ?zs_InvalidPlan ?zt_InvalidPlan ?xi_InvalidChanges ?za_InvalidChanges ?zo_InvalidChanges ?zs_InvalidChanges ?zt_InvalidChanges ?xi_InvalidWishes ?za_InvalidWishes ?zo_InvalidWishes ?zs_InvalidWishes ?zt_InvalidWishes ?xi_UnknownName ?za_UnknownName ?zo_UnknownName ?zs_UnknownName ?zt_UnknownName ?xi_InUse ?za_InUse ?zo_InUse ?zs_InUse ?zt_InUse ?xi_OtherLevels ?za_OtherLevels ?zo_OtherLevels ?zs_OtherLevels ?zt_OtherLevels ?xi_TooMany ?za_TooMany ?zo_TooMany ?zs_TooMany ?zt_TooMany ?xi_TooFar ?za_TooFar ?zo_TooFar ?zs_TooFar ?zt_TooFar ?xi_NothingToUndo ?xk_NothingToUndo ?za_NothingToUndo ?zo_NothingToUndo ?zs_NothingToUndo ?zt_NothingToUndo ?xi_Broken ?za_Broken ?zo_Broken ?zs_Broken ?zt_Broken ?xi_WrongValue ?xk_WrongValue ?za_WrongValue ?zo_WrongValue ?zs_WrongValue ?zt_WrongValue ?xi_WrongName ?xk_WrongName ?za_WrongName ?zo_WrongName ?zs_WrongName ?zt_WrongName ?xi_NotPossible ?xk_NotPossible ?za_NotPossible ?zo_NotPossible ?zs_NotPossible ?zt_NotPossible ?tr_InvalidText ?tr_InvalidName ?tr_InvalidIndex ?tr_InvalidLevels ?tr_InvalidNumber ?tr_InvalidWish ?tr_NotRound ?tr_NotLot ?tr_InvalidLamps ?tr_InvalidRounds ?tr_InvalidSteps ?tr_InvalidPlan ?tr_InvalidChanges ?tr_InvalidWishes ?tr_UnknownName ?tr_InUse ?tr_OtherLevels ?tr_TooMany ?tr_TooFar ?tr_NothingToUndo ?tr_Broken ?tr_WrongValue ?tr_WrongName ?tr_NotPossible ?ts_ValueError ?ts_LookupError ?ts_ArithmeticError ?e_law_begun ?l_law_begun ?c_law_begun ?k_law_begun ?e_law_cast ?l_law_cast ?c_law_cast ?k_law_cast ?e_law_any_of ?l_law_any_of ?c_law_any_of ?k_law_any_of ?e_law_thing ?l_law_thing ?c_law_thing ?k_law_thing ?e_law_placed ?l_law_placed ?c_law_placed ?k_law_placed ?e_law_named ?l_law_named ?c_law_named ?k_law_named ?e_law_flags ?l_law_flags ?c_law_flags ?k_law_flags ?e_law_bases ?l_law_bases ?c_law_bases ?k_law_bases ?e_law_held ?l_law_held ?c_law_held ?k_law_held ?e_law_some_right ?l_law_some_right ?c_law_some_right ?k_law_some_right ?e_law_right ?l_law_right ?c_law_right ?k_law_right ?e_law ?l_law ?c_law ?k_law ?n_ArithmeticError ?n_LookupError ?n_ValueError ?n_abs ?n_all ?n_divmod ?n_int ?n_isinstance ?n_len ?n_max ?n_min ?n_range ?n_repr ?e_LEVELS ?y_LEVELS ?e_MOST_LAMPS ?e_MOST_STEPS ?e_MOST_ROUNDS ?e_MOST_PLACE ?e_MOST_END ?e_MOST_NEAR ?e_MOST_TIMES ?e_MOST_CHANGES) (fun T hT => ?lastT)
    (case e_InvalidText => k_is)
    (case xl_InvalidText => k_is)
    (case xs_InvalidText => k_is)
    (case xe_InvalidText => k_is)
    (case xt_InvalidText => k_is)
    (case xk_InvalidText => k_is)
    (case fi_InvalidText => k_is)
    (case xa_InvalidText => k_is)
    (case xg_InvalidText => k_is)
    (case xh_InvalidText => k_is)
    (case xn_InvalidText => k_is)
    (case x4_InvalidText => k_is)
    (case ti_InvalidText_init => k_is)
    (case l_InvalidText_init => k_is)
    (case c_InvalidText_init => k_is)
    (case k_InvalidText_init => k_is)
    (case e_InvalidName => k_is)
    (case xl_InvalidName => k_is)
    (case xs_InvalidName => k_is)
    (case xe_InvalidName => k_is)
    (case xt_InvalidName => k_is)
    (case xk_InvalidName => k_is)
    (case fi_InvalidName => k_is)
    (case xa_InvalidName => k_is)
    (case xg_InvalidName => k_is)
    (case xh_InvalidName => k_is)
    (case xn_InvalidName => k_is)
    (case x4_InvalidName => k_is)
    (case ti_InvalidName_init => k_is)
    (case l_InvalidName_init => k_is)
    (case c_InvalidName_init => k_is)
    (case k_InvalidName_init => k_is)
    (case e_InvalidIndex => k_is)
    (case xl_InvalidIndex => k_is)
    (case xs_InvalidIndex => k_is)
    (case xe_InvalidIndex => k_is)
    (case xt_InvalidIndex => k_is)
    (case xk_InvalidIndex => k_is)
    (case fi_InvalidIndex => k_is)
    (case xa_InvalidIndex => k_is)
    (case xg_InvalidIndex => k_is)
    (case xh_InvalidIndex => k_is)
    (case xn_InvalidIndex => k_is)
    (case x4_InvalidIndex => k_is)
    (case ti_InvalidIndex_init => k_is)
    (case l_InvalidIndex_init => k_is)
    (case c_InvalidIndex_init => k_is)
    (case k_InvalidIndex_init => k_is)
    (case e_InvalidLevels => k_is)
    (case xl_InvalidLevels => k_is)
    (case xs_InvalidLevels => k_is)
    (case xe_InvalidLevels => k_is)
    (case xt_InvalidLevels => k_is)
    (case xk_InvalidLevels => k_is)
    (case fi_InvalidLevels => k_is)
    (case xa_InvalidLevels => k_is)
    (case xg_InvalidLevels => k_is)
    (case xh_InvalidLevels => k_is)
    (case xn_InvalidLevels => k_is)
    (case x4_InvalidLevels => k_is)
    (case ti_InvalidLevels_init => k_is)
    (case l_InvalidLevels_init => k_is)
    (case c_InvalidLevels_init => k_is)
    (case k_InvalidLevels_init => k_is)
    (case e_InvalidNumber => k_is)
    (case xl_InvalidNumber => k_is)
    (case xs_InvalidNumber => k_is)
    (case xe_InvalidNumber => k_is)
    (case xt_InvalidNumber => k_is)
    (case xk_InvalidNumber => k_is)
    (case fi_InvalidNumber => k_is)
    (case xa_InvalidNumber => k_is)
    (case xg_InvalidNumber => k_is)
    (case xh_InvalidNumber => k_is)
    (case xn_InvalidNumber => k_is)
    (case x4_InvalidNumber => k_is)
    (case ti_InvalidNumber_init => k_is)
    (case l_InvalidNumber_init => k_is)
    (case c_InvalidNumber_init => k_is)
    (case k_InvalidNumber_init => k_is)
    (case e_InvalidWish => k_is)
    (case xl_InvalidWish => k_is)
    (case xs_InvalidWish => k_is)
    (case xe_InvalidWish => k_is)
    (case xt_InvalidWish => k_is)
    (case xk_InvalidWish => k_is)
    (case fi_InvalidWish => k_is)
    (case xa_InvalidWish => k_is)
    (case xg_InvalidWish => k_is)
    (case xh_InvalidWish => k_is)
    (case xn_InvalidWish => k_is)
    (case x4_InvalidWish => k_is)
    (case ti_InvalidWish_init => k_is)
    (case l_InvalidWish_init => k_is)
    (case c_InvalidWish_init => k_is)
    (case k_InvalidWish_init => k_is)
    (case e_NotRound => k_is)
    (case xl_NotRound => k_is)
    (case xs_NotRound => k_is)
    (case xe_NotRound => k_is)
    (case xt_NotRound => k_is)
    (case xk_NotRound => k_is)
    (case fi_NotRound => k_is)
    (case xa_NotRound => k_is)
    (case xg_NotRound => k_is)
    (case xh_NotRound => k_is)
    (case xn_NotRound => k_is)
    (case x4_NotRound => k_is)
    (case ti_NotRound_init => k_is)
    (case l_NotRound_init => k_is)
    (case c_NotRound_init => k_is)
    (case k_NotRound_init => k_is)
    (case e_NotLot => k_is)
    (case xl_NotLot => k_is)
    (case xs_NotLot => k_is)
    (case xe_NotLot => k_is)
    (case xt_NotLot => k_is)
    (case xk_NotLot => k_is)
    (case fi_NotLot => k_is)
    (case xa_NotLot => k_is)
    (case xg_NotLot => k_is)
    (case xh_NotLot => k_is)
    (case xn_NotLot => k_is)
    (case x4_NotLot => k_is)
    (case ti_NotLot_init => k_is)
    (case l_NotLot_init => k_is)
    (case c_NotLot_init => k_is)
    (case k_NotLot_init => k_is)
    (case e_InvalidLamps => k_is)
    (case xl_InvalidLamps => k_is)
    (case xs_InvalidLamps => k_is)
    (case xe_InvalidLamps => k_is)
    (case xt_InvalidLamps => k_is)
    (case xk_InvalidLamps => k_is)
    (case fi_InvalidLamps => k_is)
    (case xa_InvalidLamps => k_is)
    (case xg_InvalidLamps => k_is)
    (case xh_InvalidLamps => k_is)
    (case xn_InvalidLamps => k_is)
    (case x4_InvalidLamps => k_is)
    (case ti_InvalidLamps_init => k_is)
    (case l_InvalidLamps_init => k_is)
    (case c_InvalidLamps_init => k_is)
    (case k_InvalidLamps_init => k_is)
    (case e_InvalidRounds => k_is)
    (case xl_InvalidRounds => k_is)
    (case xs_InvalidRounds => k_is)
    (case xe_InvalidRounds => k_is)
    (case xt_InvalidRounds => k_is)
    (case xk_InvalidRounds => k_is)
    (case fi_InvalidRounds => k_is)
    (case xa_InvalidRounds => k_is)
    (case xg_InvalidRounds => k_is)
    (case xh_InvalidRounds => k_is)
    (case xn_InvalidRounds => k_is)
    (case x4_InvalidRounds => k_is)
    (case ti_InvalidRounds_init => k_is)
    (case l_InvalidRounds_init => k_is)
    (case c_InvalidRounds_init => k_is)
    (case k_InvalidRounds_init => k_is)
    (case e_InvalidSteps => k_is)
    (case xl_InvalidSteps => k_is)
    (case xs_InvalidSteps => k_is)
    (case xe_InvalidSteps => k_is)
    (case xt_InvalidSteps => k_is)
    (case xk_InvalidSteps => k_is)
    (case fi_InvalidSteps => k_is)
    (case xa_InvalidSteps => k_is)
    (case xg_InvalidSteps => k_is)
    (case xh_InvalidSteps => k_is)
    (case xn_InvalidSteps => k_is)
    (case x4_InvalidSteps => k_is)
    (case ti_InvalidSteps_init => k_is)
    (case l_InvalidSteps_init => k_is)
    (case c_InvalidSteps_init => k_is)
    (case k_InvalidSteps_init => k_is)
    (case e_InvalidPlan => k_is)
    (case xl_InvalidPlan => k_is)
    (case xs_InvalidPlan => k_is)
    (case xe_InvalidPlan => k_is)
    (case xt_InvalidPlan => k_is)
    (case xk_InvalidPlan => k_is)
    (case fi_InvalidPlan => k_is)
    (case xa_InvalidPlan => k_is)
    (case xg_InvalidPlan => k_is)
    (case xh_InvalidPlan => k_is)
    (case xn_InvalidPlan => k_is)
    (case x4_InvalidPlan => k_is)
    (case ti_InvalidPlan_init => k_is)
    (case l_InvalidPlan_init => k_is)
    (case c_InvalidPlan_init => k_is)
    (case k_InvalidPlan_init => k_is)
    (case e_InvalidChanges => k_is)
    (case xl_InvalidChanges => k_is)
    (case xs_InvalidChanges => k_is)
    (case xe_InvalidChanges => k_is)
    (case xt_InvalidChanges => k_is)
    (case xk_InvalidChanges => k_is)
    (case fi_InvalidChanges => k_is)
    (case xa_InvalidChanges => k_is)
    (case xg_InvalidChanges => k_is)
    (case xh_InvalidChanges => k_is)
    (case xn_InvalidChanges => k_is)
    (case x4_InvalidChanges => k_is)
    (case ti_InvalidChanges_init => k_is)
    (case l_InvalidChanges_init => k_is)
    (case c_InvalidChanges_init => k_is)
    (case k_InvalidChanges_init => k_is)
    (case e_InvalidWishes => k_is)
    (case xl_InvalidWishes => k_is)
    (case xs_InvalidWishes => k_is)
    (case xe_InvalidWishes => k_is)
    (case xt_InvalidWishes => k_is)
    (case xk_InvalidWishes => k_is)
    (case fi_InvalidWishes => k_is)
    (case xa_InvalidWishes => k_is)
    (case xg_InvalidWishes => k_is)
    (case xh_InvalidWishes => k_is)
    (case xn_InvalidWishes => k_is)
    (case x4_InvalidWishes => k_is)
    (case ti_InvalidWishes_init => k_is)
    (case l_InvalidWishes_init => k_is)
    (case c_InvalidWishes_init => k_is)
    (case k_InvalidWishes_init => k_is)
    (case e_UnknownName => k_is)
    (case xl_UnknownName => k_is)
    (case xs_UnknownName => k_is)
    (case xe_UnknownName => k_is)
    (case xt_UnknownName => k_is)
    (case xk_UnknownName => k_is)
    (case fi_UnknownName => k_is)
    (case xa_UnknownName => k_is)
    (case xg_UnknownName => k_is)
    (case xh_UnknownName => k_is)
    (case xn_UnknownName => k_is)
    (case x4_UnknownName => k_is)
    (case ti_UnknownName_init => k_is)
    (case l_UnknownName_init => k_is)
    (case c_UnknownName_init => k_is)
    (case k_UnknownName_init => k_is)
    (case e_InUse => k_is)
    (case xl_InUse => k_is)
    (case xs_InUse => k_is)
    (case xe_InUse => k_is)
    (case xt_InUse => k_is)
    (case xk_InUse => k_is)
    (case fi_InUse => k_is)
    (case xa_InUse => k_is)
    (case xg_InUse => k_is)
    (case xh_InUse => k_is)
    (case xn_InUse => k_is)
    (case x4_InUse => k_is)
    (case ti_InUse_init => k_is)
    (case l_InUse_init => k_is)
    (case c_InUse_init => k_is)
    (case k_InUse_init => k_is)
    (case e_OtherLevels => k_is)
    (case xl_OtherLevels => k_is)
    (case xs_OtherLevels => k_is)
    (case xe_OtherLevels => k_is)
    (case xt_OtherLevels => k_is)
    (case xk_OtherLevels => k_is)
    (case fi_OtherLevels => k_is)
    (case xa_OtherLevels => k_is)
    (case xg_OtherLevels => k_is)
    (case xh_OtherLevels => k_is)
    (case xn_OtherLevels => k_is)
    (case x4_OtherLevels => k_is)
    (case ti_OtherLevels_init => k_is)
    (case l_OtherLevels_init => k_is)
    (case c_OtherLevels_init => k_is)
    (case k_OtherLevels_init => k_is)
    (case e_TooMany => k_is)
    (case xl_TooMany => k_is)
    (case xs_TooMany => k_is)
    (case xe_TooMany => k_is)
    (case xt_TooMany => k_is)
    (case xk_TooMany => k_is)
    (case fi_TooMany => k_is)
    (case xa_TooMany => k_is)
    (case xg_TooMany => k_is)
    (case xh_TooMany => k_is)
    (case xn_TooMany => k_is)
    (case x4_TooMany => k_is)
    (case ti_TooMany_init => k_is)
    (case l_TooMany_init => k_is)
    (case c_TooMany_init => k_is)
    (case k_TooMany_init => k_is)
    (case e_TooFar => k_is)
    (case xl_TooFar => k_is)
    (case xs_TooFar => k_is)
    (case xe_TooFar => k_is)
    (case xt_TooFar => k_is)
    (case xk_TooFar => k_is)
    (case fi_TooFar => k_is)
    (case xa_TooFar => k_is)
    (case xg_TooFar => k_is)
    (case xh_TooFar => k_is)
    (case xn_TooFar => k_is)
    (case x4_TooFar => k_is)
    (case ti_TooFar_init => k_is)
    (case l_TooFar_init => k_is)
    (case c_TooFar_init => k_is)
    (case k_TooFar_init => k_is)
    (case e_NothingToUndo => k_is)
    (case xx_NothingToUndo => k_exc)
    (case xe_NothingToUndo => k_is)
    (case xt_NothingToUndo => k_is)
    (case x4_NothingToUndo => k_is)
    (case xa_NothingToUndo => k_is)
    (case xg_NothingToUndo => k_is)
    (case e_Broken => k_is)
    (case xl_Broken => k_is)
    (case xs_Broken => k_is)
    (case xe_Broken => k_is)
    (case xt_Broken => k_is)
    (case xk_Broken => k_is)
    (case fi_Broken => k_is)
    (case xa_Broken => k_is)
    (case xg_Broken => k_is)
    (case xh_Broken => k_is)
    (case xn_Broken => k_is)
    (case x4_Broken => k_is)
    (case ti_Broken_init => k_is)
    (case l_Broken_init => k_is)
    (case c_Broken_init => k_is)
    (case k_Broken_init => k_is)
    (case e_WrongValue => k_is)
    (case xx_WrongValue => k_exc)
    (case xe_WrongValue => k_is)
    (case xt_WrongValue => k_is)
    (case x4_WrongValue => k_is)
    (case xa_WrongValue => k_is)
    (case xg_WrongValue => k_is)
    (case e_WrongName => k_is)
    (case xx_WrongName => k_exc)
    (case xe_WrongName => k_is)
    (case xt_WrongName => k_is)
    (case x4_WrongName => k_is)
    (case xa_WrongName => k_is)
    (case xg_WrongName => k_is)
    (case e_NotPossible => k_is)
    (case xx_NotPossible => k_exc)
    (case xe_NotPossible => k_is)
    (case xt_NotPossible => k_is)
    (case x4_NotPossible => k_is)
    (case xa_NotPossible => k_is)
    (case xg_NotPossible => k_is)
    (case xi_InvalidText => k_is)
    (case za_InvalidText => k_is)
    (case zo_InvalidText => k_is)
    (case zs_InvalidText => k_is)
    (case zt_InvalidText => k_is)
    (case xi_InvalidName => k_is)
    (case za_InvalidName => k_is)
    (case zo_InvalidName => k_is)
    (case zs_InvalidName => k_is)
    (case zt_InvalidName => k_is)
    (case xi_InvalidIndex => k_is)
    (case za_InvalidIndex => k_is)
    (case zo_InvalidIndex => k_is)
    (case zs_InvalidIndex => k_is)
    (case zt_InvalidIndex => k_is)
    (case xi_InvalidLevels => k_is)
    (case za_InvalidLevels => k_is)
    (case zo_InvalidLevels => k_is)
    (case zs_InvalidLevels => k_is)
    (case zt_InvalidLevels => k_is)
    (case xi_InvalidNumber => k_is)
    (case za_InvalidNumber => k_is)
    (case zo_InvalidNumber => k_is)
    (case zs_InvalidNumber => k_is)
    (case zt_InvalidNumber => k_is)
    (case xi_InvalidWish => k_is)
    (case za_InvalidWish => k_is)
    (case zo_InvalidWish => k_is)
    (case zs_InvalidWish => k_is)
    (case zt_InvalidWish => k_is)
    (case xi_NotRound => k_is)
    (case za_NotRound => k_is)
    (case zo_NotRound => k_is)
    (case zs_NotRound => k_is)
    (case zt_NotRound => k_is)
    (case xi_NotLot => k_is)
    (case za_NotLot => k_is)
    (case zo_NotLot => k_is)
    (case zs_NotLot => k_is)
    (case zt_NotLot => k_is)
    (case xi_InvalidLamps => k_is)
    (case za_InvalidLamps => k_is)
    (case zo_InvalidLamps => k_is)
    (case zs_InvalidLamps => k_is)
    (case zt_InvalidLamps => k_is)
    (case xi_InvalidRounds => k_is)
    (case za_InvalidRounds => k_is)
    (case zo_InvalidRounds => k_is)
    (case zs_InvalidRounds => k_is)
    (case zt_InvalidRounds => k_is)
    (case xi_InvalidSteps => k_is)
    (case za_InvalidSteps => k_is)
    (case zo_InvalidSteps => k_is)
    (case zs_InvalidSteps => k_is)
    (case zt_InvalidSteps => k_is)
    (case xi_InvalidPlan => k_is)
    (case za_InvalidPlan => k_is)
    (case zo_InvalidPlan => k_is)
    (case zs_InvalidPlan => k_is)
    (case zt_InvalidPlan => k_is)
    (case xi_InvalidChanges => k_is)
    (case za_InvalidChanges => k_is)
    (case zo_InvalidChanges => k_is)
    (case zs_InvalidChanges => k_is)
    (case zt_InvalidChanges => k_is)
    (case xi_InvalidWishes => k_is)
    (case za_InvalidWishes => k_is)
    (case zo_InvalidWishes => k_is)
    (case zs_InvalidWishes => k_is)
    (case zt_InvalidWishes => k_is)
    (case xi_UnknownName => k_is)
    (case za_UnknownName => k_is)
    (case zo_UnknownName => k_is)
    (case zs_UnknownName => k_is)
    (case zt_UnknownName => k_is)
    (case xi_InUse => k_is)
    (case za_InUse => k_is)
    (case zo_InUse => k_is)
    (case zs_InUse => k_is)
    (case zt_InUse => k_is)
    (case xi_OtherLevels => k_is)
    (case za_OtherLevels => k_is)
    (case zo_OtherLevels => k_is)
    (case zs_OtherLevels => k_is)
    (case zt_OtherLevels => k_is)
    (case xi_TooMany => k_is)
    (case za_TooMany => k_is)
    (case zo_TooMany => k_is)
    (case zs_TooMany => k_is)
    (case zt_TooMany => k_is)
    (case xi_TooFar => k_is)
    (case za_TooFar => k_is)
    (case zo_TooFar => k_is)
    (case zs_TooFar => k_is)
    (case zt_TooFar => k_is)
    (case xi_NothingToUndo => k_is)
    (case xk_NothingToUndo => k_is)
    (case za_NothingToUndo => k_is)
    (case zo_NothingToUndo => k_is)
    (case zs_NothingToUndo => k_is)
    (case zt_NothingToUndo => k_is)
    (case xi_Broken => k_is)
    (case za_Broken => k_is)
    (case zo_Broken => k_is)
    (case zs_Broken => k_is)
    (case zt_Broken => k_is)
    (case xi_WrongValue => k_is)
    (case xk_WrongValue => k_is)
    (case za_WrongValue => k_is)
    (case zo_WrongValue => k_is)
    (case zs_WrongValue => k_is)
    (case zt_WrongValue => k_is)
    (case xi_WrongName => k_is)
    (case xk_WrongName => k_is)
    (case za_WrongName => k_is)
    (case zo_WrongName => k_is)
    (case zs_WrongName => k_is)
    (case zt_WrongName => k_is)
    (case xi_NotPossible => k_is)
    (case xk_NotPossible => k_is)
    (case za_NotPossible => k_is)
    (case zo_NotPossible => k_is)
    (case zs_NotPossible => k_is)
    (case zt_NotPossible => k_is)
    (case tr_InvalidText => first | rfl | kernel_rfl)
    (case tr_InvalidName => first | rfl | kernel_rfl)
    (case tr_InvalidIndex => first | rfl | kernel_rfl)
    (case tr_InvalidLevels => first | rfl | kernel_rfl)
    (case tr_InvalidNumber => first | rfl | kernel_rfl)
    (case tr_InvalidWish => first | rfl | kernel_rfl)
    (case tr_NotRound => first | rfl | kernel_rfl)
    (case tr_NotLot => first | rfl | kernel_rfl)
    (case tr_InvalidLamps => first | rfl | kernel_rfl)
    (case tr_InvalidRounds => first | rfl | kernel_rfl)
    (case tr_InvalidSteps => first | rfl | kernel_rfl)
    (case tr_InvalidPlan => first | rfl | kernel_rfl)
    (case tr_InvalidChanges => first | rfl | kernel_rfl)
    (case tr_InvalidWishes => first | rfl | kernel_rfl)
    (case tr_UnknownName => first | rfl | kernel_rfl)
    (case tr_InUse => first | rfl | kernel_rfl)
    (case tr_OtherLevels => first | rfl | kernel_rfl)
    (case tr_TooMany => first | rfl | kernel_rfl)
    (case tr_TooFar => first | rfl | kernel_rfl)
    (case tr_NothingToUndo => first | rfl | kernel_rfl)
    (case tr_Broken => first | rfl | kernel_rfl)
    (case tr_WrongValue => first | rfl | kernel_rfl)
    (case tr_WrongName => first | rfl | kernel_rfl)
    (case tr_NotPossible => first | rfl | kernel_rfl)
    (case ts_ValueError => first | rfl | kernel_rfl)
    (case ts_LookupError => first | rfl | kernel_rfl)
    (case ts_ArithmeticError => first | rfl | kernel_rfl)
    (case e_law_begun => k_is)
    (case l_law_begun => k_is)
    (case c_law_begun => k_is)
    (case k_law_begun => k_is)
    (case e_law_cast => k_is)
    (case l_law_cast => k_is)
    (case c_law_cast => k_is)
    (case k_law_cast => k_is)
    (case e_law_any_of => k_is)
    (case l_law_any_of => k_is)
    (case c_law_any_of => k_is)
    (case k_law_any_of => k_is)
    (case e_law_thing => k_is)
    (case l_law_thing => k_is)
    (case c_law_thing => k_is)
    (case k_law_thing => k_is)
    (case e_law_placed => k_is)
    (case l_law_placed => k_is)
    (case c_law_placed => k_is)
    (case k_law_placed => k_is)
    (case e_law_named => k_is)
    (case l_law_named => k_is)
    (case c_law_named => k_is)
    (case k_law_named => k_is)
    (case e_law_flags => k_is)
    (case l_law_flags => k_is)
    (case c_law_flags => k_is)
    (case k_law_flags => k_is)
    (case e_law_bases => k_is)
    (case l_law_bases => k_is)
    (case c_law_bases => k_is)
    (case k_law_bases => k_is)
    (case e_law_held => k_is)
    (case l_law_held => k_is)
    (case c_law_held => k_is)
    (case k_law_held => k_is)
    (case e_law_some_right => k_is)
    (case l_law_some_right => k_is)
    (case c_law_some_right => k_is)
    (case k_law_some_right => k_is)
    (case e_law_right => k_is)
    (case l_law_right => k_is)
    (case c_law_right => k_is)
    (case k_law_right => k_is)
    (case e_law => k_is)
    (case l_law => k_is)
    (case c_law => k_is)
    (case k_law => k_is)
    (case n_ArithmeticError => k_is)
    (case n_LookupError => k_is)
    (case n_ValueError => k_is)
    (case n_abs => k_is)
    (case n_all => k_is)
    (case n_divmod => k_is)
    (case n_int => k_is)
    (case n_isinstance => k_is)
    (case n_len => k_is)
    (case n_max => k_is)
    (case n_min => k_is)
    (case n_range => k_is)
    (case n_repr => k_is)
    (case e_LEVELS => k_is)
    (case y_LEVELS => k_is)
    (case e_MOST_LAMPS => k_is)
    (case e_MOST_STEPS => k_is)
    (case e_MOST_ROUNDS => k_is)
    (case e_MOST_PLACE => k_is)
    (case e_MOST_END => k_is)
    (case e_MOST_NEAR => k_is)
    (case e_MOST_TIMES => k_is)
    (case e_MOST_CHANGES => k_is)
    (case lastT =>
      subst hT
      exact ⟨T.d_law, T.bt_law, fun base KB NB => Mi.law_ok T⟩)
  case S =>
    intro K H a ns hn hb hS
    exact ⟨a, ns, rfl, hS, hn, hb, fun H' => rfl⟩
