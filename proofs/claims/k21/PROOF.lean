import PyProof.Rows.All
import Wide.All
import OpenK.AllK
import Wide.FinOn
import PyProof.ReprRoads
import HandS.ForMost
import HandS.EndBits
import HandS.Flow
import HandS.Style
import HandS.More
import HandS.Conv
import HandS.NoneIn
import HandS.Wide
import HandS.WideBits
import HandS.Slots
import HandS.SlotsOwn
import HandS.ClsMeth
import HandS.MakeKw
import HandS.MakeKwOnly
import HandS.Defaults
import HandS.FStr
import HandS.StrSplit
import HandS.SortInts
import HandS.IsInst
import HandS.RaiseMore
import HandS.Small
import HandS.TupAny
import HandS.Zip
import HandS.TupMul
import HandS.Deep
import HandS.Evl
import HandS.Iter
import HandS.Property
import HandS.Walk
import HandS.DictTup
import HandS.SortRule
import KE.GoesMore
import KE.KDictPairs
import HandS.DictEq
import KE.KEqNest
import PySem.Challenge.RW_lamprounds_k21_whole_rounds_that_commute
set_option Elab.async false
set_option linter.all false
set_option maxRecDepth 100000
set_option maxHeartbeats 4000000
/-! ## Defs that are known to run with no repr around them (A.guards = some []): FnG, its rules, the end -/
namespace Gd
open PySem PySem.Spec PyProof.Rows L2

/-- as FnOk, where moreover no guard is known to stand around -/
structure FnG (P : Program) (w : World) (K : PySem.W.Frag) (mg : Str → Option Value) (base : Heap) (CX : CXT) (k : Nat) (f : Addr) (fd : FuncData) (ps : List Str) (sp : Sp) : Prop where
  many : ∀ vs H Q E, sp vs H Q E → vs.length = ps.length
  goes : ∀ (A : Around) (outer : List Env) (s : Shared) (H : Hp) (args : Args) (us : List Value) (vs : List V) (Q : VK) (E : XK),
    A.guards = some [] → Room k A → Env0 P w K mg base A outer s H → BindsTo s fd args (ps.zip us) → Vals vs us → sp vs H Q E →
    codeAny (model P w) A (.call (.ref f) args) (CR CX outer P w H s Q E) s

section
variable {P : Program} {w : World} {K : PySem.W.Frag} {mg : Str → Option Value} {base : Heap} {CX : CXT} {k : Nat} {f : Addr} {fd : FuncData} {ps : List Str} {sp : Sp}
theorem FnG.of (F : FnOk P w K mg base CX k f fd ps sp) : FnG P w K mg base CX k f fd ps sp :=
  ⟨F.len, fun A o s H a us vs Q E _ => F.run A o s H a us vs Q E⟩

/-- what a body's reading gives of the def, at one place of call -/
theorem go_body {qual : Str} {scope : Scope} {N : List Str} {A : Around} {outer : List Env} {s : Shared} {H : Hp} {Q : VK} {E : XK} {f : Addr} {cdv : Value} {body : List Stmt} {t : TS} {vs : List V} {s1 : Shared}
    (ht : PSs (cxOf CX P w K mg base N qual scope f cdv A outer s H E) body t) (hq : t { nx := fun _ H' => Q .non H', rt := Q } (start N vs) H)
    (I : Inv (cxOf CX P w K mg base N qual scope f cdv A outer s H E) [] (start N vs) H s1) :
    wpAny (model P w) (A.deeper (envOfC qual scope s.heap.objs.size f cdv)) (execs body (envOfC qual scope s.heap.objs.size f cdv))
      (fun fl s' => match fl with
        | .ret u => CE outer P w H s Q u s'
        | .next => CE outer P w H s Q Value.none s'
        | _ => False)
      (cxOf CX P w K mg base N qual scope f cdv A outer s H E).xe s1 := by
  refine thn (ht.run [] s1 _ H _ I hq) ?_
  intro fl s' z
  cases fl with
  | next =>
    obtain ⟨σ', H', J, q⟩ := z
    exact ⟨V.non, H', J.os, J.bare, J.base, J.hok, rfl, q⟩
  | ret u =>
    obtain ⟨v, σ', H', J, rv, q⟩ := z
    exact ⟨v, H', J.os, J.bare, J.base, J.hok, rv, q⟩
  | brk => exact z.elim fun _ z => z.elim fun _ z => z.2.elim
  | cont => exact z.elim fun _ z => z.elim fun _ z => z.2.elim

/-- the rule for a def of the text -/
theorem okG {x qual : Str} {st : Stmt} {N : List Str} (F : Fun K x qual st f fd) (S : FnScope N ps (defScope st)) (many : ∀ vs H Q E, sp vs H Q E → vs.length = ps.length)
    (hbody : ∀ (cdv : Value) (A : Around) (outer : List Env) (s : Shared) (H : Hp) (vs : List V) (Q : VK) (E : XK), A.guards = some [] → Room k (A.deeper (envOfC qual (defScope st) s.heap.objs.size f cdv)) → sp vs H Q E →
      ∃ t, PSs (cxOf CX P w K mg base N qual (defScope st) f cdv A outer s H E) (defBody st) t ∧ t { nx := fun _ H' => Q .non H', rt := Q } (start N vs) H) :
    FnG P w K mg base CX (k + 1) f fd ps sp := by
  obtain ⟨oc, od, kV, doc, pm, an, cdv, ct, osl, rfl, lk, hcd⟩ := F.ex
  refine ⟨many, ?_⟩
  intro A outer s H args us vs Q E hg hr e0 hb r hsp
  have there : ∀ b o, base.get? b = some o → s.heap.get? b = some o := fun b o e => (e0.bs b o e).1
  have KX : K.In s.heap := e0.mod.kin.keeps there
  have par : ∀ y ∈ ps.zip us, (defScope st).names.lookup y.1 = some .local ∨ ((defScope st).names.lookup y.1 = some .cell ∧ ((cellsFrom (s.heap.objs.size + 1) (defScope st).names []).lookup y.1).isSome = true) := by
    rintro ⟨n, v⟩ hy
    exact (S.par n (List.of_mem_zip hy).1).elim .inl fun q => .inr ⟨q, PySem.W.cellsFrom_some _ _ _ (.inl q)⟩
  have enter := hb
  refine codeAny_call_function hr.depth (KX _ _ lk) rfl S.co S.gen rfl (PySem.W.codeRec_of KX hcd) (hb _ _ _ _ ?_)
  refine wpAny_newFunctionEnv_cells S.kind par ?_
  intro env he s1 x
  subst he
  refine ⟨(e0.mod.nolimit.keeps there).keeps x.toInCall.keep, codeAny_func ?_⟩
  obtain ⟨t, ht, hq⟩ := hbody cdv A outer s H vs Q E hg (hr.deeper _) hsp
  have I := inv_start (N := N) (CX := CX) (E := E) S hr.hd e0 (many _ _ _ _ hsp) r x
  refine wpAny_mono (go_body ht hq I) ?_ fun e s' z => z
  intro fl s' z
  cases fl with
  | next => exact z
  | ret u => exact z
  | brk => exact z.elim
  | cont => exact z.elim
end

section
variable {X : Cx} {CX : CXT} {k : Nat} {f : Addr} {fd : FuncData} {ps : List Str} {sp : Sp} {E : XK} {x : Str} {p pos : Pos} {e : Expr} {es : List Expr} {t : TA}
theorem runG {pins : List (Addr × Obj)} {σ : L2.St} {H : Hp} {s : Shared} {Q : VK} {us : List Value} {vs : List V} (F : FnG X.prog X.w X.K X.mg X.base CX k f fd ps sp) (hg : X.A.guards = some []) (hr : Room k X.A) (hb : Binds X.K fd ps []) (hx : Passes CX X E)
    (I : Inv X pins σ H s) (r : Vals vs us) (h : sp vs H Q E) : wpAny (model X.prog X.w) X.A (call (.ref f) us) (EP X pins σ Q) X.xe s := by
  have hl : (us ++ []).length = ps.length := by
    rw [List.append_nil, ← r.length]
    exact F.many _ _ _ _ h
  have bt := hb s us I.kIn hl
  rw [List.append_nil] at bt
  refine wpAny_call (codeAny_mono (F.goes X.A X.stack s H ⟨us, []⟩ us vs Q E hg hr I.env0 bt r h) ?_)
  intro res s' z
  match res, z with
  | .error e, z => exact hx pins σ H s e s' I z
  | .ok (.ret u), z => exact I.after z
/-- f(e, ..), f a def that asks for repr -/
theorem pe_callG (F : FnG X.prog X.w X.K X.mg X.base CX k f fd ps sp) (hgd : X.A.guards = some []) (hr : Room k X.A) (hg : Gl X x) (hm : X.mg x = some (.ref f)) (hk : PySem.W.keepIn X.K (.ref f) = true) (hb : Binds X.K fd ps []) (hx : Passes CX X E)
    (ha : PA X (e :: es) t) (hdb : (x == ("__debug__" : Str)) = false := by decide) (he : starEach (e :: es) X.env = (false, eval e X.env) :: starEach es X.env := by rfl) (hpl : (backTo pos (starEach es X.env)).any (·.1) = false := by rfl) :
    PE X (.Call (.Name x p) (e :: es) [] pos) (tCall sp [] E t) := by
  refine ⟨fun pins s σ H Q I h => wpAny_Call_Name_kw (ld_glob I hg hm ?_ hdb)⟩
  refine PySem.W.callWith_K (h₀ := X.base) I.ok.mod.kin hk (thn (ha.run pos pins s σ H _ I h) ?_) he hpl
  rintro us s1 ⟨vs, H1, I1, r, q⟩
  have q' : sp (vs ++ []) H1 Q E := q
  rw [List.append_nil] at q'
  exact ⟨I1.kIn, runG F hgd hr hb hx I1 r q'⟩

/-- repr of data -/
def rRepr (K : PySem.W.Frag) : List V → Hp → VK → Prop := fun xs H Q => ∃ (a : Addr) (d : PyData), xs = [.ref a] ∧ Dp K H (.ref a) d ∧ d.showable = true ∧ d.hasDict = false ∧ d.depth ≤ 40 ∧ d.shown.length ≤ sizeLine ∧ Q (.str d.shown) H
theorem call_repr (hgd : X.A.guards = some []) (hr : Room k X.A) : CallR X (.builtin "repr") (rRepr X.K) := by
  intro pins s σ H xs us Q I r h
  obtain ⟨a, d, rfl, hd, hs, hn, hdp, hz, q⟩ := h
  obtain ⟨u, rfl, ru⟩ := vals1 r
  obtain ⟨as, rd⟩ := Dp.reads I d (.ref a) u hd ru
  obtain rfl : u = Value.ref a := ru
  refine repr_of_reads' rd hs (PyData.noDict_hsm hn) hgd ?_ (fun _ _ z => z) ?_ hz
  · have := hr.un
    omega
  · intro h' u tk kp
    exact ⟨.str d.shown, H, I.kept (t' := tk) kp, ⟨_, rfl⟩, q⟩
end

/-! ### the end: the law's def is called on the script -/
section
variable {P : Program} {w : World} {K : PySem.W.Frag} {mg mb : Str → Option Value} {k : Nat} {fa a : Addr} {fd : FuncData} {x : Str} {sp : Sp} {s1 : Shared} {vs : List Value} {ns : List Int}
/-- a heap in which nothing but the script is tracked, as it stands -/
structure Alone (K : PySem.W.Frag) (H : Hp) (a : Addr) (vs : List Value) (ns : List Int) : Prop where
  seq : SqL K H a (ns.map V.int)
  only : ∀ b u, H b = some u → b = a ∧ u = .frz { cls := .type "list", data := .seq vs.toArray } (.lst (ns.map V.int)) ∧ K.lookup a = none
/-- as SqL, where it is known that it is not written -/
def LstK (K : PySem.W.Frag) (H : Hp) (a : Addr) (xs : List V) : Prop :=
  (∃ o, H a = some (.frz o (.lst xs))) ∨
    ∃ (o : Obj) (its : Array Value) (n : Nat), K.lookup a = some o ∧ o.cls = .type "list" ∧ o.dict = none ∧ o.data = .seq its n ∧ its.size ≤ sizeLine ∧ Vals xs its.toList
theorem Alone.lk {H : Hp} (h : Alone K H a vs ns) : LstK K H a (ns.map V.int) := by
  rcases h.seq with (z | z) | z
  · have e := (h.only _ _ z).2.1
    cases e
  · exact .inl z
  · exact .inr z
theorem alone (hk : K.In s1.heap) (ha : s1.heap.get? a = some { cls := .type "list", data := .seq vs.toArray }) (rv : Vals (ns.map V.int) vs) (hl : ns.length ≤ sizeLine) : ∃ H, Alone K H a vs ns := by
  cases e : K.lookup a with
  | none =>
    refine ⟨fun b => if b = a then some (.frz { cls := .type "list", data := .seq vs.toArray } (.lst (ns.map V.int))) else none, .inl (.inr ⟨_, if_pos rfl⟩), ?_⟩
    intro b u z
    by_cases hb : b = a
    · have z' : some (HO.frz { cls := .type "list", data := .seq vs.toArray } (.lst (ns.map V.int))) = some u := (if_pos hb).symm.trans z
      exact ⟨hb, (Option.some.inj z').symm, e⟩
    · have z' : (none : Option HO) = some u := (if_neg hb).symm.trans z
      cases z'
  | some o =>
    have z := hk a o e
    rw [ha] at z
    cases z
    have lv := rv.length
    rw [List.length_map] at lv
    refine ⟨fun _ => none, .inr ⟨_, vs.toArray, _, e, rfl, rfl, rfl, ?_, ?_⟩, ?_⟩
    · rw [List.size_toArray, ← lv]
      exact hl
    · simpa using rv
    · intro b u z
      have z' : (none : Option HO) = some u := z
      cases z'
theorem law_endG (KX : K.In s1.heap) (hns : s1.heap.Ns mainGlobals mg) (hb : s1.heap.Ns builtinsNs mb) (hbb : ∀ x : Str, x ≠ "__name__" → mb x = bootBuiltins x) (hlim : s1.heap.NoLimit) (hg : s1.gens = #[])
    (ha : s1.heap.get? a = some { cls := .type "list", data := .seq vs.toArray }) (hi : IntsAre vs ns) (hl : ns.length ≤ sizeLine) (hr : Room k callerA)
    (F : ∀ base : Heap, K.In base → base.Ns mainGlobals mg → FnG P w K mg base CX0 k fa fd [x] sp) (hbind : ∀ (s : Shared) (u : Value), BindsTo s fd ⟨[u], []⟩ [(x, u)])
    (hsp : ∀ H : Hp, LstK K H a (ns.map V.int) → sp [.ref a] H (fun v _ => v = .bl true) E0) :
    codeAny (model P w) callerA (.call (.ref fa) ⟨[.ref a], []⟩) (fun r s' => r = .ok (.ret (.bool true)) ∧ OldK s1.heap s'.heap ∧ s'.os = s1.os ∧ AllBare s'.gens) s1 := by
  have rv : Vals (ns.map V.int) vs := vals_ints hi
  obtain ⟨H, hH⟩ := alone KX ha rv hl
  have keep : ∀ {b : Addr} {o : Obj}, s1.heap.get? b = some o → (b = a → K.lookup a ≠ none ∨ o.data ≠ .seq vs.toArray) → (hidT s1.heap H).get? b = some o := by
    intro b o e h1
    refine hidT_get e ?_
    cases q : H b with
    | none => rfl
    | some u =>
      obtain ⟨eb, _, en⟩ := hH.only b u q
      subst eb
      rw [ha] at e
      cases e
      rcases h1 rfl with z | z
      · exact absurd en z
      · exact absurd rfl z
  have nsk : ∀ {b : Addr} {m : Str → Option Value}, s1.heap.Ns b m → (hidT s1.heap H).Ns b m := by
    rintro b m ⟨o, es, ep, e, d, z⟩
    refine ⟨o, es, ep, keep e fun _ => .inr ?_, d, z⟩
    rw [d]
    intro c
    cases c
  have kb : K.In (hidT s1.heap H) := by
    intro b o e
    refine keep (KX b o e) fun eb => .inl ?_
    rw [← eb, e]
    intro c
    cases c
  have md : Mod K mg (hidT s1.heap H) := by
    obtain ⟨mc, h1, h2⟩ := hlim
    exact ⟨kb, nsk hns, ⟨mb, nsk hb, hbb⟩, mc, nsk h1, h2⟩
  have hok : HOk P w H s1.heap := by
    intro b u z
    obtain ⟨e1, e2, _⟩ := hH.only b u z
    subst e1
    subst e2
    refine ⟨ha, ?_, vs, _, rv, ha⟩
    rw [List.length_map]
    exact hl
  have e0 : Env0 P w K mg (hidT s1.heap H) callerA [] s1 H := by
    refine ⟨rfl, md, fun b o e => of_hidT e, Nat.le_of_eq (hidT_size _ _), trivial, ?_, hok, .of_eq hg⟩
    intro b z
    cases (show b ∈ ([] : List Addr) from z)
  have main := (F _ kb (nsk hns)).goes callerA [] s1 H ⟨[.ref a], []⟩ [.ref a] [.ref a] _ _ rfl hr e0 (hbind s1 (.ref a)) (.cons rfl .nil) (hsp H hH.lk)
  refine codeAny_mono main ?_
  intro r s' z
  match r, z with
  | .error e, z => exact False.elim z
  | .ok (.ret u), z =>
    obtain ⟨v, H', os, bare, un, hok', r', q⟩ := z
    have q' : v = .bl true := q
    subst q'
    obtain rfl : u = Value.bool true := r'
    refine ⟨rfl, OldK.of_keep ?_, os, bare⟩
    intro b o e
    cases q : H b with
    | none => exact un.keep b o e q (fun z => nomatch (show b ∈ ([] : List Addr) from z)) (fun z => nomatch z)
    | some u =>
      obtain ⟨eb, eu, _⟩ := hH.only b u q
      subst eb
      subst eu
      have z2 := hok' _ _ (un.frzs _ _ _ q)
      rw [ha] at e
      cases e
      exact z2.1
/-- the goal that k_head leaves, from the law's promise -/
theorem walkG {l : PySem.W.OpenLaw} {q : Program} {loose : List Str} {XP : (Str → Option Value) → Heap → Prop} {YP : World → Heap → Prop} {d : DefRec} {K : Params → PySem.W.Frag} {sp : PySem.W.Frag → Sp} (hn : l.most = some 63) (hdf : d.params.defaults = []) (hr : Room k callerA)
    (hY : ∀ (w : World) (h : Heap), YP w h → (K w.params).In h)
    (F : ∀ (w : World) (mg : Str → Option Value) (fa : Addr) (h : Heap), (K w.params).In h → h.Ns mainGlobals mg → mg d.name = some (.ref fa) →
      ∃ fd : FuncData, (∀ (s : Shared) (u : Value), BindsTo s fd ⟨[u], []⟩ [(x, u)]) ∧ ∀ base : Heap, (K w.params).In base → base.Ns mainGlobals mg → FnG l.prog w (K w.params) mg base CX0 k fa fd [x] (sp (K w.params)))
    (hsp : ∀ (K : PySem.W.Frag) (H : Hp) (a : Addr) (ns : List Int), ns.length ≤ 63 → (∀ z ∈ ns, Builtin.Int.intBits z ≤ 1048576) → LstK K H a (ns.map V.int) → sp K [.ref a] H (fun v _ => v = .bl true) E0) :
    PySem.W.WalkO q loose XP YP l.row.toRowW d [] (fun f vs => PySem.call f vs) := by
  refine Att.attach_callB hn hdf ?_
  intro w s₀ s1 mg mb fa o pm cd doc a vs ns G Y ho hd hcd hmg hobj hints hlen hbits hg
  have KX := hY w _ Y
  obtain ⟨fd, hb, hF⟩ := F w mg fa _ KX G.T.g hmg
  exact law_endG KX G.T.g G.T.b G.T.builtins G.T.nolimit hg hobj hints (Nat.le_trans hlen (by decide)) hr hF hb fun H hS => hsp _ H a ns hlen hbits hS
end
end Gd

/-! ## Words of ours: what stays, what is read, steps -/
namespace Lamp
open PySem PySem.Spec PyProof.Rows L2
/-- the parts of a reading that answer themselves -/
local macro_rules | `(tactic| walk_at "n") => `(tactic| first | (show (0 : Int) < _; first | assumption | decide | omega) | (refine Or.inl ⟨?_, ?_⟩ <;> first | decide | omega) | (refine Or.inr ⟨?_, ?_⟩ <;> first | decide | omega) | (refine ⟨?_, ?_⟩ <;> first | decide | omega) | (refine ⟨?_, ?_, ?_⟩ <;> first | decide | omega) | omega | decide)
local macro_rules | `(tactic| walk_at "h") => `(tactic| first | assumption | exact L2.upd_same | exact L2.SqL.of (by assumption) | exact L2.SqT.of (by assumption) | exact L2.SqL.of L2.upd_same | exact L2.SqT.of L2.upd_same | exact Or.inl (Or.inr ⟨_, by assumption⟩))
local macro_rules | `(tactic| walk_at "g1") => `(tactic| first
  | (refine ⟨_, rfl, ?_⟩)
  | (refine ⟨_, _, rfl, rfl, (show L2.CMul _ _ from by walk_at "n"), ?_⟩)
  | (refine ⟨_, _, rfl, rfl, (show L2.CDiv _ _ from by walk_at "n"), ?_⟩)
  | (refine ⟨_, _, rfl, rfl, (show L2.CPow _ _ from by walk_at "n"), ?_⟩)
  | (refine ⟨_, _, rfl, rfl, (show (0 : Int) < _ from by walk_at "n"), ?_⟩)
  | (refine ⟨_, _, rfl, rfl, ?_⟩)
  | (refine Or.inl ⟨_, rfl, ?_⟩)
  | (refine ⟨_, _, _, _, rfl, rfl, (by walk_at "h"), (by assumption), ?_⟩)
  | (refine ⟨_, _, _, _, rfl, rfl, (by walk_at "h"), by rfl, ?_⟩)
  | (refine ⟨_, _, rfl, Or.inl (by walk_at "h"), ?_⟩)
  | (refine ⟨_, _, rfl, Or.inr (by walk_at "h"), ?_⟩)
  | (refine ⟨(show L2.scal _ _ = true from rfl), ?_⟩)
  | (refine ⟨_, _, _, _, _, _, _, rfl, (by assumption), (by assumption), (by assumption), rfl, ?_⟩)
  | (refine ⟨(show Nat.log2 _ < _ from by assumption), ?_⟩)
  | (refine ⟨(show PySem.Str.length _ ≤ _ from by assumption), ?_⟩)
  | (refine ⟨⟨_, rfl⟩, ?_⟩)
  | (refine ⟨(show _ = L2.V.non from rfl), ?_⟩)
  | (refine ⟨_, _, _, _, true, rfl, L2.ClsV.ty _, L2.TyX.base (.int _), L2.kit_ty (by decide +kernel), ?_⟩)
  | (refine ⟨_, _, _, _, true, rfl, L2.ClsV.ty _, L2.TyX.base (.tup (by walk_at "h")), L2.kit_ty (by decide +kernel), ?_⟩)
  | (refine ⟨_, _, _, _, true, rfl, L2.ClsV.ty _, L2.TyX.base (.str _), L2.kit_ty (by decide +kernel), ?_⟩)
  | (refine ⟨_, _, _, _, true, rfl, L2.ClsV.ty _, L2.TyX.base (.lst (by walk_at "h")), L2.kit_ty (by decide +kernel), ?_⟩)
  | (refine ⟨_, _, _, _, false, rfl, L2.ClsV.ty _, L2.TyX.base (.int _), L2.kit_ty (by decide +kernel), ?_⟩)
  | (refine ⟨_, _, _, _, false, rfl, L2.ClsV.ty _, L2.TyX.base (.tup (by walk_at "h")), L2.kit_ty (by decide +kernel), ?_⟩)
  | (refine ⟨_, _, _, _, false, rfl, L2.ClsV.ty _, L2.TyX.base (.str _), L2.kit_ty (by decide +kernel), ?_⟩)
  | (refine ⟨_, _, _, _, false, rfl, L2.ClsV.ty _, L2.TyX.base (.lst (by walk_at "h")), L2.kit_ty (by decide +kernel), ?_⟩)
  | (refine ⟨_, _, _, _, true, rfl, L2.ClsV.ty _, L2.TyX.fTuple (by assumption), L2.kit_ty (by decide +kernel), ?_⟩)
  | (refine ⟨_, _, _, _, false, rfl, L2.ClsV.ty _, L2.TyX.fTuple (by assumption), L2.kit_ty (by decide +kernel), ?_⟩)
  | fail "g")
local macro_rules | `(tactic| walk_at "g") => `(tactic| repeat' (walk_at "g1"))
/-- as "g", where what is known of a comparison decides it -/
local macro_rules | `(tactic| walk_at "d1") => `(tactic| first
  | (refine ⟨true, congrArg L2.V.bl (decide_eq_true (by assumption)), ?_⟩)
  | (refine ⟨false, congrArg L2.V.bl (decide_eq_false (by assumption)), ?_⟩)
  | (refine ⟨true, congrArg L2.V.bl (by assumption), ?_⟩)
  | (refine ⟨false, congrArg L2.V.bl (by assumption), ?_⟩)
  | (refine ⟨false, congrArg L2.V.bl (congrArg Bool.not (by assumption)), ?_⟩)
  | (refine ⟨true, congrArg L2.V.bl (congrArg Bool.not (by assumption)), ?_⟩)
  | walk_at "g1"
  | fail "d")
local macro_rules | `(tactic| walk_at "d") => `(tactic| repeat' (walk_at "d1"))
/-- all but what stands at a is as it was -/
def Oth (a : Addr) (H H' : Hp) : Prop := ∀ b o, H b = some o → b ≠ a → H' b = some o
theorem Oth.refl {a : Addr} (H : Hp) : Oth a H H := fun _ _ h _ => h
theorem Oth.trans {a : Addr} {H H1 H2 : Hp} (x : Oth a H H1) (y : Oth a H1 H2) : Oth a H H2 := fun b o h n => y b o (x b o h n) n
theorem Oth.of {a : Addr} {H H' : Hp} (s : Same H H') : Oth a H H' := fun b o h _ => s b o h
theorem Oth.put {a : Addr} {H H' : Hp} {o : HO} (x : Oth a H H') : Oth a H (upd H' a o) := fun b u h n => by
  rw [upd_ne n]
  exact x b u h n
theorem Same.new {H : Hp} {p : Addr} {o : HO} (h : H p = none) : Same H (upd H p o) := fun b u e => by
  rw [upd_ne (ne_of_none e h)]
  exact e
end Lamp

/-! ## Tables, pictures, rounds as they stand in the heap -/
namespace Lamp
open PySem PySem.Spec PyProof.Rows L2
theorem op_mulI {X : Cx} : OpR X (binaryOp .Mult) (rI IntMulOk fun i j => .int (i * j)) := opI fun _ _ _ _ _ _ _ hc q => mul_int q hc
theorem mul_ok_bits {i j : Int} (hi : Builtin.Int.intBits i ≤ 4000000) (hj : Builtin.Int.intBits j ≤ 4000000) : IntMulOk i j := by
  have e : bitsLine = 134217728 := by decide
  unfold IntMulOk
  intro z
  rw [Bool.and_eq_true] at z
  have z2 := z.2
  unfold Builtin.Int.intTooBig at z2
  have z3 := of_decide_eq_true z2
  rw [e] at z3
  omega
theorem Oth.ne {a b : Addr} {H H' : Hp} {o u : HO} (x : Oth a H H') (ha : H a = some u) (hb : H b = some o) (h : o ≠ u) : H' b = some o :=
  x b o hb fun e => h (by rw [e, ha] at hb; exact (Option.some.inj hb).symm)
theorem mem_cutV {xs : List V} {lo hi : Option Int} {v : V} {i : Nat} (h : (cutV xs lo hi)[i]? = some v) : v ∈ xs := by
  have h1 := List.mem_of_getElem? h
  unfold cutV at h1
  exact List.mem_of_mem_drop (List.mem_of_mem_take h1)
theorem int_of_mem {ns : List Int} {v : V} (h : v ∈ ns.map V.int) : ∃ z, v = .int z := by
  obtain ⟨z, _, e⟩ := List.mem_map.mp h
  exact ⟨z, e.symm⟩

/-! tables: int keys, int values -/
def dI (t : List (Int × Int)) : List (Key × V) := t.map fun ab => (Sum.inl ab.1, V.int ab.2)
def tget (t : List (Int × Int)) (k : Int) : Option Int := (t.find? fun ab => decide (ab.1 = k)).map (·.2)
def thas (t : List (Int × Int)) (k : Int) : Bool := t.any fun ab => decide (ab.1 = k)
def tput (t : List (Int × Int)) (k v : Int) : List (Int × Int) := if thas t k = true then t.map (fun ab => if ab.1 = k then (ab.1, v) else ab) else t ++ [(k, v)]
def tdel (t : List (Int × Int)) (k : Int) : List (Int × Int) := t.filter fun ab => decide (ab.1 ≠ k)
def keysOf (t : List (Int × Int)) : List Int := t.map (·.1)
theorem inl_dec (a b : Int) : decide ((Sum.inl a : Key) = Sum.inl b) = decide (a = b) := by
  by_cases h : a = b
  · subst h
    simp
  · have h2 : ¬ (Sum.inl a : Key) = Sum.inl b := fun q => h (Sum.inl.inj q)
    rw [decide_eq_false h, decide_eq_false h2]
theorem dI_get : ∀ (t : List (Int × Int)) (k : Int), valV (dI t) (Sum.inl k) = (tget t k).map V.int
  | [], k => rfl
  | ab :: r, k => by
    have ih := dI_get r k
    by_cases h : ab.1 = k
    · have e1 : valV (dI (ab :: r)) (Sum.inl k) = some (V.int ab.2) := valV_pos (p := ((Sum.inl ab.1 : Key), V.int ab.2)) (r := dI r) (by rw [← h])
      have e2 : tget (ab :: r) k = some ab.2 := by simp [tget, List.find?_cons, h]
      rw [e1, e2]
      rfl
    · have e1 : valV (dI (ab :: r)) (Sum.inl k) = valV (dI r) (Sum.inl k) := valV_neg (p := ((Sum.inl ab.1 : Key), V.int ab.2)) (r := dI r) (fun q => h (Sum.inl.inj q))
      have e2 : tget (ab :: r) k = tget r k := by simp [tget, List.find?_cons, h]
      rw [e1, e2, ih]
theorem dI_has (t : List (Int × Int)) (k : Int) : ((dI t).any fun kv => decide (kv.1 = Sum.inl k)) = thas t k := by
  unfold dI thas
  rw [List.any_map]
  congr 1
  funext ab
  exact inl_dec ab.1 k
theorem dI_put (t : List (Int × Int)) (k v : Int) : putK (dI t) (Sum.inl k) (.int v) = dI (tput t k v) := by
  unfold putK tput
  rw [dI_has]
  by_cases h : thas t k = true
  · rw [if_pos h, if_pos h]
    unfold dI
    rw [List.map_map, List.map_map]
    congr 1
    funext ab
    show (if (Sum.inl ab.1 : Key) = Sum.inl k then ((Sum.inl ab.1 : Key), V.int v) else ((Sum.inl ab.1 : Key), V.int ab.2)) = ((Sum.inl (if ab.1 = k then (ab.1, v) else ab).1 : Key), V.int (if ab.1 = k then (ab.1, v) else ab).2)
    by_cases e : ab.1 = k
    · rw [if_pos e, if_pos (by rw [e])]
    · rw [if_neg e, if_neg fun q => e (Sum.inl.inj q)]
  · rw [if_neg h, if_neg h]
    unfold dI
    rw [List.map_append]
    rfl
theorem dI_del (t : List (Int × Int)) (k : Int) : dropK (dI t) (Sum.inl k) = dI (tdel t k) := by
  unfold dropK tdel dI
  rw [List.filter_map]
  congr 1
  congr 1
  funext ab
  show decide ((Sum.inl ab.1 : Key) ≠ Sum.inl k) = decide (ab.1 ≠ k)
  by_cases h : ab.1 = k
  · subst h
    simp
  · have h2 : (Sum.inl ab.1 : Key) ≠ Sum.inl k := fun q => h (Sum.inl.inj q)
    rw [decide_eq_true h2, decide_eq_true h]
theorem dI_keys (t : List (Int × Int)) : (dI t).map (fun kv => kV kv.1) = (keysOf t).map V.int := by
  unfold dI keysOf
  rw [List.map_map, List.map_map]
  rfl
theorem dI_len (t : List (Int × Int)) : (dI t).length = t.length := List.length_map _
theorem thas_mem {t : List (Int × Int)} {k : Int} : thas t k = true ↔ k ∈ keysOf t := by
  unfold thas keysOf
  rw [List.any_eq_true, List.mem_map]
  constructor
  · rintro ⟨ab, h, e⟩
    exact ⟨ab, h, of_decide_eq_true e⟩
  · rintro ⟨ab, h, e⟩
    exact ⟨ab, h, decide_eq_true e⟩
theorem keys_tput (t : List (Int × Int)) (k v : Int) : keysOf (tput t k v) = if thas t k = true then keysOf t else keysOf t ++ [k] := by
  unfold tput
  by_cases h : thas t k = true
  · rw [if_pos h, if_pos h]
    unfold keysOf
    rw [List.map_map]
    congr 1
    funext ab
    show (if ab.1 = k then (ab.1, v) else ab).1 = ab.1
    split <;> rfl
  · rw [if_neg h, if_neg h]
    unfold keysOf
    rw [List.map_append]
    rfl
theorem nodup_tput {t : List (Int × Int)} (k v : Int) (h : (keysOf t).Nodup) : (keysOf (tput t k v)).Nodup := by
  rw [keys_tput]
  by_cases e : thas t k = true
  · rw [if_pos e]
    exact h
  · rw [if_neg e]
    exact nd_snoc h fun m => e (thas_mem.mpr m)
theorem len_tput (t : List (Int × Int)) (k v : Int) : (tput t k v).length ≤ t.length + 1 := by
  unfold tput
  split
  · rw [List.length_map]
    omega
  · rw [List.length_append]
    exact Nat.le_refl _
theorem mem_tput {t : List (Int × Int)} {k v : Int} {ab : Int × Int} (h : ab ∈ tput t k v) : ab ∈ t ∨ ab = (k, v) := by
  unfold tput at h
  split at h
  · obtain ⟨cd, hc, e⟩ := List.mem_map.mp h
    by_cases q : cd.1 = k
    · rw [if_pos q] at e
      right
      rw [← e, q]
    · rw [if_neg q] at e
      left
      rw [← e]
      exact hc
  · rcases List.mem_append.mp h with h | h
    · exact .inl h
    · exact .inr (List.mem_singleton.mp h)
theorem tget_mem {t : List (Int × Int)} {k v : Int} (h : tget t k = some v) : (k, v) ∈ t := by
  unfold tget at h
  cases e : t.find? fun ab => decide (ab.1 = k) with
  | none =>
    rw [e] at h
    cases h
  | some ab =>
    rw [e] at h
    have h1 := List.find?_some e
    have h2 : ab.1 = k := of_decide_eq_true h1
    have h3 : ab.2 = v := Option.some.inj h
    rw [← h2, ← h3]
    exact List.mem_of_find?_eq_some e
theorem tget_of_key {t : List (Int × Int)} {k : Int} (h : k ∈ keysOf t) : ∃ v, tget t k = some v := by
  unfold tget
  cases e : t.find? fun ab => decide (ab.1 = k) with
  | none =>
    rw [List.find?_eq_none] at e
    obtain ⟨ab, ha, q⟩ := List.mem_map.mp h
    exact absurd (decide_eq_true q) (e ab ha)
  | some ab => exact ⟨_, rfl⟩

/-! pictures: tuples of pairs; the tuple itself is a plain object that stays as it is -/
def plainT (its : List Value) : Obj := { cls := .type "tuple", data := .seq its.toArray }
def TupF (H : Hp) (t : Addr) (vs : List V) : Prop := ∃ its : List Value, H t = some (.frz (plainT its) (.tup vs))
theorem sqF {K : PySem.W.Frag} {H : Hp} {a : Addr} {o : Obj} {xs : List V} (h : H a = some (.frz o (.tup xs))) : SqT K H a xs := Or.inl (Or.inr ⟨_, h⟩)
def At2 (H : Hp) (v : V) (ab : Int × Int) : Prop := ∃ q, v = .ref q ∧ H q = some (.tup [.int ab.1, .int ab.2])
def Pic (H : Hp) (t : Addr) (ls : List (Int × Int)) : Prop := ∃ vs, TupF H t vs ∧ Paired (At2 H) vs ls
theorem At2.same {H H' : Hp} {v : V} {ab : Int × Int} (s : Same H H') (h : At2 H v ab) : At2 H' v ab := by
  obtain ⟨q, e, h⟩ := h
  exact ⟨q, e, s _ _ h⟩
theorem Pic.same {H H' : Hp} {t : Addr} {ls : List (Int × Int)} (s : Same H H') (h : Pic H t ls) : Pic H' t ls := by
  obtain ⟨vs, ⟨its, h1⟩, h2⟩ := h
  exact ⟨vs, ⟨its, s _ _ h1⟩, Paired.mapP h2 fun _ _ => At2.same s⟩
theorem Pic.oth {a : Addr} {H H' : Hp} {t : Addr} {ls : List (Int × Int)} {ys : List V} (s : Oth a H H') (ha : H a = some (.lst ys)) (h : Pic H t ls) : Pic H' t ls := by
  obtain ⟨vs, ⟨its, h1⟩, h2⟩ := h
  exact ⟨vs, ⟨its, s.ne ha h1 fun e => by cases e⟩, Paired.mapP h2 fun _ _ ⟨q, e, h⟩ => ⟨q, e, s.ne ha h fun e => by cases e⟩⟩
/-- a right picture of p levels, its places of moderate size -/
structure Good (p : Int) (ls : List (Int × Int)) : Prop where
  asc : (keysOf ls).Pairwise (· < ·)
  lev : ∀ ab ∈ ls, 0 < ab.2 ∧ ab.2 < p
/-- numbers whose texts fit -/
def Fin1 (i : Int) : Prop := -(10 ^ 200) < i ∧ i < 10 ^ 200
end Lamp
namespace Lamp
open PySem PySem.Spec PyProof.Rows L2
theorem Paired.snoc {α β : Type} {F : α → β → Prop} : ∀ {l₁ : List α} {l₂ : List β} {a : α} {b : β}, Paired F l₁ l₂ → F a b → Paired F (l₁ ++ [a]) (l₂ ++ [b])
  | _, _, _, _, .nil, h => .cons h .nil
  | _, _, _, _, .cons r t, h => .cons r (Paired.snoc t h)
/-- a list at D, new since H0, that holds new pairs -/
structure Grow (H0 : Hp) (D : Addr) (H : Hp) (vs : List V) (ls : List (Int × Int)) : Prop where
  new : H0 D = none
  lst : H D = some (.lst vs)
  all : Paired (At2 H) vs ls
  same : Same H0 H
theorem Grow.start {H0 : Hp} {D : Addr} (h : H0 D = none) : Grow H0 D (upd H0 D (.lst [])) [] [] := ⟨h, upd_same, .nil, Same.new h⟩
theorem Grow.more {H0 H : Hp} {D : Addr} {vs : List V} {ls : List (Int × Int)} (g : Grow H0 D H vs ls) {q : Addr} (hq : H q = none) (a b : Int) :
    Grow H0 D (upd (upd H q (.tup [.int a, .int b])) D (.lst (vs ++ [.ref q]))) (vs ++ [.ref q]) (ls ++ [(a, b)]) := by
  have nDq : q ≠ D := (ne_of_none g.lst hq).symm
  refine ⟨g.new, upd_same, Paired.snoc (Paired.mapP g.all ?_) ⟨q, rfl, ?_⟩, ?_⟩
  · rintro v ab ⟨r, e, h⟩
    refine ⟨r, e, ?_⟩
    have n1 : r ≠ D := ne_of h g.lst (fun c => by cases c)
    have n2 : r ≠ q := ne_of_none h hq
    rw [upd_ne n1, upd_ne n2]
    exact h
  · rw [upd_ne nDq, upd_same]
  · intro b o e
    have n1 : b ≠ D := ne_of_none e g.new
    have n2 : b ≠ q := ne_of_none (g.same _ _ e) hq
    rw [upd_ne n1, upd_ne n2]
    exact g.same _ _ e
theorem take_more {α : Type} : ∀ {l : List α} {i : Nat} {x : α}, l[i]? = some x → l.take (i + 1) = l.take i ++ [x]
  | [], i, x, h => by simp at h
  | a :: l, 0, x, h => by
    have e : a = x := Option.some.inj h
    subst e
    rfl
  | a :: l, i + 1, x, h => by
    have ih := take_more (l := l) (i := i) (x := x) h
    show a :: l.take (i + 1) = a :: l.take i ++ [x]
    rw [ih]
    rfl
theorem Paired.len {α β : Type} {F : α → β → Prop} {l₁ : List α} {l₂ : List β} (h : Paired F l₁ l₂) : l₁.length = l₂.length := PySem.Paired.length h
theorem int_at {ns : List Int} {i : Nat} {v : V} (h : (ns.map V.int)[i]? = some v) : ∃ z, ns[i]? = some z ∧ v = .int z := by
  rw [List.getElem?_map] at h
  cases e : ns[i]? with
  | none =>
    rw [e] at h
    cases h
  | some z =>
    rw [e] at h
    exact ⟨z, rfl, (Option.some.inj h).symm⟩
/-- strictly rising: in order and all different -/
theorem rising {ns : List Int} (h : ns.Pairwise (· ≤ ·)) (n : ns.Nodup) : ns.Pairwise (· < ·) := by
  induction ns with
  | nil => exact List.Pairwise.nil
  | cons a r ih =>
    rw [List.pairwise_cons] at h ⊢
    rw [List.nodup_cons] at n
    exact ⟨fun b hb => by
      have h1 := h.1 b hb
      have h2 : a ≠ b := fun e => n.1 (e ▸ hb)
      omega, ih h.2 n.2⟩
theorem map_fst_pair {α : Type} (f : Int → α) (ns : List Int) : (ns.map fun k => (k, f k)).map (·.1) = ns := by
  rw [List.map_map]
  exact List.map_id' ns
end Lamp

/-! ## Texts of numbers and of rounds -/
namespace Lamp
open PySem PySem.Spec PyProof.Rows L2 TL
def iS (i : Int) : Str := Str.ofString (toString i)
/-- the signs of a number, also below 0 -/
def numS (i : Int) : List Nat := if i < 0 then 45 :: numL i.natAbs else numL i.natAbs
theorem ofString_append (a b : String) : tl (Str.ofString (a ++ b)) = tl (Str.ofString a) ++ tl (Str.ofString b) := by
  show (Str.ofString (a ++ b)).cps.toList = (Str.ofString a).cps.toList ++ (Str.ofString b).cps.toList
  rw [signs_ofString, signs_ofString, signs_ofString, String.toList_append, List.map_append]
theorem tl_iS (i : Int) : tl (iS i) = numS i := by
  unfold iS numS
  by_cases h : i < 0
  · rw [if_pos h]
    obtain ⟨n, rfl⟩ : ∃ n : Nat, i = -((n : Int) + 1) := ⟨(-i - 1).toNat, by omega⟩
    have e1 : toString (-((n : Int) + 1)) = "-" ++ toString ((n + 1 : Nat) : Int) := by
      have e0 : -((n : Int) + 1) = Int.negSucc n := by omega
      rw [e0]
      rfl
    have e2 : (-((n : Int) + 1)).natAbs = n + 1 := by omega
    rw [e1, ofString_append, e2, tl_num]
    rfl
  · rw [if_neg h]
    obtain ⟨n, rfl⟩ : ∃ n : Nat, i = (n : Int) := ⟨i.toNat, by omega⟩
    rw [tl_num]
    rfl
theorem numS_free {i : Int} {s : Nat} (h : s < 45 ∨ 57 < s) : s ∉ numS i := by
  unfold numS
  split
  · intro m
    rcases List.mem_cons.mp m with m | m
    · omega
    · exact numL_free (by omega) m
  · exact numL_free (by omega)
theorem numS_inj {i j : Int} (h : numS i = numS j) : i = j := by
  unfold numS at h
  have no : ∀ {m n : Nat}, 45 :: numL m ≠ numL n := by
    intro m n e
    have : 45 ∈ numL n := by
      rw [← e]
      exact List.mem_cons_self ..
    exact numL_free (Or.inl (by decide)) this
  split at h
  · split at h
    · have e := numL_inj (List.cons.inj h).2
      omega
    · exact absurd h no
  · split at h
    · exact absurd h.symm no
    · have e := numL_inj h
      omega
theorem Fin1.nat {i : Int} (h : Fin1 i) : i.natAbs < 10 ^ 200 := by
  obtain ⟨h1, h2⟩ := h
  have e : ((10 ^ 200 : Nat) : Int) = 10 ^ 200 := by decide +kernel
  omega
theorem numS_len {i : Int} (h : Fin1 i) : (numS i).length ≤ 201 := by
  have e := numL_len (n := i.natAbs) (k := 200) (by decide) h.nat
  unfold numS
  split
  · rw [List.length_cons]
    omega
  · omega
theorem numS_ne (i : Int) : numS i ≠ [] := by
  unfold numS
  split
  · simp
  · exact numL_ne _
theorem iS_len {i : Int} (h : Fin1 i) : (iS i).length ≤ 201 := by
  rw [len_tl, tl_iS]
  exact numS_len h
theorem log_lt {n k : Nat} (h : n < 2 ^ k) (hk : 0 < k) : n.log2 < k := PySem.Flt.log2_lt_of hk h
theorem Fin1.log {i : Int} (h : Fin1 i) : i.natAbs.log2 < 1920 := by
  refine Nat.lt_of_lt_of_le (log_lt (k := 700) (Nat.lt_of_lt_of_le h.nat ?_) (by decide)) (by decide)
  decide +kernel
theorem int_iS {i : Int} (h : Fin1 i) : intText? (iS i) = some i := by
  have hl := iS_len h
  by_cases hn : i < 0
  · have e : tl (iS i) = 45 :: numL i.natAbs := by
      rw [tl_iS]
      unfold numS
      rw [if_pos hn]
    have z := intText_neg (x := iS i) (cs := numL i.natAbs) e (numL_digits _) (numL_ne _) (by omega)
    rw [z, numL_val]
    congr 1
    omega
  · obtain ⟨n, rfl⟩ : ∃ n : Nat, i = (n : Int) := ⟨i.toNat, by omega⟩
    refine int_num ?_
    have e := numS_len h
    unfold numS at e
    rw [if_neg hn] at e
    exact Nat.le_trans e (by decide)
theorem str_eq {a b : Str} (h : tl a = tl b) : a = b := ext_tl h
theorem iS_inj {i j : Int} (h : iS i = iS j) : i = j := by
  have e := congrArg tl h
  rw [tl_iS, tl_iS] at e
  exact numS_inj e

/-! the words of a round -/
def colon : Str := ":"
def space : Str := " "
def lampW (ab : Int × Int) : Str := iS ab.1 ++ colon ++ iS ab.2
def wordsT (p : Int) (ls : List (Int × Int)) (e : Int) : List Str := (("levels" : Str) :: iS p :: ("end" : Str) :: iS e :: (if ls = [] then ("dark" : Str) else ("lamps" : Str)) :: ls.map lampW)
def textT (p : Int) (ls : List (Int × Int)) (e : Int) : Str := Txt.join space (wordsT p ls e)
theorem tl_space : tl space = [32] := by decide +kernel
theorem tl_colon : tl colon = [58] := by decide +kernel
theorem tl_lampW (ab : Int × Int) : tl (lampW ab) = numS ab.1 ++ [58] ++ numS ab.2 := by
  unfold lampW
  rw [tl_append, tl_append, tl_iS, tl_iS, tl_colon]
theorem lampW_free {ab : Int × Int} : 32 ∉ tl (lampW ab) := by
  rw [tl_lampW]
  intro m
  rcases List.mem_append.mp m with m | m
  · rcases List.mem_append.mp m with m | m
    · exact numS_free (by omega) m
    · simp at m
  · exact numS_free (by omega) m
theorem words_free {p : Int} {ls : List (Int × Int)} {e : Int} : ∀ y ∈ wordsT p ls e, 32 ∉ tl y := by
  intro y hy
  unfold wordsT at hy
  rcases List.mem_cons.mp hy with rfl | hy
  · decide +kernel
  rcases List.mem_cons.mp hy with rfl | hy
  · rw [tl_iS]
    exact numS_free (by omega)
  rcases List.mem_cons.mp hy with rfl | hy
  · decide +kernel
  rcases List.mem_cons.mp hy with rfl | hy
  · rw [tl_iS]
    exact numS_free (by omega)
  rcases List.mem_cons.mp hy with rfl | hy
  · split <;> decide +kernel
  · obtain ⟨ab, _, rfl⟩ := List.mem_map.mp hy
    exact lampW_free
theorem split_text (p : Int) (ls : List (Int × Int)) (e : Int) : Txt.split (textT p ls e) space = wordsT p ls e := by
  refine split_join (s := 32) (S := []) tl_space (by decide +kernel) (by unfold wordsT; simp) words_free
theorem split_lamp (ab : Int × Int) : Txt.split (lampW ab) colon = [iS ab.1, iS ab.2] := by
  have e : lampW ab = Txt.join colon [iS ab.1, iS ab.2] := by
    rw [join_eq]
    rfl
  rw [e]
  refine split_join (s := 58) (S := []) tl_colon (by decide +kernel) (by simp) ?_
  intro y hy
  simp only [List.mem_cons, List.not_mem_nil, or_false] at hy
  rcases hy with rfl | rfl
  · rw [tl_iS]
    exact numS_free (by omega)
  · rw [tl_iS]
    exact numS_free (by omega)
theorem lampW_inj {ab cd : Int × Int} (h : lampW ab = lampW cd) : ab = cd := by
  have e := congrArg (fun z => Txt.split z colon) h
  simp only [split_lamp] at e
  injection e with e1 e2
  injection e2 with e2 e3
  exact Prod.ext (iS_inj e1) (iS_inj e2)
theorem map_inj {α β : Type} {f : α → β} (hf : ∀ a b, f a = f b → a = b) : ∀ {l m : List α}, l.map f = m.map f → l = m
  | [], [], _ => rfl
  | [], b :: m, h => by simp at h
  | a :: l, [], h => by simp at h
  | a :: l, b :: m, h => by
    rw [List.map_cons, List.map_cons] at h
    injection h with h1 h2
    rw [hf a b h1, map_inj hf h2]
/-- unlike rounds have unlike texts -/
theorem textT_inj {p p' e e' : Int} {ls ls' : List (Int × Int)} (h : textT p ls e = textT p' ls' e') : p = p' ∧ ls = ls' ∧ e = e' := by
  have z := congrArg (fun z => Txt.split z space) h
  simp only [split_text] at z
  unfold wordsT at z
  injection z with _ z
  injection z with z1 z
  injection z with _ z
  injection z with z2 z
  injection z with _ z3
  exact ⟨iS_inj z1, map_inj (fun _ _ => lampW_inj) z3, iS_inj z2⟩
theorem join_cons (y a b : Str) (r : List Str) : Txt.join y (a :: b :: r) = a ++ y ++ Txt.join y (b :: r) := by
  rw [join_eq, join_eq]
  rfl
theorem app_assoc (a b c : Str) : a ++ b ++ c = a ++ (b ++ c) := str_eq (by rw [tl_append, tl_append, tl_append, tl_append, List.append_assoc])
theorem join_one (y a : Str) : Txt.join y [a] = a := by
  rw [join_eq]
  rfl
/-- the text, put together from the left -/
theorem textT_glued (p : Int) (ls : List (Int × Int)) (e : Int) :
    ("levels " : Str) ++ iS p ++ (" end " : Str) ++ iS e ++ space ++ (if ls = [] then ("dark" : Str) else ("lamps " : Str) ++ Txt.join space (ls.map lampW)) = textT p ls e := by
  have e1 : ("levels " : Str) = ("levels" : Str) ++ space := by decide +kernel
  have e2 : (" end " : Str) = space ++ ("end" : Str) ++ space := by decide +kernel
  have e3 : ("lamps " : Str) = ("lamps" : Str) ++ space := by decide +kernel
  unfold textT wordsT
  rw [join_cons, join_cons, join_cons, join_cons, e1, e2]
  cases ls with
  | nil =>
    rw [if_pos rfl, if_pos rfl, List.map_nil, join_one]
    simp only [app_assoc]
  | cons ab r =>
    rw [if_neg (by simp), if_neg (by simp), List.map_cons, join_cons, e3]
    simp only [app_assoc]
end Lamp

/-! ## Instances with slots: str, len, repr, truth, != by their own defs -/
namespace Lamp
open PySem PySem.Spec PyProof.Rows L2 SlX
section
variable {M : Model} {prog : Program} {w : World} {A : Around} {E : Value → Shared → Prop} {s : Shared} {K : PySem.W.Frag} {x C f : Addr} {ox : Obj} {od : Option Obj} {b tb : Value}
/-- a special method that is a built-in one, called if it is there -/
theorem ifBound_blt {name : Str} {id : String} {more : List Value} {Q : Option Value → Shared → Prop} (X : K.In s.heap) (I : PySem.W.InstAt s.heap x ox C od) (hs : PySem.W.findIn K (.ref C) name = some (some (.builtin id)))
    (bd : ∀ self, bindSpecial (.builtin id) self = pure (.builtin id, [self])) (go : wpAny M A (call (.builtin id) (.ref x :: more)) (fun v => Q (some v)) E s) :
    wpAny M A (callSpecialIfBound? (.ref x) name more) Q E s := by
  unfold callSpecialIfBound? bindSpecialIfBound?
  refine wpAny_holding (wpAny_bind ?_)
  refine wpAny_bind (wpAny_bind (I.type.here ((PySem.W.looks_findIn X hs).here ?_)))
  have last : wpAny M A (call (.builtin id) ([.ref x] ++ more) >>= fun v => pure (some v)) Q E s := wpAny_bind (thn go fun _ _ z => wpAny_pure z)
  have here : wpAny M A (bindSpecial (.builtin id) (.ref x)) (fun r s' => wpAny M A (call r.1 (r.2 ++ more) >>= fun v => pure (some v)) Q E s') E s := by
    rw [bd]
    exact wpAny_pure last
  refine wpAny_bind (wpAny_askSetting (wpAny_ite ?_))
  split
  · exact wpAny_bind (thn here fun r s' z => wpAny_pure z)
  · exact wpAny_tryCatch (wpAny_bind (by rw [bd]; exact wpAny_pure (wpAny_pure (by exact last))))
/-- object.__ne__ over an own __eq__ -/
theorem ne_call {Q : Value → Shared → Prop} (hu : A.in1.units < cLine) (X : K.In s.heap) (I : PySem.W.InstAt s.heap x ox C od) (hm : PySem.W.mroIn K C (.type "object") = some true)
    (he : PySem.W.findIn K (.ref C) "__eq__" = some (some (.ref f))) (hf : PySem.W.isFn K (.ref f) = true)
    (go : wpAny (model prog w) A.in1 (call (.ref f) [.ref x, b]) (fun v s' => ∃ c, v = .bool c ∧ Q (.bool (!c)) s') E s) : wpAny (model prog w) A (call (.builtin "object.__ne__") [.ref x, b]) Q E s := by
  have chk := fun (M : Model) (A : Around) (E : Value → Shared → Prop) (q : Unit → Shared → Prop) => PySem.W.check_slot (M := M) (A := A) (E := E) (s := s) (i := "object.__ne__") (owner := "object") (n := "__ne__") (self := .ref x) (rest := [b]) (kw := []) (Q := q) F.cmpKind_ne F.cmpSplit_ne
    (I.type.andThen (PySem.W.looks_mroIn X hm)) (F.cmpArgs_ne _ _)
  refine wpAny_call (codeAny_call_builtin F.cmp_object.ne.plain F.cmpEntry_ne (chk _ _ _ _ ?_))
  unfold Builtin.«object.__ne__»
  refine wpAny_bind (m := slotArgs "__ne__" 1 _) (wpAny_pure ?_)
  refine wpAny_bind (m := cRoomFor _ _) (wpAny_cRoomFor hu ?_)
  refine wpAny_bind (m := callSpecialIfBound? (.ref x) (Str.ofString "__eq__") _) ?_
  refine PySem.W.ifBound_K X I he hf (wpAny_mono go ?_ fun _ _ y => y)
  rintro r s' ⟨c, rfl, q⟩
  show wpAny _ _ (truthy (.bool c) >>= _) _ _ _
  exact wpAny_bind (wpAny_truthy_bool (wpAny_pure q))
theorem ne_own {Q : Value → Shared → Prop} (hu0 : A.units < cLine) (hu : A.in1.units < cLine) (X : K.In s.heap) (I : PySem.W.InstAt s.heap x ox C od) (hb : PySem.W.Looks (model prog w) s.heap (typeOf b) tb) (hn : PySem.W.notFirst K C tb = true) (hm : PySem.W.mroIn K C (.type "object") = some true)
    (hne : PySem.W.findIn K (.ref C) "__ne__" = some (some (.builtin "object.__ne__"))) (he : PySem.W.findIn K (.ref C) "__eq__" = some (some (.ref f))) (hf : PySem.W.isFn K (.ref f) = true)
    (go : wpAny (model prog w) A.in1 (call (.ref f) [.ref x, b]) (fun v s' => ∃ c, v = .bool c ∧ Q (.bool (!c)) s') E s) : wpAny (model prog w) A (richCompare .NotEq (.ref x) b) Q E s := by
  have one : wpAny (model prog w) A (tryCompare (.ref x) (cmpInfo .NotEq).2.1 b) (fun r s' => ∃ v, r = some v ∧ Q v s') E s := by
    unfold tryCompare
    refine wpAny_bind (ifBound_blt X I hne F.cmp_object.ne.bind (ne_call hu X I hm he hf (wpAny_mono go ?_ fun _ _ y => y)))
    rintro v s' ⟨c, rfl, q⟩
    exact ⟨c, rfl, wpAny_pure ⟨_, rfl, q⟩⟩
  have two : ∀ {R : Value → Shared → Prop} {g : Option Value → Sem Value}, (∀ v s', Q v s' → wpAny (model prog w) A (g (some v)) R E s') → wpAny (model prog w) A (tryCompare (.ref x) (cmpInfo .NotEq).2.1 b >>= g) R E s := by
    intro R g hg
    refine wpAny_bind (wpAny_mono one ?_ fun _ _ y => y)
    rintro r s' ⟨v, rfl, q⟩
    exact hg v s' q
  unfold richCompare
  simp only [oneThing_ref]
  refine wpAny_holding ?_
  refine wpAny_bind (wpAny_cRoomFor hu0 ?_)
  refine wpAny_bind (I.type.here ?_)
  refine wpAny_bind (hb.here ?_)
  by_cases q : (Value.ref C != tb) = true
  · have e : PySem.W.subIn K tb (.ref C) = some false := by
      rcases Bool.or_eq_true_iff.mp hn with e | e
      · rw [beq_iff_eq.mp e] at q
        simp at q
      · exact beq_iff_eq.mp e
    rw [if_pos q]
    refine wpAny_bind ((PySem.W.looks_subIn X e).here ?_)
    simp only [Bool.false_eq_true, if_false]
    exact two fun v s' z => wpAny_pure z
  · rw [if_neg q]
    refine wpAny_bind (wpAny_pure ?_)
    simp only [Bool.false_eq_true, if_false]
    exact two fun v s' z => wpAny_pure z
end
section
variable {X : Cx} {CX : CXT} {C g : Addr} {n : Nat} {sp : Sp} {E : XK}
/-- str(x) of an instance with slots whose class has __str__ at g -/
def rStrOwn (C : Addr) (sp : Sp) (E : XK) : List V → Hp → VK → Prop := fun xs H Q => ∃ a dx vs, xs = [V.ref a] ∧ Slt H a C dx vs ∧ sp [.ref a] H (fun z H' => ∃ y, z = .str y ∧ Q z H') E
theorem strback {Q : Value → Shared → Prop} {v : Value} {s' : Shared} {y : Str} {t : Tok} (e : v = .str y t) (h : Q v s') : PySem.W.StrBack Q v s' := by
  subst e
  exact h
theorem call_strOwn (hs : PySem.W.findIn X.K (.ref C) "__str__" = some (some (.ref g))) (hf : PySem.W.isFn X.K (.ref g) = true) (F : FnR X.prog X.w X.K X.mg X.base CX n g sp) (hr : Room (n + 2) X.A) (hx : Passes CX X E) : CallR X (.type "str") (rStrOwn C sp E) := by
  intro pins s σ H xs us Q I r h
  obtain ⟨a, dx, vs, rfl, hsl, q⟩ := h
  obtain ⟨u, rfl, ru⟩ := vals1 r
  obtain rfl : u = Value.ref a := ru
  obtain ⟨sl, od, _, J, _⟩ := slt_inst I hsl
  have r1 : Room (n + 1) X.A.in1 := Room.in1 hr
  have r2 : Room n X.A.in1.in1 := Room.in1 r1
  refine PySem.W.kso_call r2.units0 I.kIn J hs hf (wpAny_mono (wpAny_call (run_at (us := [.ref a]) (ws := [.ref a]) F r2 I.env0.in1.in1 hx I (.cons rfl .nil) q)) ?_ fun _ _ y => y)
  rintro v s' ⟨z, H', I', rz, y, ez, qz⟩
  subst ez
  obtain ⟨t, e⟩ := (show ∃ t, v = Value.str y t from rz)
  exact strback e ⟨.str y, H', I', ⟨t, e⟩, qz⟩
/-- x != y, x an instance with slots whose class has __eq__ at g, y an instance too -/
def rNeOwn (K : PySem.W.Frag) (C : Addr) (sp : Sp) (E : XK) : R2 := fun x y H Q => ∃ a dx vs b C' dy ws, x = .ref a ∧ y = .ref b ∧ Slt H a C dx vs ∧ Slt H b C' dy ws ∧ PySem.W.notFirst K C (.ref C') = true ∧ sp [x, y] H (fun z H' => ∃ c, z = .bl c ∧ Q (.bl (!c)) H') E
theorem op_neOwn (hm : PySem.W.mroIn X.K C (.type "object") = some true) (hne : PySem.W.findIn X.K (.ref C) "__ne__" = some (some (.builtin "object.__ne__"))) (hs : PySem.W.findIn X.K (.ref C) "__eq__" = some (some (.ref g))) (hf : PySem.W.isFn X.K (.ref g) = true)
    (F : FnR X.prog X.w X.K X.mg X.base CX n g sp) (hr : Room (n + 1) X.A) (hx : Passes CX X E) : OpR X (compareOp .NotEq) (rNeOwn X.K C sp E) := by
  intro pins s σ H x y v u Q I rx ry h
  obtain ⟨a, dx, vs, b, C', dy, ws, rfl, rfl, ha, hb, hn, q⟩ := h
  cases (show v = Value.ref a from rx)
  cases (show u = Value.ref b from ry)
  obtain ⟨sl, od, _, J, _⟩ := slt_inst I ha
  obtain ⟨sl', od', _, J', _⟩ := slt_inst I hb
  have r1 : Room n X.A.in1 := Room.in1 hr
  unfold compareOp
  refine ne_own hr.units0 r1.units0 I.kIn J J'.type hn hm hne hs hf (wpAny_mono (wpAny_call (run_at (us := [.ref a, .ref b]) (ws := [.ref a, .ref b]) F r1 I.env0.in1 hx I (.cons rfl (.cons rfl .nil)) q)) ?_ fun _ _ y => y)
  rintro v s' ⟨z, H', I', rz, c, ez, qz⟩
  subst ez
  exact ⟨c, rz, .bl (!c), H', I', rfl, qz⟩
end
end Lamp

/-! ## enumerate over a tuple -/
namespace Lamp
open PySem PySem.Spec PyProof.Rows L2
set_option maxHeartbeats 1000000 in
theorem meets_enumT {v : Value} {o : Obj} {H : Heap → Prop} (B : Begins v o H) :
    Meets (Builtin.«enumerate.__new__» ⟨[.type "enumerate", v], []⟩) (fun _ R s => H s.heap ∧
      R (.ok (.ret (.ref (s.heap.push o).objs.size))) { s with heap := (s.heap.push o).push { cls := .type "enumerate", data := .fields #[.none, .bool false, .ref s.heap.objs.size, rawInt 0, .none, .none] } }) :=
  .of_wp fun prog w A R s h => by
    obtain ⟨hp, g, d, tk, os⟩ := s
    obtain ⟨h1, h⟩ := h
    have hsub := sub_enumerate
    have q1 : ∀ {A' : Around} {E : Value → Shared → Prop} {Q : Value → Shared → Prop}, Q (.ref hp.objs.size) ⟨hp.push o, g, d, tk, os⟩ → wpAny (model prog w) A' (pyIter v) Q E ⟨hp, g, d, tk, os⟩ :=
      fun q => B.iter prog w _ _ ⟨hp, g, d, tk, os⟩ _ h1 q
    wp_walk using q1
    refine wpAny_stack_any fun st => wpAny_pure ?_
    split
    · rename_i c _ _ _ _ _
      cases (c == Value.type "enumerate")
      · wp_walk using q1
        exact ⟨_, rfl, h⟩
      · wp_walk using q1
        exact ⟨_, rfl, h⟩
    · wp_walk using q1
      exact ⟨_, rfl, h⟩
theorem call_enumT {prog : Program} {w : World} {A : Around} {E : Value → Shared → Prop} {s : Shared} {v : Value} {o : Obj} {H : Heap → Prop} {Q : Value → Shared → Prop} (B : Begins v o H) (h1 : H s.heap)
    (h : ∀ h', IsEnum h' (s.heap.objs.size + 1) s.heap.objs.size 0 .none → h'.get? s.heap.objs.size = some o → (∀ b o, s.heap.get? b = some o → h'.get? b = some o) → Q (.ref (s.heap.objs.size + 1)) { s with heap := h' }) :
    wpAny (model prog w) A (call (.type "enumerate") [v]) Q E s := by
  refine callType_new F.called_enumerate (by decide) (F.typeCall_enumerate_1 _) (F.newCall_enumerate_1 _) (fun obj => F.args_object_init_2 obj _) F.entry_enumerate_new (meets_enumT B) ⟨h1, ?_⟩
  have hz : (s.heap.push o).objs.size = s.heap.objs.size + 1 := Heap.size_push ..
  show _ ∧ _
  rw [hz]
  have he : IsEnum ((s.heap.push o).push { cls := .type "enumerate", data := .fields #[.none, .bool false, .ref s.heap.objs.size, rawInt 0, .none, .none] }) (s.heap.objs.size + 1) s.heap.objs.size 0 .none := by
    have := Heap.get?_push_size (s.heap.push o) (o := { cls := .type "enumerate", data := .fields #[.none, .bool false, .ref s.heap.objs.size, rawInt 0, .none, .none] }) rfl
    rw [hz] at this
    exact this
  exact ⟨⟨_, he, rfl⟩, h _ he (Heap.get?_push_of_some _ (Heap.get?_push_size _ B.free)) fun b o x => Heap.get?_push_of_some _ (Heap.get?_push_of_some _ x)⟩
/-- the tuple at a, each item in a new pair with its number -/
def ItE (K : PySem.W.Frag) (a : Addr) : It :=
  ⟨fun i H => ∃ (xs : List V) (x : V), SqT K H a xs ∧ xs[i]? = some x, fun i H v H' => ∃ T x, v = .ref T ∧ H T = none ∧ H' = upd H T (.tup [.int (i : Nat), x]) ∧ ∀ xs, SqT K H a xs → xs[i]? = some x, fun i H => ∃ xs : List V, SqT K H a xs ∧ xs.length = i⟩
theorem turn_enumT {P : Program} {w : World} {K : PySem.W.Frag} {elts : List Expr} {kk : Nat} {tpos : Pos} (a e it : Addr) (hne : e ≠ it) (hai : a ≠ it) (hae : a ≠ e) :
    Turn P w K (.Tuple elts kk tpos) (ItE K a) [e, it] e (fun i h => (∃ old, IsEnum h e it ((i : Nat) : Int) old) ∧ h.IsTupleIter it a i) where
  mem := by simp
  obj := fun i h st b hb => by
    obtain ⟨⟨old, he⟩, ⟨o, ho, hc, hd⟩⟩ := st
    have e' : b = e ∨ b = it := by simpa using hb
    rcases e' with z | z
    · rw [z]
      exact ⟨_, he, fun v q => nomatch q⟩
    · rw [z]
      exact ⟨o, ho, fun v q => by rw [hd] at q; cases q⟩
  keep := fun i h h' st k => let ⟨⟨old, he⟩, hi⟩ := st; ⟨⟨old, k e (by simp) _ he⟩, hi.at fun o q => k it (by simp) o q⟩
  item := by
    intro X hP hw hK hc i pins s σ H E I hf st hg
    subst hP hw hK
    obtain ⟨⟨old, he⟩, hit⟩ := st
    obtain ⟨xs, x, hq, hx⟩ := hg
    obtain ⟨its, rv, p, hz⟩ := I.tuple hq
    obtain ⟨u, hu, ru⟩ := rv.get hx
    have pt : s.heap.IsTuple a its.toArray := p
    have hel : e < s.heap.objs.size := Heap.lt_size he
    have hil : it < s.heap.objs.size := by obtain ⟨_, q, _⟩ := hit; exact Heap.lt_size q
    have hlt : i < its.toArray.size := by
      have h1 := (List.getElem?_eq_some_iff.mp hu).1
      simpa using h1
    have D : Draws X.prog X.w X.A.in1 it [it, a] its.toArray.size (fun i v => its.toArray[i]? = some v) (fun i h => h.IsTupleIter it a i ∧ h.IsTuple a its.toArray) := Draws.tuple (A := X.A.in1) (I.ok.hd hc) it a hai its.toArray
    refine wpAny_pyNext_enum_itemD D he ⟨hit, pt⟩ hlt hne (by simp [hne, Ne.symm hae]) fun x' h' tk hP ho hst' hT hsz hk => ?_
    obtain ⟨hit', _⟩ := hst'
    have ex : u = x' := by
      have h1 : its.toArray[i]? = some u := by simpa using hu
      have h2 : its.toArray[i]? = some x' := hP
      rw [h1] at h2
      exact Option.some.inj h2
    subst ex
    refine ⟨_, rfl, wpAny_letOwnedTupleGo_enum (s := { s with heap := h', toks := tk + 1 }) ho fun h'' he' sb => ?_⟩
    have hT2 : h''.get? s.heap.objs.size = some { cls := .type "tuple", data := .seq #[.int i tk, u] } := (sb.2 _ (Nat.ne_of_gt hel)).trans hT
    have new : ObjOk X.prog X.w (upd H s.heap.objs.size (.tup [.int (i : Nat), x])) h'' s.heap.objs.size (.tup [.int (i : Nat), x]) :=
      ⟨by show 2 ≤ sizeLine; decide, [.int i tk, u], .cons ⟨_, rfl⟩ (.cons ru .nil), ⟨_, hT2, rfl, _, rfl⟩⟩
    have I1 : Inv X pins σ (upd H s.heap.objs.size (.tup [.int (i : Nat), x])) { s with heap := h'', toks := tk + 1 } :=
      I.turnedNew (ch := [e, it]) (fun b ob hb q => (sb.2 b (fun z => hb (by simp [z]))).trans (hk b ob (fun z => hb (by simp [z])) (fun z => hb (by simp [z])) q)) hf (Nat.le_refl _) new
    refine ⟨.ref s.heap.objs.size, _, I1, rfl, ⟨_, x, rfl, I.hok.fresh (Nat.le_refl _), rfl, fun ys hy => by rw [I.tuple_inj hy hq]; exact hx⟩, ⟨⟨u, ?_⟩, hit'.at fun o q => (sb.2 it (Ne.symm hne)).trans q⟩, fun b hb => ?_⟩
    · have e1 : ((i + 1 : Nat) : Int) = (i : Int) + 1 := by omega
      rw [e1]
      exact he'
    · have hb' : b < s.heap.objs.size := by
        have e' : b = e ∨ b = it := by simpa using hb
        rcases e' with z | z
        · rw [z]
          exact hel
        · rw [z]
          exact hil
      rw [upd_ne (Nat.ne_of_lt hb')]
      exact (hf b hb).1
  done := by
    intro X hP hw hK hc i pins s σ H E I hf st hg
    subst hP hw hK
    obtain ⟨⟨old, he⟩, hit⟩ := st
    obtain ⟨xs, hq, hx⟩ := hg
    obtain ⟨its, rv, p, hz⟩ := I.tuple hq
    have pt : s.heap.IsTuple a its.toArray := p
    obtain ⟨f0, f1, f2, f3, f4, f5⟩ := hf it (by simp)
    have hl := rv.length
    have hi : i = its.toArray.size := by
      rw [List.size_toArray]
      omega
    subst hi
    have D : Draws X.prog X.w X.A.in1 it [it, a] its.toArray.size (fun i v => its.toArray[i]? = some v) (fun i h => h.IsTupleIter it a i ∧ h.IsTuple a its.toArray) := Draws.tuple (A := X.A.in1) (I.ok.hd hc) it a hai its.toArray
    exact wpAny_pyNext_enum_endD D he ⟨hit, pt⟩ fun h' eb => ⟨rfl, I.turned (t' := s.toks) (fun b o hb q => eb b o hb q) f0 f1 f3 f4 f5⟩
  self := fun A i s Q E st h => let ⟨⟨_, he⟩, _⟩ := st; wpAny_pyIter_enum he h
def iEnumT (K : PySem.W.Frag) (ta : TA) : TI := fun σ H R => ta σ H fun vs H1 => ∃ a xs, vs = [.ref a] ∧ SqT K H1 a xs ∧ R (ItE K a) H1
theorem pi_enumT {X : Cx} {e : Expr} {ta : TA} {p pos tpos : Pos} {elts : List Expr} {kk : Nat} (hg : Gl X "enumerate") (hm : X.mg "enumerate" = none) (ha : PA X [e] ta) (hs : starEach [e] X.env = [(false, eval e X.env)] := by rfl) :
    PI X (.Tuple elts kk tpos) (.Call (.Name "enumerate" p) [e] [] pos) (iEnumT X.K ta) := by
  refine ⟨fun pins s σ H R I h => ?_⟩
  refine Call_ (ld_blt I hg hm boot_enumerate (PyProof.Rows.callWith_type1 (thn (ha.run pos pins s σ H _ I h) fun us s1 ⟨vs, H1, I1, r1, q1⟩ => ?_) hs rfl))
  obtain ⟨a, xs, ex, hq, q⟩ := q1
  subst ex
  cases r1 with
  | cons r rr =>
    cases rr
    cases r
    obtain ⟨its, rv, p', hz⟩ := I1.tuple hq
    have pt : s1.heap.IsTuple a its.toArray := p'
    have hlt : a < s1.heap.objs.size := by
      obtain ⟨_, q, _⟩ := pt
      exact Heap.lt_size q
    refine call_enumT (begins_tuple a its.toArray) pt fun h' he hit hk => wpAny_pyIter_enum he ?_
    have I2 : Inv X pins σ H1 { s1 with heap := h' } := I1.kept (t' := s1.toks) hk
    refine ⟨s1.heap.objs.size + 1, [s1.heap.objs.size + 1, s1.heap.objs.size], _, _, H1, rfl, I2, turn_enumT a (s1.heap.objs.size + 1) s1.heap.objs.size (Nat.succ_ne_self _) (Nat.ne_of_lt hlt) (Nat.ne_of_lt (Nat.lt_succ_of_lt hlt)), ⟨⟨.none, he⟩, ⟨_, hit, rfl, rfl⟩⟩, fun b hb => ?_, q⟩
    have e' : b = s1.heap.objs.size + 1 ∨ b = s1.heap.objs.size := by simpa using hb
    have hle : s1.heap.objs.size ≤ b := by
      rcases e' with z | z
      · rw [z]
        exact Nat.le_add_right _ _
      · rw [z]
        exact Nat.le_refl _
    exact I1.fpOk hle (I1.hok.fresh hle)
theorem walk_enumT {K : PySem.W.Frag} {a : Addr} {xs : List V} : Walk (ItE K a) xs.length (fun H => SqT K H a xs) (YPair (fun i => some (.int (i : Nat))) (fun i => xs[i]?)) := by
  refine ⟨fun i _ hi q => ⟨xs, xs[i], q, by simp [hi]⟩, fun _ q => ⟨xs, q, rfl⟩, fun i H v H' _ q y => ?_⟩
  obtain ⟨T, x, h1, h2, h3, h4⟩ := y
  exact ⟨T, .int (i : Nat), x, h1, h2, h3, rfl, h4 xs q⟩
end Lamp

namespace Lamp
open PySem PySem.Spec PyProof.Rows L2
theorem pair_at {α β : Type} {F : α → β → Prop} : ∀ {l : List α} {m : List β} {i : Nat} {a : α}, Paired F l m → l[i]? = some a → ∃ b, m[i]? = some b ∧ F a b
  | _, _, i, a, .nil, h => by simp at h
  | _, _, 0, a, .cons (b := b) r t, h => ⟨b, rfl, by
    have e : _ = a := Option.some.inj h
    rw [← e]
    exact r⟩
  | _, _, i + 1, a, .cons r t, h => pair_at (i := i) t h
theorem pic_at {H : Hp} {vs : List V} {ls : List (Int × Int)} {i : Nat} {v : V} (h : Paired (At2 H) vs ls) (e : vs[i]? = some v) : ∃ ab q, ls[i]? = some ab ∧ v = .ref q ∧ H q = some (.tup [.int ab.1, .int ab.2]) := by
  obtain ⟨ab, h1, q, h2, h3⟩ := pair_at h e
  exact ⟨ab, q, h1, h2, h3⟩
theorem asc_at {ls : List (Int × Int)} {i : Nat} {ab cd : Int × Int} (h : (keysOf ls).Pairwise (· < ·)) (e1 : ls[i]? = some ab) (e2 : ls[i + 1]? = some cd) : ab.1 < cd.1 := by
  obtain ⟨h1, e1⟩ := List.getElem?_eq_some_iff.mp e1
  obtain ⟨h2, e2⟩ := List.getElem?_eq_some_iff.mp e2
  have h3 := List.pairwise_iff_getElem.mp h i (i + 1) (by unfold keysOf; rw [List.length_map]; exact h1) (by unfold keysOf; rw [List.length_map]; exact h2) (by omega)
  unfold keysOf at h3
  rw [List.getElem_map, List.getElem_map, e1, e2] at h3
  exact h3
theorem raw0 {P : Program} {w : World} {K : PySem.W.Frag} {mg : Str → Option Value} {base : Heap} {CX : CXT} {k : Nat} {f : Addr} {fd : FuncData} {ps : List Str} {sp : Sp} (F : FnOk P w K mg base CX k f fd ps sp) (hb : Binds K fd ps []) : FnR P w K mg base CX k f sp := by
  have h := F.raw hb .nil
  have e : (fun vs H Q E => sp (vs ++ []) H Q E) = sp := by
    funext vs H Q E
    rw [List.append_nil]
  rw [e] at h
  exact h
section
variable {X : Cx} {K : PySem.W.Frag}
/-! rules that name the library part itself: within comprehensions -/
theorem pg_tupK {es : List Expr} {k : Nat} {t : TGs} {pos : Pos} (n : Nat) (hK : X.K = K) (hc : X.calm = true) (h : PGs X es t)
    (hn : (assignEach es X.env).length = n := by rfl) (hst : (assignEach es X.env).findIdx? (·.1) = none := by rfl) : PG X (.Tuple es k pos) (gTup K n t) := by
  subst hK
  exact pg_tup hc h hn hst
theorem pg_unlK {es : List Expr} {k : Nat} {t : TGs} {pos : Pos} (n : Nat) (hK : X.K = K) (hc : X.calm = true) (h : PGs X es t)
    (hn : (assignEach es X.env).length = n := by rfl) (hst : (assignEach es X.env).findIdx? (·.1) = none := by rfl) : PG X (.Tuple es k pos) (gUnl K n t) := by
  subst hK
  exact pg_unl hc h hn hst
theorem ix_listK (hK : X.K = K) : IxR X (rIxL K) := by
  subst hK
  exact ix_list
theorem ix_tupK (hK : X.K = K) : IxR X (rIxT K) := by
  subst hK
  exact ix_tup
theorem op_eqDK (hK : X.K = K) (hu : X.A.units + 64 < cLine) : OpR X (compareOp .Eq) (rEqD K) := by
  subst hK
  exact op_eqD hu
theorem op_neDK (hK : X.K = K) (hu : X.A.units + 64 < cLine) : OpR X (compareOp .NotEq) (rNeD K) := by
  subst hK
  exact op_neD hu
theorem op_in_seqK (hK : X.K = K) : OpR X (compareOp .In) (rIn K false) := by
  subst hK
  exact op_in_seq
theorem op_notIn_seqK (hK : X.K = K) : OpR X (compareOp .NotIn) (rIn K true) := by
  subst hK
  exact op_notIn_seq
def rLenS (K : PySem.W.Frag) : List V → Hp → VK → Prop := fun xs H Q => ∃ p ys, xs = [.ref p] ∧ (SqL K H p ys ∨ SqT K H p ys) ∧ Q (.int ys.length) H
theorem call_len_seqK (hK : X.K = K) : CallR X (.builtin "len") (rLenS K) := by
  subst hK
  exact call_len_seq
end
open TL
theorem len_app (a b : Str) : (a ++ b).length = a.length + b.length := by
  rw [len_tl, len_tl, len_tl, TL.tl_append, List.length_append]
theorem sz_le {n : Nat} (h : n ≤ 1000000) : n ≤ sizeLine := Nat.le_trans h (by decide)
theorem lamp_glued (a b : Int) : Str.empty ++ iS a ++ (":" : Str) ++ iS b = lampW (a, b) := by
  refine str_eq ?_
  rw [tl_lampW, TL.tl_append, TL.tl_append, TL.tl_append, tl_iS, tl_iS]
  have e1 : tl Str.empty = [] := by decide +kernel
  have e2 : tl (":" : Str) = [58] := by decide +kernel
  rw [e1, e2]
  rfl
theorem lampW_len {ab : Int × Int} (h1 : Fin1 ab.1) (h2 : Fin1 ab.2) : (lampW ab).length ≤ 403 := by
  have e1 := iS_len h1
  have e2 := iS_len h2
  have e3 : (colon : Str).length = 1 := by decide +kernel
  unfold lampW
  rw [len_app, len_app, e3]
  omega
theorem Lv.fin {p : Int} (h : p = 2 ∨ p = 3 ∨ p = 5 ∨ p = 7) : Fin1 p := by
  constructor
  · have : -(10 ^ 200 : Int) < 0 := by decide +kernel
    omega
  · have : (7 : Int) < 10 ^ 200 := by decide +kernel
    omega
theorem lev_fin {p l : Int} (h : p = 2 ∨ p = 3 ∨ p = 5 ∨ p = 7) (h0 : 0 < l) (h1 : l < p) : Fin1 l := by
  constructor
  · have : -(10 ^ 200 : Int) < 0 := by decide +kernel
    omega
  · have : (7 : Int) < 10 ^ 200 := by decide +kernel
    omega
theorem words_len {p e : Int} {ls : List (Int × Int)} (hp : Fin1 p) (he : Fin1 e) (hl : ∀ ab ∈ ls, Fin1 ab.1 ∧ Fin1 ab.2) : ∀ y ∈ wordsT p ls e, y.length ≤ 403 := by
  intro y hy
  unfold wordsT at hy
  rcases List.mem_cons.mp hy with rfl | hy
  · decide +kernel
  rcases List.mem_cons.mp hy with rfl | hy
  · exact Nat.le_trans (iS_len hp) (by decide)
  rcases List.mem_cons.mp hy with rfl | hy
  · decide +kernel
  rcases List.mem_cons.mp hy with rfl | hy
  · exact Nat.le_trans (iS_len he) (by decide)
  rcases List.mem_cons.mp hy with rfl | hy
  · split <;> decide +kernel
  · obtain ⟨ab, h, rfl⟩ := List.mem_map.mp hy
    exact lampW_len (hl ab h).1 (hl ab h).2
theorem sum_le {ys : List Str} {n : Nat} (h : ∀ y ∈ ys, y.length ≤ n) : (ys.map (·.length)).sum ≤ ys.length * n := by
  induction ys with
  | nil => simp
  | cons y r ih =>
    have h1 := h y (List.mem_cons_self ..)
    have h2 := ih fun z hz => h z (List.mem_cons_of_mem _ hz)
    rw [List.map_cons, List.sum_cons, List.length_cons, Nat.succ_mul]
    omega
theorem words_count (p e : Int) (ls : List (Int × Int)) : (wordsT p ls e).length = ls.length + 5 := by
  unfold wordsT
  simp
theorem words_fit {p e : Int} {ls : List (Int × Int)} (hp : Fin1 p) (he : Fin1 e) (hl : ∀ ab ∈ ls, Fin1 ab.1 ∧ Fin1 ab.2) (hn : ls.length ≤ 400) :
    ((wordsT p ls e).map (·.length)).sum + (wordsT p ls e).length * space.length ≤ 16777216 := by
  have h1 := sum_le (words_len hp he hl)
  have h2 : space.length = 1 := by decide +kernel
  rw [words_count] at h1 ⊢
  rw [h2]
  omega
theorem Slt_same {H H' : Hp} {a C dx : Addr} {vs : List (Option V)} (s : Same H H') (h : SlX.Slt H a C dx vs) : SlX.Slt H' a C dx vs := by
  rcases h with ⟨h1, h2⟩ | ⟨h1, h2⟩
  · exact Or.inl ⟨s _ _ h1, h2⟩
  · exact Or.inr ⟨s _ _ h1, s _ _ h2⟩
theorem small1M {n : Nat} (h : n ≤ 1000000) : n < sizeLine := Nat.lt_of_le_of_lt h (by decide)
/-- the text of one lamp, as a comprehension lays it -/
def teLamp (i j : Nat) : TE := fun σ H Q => tJs [tFmt (tVar i), tC (V.str ":"), tFmt (tVar j)] Str.empty σ H fun out H1 => Q (V.str out) H1
theorem kit_self {K : PySem.W.Frag} (C : Addr) : PySem.W.kitOne K (.ref C) (.ref C) = some true := by
  unfold PySem.W.kitOne
  simp
theorem Same.put {H0 H : Hp} {D : Addr} {o : HO} (s : Same H0 H) (hD : H0 D = none) : Same H0 (upd H D o) := fun b u h => by
  rw [upd_ne (ne_of_none h hD)]
  exact s b u h
theorem back {H H' : Hp} {a : Addr} (s : Same H H') (h : H' a = none) : H a = none := by
  cases e : H a with
  | none => rfl
  | some o =>
    rw [s _ _ e] at h
    cases h
theorem Grow.call {H0 H H3 : Hp} {D r : Addr} {vs : List V} {ls : List (Int × Int)} (g : Grow H0 D H vs ls) (s : Same H H3) (hr : H r = none) {a b : Int} (h3 : H3 r = some (.tup [.int a, .int b])) :
    Grow H0 D (upd H3 D (.lst (vs ++ [.ref r]))) (vs ++ [.ref r]) (ls ++ [(a, b)]) := by
  have hDr : r ≠ D := (ne_of_none g.lst hr).symm
  refine ⟨g.new, upd_same, Paired.snoc (Paired.mapP g.all ?_) ⟨r, rfl, by rw [upd_ne hDr]; exact h3⟩, Same.put (g.same.trans s) g.new⟩
  rintro v ab ⟨q, e, h⟩
  refine ⟨q, e, ?_⟩
  rw [upd_ne (ne_of h g.lst fun c => by cases c)]
  exact s _ _ h
theorem words_tail (p e : Int) (ls : List (Int × Int)) : cutV ((wordsT p ls e).map V.str) (some 5) none = ls.map fun ab => V.str (lampW ab) := by
  unfold cutV
  have e1 : HT.sIx ((wordsT p ls e).map V.str).length 0 (some 5) = 5 := by
    have h := HT.sIx_nat ((wordsT p ls e).map V.str).length 0 5
    rw [show ((5 : Nat) : Int) = 5 from rfl] at h
    rw [h, List.length_map, words_count]
    omega
  have e2 : HT.sIx ((wordsT p ls e).map V.str).length ((wordsT p ls e).map V.str).length none = ls.length + 5 := by
    rw [HT.sIx_none, List.length_map, words_count]
  rw [e1, e2]
  have e3 : ((wordsT p ls e).map V.str).drop 5 = ls.map fun ab => V.str (lampW ab) := by
    unfold wordsT
    simp
  rw [e3, List.take_of_length_le]
  rw [List.length_map]
  omega
end Lamp

/-! ## What is read as data: pictures, parts, texts -/
namespace Lamp
open PySem PySem.Spec PyProof.Rows L2 TL
def dPair (ab : Int × Int) : PyData := .tuple [.int ab.1, .int ab.2]
def dPic (ls : List (Int × Int)) : PyData := .tuple (ls.map dPair)
def dMine (p : Int) (ls : List (Int × Int)) (e : Int) : PyData := .tuple [.int p, dPic ls, .int e]
def dParts (p : Int) (ls : List (Int × Int)) (e : Int) : PyData := .list [.int p, dPic ls, .int e]
theorem Dp.pairs {K : PySem.W.Frag} {H : Hp} : ∀ {vs : List V} {ls : List (Int × Int)}, Paired (At2 H) vs ls → DpAll K H vs (ls.map dPair)
  | _, _, .nil => .nil
  | _, _, .cons ⟨q, e, h⟩ t => by
    subst e
    exact .cons (.tup (SqT.of h) (.cons (.int _) (.cons (.int _) .nil))) (Dp.pairs t)
theorem Dp.pic {K : PySem.W.Frag} {H : Hp} {t : Addr} {ls : List (Int × Int)} (h : Pic H t ls) : Dp K H (.ref t) (dPic ls) := by
  obtain ⟨vs, ⟨its, h1⟩, h2⟩ := h
  exact .tup (sqF h1) (Dp.pairs h2)
theorem eqv_int (i j : Int) : PyData.eqv (.int i) (.int j) = decide (i = j) := by
  rw [PyData.eqv]
  by_cases h : i = j
  · subst h
    simp
  · rw [decide_eq_false h]
    simp [h]
theorem eqv_pair (ab cd : Int × Int) : PyData.eqv (dPair ab) (dPair cd) = decide (ab = cd) := by
  unfold dPair
  rw [PyData.eqv, PyData.eqvAll, PyData.eqvAll, PyData.eqvAll, eqv_int, eqv_int, Bool.and_true]
  obtain ⟨a, b⟩ := ab
  obtain ⟨c, d⟩ := cd
  rw [Bool.eq_iff_iff]
  simp
theorem eqv_pairs : ∀ (ls ms : List (Int × Int)), PyData.eqvAll (ls.map dPair) (ms.map dPair) = decide (ls = ms)
  | [], [] => by simp [PyData.eqvAll]
  | [], b :: m => by simp [PyData.eqvAll]
  | a :: l, [] => by simp [PyData.eqvAll]
  | a :: l, b :: m => by
    rw [List.map_cons, List.map_cons, PyData.eqvAll, eqv_pair, eqv_pairs l m, Bool.eq_iff_iff]
    simp
theorem eqv_pic (ls ms : List (Int × Int)) : PyData.eqv (dPic ls) (dPic ms) = decide (ls = ms) := by
  unfold dPic
  rw [PyData.eqv, eqv_pairs]
theorem eqv_mine (p p' e e' : Int) (ls ls' : List (Int × Int)) : PyData.eqv (dMine p ls e) (dMine p' ls' e') = decide (p = p' ∧ ls = ls' ∧ e = e') := by
  unfold dMine
  rw [PyData.eqv, PyData.eqvAll, PyData.eqvAll, PyData.eqvAll, PyData.eqvAll, eqv_int, eqv_int, eqv_pic, Bool.and_true, Bool.eq_iff_iff]
  simp
theorem eqv_parts (p p' e e' : Int) (ls ls' : List (Int × Int)) : PyData.eqv (dParts p ls e) (dParts p' ls' e') = decide (p = p' ∧ ls = ls' ∧ e = e') := by
  unfold dParts
  rw [PyData.eqv, PyData.eqvAll, PyData.eqvAll, PyData.eqvAll, PyData.eqvAll, eqv_int, eqv_int, eqv_pic, Bool.and_true, Bool.eq_iff_iff]
  simp
theorem lay_pairs : ∀ ls : List (Int × Int), PyData.canLayAll0 (ls.map dPair) = true
  | [] => rfl
  | a :: l => by
    rw [List.map_cons, PyData.canLayAll0, lay_pairs l]
    rfl
theorem depth_pairs : ∀ ls : List (Int × Int), PyData.depthAll (ls.map dPair) ≤ 1
  | [] => Nat.zero_le _
  | a :: l => by
    rw [List.map_cons, PyData.depthAll]
    have h := depth_pairs l
    have e : PyData.depth (dPair a) = 1 := rfl
    omega
theorem pic_lay (ls : List (Int × Int)) : PyData.canLay0 (dPic ls) = true := by
  unfold dPic
  rw [PyData.canLay0]
  exact lay_pairs ls
theorem pic_depth (ls : List (Int × Int)) : PyData.depth (dPic ls) ≤ 2 := by
  unfold dPic
  rw [PyData.depth]
  have := depth_pairs ls
  omega
theorem parts_depth (p : Int) (ls : List (Int × Int)) (e : Int) : PyData.depth (dParts p ls e) ≤ 3 := by
  unfold dParts
  rw [PyData.depth]
  simp only [PyData.depthAll]
  have h1 := pic_depth ls
  have h2 : PyData.depth (.int p) = 0 := rfl
  have h3 : PyData.depth (.int e) = 0 := rfl
  omega
theorem mine_depth (p : Int) (ls : List (Int × Int)) (e : Int) : PyData.depth (dMine p ls e) ≤ 3 := by
  unfold dMine
  rw [PyData.depth]
  simp only [PyData.depthAll]
  have h1 := pic_depth ls
  have h2 : PyData.depth (.int p) = 0 := rfl
  have h3 : PyData.depth (.int e) = 0 := rfl
  omega
theorem shaped_of {d : PyData} (h1 : d.canLay0 = true) (h2 : d.depth ≤ 64) : SeqAt.shaped d = true := by
  unfold SeqAt.shaped
  rw [h1, decide_eq_true h2]
  rfl
theorem pic_shaped (ls : List (Int × Int)) : SeqAt.shaped (dPic ls) = true := shaped_of (pic_lay ls) (Nat.le_trans (pic_depth ls) (by decide))
theorem mine_shaped (p : Int) (ls : List (Int × Int)) (e : Int) : SeqAt.shaped (dMine p ls e) = true := by
  refine shaped_of ?_ (Nat.le_trans (mine_depth p ls e) (by decide))
  unfold dMine
  simp [PyData.canLay0, PyData.canLayAll0, pic_lay]
theorem parts_shaped (p : Int) (ls : List (Int × Int)) (e : Int) : SeqAt.shaped (dParts p ls e) = true := by
  refine shaped_of ?_ (Nat.le_trans (parts_depth p ls e) (by decide))
  unfold dParts
  simp [PyData.canLay0, PyData.canLayAll0, pic_lay]

/-! shown texts -/
theorem Fin1.show {i : Int} (h : Fin1 i) : PyData.showable (.int i) = true := decide_eq_true h.log
theorem Fin1.short {i : Int} (h : Fin1 i) : PyData.leavesShort 201 (.int i) = true := decide_eq_true (iS_len h)
theorem show_pairs : ∀ {ls : List (Int × Int)}, (∀ ab ∈ ls, Fin1 ab.1 ∧ Fin1 ab.2) → PyData.showableAll (ls.map dPair) = true ∧ PyData.hasDictAll (ls.map dPair) = false ∧ PyData.leavesShortAll 201 (ls.map dPair) = true
  | [], _ => ⟨rfl, rfl, rfl⟩
  | a :: l, h => by
    obtain ⟨h1, h2⟩ := h a (List.mem_cons_self ..)
    obtain ⟨i1, i2, i3⟩ := show_pairs (ls := l) fun b hb => h b (List.mem_cons_of_mem _ hb)
    refine ⟨?_, ?_, ?_⟩
    · rw [List.map_cons, PyData.showableAll, i1]
      simp [dPair, PyData.showable, PyData.showableAll, h1.log, h2.log]
    · rw [List.map_cons, PyData.hasDictAll, i2]
      simp [dPair, PyData.hasDict, PyData.hasDictAll]
    · rw [List.map_cons, PyData.leavesShortAll, i3]
      simp only [dPair, PyData.leavesShort, PyData.leavesShortAll, Bool.and_true]
      have e1 : decide ((PyData.shown (.int a.1)).length ≤ 201) = true := h1.short
      have e2 : decide ((PyData.shown (.int a.2)).length ≤ 201) = true := h2.short
      rw [e1, e2]
      rfl
theorem bulk_pairs : ∀ ls : List (Int × Int), PyData.bulkAll (ls.map dPair) = 3 * ls.length
  | [] => rfl
  | a :: l => by
    rw [List.map_cons, PyData.bulkAll, bulk_pairs l, List.length_cons]
    have e : PyData.bulk (dPair a) = 2 := rfl
    omega
/-- what repr asks of a data -/
structure Rp (d : PyData) : Prop where
  sh : d.showable = true
  nd : d.hasDict = false
  dp : d.depth ≤ 40
  ln : d.shown.length ≤ sizeLine
theorem Rp.of {d : PyData} (h1 : d.showable = true) (h2 : d.hasDict = false) (h3 : d.depth ≤ 40) (h4 : d.leavesShort 201 = true) (h5 : d.bulk ≤ 60000) : Rp d := by
  refine ⟨h1, h2, h3, ?_⟩
  have h := PyData.shown_le_bulk 201 (by decide) d h4
  have e : sizeLine = 16777216 := by decide
  omega
theorem rp_parts {p e : Int} {ls : List (Int × Int)} (hp : Fin1 p) (he : Fin1 e) (hl : ∀ ab ∈ ls, Fin1 ab.1 ∧ Fin1 ab.2) (hn : ls.length ≤ 10000) : Rp (dParts p ls e) := by
  obtain ⟨s1, s2, s3⟩ := show_pairs hl
  refine Rp.of ?_ ?_ (Nat.le_trans (parts_depth p ls e) (by decide)) ?_ ?_
  · simp [dParts, dPic, PyData.showable, PyData.showableAll, s1, hp.log, he.log]
  · simp [dParts, dPic, PyData.hasDict, PyData.hasDictAll, s2]
  · have e1 : decide ((PyData.shown (.int p)).length ≤ 201) = true := hp.short
    have e2 : decide ((PyData.shown (.int e)).length ≤ 201) = true := he.short
    simp only [dParts, dPic, PyData.leavesShort, PyData.leavesShortAll, s3, e1, e2]
    rfl
  · simp only [dParts, dPic, PyData.bulk, PyData.bulkAll, bulk_pairs]
    omega
/-- texts of plain signs, not too long -/
def Plain (y : Str) (n : Nat) : Prop := y.length ≤ n ∧ ∀ c ∈ tl y, c < 128
theorem Plain.mono {y : Str} {m n : Nat} (h : Plain y m) (hl : m ≤ n) : Plain y n := ⟨Nat.le_trans h.1 hl, h.2⟩
theorem numS_plain {i : Int} : ∀ c ∈ numS i, c < 128 := by
  intro c hc
  by_cases h : 57 < c
  · exact absurd hc (numS_free (Or.inr h))
  · omega
theorem iS_plain {i : Int} (h : Fin1 i) : Plain (iS i) 201 := ⟨iS_len h, by rw [tl_iS]; exact numS_plain⟩
theorem Plain.app {a b : Str} {m n : Nat} (x : Plain a m) (y : Plain b n) : Plain (a ++ b) (m + n) := by
  refine ⟨by rw [len_app]; have := x.1; have := y.1; omega, ?_⟩
  rw [tl_append]
  intro c hc
  rcases List.mem_append.mp hc with hc | hc
  · exact x.2 c hc
  · exact y.2 c hc
theorem plain_join {n : Nat} : ∀ {ws : List Str}, (∀ y ∈ ws, Plain y n) → Plain (Txt.join space ws) (ws.length * (n + 1))
  | [], _ => by
    have e : Txt.join space [] = Str.empty := by decide +kernel
    rw [e]
    exact ⟨Nat.zero_le _, by decide +kernel⟩
  | [a], h => by
    rw [join_one]
    exact (h a (List.mem_cons_self ..)).mono (by simp)
  | a :: b :: r, h => by
    rw [join_cons]
    have h1 := h a (List.mem_cons_self ..)
    have h2 := plain_join (ws := b :: r) fun y hy => h y (List.mem_cons_of_mem _ hy)
    have h3 : Plain space 1 := ⟨by decide +kernel, by decide +kernel⟩
    refine ((h1.app h3).app h2).mono ?_
    rw [List.length_cons, List.length_cons, List.length_cons, Nat.succ_mul (r.length + 1)]
    omega
theorem plain_words {p e : Int} {ls : List (Int × Int)} (hp : Fin1 p) (he : Fin1 e) (hl : ∀ ab ∈ ls, Fin1 ab.1 ∧ Fin1 ab.2) : ∀ y ∈ wordsT p ls e, Plain y 403 := by
  intro y hy
  unfold wordsT at hy
  rcases List.mem_cons.mp hy with rfl | hy
  · exact ⟨by decide +kernel, by decide +kernel⟩
  rcases List.mem_cons.mp hy with rfl | hy
  · exact (iS_plain hp).mono (by decide)
  rcases List.mem_cons.mp hy with rfl | hy
  · exact ⟨by decide +kernel, by decide +kernel⟩
  rcases List.mem_cons.mp hy with rfl | hy
  · exact (iS_plain he).mono (by decide)
  rcases List.mem_cons.mp hy with rfl | hy
  · split <;> exact ⟨by decide +kernel, by decide +kernel⟩
  · obtain ⟨ab, h, rfl⟩ := List.mem_map.mp hy
    refine ⟨lampW_len (hl ab h).1 (hl ab h).2, ?_⟩
    rw [tl_lampW]
    intro c hc
    rcases List.mem_append.mp hc with hc | hc
    · rcases List.mem_append.mp hc with hc | hc
      · exact numS_plain c hc
      · simp at hc
        omega
    · exact numS_plain c hc
theorem plain_text {p e : Int} {ls : List (Int × Int)} (hp : Fin1 p) (he : Fin1 e) (hl : ∀ ab ∈ ls, Fin1 ab.1 ∧ Fin1 ab.2) : Plain (textT p ls e) ((ls.length + 5) * 404) := by
  have h := plain_join (plain_words hp he hl)
  rw [words_count] at h
  exact h
theorem Plain.short {y : Str} {n : Nat} (h : Plain y n) : PyData.leavesShort 201 (.str y) = true := by
  rw [PyData.leavesShort, List.all_eq_true]
  intro c hc
  have h1 := h.2 c hc
  exact decide_eq_true (Nat.lt_of_lt_of_le h1 (by decide))
theorem rp_texts {a b : Str} {n : Nat} (ha : Plain a n) (hb : Plain b n) (hn : n ≤ 20000) : Rp (.list [.str a, .str b]) := by
  refine Rp.of rfl rfl (show (1 : Nat) ≤ 40 by decide) ?_ ?_
  · have e1 := ha.short
    have e2 := hb.short
    rw [PyData.leavesShort] at e1 e2
    simp only [PyData.leavesShort, PyData.leavesShortAll, e1, e2]
    rfl
  · have e1 : a.cps.size ≤ n := ha.1
    have e2 : b.cps.size ≤ n := hb.1
    simp only [PyData.bulk, PyData.bulkAll]
    omega
end Lamp

/-! ## The word of a number, taken apart -/
namespace Lamp
open PySem PySem.Spec PyProof.Rows L2 TL
def digS (i : Int) : Str := ⟨(numL i.natAbs).toArray⟩
theorem tl_digS (i : Int) : tl (digS i) = numL i.natAbs := by
  unfold digS tl
  simp
theorem tl_cut_tail (z : Str) (k : Nat) (h : k ≤ z.length) : tl (cutS z (some (k : Int)) none) = (tl z).drop k := by
  unfold cutS tl
  rw [HT.sIx_nat, HT.sIx_none, Nat.min_eq_left h]
  show (((z.cps.toList.drop k).take (z.length - k)).toArray).toList = z.cps.toList.drop k
  have e : (z.cps.toList.drop k).length = z.length - k := by
    rw [List.length_drop, Array.length_toList]
    rfl
  rw [List.toList_toArray, ← e, List.take_length]
theorem tl_cut_head (z : Str) (k : Nat) : tl (cutS z none (some (k : Int))) = (tl z).take k := by
  unfold cutS tl
  rw [HT.sIx_nat, HT.sIx_none]
  show (((z.cps.toList.drop 0).take (min k z.length - 0)).toArray).toList = z.cps.toList.take k
  rw [List.toList_toArray, List.drop_zero, Nat.sub_zero]
  have e : z.cps.toList.length = z.length := Array.length_toList
  by_cases h : k ≤ z.length
  · rw [Nat.min_eq_left h]
  · rw [Nat.min_eq_right (by omega), List.take_of_length_le (by omega), List.take_of_length_le (by omega)]
theorem neg_head {i : Int} (h : i < 0) : cutS (iS i) none (some 1) = ("-" : Str) := by
  refine str_eq ?_
  have e := tl_cut_head (iS i) 1
  rw [show ((1 : Nat) : Int) = 1 from rfl] at e
  rw [e, tl_iS]
  unfold numS
  rw [if_pos h]
  show [45] = _
  decide +kernel
theorem neg_tail {i : Int} (h : i < 0) : cutS (iS i) (some 1) none = digS i := by
  refine str_eq ?_
  have hl : 1 ≤ (iS i).length := by
    rw [len_tl, tl_iS]
    unfold numS
    rw [if_pos h, List.length_cons]
    omega
  have e := tl_cut_tail (iS i) 1 hl
  rw [show ((1 : Nat) : Int) = 1 from rfl] at e
  rw [e, tl_iS, tl_digS]
  unfold numS
  rw [if_pos h]
  rfl
theorem pos_head {i : Int} (h : ¬ i < 0) : cutS (iS i) none (some 1) ≠ ("-" : Str) := by
  intro q
  have e := tl_cut_head (iS i) 1
  rw [show ((1 : Nat) : Int) = 1 from rfl] at e
  rw [q, tl_iS] at e
  unfold numS at e
  rw [if_neg h] at e
  have e2 : tl ("-" : Str) = [45] := by decide +kernel
  rw [e2] at e
  have hm : (45 : Nat) ∈ (numL i.natAbs).take 1 := by
    rw [← e]
    exact List.mem_cons_self ..
  exact numL_free (Or.inl (by decide)) (List.mem_of_mem_take hm)
theorem pos_dig {i : Int} (h : ¬ i < 0) : iS i = digS i := by
  refine str_eq ?_
  rw [tl_iS, tl_digS]
  unfold numS
  rw [if_neg h]
theorem digS_ne (i : Int) : digS i ≠ ("" : Str) := by
  intro q
  have e := congrArg tl q
  rw [tl_digS] at e
  exact numL_ne _ (e.trans (by decide +kernel))
theorem digS_len {i : Int} (h : Fin1 i) : (digS i).length ≤ 200 := by
  rw [len_tl, tl_digS]
  exact numL_len (k := 200) (by decide) h.nat
theorem digit_in {c : Nat} (h1 : 48 ≤ c) (h2 : c ≤ 57) : decide (c ∈ (("0123456789" : Str)).cps.toList) = true := by
  have : c = 48 ∨ c = 49 ∨ c = 50 ∨ c = 51 ∨ c = 52 ∨ c = 53 ∨ c = 54 ∨ c = 55 ∨ c = 56 ∨ c = 57 := by omega
  rcases this with rfl | rfl | rfl | rfl | rfl | rfl | rfl | rfl | rfl | rfl <;> decide +kernel
theorem digS_at {i : Int} {k c : Nat} (h : (digS i).cps[k]? = some c) : decide (c ∈ (("0123456789" : Str)).cps.toList) = true := by
  have hm : c ∈ numL i.natAbs := by
    rw [← tl_digS i]
    unfold tl
    exact Array.mem_toList_iff.mpr (Array.mem_of_getElem? h)
  have := numL_digits _ c hm
  exact digit_in this.1 this.2
theorem vstr_ne {a b : Str} (h : a ≠ b) : decide (V.str a = V.str b) = false := decide_eq_false fun q => h (V.str.inj q)
theorem vstr_eq {a b : Str} (h : a = b) : decide (V.str a = V.str b) = true := decide_eq_true (congrArg V.str h)
theorem all_trues (n : Nat) : (List.replicate n true).all id = true := by
  rw [List.all_eq_true]
  intro b hb
  rw [(List.mem_replicate.mp hb).2]
  rfl
theorem rep_more (n : Nat) : (List.replicate (n + 1) true).map V.bl = (List.replicate n true).map V.bl ++ [V.bl true] := by
  rw [List.replicate_succ', List.map_append]
  rfl
theorem inv_word (ls : List (Int × Int)) : inV (.str (if ls = [] then ("dark" : Str) else ("lamps" : Str))) [.str "dark", .str "lamps"] = true := by
  split <;> decide +kernel
theorem dark_word (p e : Int) (ls : List (Int × Int)) : decide (V.bl (decide (V.int (((wordsT p ls e).map V.str).length : Nat) = V.int 5)) = V.bl (decide (V.str (if ls = [] then ("dark" : Str) else ("lamps" : Str)) = V.str "dark"))) = true := by
  refine decide_eq_true (congrArg V.bl ?_)
  rw [List.length_map, words_count]
  cases ls with
  | nil =>
    rw [if_pos rfl, vstr_eq rfl]
    rfl
  | cons a l =>
    rw [if_neg (by simp), vstr_ne (by decide +kernel)]
    refine decide_eq_false fun q => ?_
    have := V.int.inj q
    rw [List.length_cons] at this
    omega
end Lamp

/-! ## C.m(name = e): a classmethod with one keyword argument alone -/
namespace Lamp
open PySem PySem.Spec PyProof.Rows L2 ClX
section
variable {X : Cx} {CX : CXT} {k : Nat} {C p g : Addr} {mc : Value} {sp : Sp} {E : XK} {o : Expr} {m pn pc : Str} {pos apos : Pos} {ta tk : TE} {pl : Sem Bool} {fd : FuncData} {kw : Keyword} {tks : TA}
def tCMethK (C : Addr) (sp : Sp) (E : XK) (ta : TE) (tk : TA) : TE := fun σ H Q => ta σ H fun x H1 => x = .ref C ∧ tk σ H1 fun zs H2 => ∃ z, zs = [z] ∧ sp [.ref C, z] H2 Q E
theorem pe_cmethK (he : PE X o ta) (r : CRead X.K C mc) (c : CMet X.K C mc m p g) (F : FnOk X.prog X.w X.K X.mg X.base CX k g fd [pc, pn] sp) (hb : ∀ (s : Shared) (c v : Value), BindsTo s fd ⟨[c], [(pn, v)]⟩ [(pc, c), (pn, v)]) (hr : Room k X.A) (hx : Passes CX X E) (hkw : PK X [kw] tks)
    (hall : (backToKw pos (keywordEach [kw] X.env)).all (·.1.isSome) = true := by rfl) (hks : (backToKw pos (keywordEach [kw] X.env)).filterMap (·.1) = [pn] := by rfl)
    (hpl : ((backTo pos (starEach [] X.env)).any (·.1) || (backToKw pos (keywordEach [kw] X.env)).any (·.1.isNone)) = false := by rfl)
    (ht : eval (.Call (.Attribute o m apos) [] [kw] pos) X.env = (do
      let ov ← eval o X.env
      standAt apos.atName
      let (f, first) ← holding [ov] (getMethod ov m pl)
      callWith pos f first (backTo pos (starEach [] X.env)) (backToKw pos (keywordEach [kw] X.env))) := by rfl) :
    PE X (.Call (.Attribute o m apos) [] [kw] pos) (tCMethK C sp E ta tks) := by
  refine ⟨fun pins s σ H Q I h => ?_⟩
  refine PySem.W.methodCall_KW (pl := pl) (thn (he.run pins s σ H _ I h) fun u s1 ⟨x, H1, I1, rx, ex, q⟩ => ?_) ht
  subst ex
  obtain rfl : u = Value.ref C := rx
  refine getmethcm_ok I1 r c fun s2 I2 => ?_
  refine PySem.W.callWith_of hpl (PySem.W.keeps_M (K := X.K) (self := .ref C) c.fi) (evalArgs_kw2_nil hall ?_)
  refine thn (hkw.run pos _ s2 σ H1 _ I2 q) fun ws s3 ⟨zs, H2, I3, rz, z, ez, q2⟩ => ⟨⟨pin_at I3, I3.kIn⟩, ?_⟩
  subst ez
  obtain ⟨v, rfl, rv⟩ := vals1 rz
  rw [hks]
  have done : wpAny (model X.prog X.w) X.A (call (.ref s1.heap.objs.size) [] [(pn, v)]) (EP X ((s1.heap.objs.size, PySem.W.methodObj (.ref g) (.ref C)) :: pins) σ Q) X.xe s3 := by
    refine wpAny_call (PySem.W.method_call (pin_at I3) (codeAny_mono (F.run X.A X.stack s3 H2 ⟨[.ref C], [(pn, v)]⟩ [.ref C, v] [.ref C, z] Q E hr I3.env0 (hb s3 (.ref C) v) (.cons rfl (.cons rv .nil)) q2) ?_))
    intro res s' y
    match res, y with
    | .error e, y => exact hx _ σ H2 s3 e s' I3 y
    | .ok (.ret u), y => exact I3.after y
  exact thn done fun _ _ y => unpinE y
end
theorem notFirst_self {K : PySem.W.Frag} (C : Addr) : PySem.W.notFirst K C (.ref C) = true := by
  unfold PySem.W.notFirst
  simp
end Lamp

/-! ## Instances with slots: len, repr, bool by their own defs -/
namespace Lamp
open PySem PySem.Spec PyProof.Rows L2 SlX
section
variable {prog : Program} {w : World} {A : Around} {E : Value → Shared → Prop} {s : Shared} {K : PySem.W.Frag} {x C f : Addr} {ox : Obj} {od : Option Obj}
theorem len_call {Q : Value → Shared → Prop} (X : K.In s.heap) (I : PySem.W.InstAt s.heap x ox C od) (hs : PySem.W.findIn K (.ref C) "__len__" = some (some (.ref f))) (hf : PySem.W.isFn K (.ref f) = true)
    (h : wpAny (model prog w) A.in1 (call (.ref f) [.ref x]) (fun v s' => ∃ n t, v = .int n t ∧ 0 ≤ n ∧ n < 2 ^ 63 ∧ Q (.int n s'.toks) { s' with toks := s'.toks + 1 }) E s) : wpAny (model prog w) A (call (.builtin "len") [.ref x]) Q E s := by
  refine Calls.call_function_entry PySem.kind_len PySem.plain_len PySem.entry_len (PySem.args_len1 _) ?_
  unfold Builtin.«len»
  refine wpAny_bind (m := oneArg "len" _) (wpAny_pure ?_)
  refine wpAny_bind (m := callSpecial? (.ref x) (Str.ofString "__len__")) (PySem.W.special_fn X I hs (beq_iff_eq.mp hf) (wpAny_mono h ?_ fun _ _ y => y))
  rintro r s' ⟨n, u, rfl, h0, h1, hq⟩
  refine wpAny_bind (wpAny_holding (wpAny_pure ?_))
  refine wpAny_bind (wpAny_letGo ?_)
  show wpAny _ _ (if n < 0 then _ else _) _ _ _
  rw [if_neg (by omega)]
  show wpAny _ _ (if n ≥ 2 ^ 63 then _ else _) _ _ _
  rw [if_neg (by omega)]
  exact wpAny_bind (wpAny_mkInt (wpAny_pure ⟨_, rfl, hq⟩))
theorem repr_call {Q : Value → Shared → Prop} (hu : A.in1.units < cLine) (X : K.In s.heap) (I : PySem.W.InstAt s.heap x ox C od) (hs : PySem.W.findIn K (.ref C) "__repr__" = some (some (.ref f))) (hf : PySem.W.isFn K (.ref f) = true)
    (h : wpAny (model prog w) A.in1 (call (.ref f) [.ref x]) (fun v s' => ∃ y t, v = .str y t ∧ Q (.str y t) s') E s) : wpAny (model prog w) A (call (.builtin "repr") [.ref x]) Q E s := by
  refine Calls.call_function_entry PySem.F.kind_repr PySem.F.plain_repr PySem.F.entry_repr (PySem.F.args_repr1 _) ?_
  unfold Builtin.«repr»
  refine wpAny_bind (m := oneArg "repr" _) (wpAny_pure ?_)
  refine wpAny_bind (wpAny_cRoomFor hu ?_)
  refine wpAny_bind (wpAny_bind (I.type.here ((PySem.W.looks_findIn X hs).here ?_)))
  show wpAny _ _ (if (some (Value.ref f)).isNone = true then _ else _) _ _ _
  rw [if_neg (by simp)]
  refine wpAny_bind (m := callSpecialIfBound? (.ref x) (Str.ofString "__repr__") _) (PySem.W.ifBound_K X I hs hf (wpAny_mono h ?_ fun _ _ y => y))
  rintro r s' ⟨y, t, rfl, hr⟩
  refine wpAny_bind (wpAny_isInstance (typeIs_str _ _ _) PySem.isSubtype_str_str ?_)
  first
    | exact wpAny_pure ⟨_, rfl, hr⟩
    | (rw [if_pos rfl]; exact wpAny_pure ⟨_, rfl, hr⟩)
    | (simp only [if_true]; exact wpAny_pure ⟨_, rfl, hr⟩)
theorem truth_call {M : Model} {Q : Bool → Shared → Prop} (X : K.In s.heap) (I : PySem.W.InstAt s.heap x ox C od) (hs : PySem.W.findIn K (.ref C) "__bool__" = some (some (.ref f))) (hf : PySem.W.isFn K (.ref f) = true)
    (h : wpAny M A (call (.ref f) [.ref x]) (fun v s' => ∃ b, v = .bool b ∧ Q b s') E s) : wpAny M A (truthy (.ref x)) Q E s := by
  unfold truthy
  refine wpAny_bind (m := callSpecial? (.ref x) (Str.ofString "__bool__")) (PySem.W.special_fn X I hs (beq_iff_eq.mp hf) (wpAny_mono h ?_ fun _ _ y => y))
  rintro r s' ⟨b, rfl, hr⟩
  exact wpAny_pure hr
theorem bool_call {Q : Value → Shared → Prop} (X : K.In s.heap) (I : PySem.W.InstAt s.heap x ox C od) (hs : PySem.W.findIn K (.ref C) "__bool__" = some (some (.ref f))) (hf : PySem.W.isFn K (.ref f) = true)
    (h : wpAny (model prog w) A.in1.in1 (call (.ref f) [.ref x]) (fun v s' => ∃ b, v = .bool b ∧ Q (.bool b) s') E s) : wpAny (model prog w) A (call (.type "bool") [.ref x]) Q E s := by
  refine callType_codes (T := "bool") (Bi := Builtin.«object.__init__») (Q₁ := fun r s₁ => ∃ b, r = .bool b ∧ Q r s₁) PySem.F.called_bool (PySem.F.typeCall_bool_1 _) PySem.F.entry_object_init ?_ ?_
  · refine codeAny_of_tree ?_
    show wpAny _ A.in1.in1 (do checkBuiltinCall "bool.__new__" ⟨[.type "bool", .ref x], []⟩; again (.builtin "bool.__new__" ⟨[.type "bool", .ref x], []⟩)) _ _ s
    refine wpAny_bind (wpAny_of_eq (PySem.F.newCall_bool_1 _) (wpAny_pure ⟨plainId_quiet (by decide +kernel) _, codeAny_builtin PySem.F.entry_bool_new ?_⟩))
    rw [Around.under_plainId (by decide +kernel) _]
    have f1 := PySem.F.conv_sub_bool
    have q1 : ∀ {R : Bool → Shared → Prop} {Z : Value → Shared → Prop}, wpAny (model prog w) A.in1.in1 (call (.ref f) [.ref x]) (fun v s' => ∃ b, v = .bool b ∧ R b s') Z s → wpAny (model prog w) A.in1.in1 (truthy (.ref x)) R Z s :=
      fun z => truth_call X I hs hf z
    obtain ⟨hp, g, d, tk, os⟩ := s
    unfold Builtin.«bool.__new__»
    repeat (first | (refine wpAny_bind (q1 (wpAny_mono h (fun v s' hv => ?_) fun _ _ y => y))) | wp_step)
    obtain ⟨b, rfl, hq⟩ := hv
    refine ⟨b, rfl, ?_⟩
    exact wpAny_pure ⟨b, rfl, hq⟩
  · rintro obj s₁ ⟨b, rfl, hq⟩
    exact ⟨PySem.typeIs_bool _ _, PySem.F.args_object_init_2 _ _, object_init_meets PySem.F.called_bool.init.lookup PySem.F.called_bool.made (by decide) prog w A.in1 _ s₁ ⟨PySem.typeIs_bool _ _, rfl, hq⟩⟩
end
section
variable {X : Cx} {CX : CXT} {C g : Addr} {n : Nat} {sp : Sp} {E : XK}
def rLenOwn (C : Addr) (sp : Sp) (E : XK) : List V → Hp → VK → Prop := fun xs H Q => ∃ a dx vs, xs = [V.ref a] ∧ Slt H a C dx vs ∧ sp [.ref a] H (fun z H' => ∃ i : Int, z = .int i ∧ 0 ≤ i ∧ i < 2 ^ 63 ∧ Q z H') E
theorem call_lenOwn (hs : PySem.W.findIn X.K (.ref C) "__len__" = some (some (.ref g))) (hf : PySem.W.isFn X.K (.ref g) = true) (F : FnR X.prog X.w X.K X.mg X.base CX n g sp) (hr : Room (n + 1) X.A) (hx : Passes CX X E) : CallR X (.builtin "len") (rLenOwn C sp E) := by
  intro pins s σ H xs us Q I r h
  obtain ⟨a, dx, vs, rfl, hsl, q⟩ := h
  obtain ⟨u, rfl, ru⟩ := vals1 r
  obtain rfl : u = Value.ref a := ru
  obtain ⟨sl, od, _, J, _⟩ := slt_inst I hsl
  have r1 : Room n X.A.in1 := Room.in1 hr
  refine len_call I.kIn J hs hf (wpAny_mono (wpAny_call (run_at (us := [.ref a]) (ws := [.ref a]) F r1 I.env0.in1 hx I (.cons rfl .nil) q)) ?_ fun _ _ y => y)
  rintro v s' ⟨z, H', I', rz, i, ez, h0, h1, qz⟩
  subst ez
  obtain ⟨t, e⟩ := (show ∃ t, v = Value.int i t from rz)
  exact ⟨i, t, e, h0, h1, .int i, H', I'.tok _, ⟨_, rfl⟩, qz⟩
def rReprOwn (C : Addr) (sp : Sp) (E : XK) : List V → Hp → VK → Prop := fun xs H Q => ∃ a dx vs, xs = [V.ref a] ∧ Slt H a C dx vs ∧ sp [.ref a] H (fun z H' => ∃ y, z = .str y ∧ Q z H') E
theorem call_reprOwn (hs : PySem.W.findIn X.K (.ref C) "__repr__" = some (some (.ref g))) (hf : PySem.W.isFn X.K (.ref g) = true) (F : FnR X.prog X.w X.K X.mg X.base CX n g sp) (hr : Room (n + 1) X.A) (hx : Passes CX X E) : CallR X (.builtin "repr") (rReprOwn C sp E) := by
  intro pins s σ H xs us Q I r h
  obtain ⟨a, dx, vs, rfl, hsl, q⟩ := h
  obtain ⟨u, rfl, ru⟩ := vals1 r
  obtain rfl : u = Value.ref a := ru
  obtain ⟨sl, od, _, J, _⟩ := slt_inst I hsl
  have r1 : Room n X.A.in1 := Room.in1 hr
  refine repr_call r1.units0 I.kIn J hs hf (wpAny_mono (wpAny_call (run_at (us := [.ref a]) (ws := [.ref a]) F r1 I.env0.in1 hx I (.cons rfl .nil) q)) ?_ fun _ _ y => y)
  rintro v s' ⟨z, H', I', rz, y, ez, qz⟩
  subst ez
  obtain ⟨t, e⟩ := (show ∃ t, v = Value.str y t from rz)
  exact ⟨y, t, e, .str y, H', I', ⟨t, rfl⟩, qz⟩
def rBoolOwn (C : Addr) (sp : Sp) (E : XK) : List V → Hp → VK → Prop := fun xs H Q => ∃ a dx vs, xs = [V.ref a] ∧ Slt H a C dx vs ∧ sp [.ref a] H (fun z H' => ∃ b, z = .bl b ∧ Q z H') E
theorem call_boolOwn (hs : PySem.W.findIn X.K (.ref C) "__bool__" = some (some (.ref g))) (hf : PySem.W.isFn X.K (.ref g) = true) (F : FnR X.prog X.w X.K X.mg X.base CX n g sp) (hr : Room (n + 2) X.A) (hx : Passes CX X E) : CallR X (.type "bool") (rBoolOwn C sp E) := by
  intro pins s σ H xs us Q I r h
  obtain ⟨a, dx, vs, rfl, hsl, q⟩ := h
  obtain ⟨u, rfl, ru⟩ := vals1 r
  obtain rfl : u = Value.ref a := ru
  obtain ⟨sl, od, _, J, _⟩ := slt_inst I hsl
  have r1 : Room (n + 1) X.A.in1 := Room.in1 hr
  have r2 : Room n X.A.in1.in1 := Room.in1 r1
  refine bool_call I.kIn J hs hf (wpAny_mono (wpAny_call (run_at (us := [.ref a]) (ws := [.ref a]) F r2 I.env0.in1.in1 hx I (.cons rfl .nil) q)) ?_ fun _ _ y => y)
  rintro v s' ⟨z, H', I', rz, b, ez, qz⟩
  subst ez
  exact ⟨b, rz, .bl b, H', I', rfl, qz⟩
end
end Lamp

namespace Lamp
open PySem PySem.Spec PyProof.Rows L2
section
variable {P : Program} {w : World} {K : PySem.W.Frag} {mg : Str → Option Value} {base : Heap}
theorem okG0 {k : Nat} {f : Addr} {fd : FuncData} {x qual : Str} {st : Stmt} {N ps : List Str} {sp : Sp} (F : Fun K x qual st f fd) (S : FnScope N ps (defScope st)) (many : ∀ vs H Q E, sp vs H Q E → vs.length = ps.length)
    (hbody : ∀ (cdv : Value) (A : Around) (outer : List Env) (s : Shared) (H : Hp) (vs : List V) (Q : VK) (E : XK), A.guards = some [] → Room k (A.deeper (envOfC qual (defScope st) s.heap.objs.size f cdv)) → sp vs H Q E →
      ∃ t, PSs (cxOf CX0 P w K mg base N qual (defScope st) f cdv A outer s H E).nox (defBody st) t ∧ t { nx := fun _ H' => Q .non H', rt := Q } (start N vs) H) : Gd.FnG P w K mg base CX0 (k + 1) f fd ps sp :=
  Gd.okG F S many fun cdv A outer s H vs Q E hg hr h => let ⟨t, h1, q⟩ := hbody cdv A outer s H vs Q E hg hr h
    ⟨t, h1.nox, q⟩
end
end Lamp

/-! ## tuple(list): the new tuple is a plain object -/
namespace Lamp
open PySem PySem.Spec PyProof.Rows L2
theorem call_tupF {X : Cx} : CallR X (.type "tuple") (fun xs H Q => ∃ p ys, xs = [.ref p] ∧ SqL X.K H p ys ∧ ∀ (l : Addr) (its : List Value), H l = none → Q (.ref l) (upd H l (.frz (plainT its) (.tup ys)))) := by
  intro pins s σ H xs us Q I r h
  obtain ⟨p, ys, rfl, hq, q⟩ := h
  obtain ⟨u, rfl, rx⟩ := vals1 r
  cases rx
  obtain ⟨its, r', pl, hz⟩ := I.list hq
  have hlen := r'.length
  refine call_tuple_list pl.isList (fun h' kp => ?_) (by simp only [List.size_toArray] <;> omega)
  have I1 : Inv X pins σ H { s with heap := h' } := I.kept (t' := s.toks) kp
  have I2 : Inv X pins σ (upd H h'.objs.size (.frz (plainT its) (.tup ys))) { s with heap := h'.push { cls := .type "tuple", data := .seq its.toArray } } :=
    I1.laid (t' := s.toks) (fun b o e => Heap.get?_push_of_some _ e) (Nat.le_refl _) (show ObjOk X.prog X.w _ _ _ (.frz (plainT its) (.tup ys)) from ⟨Heap.get?_push_size _ rfl, hz, its, r', IsTup.new _ _⟩)
  exact ⟨.ref h'.objs.size, _, I2, rfl, q _ its (I1.hok.fresh (Nat.le_refl _))⟩
end Lamp
namespace Lamp
open PySem PySem.Spec PyProof.Rows L2
/-! ## dict(tuple of pairs) -/
theorem at2_refs {K : PySem.W.Frag} {H : Hp} : ∀ {vs : List V} {ls : List (Int × Int)}, Paired (At2 H) vs ls → ∃ ps : List Addr, vs = ps.map V.ref ∧ Paired (fun p (kv : Key × V) => SqT K H p [kV kv.1, kv.2]) ps (dI ls)
  | _, _, .nil => ⟨[], rfl, .nil⟩
  | _, _, .cons (b := ab) ⟨q, e, h⟩ t => by
    obtain ⟨ps, e2, h2⟩ := at2_refs (K := K) t
    subst e e2
    exact ⟨q :: ps, rfl, .cons (SqT.of h) h2⟩
section
variable {X : Cx}
theorem pairs2 {pins : List (Addr × Obj)} {σ : L2.St} {H : Hp} {s : Shared} (I : Inv X pins σ H s) : ∀ {ps : List Addr} {kvs : List (Key × V)}, Paired (fun p kv => SqT X.K H p [kV kv.1, kv.2]) ps kvs →
    ∃ (prs : List (Key × Value)) (pv : List (Value × Value)), KV kvs prs ∧ pv.length = ps.length ∧ prs.length = ps.length ∧ ∀ (j : Nat) (k v : Value), pv[j]? = some (k, v) → ∃ (b : Addr) (kk : Key), ps[j]? = some b ∧ prs[j]? = some (kk, v) ∧ s.heap.IsTuple b #[k, v] ∧ keyIs kk k = true
  | _, _, .nil => ⟨[], [], .nil, rfl, rfl, fun j k v e => by simp at e⟩
  | _, _, .cons (a := p) (b := kv) h t => by
    obtain ⟨prs, pv, r, hl, hl2, hp⟩ := pairs2 I t
    obtain ⟨its, rv, ht, _⟩ := I.tuple h
    obtain ⟨u, y, ei, ru, ry⟩ := vals2 rv
    subst ei
    refine ⟨(kv.1, y) :: prs, (u, y) :: pv, .cons ⟨rfl, ry⟩ r, by rw [List.length_cons, List.length_cons, hl], by rw [List.length_cons, List.length_cons, hl2], fun j k v e => ?_⟩
    cases j with
    | zero =>
      have e' : (u, y) = (k, v) := Option.some.inj e
      cases e'
      exact ⟨p, kv.1, rfl, rfl, ht, kV_is (P := X.prog) (w := X.w) ru⟩
    | succ j =>
      obtain ⟨b, kk, e1, e2, e3, e4⟩ := hp j k v (by simpa using e)
      exact ⟨b, kk, by simpa using e1, by simpa using e2, e3, e4⟩
theorem KE_dict {prog : Program} {w : World} {A : Around} {E : Value → Shared → Prop} {s : Shared} {t : Addr} {its : List Value} {ps : List Addr} {prs : List (Key × Value)} {pv : List (Value × Value)} {Q : Value → Shared → Prop} (hh : A.handled = none)
    (hget : s.heap.get? t = some (plainT its)) (edat : its.toArray = (ps.map Value.ref).toArray) (hl : pv.length = ps.length) (hl2 : prs.length = ps.length)
    (hp : ∀ (j : Nat) (k v : Value), pv[j]? = some (k, v) → ∃ (b : Addr) (kk : Key), ps[j]? = some b ∧ prs[j]? = some (kk, v) ∧ s.heap.IsTuple b #[k, v] ∧ keyIs kk k = true) (hz : pv.length ≤ sizeLine)
    (h : ∀ h' tk, h'.DictOf (mixKind prog w) s.heap.objs.size (merged [] prs) → (∀ b o, s.heap.get? b = some o → h'.get? b = some o) → Q (.ref s.heap.objs.size) { s with heap := h', toks := tk }) :
    wpAny (model prog w) A (call (.type "dict") [.ref t]) Q E s := by
  refine PySem.call_dict_pairs (knd := mixKind prog w) (kvs := prs) (PairArg.tuple t its.toArray (fun j => (ps[j]?).getD 0) pv) hh ⟨⟨plainT its, 0, hget, rfl, rfl, rfl⟩, ?_, fun j k v e => ?_⟩ ⟨by rw [hl, hl2], fun i key v e => ?_⟩ hz fun h' tk hd hk => h h' tk hd fun b o e => hk b o (fun z => nomatch z) e
  · rw [edat, List.size_toArray, List.length_map, hl]
  · obtain ⟨b, kk, e1, e2, e3, e4⟩ := hp j k v e
    have e0 : (fun j => (ps[j]?).getD 0) j = b := by
      show (ps[j]?).getD 0 = b
      rw [e1]
      rfl
    rw [edat, e0]
    exact ⟨by simp [e1], Or.inl e3⟩
  · obtain ⟨b, kk, e1, e2, e3, e4⟩ := hp i key v e
    exact ⟨kk, e2, e4⟩
theorem call_dictT (hcalm : X.calm = true) : CallR X (.type "dict") (fun xs H Q => ∃ (t : Addr) (ls : List (Int × Int)), xs = [.ref t] ∧ Pic H t ls ∧ ∀ p, H p = none → Q (.ref p) (upd H p (.dK (mergeK [] (dI ls))))) := by
  intro pins s σ H xs us Q I r q
  obtain ⟨t, ls, ex, ⟨vs, ⟨its, ht⟩, hall⟩, q⟩ := q
  subst ex
  obtain ⟨u, eu, rx⟩ := vals1 r
  subst eu
  cases rx
  obtain ⟨ps, evs, hps⟩ := at2_refs (K := X.K) hall
  subst evs
  obtain ⟨hget, hz, its', rv, hT⟩ := (show ObjOk X.prog X.w H s.heap t (.frz (plainT its) (.tup (ps.map V.ref))) from I.hok t _ ht)
  have ei := refs_at rv
  subst ei
  have hT' : s.heap.IsTuple t (ps.map Value.ref).toArray := hT
  have edat : its.toArray = (ps.map Value.ref).toArray := by
    obtain ⟨o, ho, hc, n, hd⟩ := hT'
    rw [hget] at ho
    cases ho
    exact (Data.seq.inj hd).1
  obtain ⟨prs, pv, rel, hl, hl2, hp⟩ := pairs2 I hps
  rw [List.length_map] at hz
  refine KE_dict (its := its) (ps := ps) (prs := prs) (pv := pv) (I.ok.hd hcalm) hget edat hl hl2 hp (by rw [hl]; exact hz) fun h' tk hd' k => ?_
  have hm : (s.heap.objs.size == sysModules) = false := beq_eq_false_iff_ne.mpr (Nat.ne_of_gt I.big)
  have hlen : (mergeK [] (dI ls)).length ≤ sizeLine := by
    refine Nat.le_trans (length_mergeK (dI ls) []) ?_
    rw [List.length_nil, Nat.zero_add, rel.length, hl2]
    exact hz
  exact ⟨.ref s.heap.objs.size, upd H s.heap.objs.size (.dK (mergeK [] (dI ls))), I.laid (t' := tk) k (Nat.le_refl _) (show ObjOk X.prog X.w _ _ _ (.dK (mergeK [] (dI ls))) from ⟨hlen, hm, merged [] prs, KV.merge rel .nil, hd'⟩), rfl, q _ (I.hok.fresh (Nat.le_refl _))⟩
end
end Lamp

/-! ## sorted(d.items()), d a table of ints -/
namespace Lamp
open PySem PySem.Spec PyProof.Rows L2 L2.DX
/-- the view d.items() of a table with any keys of one value each -/
def rItemsK : V → List V → Hp → VK → Prop := fun x xs H Q => ∃ (a : Addr) (kvs : List (Key × V)), x = .ref a ∧ xs = [] ∧ Rd H a (.dK kvs) ∧ ∀ p, H p = none → Q (.ref p) (upd H p (itemsO p a))
section
variable {X : Cx}
theorem mt_itemsK : MtR X "dict.items" rItemsK := by
  intro pins s σ H x xs v us Q I rx rxs h
  obtain ⟨a, kvs, rfl, rfl, ha, q⟩ := h
  cases rx
  cases rxs
  obtain ⟨z, hd, vs, kv, o, es, ep, ho, hx, hdat, _⟩ := (show ObjOk X.prog X.w H s.heap a (.dK kvs) from ha.ok I.hok)
  refine DT.callItems (es := es) (ep := ep) hd ⟨o, ho, hx, hdat⟩ ?_
  have hf : H s.heap.objs.size = none := I.hok.fresh (Nat.le_refl _)
  exact ⟨.ref s.heap.objs.size, upd H s.heap.objs.size (itemsO s.heap.objs.size a), I.laid (t' := s.toks) (fun b u e => Heap.get?_push_of_some _ e) (Nat.le_refl _) (itemsO_ok (Heap.get?_push_size _ rfl)), rfl, q _ hf⟩
/-- the ints of a pair -/
noncomputable def pairK (h : Heap) (v : Value) : Int × Int := by
  classical exact if e : ∃ p : Int × Int, Srt.IsPair h v p.1 p.2 then e.choose else (0, 0)
theorem pairK_is {h : Heap} {v : Value} {x y : Int} (p : Srt.IsPair h v x y) : pairK h v = (x, y) := by
  have e : ∃ p : Int × Int, Srt.IsPair h v p.1 p.2 := ⟨(x, y), p⟩
  have h1 : pairK h v = e.choose := by
    unfold pairK
    exact dif_pos e
  rw [h1]
  obtain ⟨a, o, t, u, n, e1, ho, hc, hd⟩ := e.choose_spec
  obtain ⟨a', o', t', u', n', e1', ho', hc', hd'⟩ := p
  rw [e1] at e1'
  cases e1'
  rw [ho] at ho'
  cases ho'
  rw [hd] at hd'
  have z := (Data.seq.inj hd').1
  have z2 : [Value.int e.choose.1 t, Value.int e.choose.2 u] = [Value.int x t', Value.int y u'] := congrArg Array.toList z
  have z3 := (List.cons.inj z2).1
  have z4 := (List.cons.inj (List.cons.inj z2).2).1
  exact Prod.ext (Value.int.inj z3).1 (Value.int.inj z4).1
/-- sorted by their keys; a new list of new pairs -/
def rSortII : List V → Hp → VK → Prop := fun xs H Q => ∃ (p a : Addr) (tab : List (Int × Int)), xs = [.ref p] ∧ H p = some (itemsO p a) ∧ Rd H a (.dK (dI tab)) ∧ (keysOf tab).Nodup ∧
  ∀ (l : Addr) (ps : List V) (ls : List (Int × Int)) (H' : Hp), H l = none → ls.Perm tab → (keysOf ls).Pairwise (· < ·) → H' l = some (.lst ps) → Paired (At2 H') ps ls → Same H H' → Q (.ref l) H'
theorem dI_at {tab : List (Int × Int)} {vs : List (Key × Value)} {j : Nat} {kv : Key × Value} (h : KV (dI tab) vs) (e : vs[j]? = some kv) : ∃ ab t, tab[j]? = some ab ∧ kv.1 = Sum.inl ab.1 ∧ kv.2 = Value.int ab.2 t := by
  have flip : ∀ {l : List (Key × V)} {m : List (Key × Value)} {j : Nat} {kv : Key × Value}, KV l m → m[j]? = some kv → ∃ kw, l[j]? = some kw ∧ kw.1 = kv.1 ∧ RelV kw.2 kv.2 := by
    intro l m j kv h
    unfold KV at h
    induction h generalizing j with
    | nil => intro e; simp at e
    | cons r t ih =>
      intro e
      cases j with
      | zero =>
        have e2 := Option.some.inj e
        subst e2
        exact ⟨_, rfl, r.1, r.2⟩
      | succ j => exact ih (by simpa using e)
  obtain ⟨kw, e1, e2, e3⟩ := flip h e
  unfold dI at e1
  rw [List.getElem?_map] at e1
  cases e4 : tab[j]? with
  | none =>
    rw [e4] at e1
    cases e1
  | some ab =>
    rw [e4] at e1
    have e5 := Option.some.inj e1
    subst e5
    obtain ⟨t, et⟩ := e3
    exact ⟨ab, t, rfl, e2.symm, et⟩
theorem pairsE_at {knd : KeyKind X.prog X.w Key} {es : List DictEntry} {kvs : List (Key × Value)} (h : Pairs knd es kvs) {j : Nat} {e : DictEntry} (he : es[j]? = some e) : ∃ kv, kvs[j]? = some kv ∧ knd.is kv.1 e.key = true ∧ e.val = kv.2 := by
  induction h generalizing j with
  | nil => simp at he
  | cons h1 h2 t ih =>
    cases j with
    | zero =>
      have e2 := Option.some.inj he
      subst e2
      exact ⟨_, rfl, h1, h2⟩
    | succ j => exact ih (by simpa using he)
theorem pick_pairs {f : Value → Int × Int} : ∀ (as : List Addr) (tab : List (Int × Int)), as.length = tab.length → (∀ (j : Nat) (b : Addr), as[j]? = some b → ∃ ab, tab[j]? = some ab ∧ f (.ref b) = ab) → as.map (fun b => f (.ref b)) = tab
  | [], [], _, _ => rfl
  | [], _ :: _, h, _ => by simp at h
  | _ :: _, [], h, _ => by simp at h
  | a :: as, ab :: tab, h, g => by
    obtain ⟨ab', e1, e2⟩ := g 0 a rfl
    have e3 : ab = ab' := Option.some.inj e1
    rw [List.map_cons, e2, ← e3, pick_pairs as tab (by simpa using h) fun j b hj => by simpa using g (j + 1) b (by simpa using hj)]
theorem pairs_all {H2 : Hp} {f : Value → Int × Int} : ∀ {os : List Addr}, (∀ b ∈ os, ∃ ab : Int × Int, f (.ref b) = ab ∧ H2 b = some (.tup [V.int ab.1, V.int ab.2])) → Paired (At2 H2) (os.map V.ref) (os.map fun b => f (.ref b))
  | [], _ => .nil
  | b :: os, all => by
    obtain ⟨ab, e1, e2⟩ := all b (List.mem_cons_self ..)
    refine .cons ⟨b, rfl, ?_⟩ (pairs_all fun c hcm => all c (List.mem_cons_of_mem _ hcm))
    show H2 b = some (.tup [V.int (f (.ref b)).1, V.int (f (.ref b)).2])
    rw [e1]
    exact e2
theorem cr_sortedItemsI (hc : X.calm = true) : CallR X (.builtin "sorted") rSortII := by
  intro pins s σ H xs us Q I r h
  obtain ⟨p, a, tab, rfl, hp, ha, hnd, q⟩ := h
  obtain rfl := Vals.ref1 r
  have view : s.heap.IsItemsView p a := (show ObjOk X.prog X.w H s.heap p (itemsO p a) from I.hok p _ hp).1
  obtain ⟨z, hd, vs, kv, o, es, ep, ho, hx, hdat, hko, hpr, hn2⟩ := (show ObjOk X.prog X.w H s.heap a (.dK (dI tab)) from ha.ok I.hok)
  have l1 : (dI tab).length = vs.length := Paired.len kv
  have l2 : es.toList.length = vs.length := hpr.length
  rw [Array.length_toList] at l2
  rw [dI_len] at l1 z
  have hh : X.A.handled = none := I.ok.hd hc
  refine DT.sortedI (es := es) (ep := ep) hh view ⟨o, ho, hx, hdat⟩ (by omega) fun h' tk as hk hlt hl hG => ?_
  have lak : as.length = tab.length := by omega
  have nd : as.Nodup := List.Pairwise.imp (fun h => Nat.ne_of_lt h) hG.rise
  have pr : ∀ (j : Nat) (b : Addr), as[j]? = some b → ∃ (ab : Int × Int) (t u : Tok), tab[j]? = some ab ∧ h'.get? b = some { cls := .type "tuple", data := .seq #[Value.int ab.1 t, Value.int ab.2 u] } := by
    intro j b hj
    obtain ⟨en, he, hg⟩ := hG.pairs j b hj
    have he' : es.toList[j]? = some en := by rw [Array.getElem?_toList]; exact he
    obtain ⟨kv0, hv0, hent⟩ := pairsE_at hpr he'
    obtain ⟨ab, u, h1, h2, h3⟩ := dI_at kv hv0
    obtain ⟨hk1, hk2⟩ := hent
    rw [h2] at hk1
    rcases keyIs_shape (show keyIs (Sum.inl ab.1) en.key = true from hk1) with ⟨i, t, ei, ev⟩ | ⟨x, t, ei, ev⟩
    · cases ei
      refine ⟨ab, t, u, h1, ?_⟩
      rw [hg, ev, hk2, h3]
    · cases ei
  -- the heap of the sort
  have hob : (h'.push { cls := .type "list", data := .seq (as.map Value.ref).toArray }).get? h'.objs.size = some (seqObj "list" (as.map Value.ref).toArray 0) := Heap.get?_push_size _ rfl
  have kb : ∀ b o, s.heap.get? b = some o → (h'.push { cls := .type "list", data := .seq (as.map Value.ref).toArray }).get? b = some o := fun b o e => Heap.get?_push_of_some _ (hk b o e)
  have ne0 : ∀ b o, h'.get? b = some o → b ≠ h'.objs.size := fun b o e => Nat.ne_of_lt (Heap.lt_size e)
  have ka : ∀ b o, h'.get? b = some o → (h'.push { cls := .type "list", data := .seq (as.map Value.ref).toArray }).get? b = some o := fun b o e => Heap.get?_push_of_some _ e
  generalize hh2 : h'.push { cls := .type "list", data := .seq (as.map Value.ref).toArray } = h2 at hob kb ka ⊢
  have isP : ∀ (j : Nat) (b : Addr), as[j]? = some b → ∃ ab : Int × Int, tab[j]? = some ab ∧ Srt.IsPair h2 (.ref b) ab.1 ab.2 := by
    intro j b hj
    obtain ⟨ab, t, u, h1, hg⟩ := pr j b hj
    exact ⟨ab, h1, b, _, t, u, 0, rfl, ka _ _ hg, rfl, rfl⟩
  have at_ : ∀ v ∈ as.map Value.ref, ∃ (j : Nat) (b : Addr), v = .ref b ∧ as[j]? = some b := by
    intro v hv'
    obtain ⟨b, hb, rfl⟩ := List.mem_map.mp hv'
    obtain ⟨j, hj⟩ := List.mem_iff_getElem?.mp hb
    exact ⟨j, b, rfl, hj⟩
  have isK : ∀ v ∈ as.map Value.ref, Srt.IsPair h2 v (pairK h2 v).1 (pairK h2 v).2 := by
    intro v hv'
    obtain ⟨j, b, rfl, hj⟩ := at_ v hv'
    obtain ⟨ab, _, hpq⟩ := isP j b hj
    rw [pairK_is hpq]
    exact hpq
  have hz2 : (as.map Value.ref).length ≤ sizeLine := by
    rw [List.length_map, lak]
    exact z
  refine wpAny_call_entry PyProof.Rows.slot_list_sort ⟨_, hob, rfl⟩ PyProof.Rows.entry_list_sort
    (SrtO.list_sort_ord (s := { s with heap := h2, toks := tk }) (SrtO.swo_lex (pairK h2)) hob hz2 (fun hl2 => SrtO.pairs_sortableO (s := { s with heap := h2, toks := tk }) (by omega) isK fun o e => ?_) fun out hs hb => ⟨.none, rfl, ?_⟩) (PyProof.Rows.args_list_sort _)
  · have e' : some o = some (seqObj "list" (as.map Value.ref).toArray 0) := e.symm.trans hob
    cases e'
    intro c
    exact absurd (Value.type.inj c) (by decide)
  · show EP X pins σ Q (.ref h'.objs.size) { s with heap := sortedHeap h2 h'.objs.size (as.map Value.ref) out.toArray, toks := tk }
    have kF : ∀ b o, b ≠ h'.objs.size → h2.get? b = some o → (sortedHeap h2 h'.objs.size (as.map Value.ref) out.toArray).get? b = some o := fun b o hb e => (PyProof.Rows.sortedHeap_old hb (Heap.lt_size e)).trans e
    have kS : ∀ b o, s.heap.get? b = some o → (sortedHeap h2 h'.objs.size (as.map Value.ref) out.toArray).get? b = some o := fun b o e => kF b o (ne0 _ _ (hk b o e)) (kb b o e)
    obtain ⟨eF, heF⟩ := PyProof.Rows.sortedHeap_at (vs := as.map Value.ref) (out := out.toArray) hob
    have I1 : Inv X pins σ H { s with heap := sortedHeap h2 h'.objs.size (as.map Value.ref) out.toArray, toks := tk } := I.kept (t' := tk) kS
    have hn0 : H h'.objs.size = none := I.hok.fresh (Nat.le_of_lt hlt)
    -- the out list's addresses
    have hrefs : ∀ v ∈ out, ∃ b, v = Value.ref b := fun v hv' => by
      obtain ⟨j, b, e, _⟩ := at_ v (hb.perm.mem_iff.mp hv')
      exact ⟨b, e⟩
    obtain ⟨os, eos⟩ : ∃ os : List Addr, out = os.map Value.ref := by
      clear hs hb heF I1 kS kF eF
      induction out with
      | nil => exact ⟨[], rfl⟩
      | cons v r ih =>
        obtain ⟨b, e⟩ := hrefs v (List.mem_cons_self ..)
        obtain ⟨os, e2⟩ := ih fun u hu => hrefs u (List.mem_cons_of_mem _ hu)
        exact ⟨b :: os, by rw [e, e2]; rfl⟩
    subst eos
    have hpm : os.Perm as := by
      have e := hb.perm.map (fun v => match v with | Value.ref b => b | _ => 0)
      rw [List.map_map, List.map_map] at e
      have i1 : ((fun v => match v with | Value.ref b => b | _ => 0) ∘ Value.ref) = (id : Addr → Addr) := rfl
      rw [i1, List.map_id, List.map_id] at e
      exact e
    have len2 : os.length = tab.length := by rw [hpm.length_eq]; exact lak
    have I2 : Inv X pins σ (upd H h'.objs.size (.lst (os.map V.ref))) { s with heap := sortedHeap h2 h'.objs.size (as.map Value.ref) (os.map Value.ref).toArray, toks := tk } :=
      I1.take (h' := sortedHeap h2 h'.objs.size (as.map Value.ref) (os.map Value.ref).toArray) (t' := tk) (fun b ob _ e => e) (I.fpOk (Nat.le_of_lt hlt) hn0) ⟨by rw [List.length_map, len2]; exact z, os.map Value.ref, eF, vals_maps V.ref Value.ref os fun _ _ => rfl, heF⟩
    obtain ⟨H2, I3, g, qt⟩ := takeT (P := fun b vs => ∃ ab : Int × Int, pairK h2 (.ref b) = ab ∧ vs = [V.int ab.1, V.int ab.2]) I as _ I2 nd fun b hb' => by
      obtain ⟨j, hj⟩ := List.mem_iff_getElem?.mp hb'
      obtain ⟨ab, t, u, h1, hg⟩ := pr j b hj
      obtain ⟨ab', h1', hpq⟩ := isP j b hj
      have eab : ab = ab' := Option.some.inj (h1.symm.trans h1')
      have hbl : s.heap.objs.size ≤ b := Nat.le_of_lt (hG.above b hb')
      refine ⟨hbl, ?_, [.int ab.1, .int ab.2], ⟨ab, by rw [pairK_is hpq, eab], rfl⟩, fun H3 => ⟨(by show 2 ≤ sizeLine; decide), [Value.int ab.1 t, Value.int ab.2 u], .cons ⟨_, rfl⟩ (.cons ⟨_, rfl⟩ .nil), ⟨_, kF _ _ (ne0 _ _ hg) (ka _ _ hg), rfl, 0, rfl⟩⟩⟩
      rw [upd_ne (ne0 _ _ hg)]
      exact I.hok.fresh hbl
    have gr : Same H H2 := fun b o e => g b o (by rw [upd_ne (ne_of_none e hn0)]; exact e)
    have emap : as.map (fun b => pairK h2 (.ref b)) = tab := pick_pairs as tab lak fun j b hj => by
      obtain ⟨ab, h1, hpq⟩ := isP j b hj
      exact ⟨ab, h1, pairK_is hpq⟩
    have hperm : (os.map fun b => pairK h2 (.ref b)).Perm tab := by
      have e := hpm.map (fun b => pairK h2 (.ref b))
      rw [emap] at e
      exact e
    have hkn : (keysOf (os.map fun b => pairK h2 (.ref b))).Nodup := (hperm.map Prod.fst).nodup_iff.mpr hnd
    have hle : (keysOf (os.map fun b => pairK h2 (.ref b))).Pairwise (· ≤ ·) := by
      unfold keysOf
      rw [List.map_map, List.pairwise_map]
      have hs' : (os.map Value.ref).Pairwise (fun v u => SrtO.lexB (pairK h2 u) (pairK h2 v) = false) := hs
      rw [List.pairwise_map] at hs'
      refine hs'.imp fun {x y} h => ?_
      have h3 := SrtO.lexB_no.mp h
      show (pairK h2 (.ref x)).1 ≤ (pairK h2 (.ref y)).1
      omega
    refine ⟨.ref h'.objs.size, H2, I3, rfl, q h'.objs.size (os.map V.ref) (os.map fun b => pairK h2 (.ref b)) H2 hn0 hperm (rising hle hkn) (g _ _ upd_same) ?_ gr⟩
    have all : ∀ b ∈ os, ∃ ab : Int × Int, pairK h2 (.ref b) = ab ∧ H2 b = some (.tup [V.int ab.1, V.int ab.2]) := fun b hb' => by
      obtain ⟨vs, ⟨ab, e1, e2⟩, e3⟩ := qt b (hpm.mem_iff.mp hb')
      exact ⟨ab, e1, by rw [e3, e2]⟩
    exact pairs_all all
end
end Lamp

/-! ## Tables put together: what a round behind another one lights -/
namespace Lamp
open PySem PySem.Spec PyProof.Rows L2
/-- the level at a place -/
def lv (t : List (Int × Int)) (k : Int) : Int := (tget t k).getD 0
theorem tget_nil (k : Int) : tget [] k = none := rfl
theorem tget_cons (ab : Int × Int) (r : List (Int × Int)) (k : Int) : tget (ab :: r) k = if ab.1 = k then some ab.2 else tget r k := by
  unfold tget
  rw [List.find?_cons]
  by_cases h : ab.1 = k
  · rw [if_pos h, decide_eq_true h]
    rfl
  · rw [if_neg h, decide_eq_false h]
theorem tget_app : ∀ (t u : List (Int × Int)) (k : Int), tget (t ++ u) k = (tget t k).or (tget u k)
  | [], u, k => by
    rw [tget_nil]
    rfl
  | ab :: r, u, k => by
    rw [List.cons_append, tget_cons, tget_cons, tget_app r u k]
    by_cases h : ab.1 = k
    · rw [if_pos h, if_pos h]
      rfl
    · rw [if_neg h, if_neg h]
theorem tget_none {t : List (Int × Int)} {k : Int} (h : k ∉ keysOf t) : tget t k = none := by
  cases e : tget t k with
  | none => rfl
  | some v => exact absurd (List.mem_map.mpr ⟨_, tget_mem e, rfl⟩) h
theorem tget_upd : ∀ (t : List (Int × Int)) (k v j : Int), tget (t.map fun ab => if ab.1 = k then (ab.1, v) else ab) j = if j = k ∧ k ∈ keysOf t then some v else tget t j
  | [], k, v, j => by
    rw [List.map_nil, tget_nil, if_neg]
    rintro ⟨_, h⟩
    cases h
  | ab :: r, k, v, j => by
    rw [List.map_cons, tget_cons, tget_upd r k v j, tget_cons]
    have e1 : (if ab.1 = k then (ab.1, v) else ab).1 = ab.1 := by split <;> rfl
    have e3 : keysOf (ab :: r) = ab.1 :: keysOf r := rfl
    rw [e1, e3]
    by_cases h1 : ab.1 = j
    · rw [if_pos h1]
      by_cases h2 : ab.1 = k
      · rw [if_pos h2, if_pos ⟨h1.symm.trans h2, by rw [h2]; exact List.mem_cons_self ..⟩]
      · rw [if_neg h2, if_neg (fun q => h2 (h1.trans q.1)), if_pos h1]
    · rw [if_neg h1]
      by_cases h2 : j = k ∧ k ∈ keysOf r
      · rw [if_pos h2, if_pos ⟨h2.1, List.mem_cons_of_mem _ h2.2⟩]
      · rw [if_neg h2, if_neg, if_neg h1]
        rintro ⟨q1, q2⟩
        rcases List.mem_cons.mp q2 with q2 | q2
        · exact h1 (q2.symm.trans q1.symm)
        · exact h2 ⟨q1, q2⟩
theorem tget_put (t : List (Int × Int)) (k v j : Int) : tget (tput t k v) j = if j = k then some v else tget t j := by
  unfold tput
  by_cases h : thas t k = true
  · rw [if_pos h, tget_upd]
    by_cases e : j = k
    · rw [if_pos e, if_pos ⟨e, thas_mem.mp h⟩]
    · rw [if_neg e, if_neg fun q => e q.1]
  · rw [if_neg h, tget_app, tget_cons, tget_nil]
    have hk : k ∉ keysOf t := fun m => h (thas_mem.mpr m)
    by_cases e : j = k
    · rw [if_pos e, e, tget_none hk, if_pos rfl]
      rfl
    · rw [if_neg e, if_neg fun q => e q.symm]
      cases tget t j <;> rfl
theorem tget_del : ∀ (t : List (Int × Int)) (k j : Int), tget (tdel t k) j = if j = k then none else tget t j
  | [], k, j => by
    show tget [] j = _
    rw [tget_nil]
    split <;> rfl
  | ab :: r, k, j => by
    have ih := tget_del r k j
    unfold tdel at ih ⊢
    by_cases h : ab.1 = k
    · rw [List.filter_cons_of_neg (by simp [h]), ih, tget_cons]
      by_cases e : j = k
      · rw [if_pos e, if_pos e]
      · rw [if_neg e, if_neg e, if_neg fun q => e (q.symm.trans h)]
    · rw [List.filter_cons_of_pos (by simp [h]), tget_cons, ih, tget_cons]
      by_cases e : ab.1 = j
      · rw [if_pos e, if_pos e, if_neg fun q => h (e.trans q)]
      · rw [if_neg e, if_neg e]
theorem lv_put (t : List (Int × Int)) (k v j : Int) : lv (tput t k v) j = if j = k then v else lv t j := by
  unfold lv
  rw [tget_put]
  split <;> rfl
theorem lv_del (t : List (Int × Int)) (k j : Int) : lv (tdel t k) j = if j = k then 0 else lv t j := by
  unfold lv
  rw [tget_del]
  split <;> rfl
theorem nodup_tdel {t : List (Int × Int)} (k : Int) (h : (keysOf t).Nodup) : (keysOf (tdel t k)).Nodup := by
  unfold keysOf tdel
  exact h.sublist (List.filter_sublist.map _)
theorem mem_tdel {t : List (Int × Int)} {k : Int} {ab : Int × Int} (h : ab ∈ tdel t k) : ab ∈ t := (List.mem_filter.mp h).1
theorem len_tdel (t : List (Int × Int)) (k : Int) : (tdel t k).length ≤ t.length := List.length_filter_le ..
/-- one lamp more -/
def addS (p m c : Int) (acc : List (Int × Int)) (ab : Int × Int) : List (Int × Int) :=
  if (lv acc (ab.1 + m) + c * ab.2) % p = 0 then tdel acc (ab.1 + m) else tput acc (ab.1 + m) ((lv acc (ab.1 + m) + c * ab.2) % p)
def addT (p : Int) (one other : List (Int × Int)) (m c : Int) : List (Int × Int) := other.foldl (addS p m c) one
/-- a table of p levels: each place once, each level between -/
structure Tab (p : Int) (t : List (Int × Int)) : Prop where
  nd : (keysOf t).Nodup
  lev : ∀ ab ∈ t, 0 < ab.2 ∧ ab.2 < p
theorem Good.tab {p : Int} {ls : List (Int × Int)} (h : Good p ls) : Tab p ls := ⟨h.asc.imp fun h => Int.ne_of_lt h, h.lev⟩
theorem Tab.lv {p : Int} {t : List (Int × Int)} (h : Tab p t) (hp : 0 < p) (k : Int) : 0 ≤ Lamp.lv t k ∧ Lamp.lv t k < p := by
  unfold Lamp.lv
  cases e : tget t k with
  | none => exact ⟨Int.le_refl 0, hp⟩
  | some v =>
    have := h.lev _ (tget_mem e)
    exact ⟨Int.le_of_lt this.1, this.2⟩
theorem Tab.addS {p m c : Int} {acc : List (Int × Int)} {ab : Int × Int} (hp : 0 < p) (h : Tab p acc) : Tab p (addS p m c acc ab) := by
  unfold Lamp.addS
  split
  · exact ⟨nodup_tdel _ h.nd, fun cd hc => h.lev cd (mem_tdel hc)⟩
  · rename_i hne
    refine ⟨nodup_tput _ _ h.nd, fun cd hc => ?_⟩
    rcases mem_tput hc with hc | rfl
    · exact h.lev cd hc
    · have h1 := Int.emod_nonneg (Lamp.lv acc (ab.1 + m) + c * ab.2) (Int.ne_of_gt hp)
      have h2 := Int.emod_lt_of_pos (Lamp.lv acc (ab.1 + m) + c * ab.2) hp
      exact ⟨by show 0 < _ % p; omega, h2⟩
theorem Tab.addT {p m c : Int} (hp : 0 < p) : ∀ {other acc : List (Int × Int)}, Tab p acc → Tab p (addT p acc other m c)
  | [], _, h => h
  | ab :: r, acc, h => Tab.addT (other := r) hp (h.addS hp)
theorem addS_lv (p m c : Int) (acc : List (Int × Int)) (ab : Int × Int) (j : Int) : lv (addS p m c acc ab) j = if j = ab.1 + m then (lv acc (ab.1 + m) + c * ab.2) % p else lv acc j := by
  unfold addS
  split
  · rename_i h
    rw [lv_del, h]
  · rw [lv_put]
theorem lv_cons (ab : Int × Int) (r : List (Int × Int)) (k : Int) : lv (ab :: r) k = if ab.1 = k then ab.2 else lv r k := by
  unfold lv
  rw [tget_cons]
  split <;> rfl
/-- THE SUM -/
theorem addT_lv {p m c : Int} (hp : 0 < p) : ∀ {other acc : List (Int × Int)}, Tab p acc → (keysOf other).Nodup → ∀ j, lv (addT p acc other m c) j = (lv acc j + c * lv other (j - m)) % p
  | [], acc, h, _, j => by
    have e := h.lv hp j
    show lv acc j = _
    have e0 : lv [] (j - m) = 0 := rfl
    rw [e0, Int.mul_zero, Int.add_zero, Int.emod_eq_of_lt e.1 e.2]
  | ab :: r, acc, h, hn, j => by
    have hn' := List.nodup_cons.mp (show (ab.1 :: keysOf r).Nodup from hn)
    have ih := addT_lv (m := m) (c := c) hp (other := r) (acc := addS p m c acc ab) (h.addS hp) hn'.2 j
    show lv (addT p (addS p m c acc ab) r m c) j = _
    rw [ih, addS_lv, lv_cons]
    by_cases e : j = ab.1 + m
    · have e2 : ab.1 = j - m := by omega
      have e3 : lv r (j - m) = 0 := by
        unfold lv
        rw [tget_none (by rw [← e2]; exact hn'.1)]
        rfl
      rw [if_pos e, if_pos e2, e3, Int.mul_zero, Int.add_zero, Int.emod_emod_of_dvd _ (Int.dvd_refl p), e]
    · have e2 : ¬ ab.1 = j - m := by omega
      rw [if_neg e, if_neg e2]
theorem addS_mem {p m c : Int} {acc : List (Int × Int)} {ab cd : Int × Int} (h : cd ∈ addS p m c acc ab) : cd ∈ acc ∨ cd.1 = ab.1 + m := by
  unfold addS at h
  split at h
  · exact Or.inl (mem_tdel h)
  · rcases mem_tput h with h | rfl
    · exact Or.inl h
    · exact Or.inr rfl
theorem addT_mem {p m c : Int} : ∀ {other acc : List (Int × Int)} {cd : Int × Int}, cd ∈ addT p acc other m c → cd ∈ acc ∨ ∃ ab ∈ other, cd.1 = ab.1 + m
  | [], _, _, h => Or.inl h
  | ab :: r, acc, cd, h => by
    rcases addT_mem (other := r) (acc := addS p m c acc ab) h with h | ⟨x, hx, e⟩
    · rcases addS_mem h with h | h
      · exact Or.inl h
      · exact Or.inr ⟨ab, List.mem_cons_self .., h⟩
    · exact Or.inr ⟨x, List.mem_cons_of_mem _ hx, e⟩
theorem addS_len (p m c : Int) (acc : List (Int × Int)) (ab : Int × Int) : (addS p m c acc ab).length ≤ acc.length + 1 := by
  unfold addS
  split
  · exact Nat.le_trans (len_tdel _ _) (Nat.le_succ _)
  · exact len_tput _ _ _
theorem addT_len (p m c : Int) : ∀ (other acc : List (Int × Int)), (addT p acc other m c).length ≤ acc.length + other.length
  | [], acc => Nat.le_refl _
  | ab :: r, acc => by
    have h1 := addT_len p m c r (addS p m c acc ab)
    have h2 := addS_len p m c acc ab
    show (addT p (addS p m c acc ab) r m c).length ≤ _
    rw [List.length_cons]
    omega
theorem lv_out {ls : List (Int × Int)} {k : Int} (h : k ∉ keysOf ls) : lv ls k = 0 := by
  unfold lv
  rw [tget_none h]
  rfl
/-- two right pictures that light the same are the same -/
theorem Good.ext {p : Int} : ∀ {ls ms : List (Int × Int)}, Good p ls → Good p ms → (∀ k, lv ls k = lv ms k) → ls = ms
  | [], [], _, _, _ => rfl
  | [], b :: m, _, h2, e => by
    have h := (h2.lev b (List.mem_cons_self ..)).1
    have e1 := e b.1
    rw [lv_cons, if_pos rfl, lv_out (by simp [keysOf])] at e1
    omega
  | a :: l, [], h1, _, e => by
    have h := (h1.lev a (List.mem_cons_self ..)).1
    have e1 := e a.1
    rw [lv_cons, if_pos rfl, lv_out (by simp [keysOf])] at e1
    omega
  | a :: l, b :: m, h1, h2, e => by
    have p1 := List.pairwise_cons.mp (show (a.1 :: keysOf l).Pairwise (· < ·) from h1.asc)
    have p2 := List.pairwise_cons.mp (show (b.1 :: keysOf m).Pairwise (· < ·) from h2.asc)
    have la := (h1.lev a (List.mem_cons_self ..)).1
    have lb := (h2.lev b (List.mem_cons_self ..)).1
    have na : ∀ k, k < a.1 → lv (a :: l) k = 0 := fun k hk => lv_out fun m => by
      rcases List.mem_cons.mp (show k ∈ a.1 :: keysOf l from m) with q | q
      · omega
      · have := p1.1 k q
        omega
    have nb : ∀ k, k < b.1 → lv (b :: m) k = 0 := fun k hk => lv_out fun m => by
      rcases List.mem_cons.mp (show k ∈ b.1 :: keysOf _ from m) with q | q
      · omega
      · have := p2.1 k q
        omega
    have ea := e a.1
    have eb := e b.1
    rw [lv_cons, if_pos rfl] at ea
    rw [lv_cons b m b.1, if_pos rfl] at eb
    have e1 : a.1 = b.1 := by
      rcases Int.lt_trichotomy a.1 b.1 with q | q | q
      · rw [nb _ q] at ea
        omega
      · exact q
      · rw [na _ q] at eb
        omega
    rw [lv_cons, if_pos e1.symm] at ea
    have eab : a = b := Prod.ext e1 ea
    subst eab
    congr 1
    refine Good.ext ⟨p1.2, fun ab h => h1.lev ab (List.mem_cons_of_mem _ h)⟩ ⟨p2.2, fun ab h => h2.lev ab (List.mem_cons_of_mem _ h)⟩ fun k => ?_
    by_cases hk : a.1 = k
    · subst hk
      rw [lv_out fun m => Int.lt_irrefl _ (p1.1 _ m), lv_out fun m => Int.lt_irrefl _ (p2.1 _ m)]
    · have := e k
      rw [lv_cons, lv_cons, if_neg hk, if_neg hk] at this
      exact this
theorem lv_of_mem {t : List (Int × Int)} (hn : (keysOf t).Nodup) {ab : Int × Int} (h : ab ∈ t) : lv t ab.1 = ab.2 := by
  induction t with
  | nil => cases h
  | cons x r ih =>
    have hn' := List.nodup_cons.mp (show (x.1 :: keysOf r).Nodup from hn)
    rw [lv_cons]
    rcases List.mem_cons.mp h with rfl | h
    · rw [if_pos rfl]
    · by_cases e : x.1 = ab.1
      · exact absurd (by rw [e]; exact List.mem_map.mpr ⟨ab, h, rfl⟩) hn'.1
      · rw [if_neg e]
        exact ih hn'.2 h
/-- the same lamps in another order light the same -/
theorem lv_perm {t u : List (Int × Int)} (hn : (keysOf t).Nodup) (h : t.Perm u) (k : Int) : lv t k = lv u k := by
  have hn2 : (keysOf u).Nodup := (h.map Prod.fst).nodup_iff.mp hn
  by_cases m : k ∈ keysOf t
  · obtain ⟨ab, h1, rfl⟩ := List.mem_map.mp m
    rw [lv_of_mem hn h1, lv_of_mem hn2 (h.mem_iff.mp h1)]
  · have m2 : k ∉ keysOf u := fun q => m ((h.map Prod.fst).mem_iff.mpr q)
    rw [lv_out m, lv_out m2]
/-- a table in the order of its places -/
theorem Tab.good {p : Int} {t ls : List (Int × Int)} (h : Tab p t) (hp : ls.Perm t) (ha : (keysOf ls).Pairwise (· < ·)) : Good p ls := ⟨ha, fun ab hm => h.lev ab (hp.mem_iff.mp hm)⟩
/-- dict(tuple): all places unlike -/
theorem mergeK_dI : ∀ (r acc : List (Int × Int)), (keysOf (acc ++ r)).Nodup → mergeK (dI acc) (dI r) = dI (acc ++ r)
  | [], acc, _ => by
    rw [List.append_nil]
    rfl
  | ab :: r, acc, h => by
    have hk : ab.1 ∉ keysOf acc := by
      intro m
      unfold keysOf at h m
      rw [List.map_append, List.nodup_append] at h
      exact h.2.2 _ m _ (List.mem_cons_self ..) rfl
    have e1 : mergeK (dI acc) (dI (ab :: r)) = mergeK (putK (dI acc) (Sum.inl ab.1) (V.int ab.2)) (dI r) := rfl
    have e2 : tput acc ab.1 ab.2 = acc ++ [ab] := by
      unfold tput
      rw [if_neg fun q => hk (thas_mem.mp q)]
    rw [e1, dI_put, e2, mergeK_dI r (acc ++ [ab]) (by rw [List.append_assoc]; exact h), List.append_assoc]
    rfl
end Lamp

/-! ## f(name = e, ..): keywords alone -/
namespace Lamp
open PySem PySem.Spec PyProof.Rows L2
section
variable {X : Cx} {CX : CXT} {k : Nat} {f : Addr} {fd : FuncData} {ps ks : List Str} {sp : Sp} {E : XK} {x : Str} {p pos : Pos} {kws : List Keyword} {tk : TA} {g : List Value → List Value → List Value} {gV : List V → List V → List V}
theorem pe_callK0 (F : FnOk X.prog X.w X.K X.mg X.base CX k f fd ps sp) (hr : Room k X.A) (hg : Gl X x) (hm : X.mg x = some (.ref f)) (hk : PySem.W.keepIn X.K (.ref f) = true) (hb : KBn X.K fd ps 0 ks g gV) (hx : Passes CX X E) (hkw : PK X kws tk)
    (hall : (backToKw pos (keywordEach kws X.env)).all (·.1.isSome) = true := by rfl) (hks : (backToKw pos (keywordEach kws X.env)).filterMap (·.1) = ks := by rfl) (hdb : (x == ("__debug__" : Str)) = false := by decide)
    (hpl : ((backTo pos (starEach [] X.env)).any (·.1) || (backToKw pos (keywordEach kws X.env)).any (·.1.isNone)) = false := by rfl) :
    PE X (.Call (.Name x p) [] kws pos) (tCallN 0 ks.length sp gV E tNil tk) := by
  refine ⟨fun pins s σ H Q I h => ?_⟩
  refine wpAny_Call_Name_kw (ld_glob I hg hm ?_ hdb)
  refine PySem.W.callWith_KW0 (h₀ := X.base) I.ok.mod.kin hk hall ?_ hpl
  refine thn (hkw.run pos pins s σ H _ I h) fun ws s2 ⟨zs, H2, I2, rz, l1, l2, q2⟩ => ⟨I2.kIn, ?_⟩
  rw [hks]
  exact run_fnN (us := []) (vs := []) F hr hb hx I2 .nil rz l1 l2 q2
end
end Lamp

/-! ## // and products of numbers of some size -/
namespace Lamp
open PySem PySem.Spec PyProof.Rows L2
def CDivW (_ j : Int) : Prop := j ≠ 0 ∧ j.natAbs.log2 < 9000
theorem op_fdivW {X : Cx} : OpR X (binaryOp .FloorDiv) (rI CDivW fun i j => .int (i.fdiv j)) := opI fun _ _ _ _ _ _ _ hc q => floordiv_int hc.1 q (.inl (PyProof.noPylong_of_log2 hc.2))
theorem Fin1.div {i j : Int} (h0 : j ≠ 0) (h : Fin1 j) : CDivW i j := ⟨h0, Nat.lt_trans h.log (by decide)⟩
theorem Fin1.bits {i : Int} (h : Fin1 i) : Builtin.Int.intBits i ≤ 4000000 := by
  have h1 := h.log
  unfold Builtin.Int.intBits
  split <;> omega
theorem Fin1.mul {i j : Int} (h : Fin1 i) (h' : Fin1 j) : IntMulOk i j := mul_ok_bits h.bits h'.bits
end Lamp

/-! ## The mirror: data without addresses, and how a heap bears them -/
namespace Mi
open PySem PySem.Spec PyProof.Rows L2 Lamp SlX

inductive D where
  | non | bl (b : Bool) | int (i : Int) | str (s : Str)
  | tup (ds : List D) | lst (ds : List D) | dic (kvs : List (D × D))
  | obj (c : Nat) (fs : List D) | cel (n : Nat)
  | scr (ns : List Int) | pr (ds : List D)

def D.scal : D → Bool
  | .non => true | .bl _ => true | .int _ => true | .str _ => true | _ => false
def flat (ds : List D) : Bool := !ds.isEmpty && ds.all D.scal
def keyD : Key → D
  | .inl i => .int i
  | .inr s => .str s

/-- the classes of the text: where they stand, whether they have slots, their fields -/
structure Wd where
  K : PySem.W.Frag
  cC : Nat → Addr
  slots : Nat → Bool
  fld : Nat → List Str

def TupAt (H : Hp) (a : Addr) (ds : List D) (xs : List V) : Prop :=
  if flat ds = true then H a = some (.tup xs) else ∃ its, H a = some (.frz (plainT its) (.tup xs))
def LstAt (K : PySem.W.Frag) (H : Hp) (a : Addr) (xs : List V) : Prop :=
  (∃ o, H a = some (.frz o (.lst xs))) ∨
    ∃ (o : Obj) (its : Array Value) (n : Nat), K.lookup a = some o ∧ o.cls = .type "list" ∧ o.dict = none ∧ o.data = .seq its n ∧ its.size ≤ sizeLine ∧ Vals xs its.toList
theorem LstAt.seq {K : PySem.W.Frag} {H : Hp} {a : Addr} {xs : List V} (h : LstAt K H a xs) : SqL K H a xs := by
  rcases h with ⟨o, h⟩ | h
  · exact .inl (.inr ⟨o, h⟩)
  · exact .inr h
theorem TupAt.seq {K : PySem.W.Frag} {H : Hp} {a : Addr} {ds : List D} {xs : List V} (h : TupAt H a ds xs) : SqT K H a xs := by
  unfold TupAt at h
  split at h
  · exact SqT.of h
  · obtain ⟨its, h⟩ := h
    exact .inl (.inr ⟨_, h⟩)

/-- the fields of an instance with its own dict -/
structure Flds (W : Wd) (c : Nat) (ys : List (Str × V)) (vs : List V) : Prop where
  at_ : ∀ (i : Nat) (f : Str), (W.fld c)[i]? = some f → ys.lookup f = vs[i]?
  no : ∀ f, f ∉ W.fld c → ys.lookup f = none
  len : (W.fld c).length = vs.length

mutual
inductive Rep (W : Wd) (ρ : List Addr) (H : Hp) : D → V → Prop
  | non : Rep W ρ H .non .non
  | bl (b : Bool) : Rep W ρ H (.bl b) (.bl b)
  | int (i : Int) : Rep W ρ H (.int i) (.int i)
  | str (s : Str) : Rep W ρ H (.str s) (.str s)
  | tup {a : Addr} {ds : List D} {xs : List V} (h : TupAt H a ds xs) (r : Reps W ρ H ds xs) : Rep W ρ H (.tup ds) (.ref a)
  | lst {a : Addr} {o : Obj} {ds : List D} {xs : List V} (h : H a = some (.frz o (.lst xs))) (r : Reps W ρ H ds xs) : Rep W ρ H (.lst ds) (.ref a)
  | scr {a : Addr} {ns : List Int} (h : LstAt W.K H a (ns.map V.int)) : Rep W ρ H (.scr ns) (.ref a)
  | pr {a : Addr} {ds : List D} {xs : List V} (h : H a = some (.tup xs)) (r : Reps W ρ H ds xs) : Rep W ρ H (.pr ds) (.ref a)
  | dic {a : Addr} {o : Obj} {kvs : List (D × D)} {kys : List (Key × V)} (h : H a = some (.frz o (.dK kys))) (r : RepK W ρ H kvs kys) : Rep W ρ H (.dic kvs) (.ref a)
  | dit {a : Addr} {o : Obj} {kvs : List (D × D)} {kys : List (List Key × V)} (h : H a = some (.frz o (.dT kys))) (n : kvs ≠ []) (r : RepT W ρ H kvs kys) : Rep W ρ H (.dic kvs) (.ref a)
  | sob {a dx : Addr} {o : Obj} {c : Nat} {fs : List D} {vs : List V} (s : W.slots c = true) (h : H a = some (.frz o (SlO a (W.cC c) dx (vs.map some)))) (h' : H dx = some (.xd [])) (r : Reps W ρ H fs vs) : Rep W ρ H (.obj c fs) (.ref a)
  | pob {a dx : Addr} {o : Obj} {c : Nat} {fs : List D} {vs : List V} {ys : List (Str × V)} (s : W.slots c = false) (h : H a = some (.frz o (.ins (W.cC c) dx ys))) (f : Flds W c ys vs) (r : Reps W ρ H fs vs) : Rep W ρ H (.obj c fs) (.ref a)
  | cel {n : Nat} {a : Addr} (h : ρ[n]? = some a) : Rep W ρ H (.cel n) (.ref a)
inductive Reps (W : Wd) (ρ : List Addr) (H : Hp) : List D → List V → Prop
  | nil : Reps W ρ H [] []
  | cons {d : D} {ds : List D} {x : V} {xs : List V} (h : Rep W ρ H d x) (t : Reps W ρ H ds xs) : Reps W ρ H (d :: ds) (x :: xs)
inductive RepK (W : Wd) (ρ : List Addr) (H : Hp) : List (D × D) → List (Key × V) → Prop
  | nil : RepK W ρ H [] []
  | cons {kd d : D} {k : Key} {r : List (D × D)} {x : V} {ys : List (Key × V)} (e : kd = keyD k) (h : Rep W ρ H d x) (t : RepK W ρ H r ys) : RepK W ρ H ((kd, d) :: r) ((k, x) :: ys)
inductive RepT (W : Wd) (ρ : List Addr) (H : Hp) : List (D × D) → List (List Key × V) → Prop
  | nil : RepT W ρ H [] []
  | cons {kd d : D} {k : List Key} {r : List (D × D)} {x : V} {ys : List (List Key × V)} (e : kd = .tup (k.map keyD)) (n : k ≠ []) (h : Rep W ρ H d x) (t : RepT W ρ H r ys) : RepT W ρ H ((kd, d) :: r) ((k, x) :: ys)
end

/-- what is never written once it is known -/
def Per : HO → Prop
  | .tup _ => True | .frz _ _ => True | .xd _ => True | .rng _ _ => True | .tbl _ => True | .met _ _ => True | _ => False
def Frz (H H' : Hp) : Prop := ∀ b o, H b = some o → Per o → H' b = some o
theorem Frz.refl (H : Hp) : Frz H H := fun _ _ h _ => h
theorem Frz.trans {H H1 H2 : Hp} (x : Frz H H1) (y : Frz H1 H2) : Frz H H2 := fun b o h p => y b o (x b o h p) p
theorem Frz.of {H H' : Hp} (s : Same H H') : Frz H H' := fun b o h _ => s b o h
theorem Frz.upd {H : Hp} {a : Addr} {o : HO} (m : ∀ u, H a = some u → ¬ Per u) : Frz H (upd H a o) := fun b u h p => by
  rw [upd_ne (fun e => by subst e; exact m u h p)]
  exact h
theorem Mut.per {o : HO} (m : Mut (some o)) : ¬ Per o := by
  cases o <;> first | exact fun p => p | exact fun _ => m
theorem Frz.put {H : Hp} {a : Addr} {o u : HO} (h : H a = some u) (m : Mut (some u)) : Frz H (L2.upd H a o) := Frz.upd fun w e => by
  rw [h] at e
  cases e
  exact Mut.per m
theorem Frz.new {H : Hp} {a : Addr} {o : HO} (h : H a = none) : Frz H (L2.upd H a o) := Frz.upd fun w e => by
  rw [h] at e
  cases e

theorem pre_get {α : Type} {l l' : List α} (h : l <+: l') {n : Nat} {x : α} (e : l[n]? = some x) : l'[n]? = some x := by
  obtain ⟨t, rfl⟩ := h
  have hn : n < l.length := by
    rcases Nat.lt_or_ge n l.length with c | c
    · exact c
    · rw [List.getElem?_eq_none c] at e
      cases e
  rw [List.getElem?_append_left hn]
  exact e
section
variable {W : Wd} {ρ ρ' : List Addr} {H H' : Hp}
theorem TupAt.mono (f : Frz H H') {a : Addr} {ds : List D} {xs : List V} (h : TupAt H a ds xs) : TupAt H' a ds xs := by
  unfold TupAt at h ⊢
  split
  · rename_i c
    rw [if_pos c] at h
    exact f _ _ h trivial
  · rename_i c
    rw [if_neg c] at h
    obtain ⟨its, h⟩ := h
    exact ⟨its, f _ _ h trivial⟩
theorem LstAt.mono (f : Frz H H') {K : PySem.W.Frag} {a : Addr} {xs : List V} (h : LstAt K H a xs) : LstAt K H' a xs := by
  rcases h with ⟨o, h⟩ | h
  · exact .inl ⟨o, f _ _ h trivial⟩
  · exact .inr h
mutual
theorem Rep.mono (f : Frz H H') (q : ρ <+: ρ') : ∀ {d : D} {v : V}, Rep W ρ H d v → Rep W ρ' H' d v
  | _, _, .non => .non
  | _, _, .bl b => .bl b
  | _, _, .int i => .int i
  | _, _, .str s => .str s
  | _, _, .tup h r => .tup (h.mono f) (Reps.mono f q r)
  | _, _, .lst h r => .lst (f _ _ h trivial) (Reps.mono f q r)
  | _, _, .scr h => .scr (h.mono f)
  | _, _, .pr h r => .pr (f _ _ h trivial) (Reps.mono f q r)
  | _, _, .dic h r => .dic (f _ _ h trivial) (RepK.mono f q r)
  | _, _, .dit h n r => .dit (f _ _ h trivial) n (RepT.mono f q r)
  | _, _, .sob s h h' r => .sob s (f _ _ h trivial) (f _ _ h' trivial) (Reps.mono f q r)
  | _, _, .pob s h l r => .pob s (f _ _ h trivial) l (Reps.mono f q r)
  | _, _, .cel h => .cel (pre_get q h)
theorem Reps.mono (f : Frz H H') (q : ρ <+: ρ') : ∀ {ds : List D} {xs : List V}, Reps W ρ H ds xs → Reps W ρ' H' ds xs
  | _, _, .nil => .nil
  | _, _, .cons h t => .cons (Rep.mono f q h) (Reps.mono f q t)
theorem RepK.mono (f : Frz H H') (q : ρ <+: ρ') : ∀ {kvs : List (D × D)} {kys : List (Key × V)}, RepK W ρ H kvs kys → RepK W ρ' H' kvs kys
  | _, _, .nil => .nil
  | _, _, .cons e h t => .cons e (Rep.mono f q h) (RepK.mono f q t)
theorem RepT.mono (f : Frz H H') (q : ρ <+: ρ') : ∀ {kvs : List (D × D)} {kys : List (List Key × V)}, RepT W ρ H kvs kys → RepT W ρ' H' kvs kys
  | _, _, .nil => .nil
  | _, _, .cons e n h t => .cons e n (Rep.mono f q h) (RepT.mono f q t)
end
end

/-- a thing that may still be written, and is known to one alone -/
inductive Own (W : Wd) (ρ : List Addr) (H : Hp) : D → Addr → Prop
  | lst {a : Addr} {ds : List D} {xs : List V} (h : H a = some (.lst xs)) (r : Reps W ρ H ds xs) : Own W ρ H (.lst ds) a
  | dic {a : Addr} {kvs : List (D × D)} {kys : List (Key × V)} (h : H a = some (.dK kys)) (r : RepK W ρ H kvs kys) : Own W ρ H (.dic kvs) a
  | dit {a : Addr} {kvs : List (D × D)} {kys : List (List Key × V)} (h : H a = some (.dT kys)) (n : kvs ≠ []) (r : RepT W ρ H kvs kys) : Own W ρ H (.dic kvs) a
  | sob {a dx : Addr} {c : Nat} {fs : List D} {vs : List V} (s : W.slots c = true) (h : H a = some (SlO a (W.cC c) dx (vs.map some))) (h' : H dx = some (.xd [])) (r : Reps W ρ H fs vs) : Own W ρ H (.obj c fs) a
  | pob {a dx : Addr} {c : Nat} {fs : List D} {vs : List V} {ys : List (Str × V)} (s : W.slots c = false) (h : H a = some (.ins (W.cC c) dx ys)) (f : Flds W c ys vs) (r : Reps W ρ H fs vs) : Own W ρ H (.obj c fs) a
theorem Own.at_ {W : Wd} {ρ : List Addr} {H : Hp} {d : D} {a : Addr} : Own W ρ H d a → ∃ u, H a = some u ∧ Mut (some u)
  | .lst h _ => ⟨_, h, trivial⟩
  | .dic h _ => ⟨_, h, trivial⟩
  | .dit h _ _ => ⟨_, h, trivial⟩
  | .sob _ h _ _ => ⟨_, h, trivial⟩
  | .pob _ h _ _ => ⟨_, h, trivial⟩
/-- what it is, is kept where its own place is -/
theorem Own.mono {W : Wd} {ρ ρ' : List Addr} {H H' : Hp} (f : Frz H H') (q : ρ <+: ρ') {d : D} {a : Addr} (k : ∀ u, H a = some u → H' a = some u) : Own W ρ H d a → Own W ρ' H' d a
  | .lst h r => .lst (k _ h) (r.mono f q)
  | .dic h r => .dic (k _ h) (r.mono f q)
  | .dit h n r => .dit (k _ h) n (r.mono f q)
  | .sob s h h' r => .sob s (k _ h) (f _ _ h' trivial) (r.mono f q)
  | .pob s h l r => .pob s (k _ h) l (r.mono f q)
/-- .. once locked, it is known to all -/
theorem Own.lock {W : Wd} {ρ : List Addr} {H : Hp} {d : D} {a : Addr} (x : Own W ρ H d a) : ∃ u, H a = some u ∧ Mut (some u) ∧ ∀ o, Rep W ρ (upd H a (.frz o u)) d (.ref a) := by
  have key : ∀ {u : HO}, H a = some u → Mut (some u) → ∀ o, Frz H (upd H a (.frz o u)) := fun h m o => Frz.put h m
  cases x with
  | lst h r => exact ⟨_, h, trivial, fun o => .lst upd_same (r.mono (key h trivial o) (List.prefix_refl _))⟩
  | dic h r => exact ⟨_, h, trivial, fun o => .dic upd_same (r.mono (key h trivial o) (List.prefix_refl _))⟩
  | dit h n r => exact ⟨_, h, trivial, fun o => .dit upd_same n (r.mono (key h trivial o) (List.prefix_refl _))⟩
  | sob s h h' r => exact ⟨_, h, trivial, fun o => .sob s upd_same (key h trivial o _ _ h' trivial) (r.mono (key h trivial o) (List.prefix_refl _))⟩
  | pob s h l r => exact ⟨_, h, trivial, fun o => .pob s upd_same l (r.mono (key h trivial o) (List.prefix_refl _))⟩

/-- a dict locked while a loop walks it -/
inductive Lkd (W : Wd) (ρ : List Addr) (H : Hp) : D → Addr → Prop
  | dic {a : Addr} {o : Obj} {kvs : List (D × D)} {kys : List (Key × V)} (h : H a = some (.frz o (.dK kys))) (r : RepK W ρ H kvs kys) : Lkd W ρ H (.dic kvs) a
  | dit {a : Addr} {o : Obj} {kvs : List (D × D)} {kys : List (List Key × V)} (h : H a = some (.frz o (.dT kys))) (n : kvs ≠ []) (r : RepT W ρ H kvs kys) : Lkd W ρ H (.dic kvs) a
theorem Lkd.rep {W : Wd} {ρ : List Addr} {H : Hp} {d : D} {a : Addr} : Lkd W ρ H d a → Rep W ρ H d (.ref a)
  | .dic h r => .dic h r
  | .dit h n r => .dit h n r
theorem Lkd.mono {W : Wd} {ρ ρ' : List Addr} {H H' : Hp} (f : Frz H H') (q : ρ <+: ρ') {d : D} {a : Addr} : Lkd W ρ H d a → Lkd W ρ' H' d a
  | .dic h r => .dic (f _ _ h trivial) (r.mono f q)
  | .dit h n r => .dit (f _ _ h trivial) n (r.mono f q)
theorem Lkd.at_ {W : Wd} {ρ : List Addr} {H : Hp} {d : D} {a : Addr} : Lkd W ρ H d a → ∃ u, H a = some u
  | .dic h _ => ⟨_, h⟩
  | .dit h _ _ => ⟨_, h⟩

/-! ### the state of a body: its names' contents, the changeable things -/
inductive Slot where
  | no | sh (d : D) | ow (d : D) | lk (d : D) | lz (d : D) | self (me : Addr) (c : Nat) (fs : List (Option D))
def Slot.owned : Slot → Bool
  | .no => false | .sh _ => false | _ => true
def Slot.rd : Slot → Option D
  | .sh d => some d | .ow d => some d | .lk d => some d | .lz d => some d | _ => none
structure PS where
  env : List Slot
  st : List D
/-- a value: known to all; fresh; or what the name at a slot holds -/
inductive RV where
  | sh (d : D) | fr (d : D) | pl (i : Nat)
structure Ex where
  c : Nat
  fs : List (Str × D)
inductive ER where
  | val (r : RV) (p : PS) | exc (x : Ex) (st : List D)
abbrev EM := PS → Option ER

structure Gh where
  ρ : List Addr
  hid : List (Addr × HO)
/-- a body: the classes, the heap and the changeable things at its entry, what is wanted of an exception -/
structure Bd where
  W : Wd
  H0 : Hp
  ρ0 : List Addr
  E : XK

/-- a new instance within its own __init__: the fields stored so far -/
def lack (fs : List (Option D)) : Nat := (fs.filter Option.isNone).length
def SelfAt (W : Wd) (ρ : List Addr) (H : Hp) (c : Nat) (fs : List (Option D)) (a : Addr) : Prop := fs.length = (W.fld c).length ∧
  ((W.slots c = true ∧ ∃ dx vs, dx ≠ a ∧ H a = some (SlO a (W.cC c) dx vs) ∧ H dx = some (.xd []) ∧ vs.length ≤ fs.length ∧ ∀ (i : Nat) (d : D), fs[i]? = some (some d) → ∃ v, vs[i]? = some (some v) ∧ Rep W ρ H d v) ∨
  (W.slots c = false ∧ ∃ dx ys, H a = some (.ins (W.cC c) dx ys) ∧ (∀ f, f ∉ W.fld c → ys.lookup f = none) ∧ ys.length + lack fs ≤ 100 ∧ ∀ (i : Nat) (d : D), fs[i]? = some (some d) → ∃ f v, (W.fld c)[i]? = some f ∧ ys.lookup f = some v ∧ Rep W ρ H d v))

def SlotOk (W : Wd) (ρ : List Addr) (H : Hp) (σ : L2.St) (i : Nat) : Slot → Prop
  | .no => True
  | .sh d => ∃ v, σ[i]? = some (some v) ∧ Rep W ρ H d v
  | .ow d => ∃ a, σ[i]? = some (some (.ref a)) ∧ Own W ρ H d a
  | .lk d => ∃ a, σ[i]? = some (some (.ref a)) ∧ Own W ρ H d a
  | .lz d => ∃ a, σ[i]? = some (some (.ref a)) ∧ Lkd W ρ H d a
  | .self me c fs => ∃ a, σ[i]? = some (some (.ref a)) ∧ SelfAt W ρ H c fs a ∧ a = me
def OwnAt (p : PS) (σ : L2.St) (a : Addr) (i : Nat) : Prop := ∃ s, p.env[i]? = some s ∧ s.owned = true ∧ σ[i]? = some (some (.ref a))

structure Rel (B : Bd) (g : Gh) (σ : L2.St) (H : Hp) (p : PS) : Prop where
  slot : ∀ (i : Nat) (s : Slot), p.env[i]? = some s → SlotOk B.W g.ρ H σ i s
  dis : ∀ i j a, OwnAt p σ a i → OwnAt p σ a j → i = j
  new : ∀ i a, OwnAt p σ a i → a ∉ g.ρ ∧ (∀ u, (a, u) ∉ g.hid) ∧ B.H0 a = none
  cel : ∀ (n : Nat) (d : D), p.st[n]? = some d → ∃ a, g.ρ[n]? = some a ∧ Own B.W g.ρ H d a
  cln : p.st.length = g.ρ.length
  cnd : g.ρ.Nodup
  pre : B.ρ0 <+: g.ρ
  cnw : ∀ (n : Nat) (a : Addr), g.ρ[n]? = some a → B.ρ0.length ≤ n → B.H0 a = none
  hid : ∀ x ∈ g.hid, H x.1 = some x.2 ∧ Mut (some x.2) ∧ x.1 ∉ g.ρ ∧ B.H0 x.1 = none
  hnd : (g.hid.map (·.1)).Nodup
  keep : ∀ b o, B.H0 b = some o → b ∉ B.ρ0 → H b = some o
  len : p.env.length ≤ σ.length

def RepR (B : Bd) (g : Gh) (σ : L2.St) (H : Hp) (p : PS) : RV → V → Prop
  | .sh d, v => Rep B.W g.ρ H d v
  | .fr d, v => ∃ a, v = .ref a ∧ Own B.W g.ρ H d a ∧ (∀ i, ¬ OwnAt p σ a i) ∧ a ∉ g.ρ ∧ (∀ u, (a, u) ∉ g.hid) ∧ B.H0 a = none
  | .pl i, v => σ[i]? = some (some v)

/-- what is raised, as it lies behind a body -/
def ExcAt (B : Bd) (x : Ex) (st : List D) : Prop := ∀ (H' : Hp) (ρ' : List Addr) (d : Addr) (fs : List (Str × V)), B.ρ0 <+: ρ' → ρ'.Nodup → st.length = ρ'.length → (∀ (n : Nat) (d : D), st[n]? = some d → ∃ a, ρ'[n]? = some a ∧ Own B.W ρ' H' d a) →
  (∀ (n : Nat) (a : Addr), ρ'[n]? = some a → B.ρ0.length ≤ n → B.H0 a = none) → (∀ b o, B.H0 b = some o → b ∉ B.ρ0 → H' b = some o) →
  H' d = some (.xd fs) → B.H0 d = none → fs.map (·.1) = x.fs.map (·.1) → Reps B.W ρ' H' (x.fs.map (·.2)) (fs.map (·.2)) → B.E (.ref (B.W.cC x.c)) (some d) H'

def Post (B : Bd) (g : Gh) (σ : L2.St) (H : Hp) (Q : VK) : Option ER → Prop
  | none => False
  | some (.val r p) => ∀ v H' ρ', Rel B ⟨ρ', g.hid⟩ σ H' p → g.ρ <+: ρ' → Frz H H' → RepR B ⟨ρ', g.hid⟩ σ H' p r v → Q v H'
  | some (.exc x st) => ExcAt B x st
/-- the reading of an expression that the mirror m tells -/
def rdE (B : Bd) (m : EM) : TE := fun σ H Q => ∃ g p, Rel B g σ H p ∧ Post B g σ H Q (m p)

theorem _root_.L2.PE.imp {X : Cx} {e : Expr} {t t' : TE} (h : PE X e t) (i : ∀ σ H Q, t' σ H Q → t σ H Q) : PE X e t' := ⟨fun pins s σ H Q I q => h.run pins s σ H Q I (i σ H Q q)⟩
end Mi

/-! ## The mirror: what stays of a state -/
namespace Mi
open PySem PySem.Spec PyProof.Rows L2 Lamp SlX

theorem SelfAt.mono {W : Wd} {ρ ρ' : List Addr} {H H' : Hp} (f : Frz H H') (q : ρ <+: ρ') {c : Nat} {fs : List (Option D)} {a : Addr} (k : ∀ u, H a = some u → H' a = some u) (h : SelfAt W ρ H c fs a) : SelfAt W ρ' H' c fs a := by
  obtain ⟨l0, h⟩ := h
  refine ⟨l0, ?_⟩
  rcases h with ⟨s, dx, vs, ne, h, hx, l, r⟩ | ⟨s, dx, ys, h, no, l, r⟩
  · refine .inl ⟨s, dx, vs, ne, k _ h, f _ _ hx trivial, l, fun i d e => ?_⟩
    obtain ⟨v, e1, e2⟩ := r i d e
    exact ⟨v, e1, e2.mono f q⟩
  · refine .inr ⟨s, dx, ys, k _ h, no, l, fun i d e => ?_⟩
    obtain ⟨x, v, e0, e1, e2⟩ := r i d e
    exact ⟨x, v, e0, e1, e2.mono f q⟩
theorem SelfAt.at_ {W : Wd} {ρ : List Addr} {H : Hp} {c : Nat} {fs : List (Option D)} {a : Addr} (h : SelfAt W ρ H c fs a) : ∃ u, H a = some u ∧ Mut (some u) := by
  rcases h.2 with ⟨_, _, _, _, h, _⟩ | ⟨_, _, _, h, _⟩
  · exact ⟨_, h, trivial⟩
  · exact ⟨_, h, trivial⟩
theorem SlotOk.mono {W : Wd} {ρ ρ' : List Addr} {H H' : Hp} {σ : L2.St} {i : Nat} {s : Slot} (f : Frz H H') (q : ρ <+: ρ') (k : ∀ a, s.owned = true → σ[i]? = some (some (.ref a)) → ∀ u, H a = some u → H' a = some u) (h : SlotOk W ρ H σ i s) : SlotOk W ρ' H' σ i s := by
  cases s with
  | no => trivial
  | sh d => obtain ⟨v, e, r⟩ := h; exact ⟨v, e, r.mono f q⟩
  | ow d => obtain ⟨a, e, r⟩ := h; exact ⟨a, e, r.mono f q (k a rfl e)⟩
  | lk d => obtain ⟨a, e, r⟩ := h; exact ⟨a, e, r.mono f q (k a rfl e)⟩
  | lz d => obtain ⟨v, e, r⟩ := h; exact ⟨v, e, r.mono f q⟩
  | self me c fs => obtain ⟨a, e, r, z⟩ := h; exact ⟨a, e, r.mono f q (k a rfl e), z⟩
theorem SlotOk.there {W : Wd} {ρ : List Addr} {H : Hp} {σ : L2.St} {i : Nat} {s : Slot} {a : Addr} (o : s.owned = true) (l : σ[i]? = some (some (.ref a))) (h : SlotOk W ρ H σ i s) : ∃ u, H a = some u := by
  cases s with
  | no => cases o
  | sh d => cases o
  | ow d => obtain ⟨b, e, r⟩ := h; rw [l] at e; cases e; obtain ⟨u, h, _⟩ := r.at_; exact ⟨u, h⟩
  | lk d => obtain ⟨b, e, r⟩ := h; rw [l] at e; cases e; obtain ⟨u, h, _⟩ := r.at_; exact ⟨u, h⟩
  | lz d => obtain ⟨b, e, r⟩ := h; rw [l] at e; cases e; exact r.at_
  | self me c fs => obtain ⟨b, e, r, _⟩ := h; rw [l] at e; cases e; obtain ⟨u, h, _⟩ := r.at_; exact ⟨u, h⟩

section
variable {B : Bd} {g : Gh} {σ : L2.St} {H H' : Hp} {p : PS}
theorem Rel.there (R : Rel B g σ H p) {a : Addr} {i : Nat} (h : OwnAt p σ a i) : ∃ u, H a = some u := by
  obtain ⟨s, e, o, l⟩ := h
  exact (R.slot i s e).there o l
theorem Rel.thereC (R : Rel B g σ H p) {a : Addr} (h : a ∈ g.ρ) : ∃ u, H a = some u ∧ Mut (some u) := by
  obtain ⟨n, hn, e⟩ := List.mem_iff_getElem.mp h
  have hn' : n < p.st.length := by rw [R.cln]; exact hn
  obtain ⟨b, e1, e2⟩ := R.cel n _ (List.getElem?_eq_getElem hn')
  rw [List.getElem?_eq_getElem hn, e] at e1
  cases e1
  exact e2.at_
/-- an address that is free is no one's -/
structure Free (B : Bd) (g : Gh) (σ : L2.St) (p : PS) (a : Addr) : Prop where
  own : ∀ i, ¬ OwnAt p σ a i
  cel : a ∉ g.ρ
  hid : ∀ u, (a, u) ∉ g.hid
  new : B.H0 a = none
theorem Rel.free (R : Rel B g σ H p) {a : Addr} (h : H a = none) : Free B g σ p a := by
  refine ⟨fun i o => ?_, fun c => ?_, fun u c => ?_, ?_⟩
  · obtain ⟨u, e⟩ := R.there o
    rw [h] at e; cases e
  · obtain ⟨u, e, _⟩ := R.thereC c
    rw [h] at e; cases e
  · have e := (R.hid _ c).1
    rw [h] at e; cases e
  · cases e : B.H0 a with
    | none => rfl
    | some o =>
      by_cases c : a ∈ B.ρ0
      · obtain ⟨u, q, _⟩ := R.thereC (a := a) (R.pre.subset c)
        rw [h] at q; cases q
      · have q := R.keep a o e c
        rw [h] at q; cases q
/-- all that was tracked is as it was -/
theorem Rel.same (R : Rel B g σ H p) (s : Same H H') : Rel B g σ H' p :=
  ⟨fun i t e => (R.slot i t e).mono (.of s) (List.prefix_refl _) fun a _ _ u h => s _ _ h, R.dis, R.new,
   fun n d e => let ⟨a, e1, e2⟩ := R.cel n d e; ⟨a, e1, e2.mono (.of s) (List.prefix_refl _) fun u h => s _ _ h⟩, R.cln, R.cnd, R.pre, R.cnw,
   fun x h => ⟨s _ _ (R.hid x h).1, (R.hid x h).2⟩, R.hnd, fun b o e n => s _ _ (R.keep b o e n), R.len⟩
/-- what stands at a place that is no one's is put otherwise -/
theorem Rel.upd (R : Rel B g σ H p) {a : Addr} (o : HO) (f : Free B g σ p a) (m : ∀ u, H a = some u → ¬ Per u) : Rel B g σ (upd H a o) p := by
  have F : Frz H (L2.upd H a o) := Frz.upd m
  refine ⟨fun i t e => (R.slot i t e).mono F (List.prefix_refl _) fun b ow l u h => ?_, R.dis, R.new, fun n d e => ?_, R.cln, R.cnd, R.pre, R.cnw, fun x h => ⟨?_, (R.hid x h).2⟩, R.hnd, fun b u e n => ?_, R.len⟩
  · rw [upd_ne fun z => f.own i ⟨t, e, ow, by rw [← z]; exact l⟩]
    exact h
  · obtain ⟨b, e1, e2⟩ := R.cel n d e
    refine ⟨b, e1, e2.mono F (List.prefix_refl _) fun u h => ?_⟩
    rw [upd_ne fun z => f.cel (by rw [← z]; exact List.mem_of_getElem? e1)]
    exact h
  · rw [upd_ne fun z => f.hid x.2 (by rw [← z]; exact h)]
    exact (R.hid x h).1
  · rw [upd_ne fun z => by rw [z, f.new] at e; cases e]
    exact R.keep b u e n
theorem ownAt_set {a : Addr} {i j : Nat} {s : Slot} (h : OwnAt { p with env := p.env.set i s } σ a j) (ns : s.owned = false) : OwnAt p σ a j := by
  obtain ⟨t, e, o, l⟩ := h
  by_cases c : i = j
  · subst c
    by_cases hl : i < p.env.length
    · rw [List.getElem?_set_self hl] at e
      cases e
      rw [ns] at o; cases o
    · rw [List.set_eq_of_length_le (by omega)] at e
      exact ⟨t, e, o, l⟩
  · rw [List.getElem?_set_ne c] at e
    exact ⟨t, e, o, l⟩
theorem set_get {α : Type} {l : List α} {i j : Nat} {s t : α} (e : (l.set i s)[j]? = some t) : (i = j ∧ t = s ∧ j < l.length) ∨ (i ≠ j ∧ l[j]? = some t) := by
  by_cases c : i = j
  · subst c
    by_cases hl : i < l.length
    · rw [List.getElem?_set_self hl] at e
      cases e
      exact .inl ⟨rfl, rfl, hl⟩
    · rw [List.set_eq_of_length_le (by omega), List.getElem?_eq_none (by omega)] at e
      cases e
  · rw [List.getElem?_set_ne c] at e
    exact .inr ⟨c, e⟩
/-- a name's content is told otherwise: as known to all -/
theorem Rel.tell (R : Rel B g σ H p) {i : Nat} {s : Slot} (ns : s.owned = false) (k : i < p.env.length → SlotOk B.W g.ρ H σ i s) : Rel B g σ H { p with env := p.env.set i s } := by
  refine ⟨fun j t e => ?_, fun j l a x y => R.dis j l a (ownAt_set x ns) (ownAt_set y ns), fun j a x => R.new j a (ownAt_set x ns), R.cel, R.cln, R.cnd, R.pre, R.cnw, R.hid, R.hnd, R.keep, by simpa using R.len⟩
  rcases set_get e with ⟨rfl, rfl, hl⟩ | ⟨c, e⟩
  · exact k hl
  · exact R.slot j t e
/-- the slot's thing is put otherwise, the slot stays owned -/
theorem Rel.put (R : Rel B g σ H p) {i : Nat} {s s' : Slot} {a : Addr} {o : HO} (e : p.env[i]? = some s) (ow : s.owned = true) (l : σ[i]? = some (some (.ref a))) (m : ∀ u, H a = some u → ¬ Per u) (k : SlotOk B.W g.ρ (L2.upd H a o) σ i s') :
    Rel B g σ (L2.upd H a o) { p with env := p.env.set i s' } := by
  have F : Frz H (L2.upd H a o) := Frz.upd m
  have oi : OwnAt p σ a i := ⟨s, e, ow, l⟩
  have back : ∀ {b : Addr} {j : Nat}, OwnAt { p with env := p.env.set i s' } σ b j → OwnAt p σ b j := by
    rintro b j ⟨t, e1, o1, l1⟩
    rcases set_get e1 with ⟨rfl, rfl, hl⟩ | ⟨c, e1⟩
    · exact ⟨s, e, ow, l1⟩
    · exact ⟨t, e1, o1, l1⟩
  have nw := R.new i a oi
  refine ⟨fun j t e1 => ?_, fun j l' b x y => R.dis j l' b (back x) (back y), fun j b x => R.new j b (back x), fun n d e1 => ?_, R.cln, R.cnd, R.pre, R.cnw, fun x h => ⟨?_, (R.hid x h).2⟩, R.hnd, fun b u e1 n => ?_, by simpa using R.len⟩
  · rcases set_get e1 with ⟨rfl, rfl, hl⟩ | ⟨c, e1⟩
    · exact k
    · refine (R.slot j t e1).mono F (List.prefix_refl _) fun b ow' l' u h => ?_
      rw [upd_ne fun z => c (R.dis i j a oi ⟨t, e1, ow', by rw [← z]; exact l'⟩)]
      exact h
  · obtain ⟨b, e1, e2⟩ := R.cel n d e1
    refine ⟨b, e1, e2.mono F (List.prefix_refl _) fun u h => ?_⟩
    rw [upd_ne fun z => nw.1 (by rw [← z]; exact List.mem_of_getElem? e1)]
    exact h
  · rw [upd_ne fun z => nw.2.1 x.2 (by rw [← z]; exact h)]
    exact (R.hid x h).1
  · rw [upd_ne fun z => by rw [z, nw.2.2] at e1; cases e1]
    exact R.keep b u e1 n
/-- the slot's thing stays as it is, its standing is told otherwise -/
theorem Rel.retell (R : Rel B g σ H p) {i : Nat} {s s' : Slot} (e : p.env[i]? = some s) (ow : s.owned = true) (k : SlotOk B.W g.ρ H σ i s') : Rel B g σ H { p with env := p.env.set i s' } := by
  have back : ∀ {b : Addr} {j : Nat}, OwnAt { p with env := p.env.set i s' } σ b j → OwnAt p σ b j := by
    rintro b j ⟨t, e1, o1, l1⟩
    rcases set_get e1 with ⟨rfl, rfl, hl⟩ | ⟨c, e1⟩
    · exact ⟨s, e, ow, l1⟩
    · exact ⟨t, e1, o1, l1⟩
  refine ⟨fun j t e1 => ?_, fun j l' b x y => R.dis j l' b (back x) (back y), fun j b x => R.new j b (back x), R.cel, R.cln, R.cnd, R.pre, R.cnw, R.hid, R.hnd, R.keep, by simpa using R.len⟩
  rcases set_get e1 with ⟨rfl, rfl, hl⟩ | ⟨c, e1⟩
  · exact k
  · exact R.slot j t e1
/-- a name is stored: a value that is known to all -/
theorem Rel.store (R : Rel B g σ H p) {i : Nat} {v : V} {s : Slot} (ns : s.owned = false) (k : i < σ.length → SlotOk B.W g.ρ H (σ.set i (some v)) i s) : Rel B g (σ.set i (some v)) H { p with env := p.env.set i s } := by
  have back : ∀ {b : Addr} {j : Nat}, OwnAt { p with env := p.env.set i s } (σ.set i (some v)) b j → OwnAt p σ b j := by
    rintro b j ⟨t, e1, o1, l1⟩
    rcases set_get e1 with ⟨rfl, rfl, _⟩ | ⟨c, e1⟩
    · rw [ns] at o1; cases o1
    · rw [List.getElem?_set_ne c] at l1
      exact ⟨t, e1, o1, l1⟩
  refine ⟨fun j t e1 => ?_, fun j l' b x y => R.dis j l' b (back x) (back y), fun j b x => R.new j b (back x), R.cel, R.cln, R.cnd, R.pre, R.cnw, R.hid, R.hnd, R.keep, by simpa using R.len⟩
  rcases set_get e1 with ⟨rfl, rfl, hl⟩ | ⟨c, e1⟩
  · exact k (Nat.lt_of_lt_of_le hl R.len)
  · have q := R.slot j t e1
    have es : (σ.set i (some v))[j]? = σ[j]? := List.getElem?_set_ne c
    cases t with
    | no => trivial
    | sh d => obtain ⟨v, e, r⟩ := q; exact ⟨v, es.trans e, r⟩
    | ow d => obtain ⟨v, e, r⟩ := q; exact ⟨v, es.trans e, r⟩
    | lk d => obtain ⟨v, e, r⟩ := q; exact ⟨v, es.trans e, r⟩
    | lz d => obtain ⟨v, e, r⟩ := q; exact ⟨v, es.trans e, r⟩
    | self me c fs => obtain ⟨v, e, r⟩ := q; exact ⟨v, es.trans e, r⟩
/-- .. a fresh thing, known to this name alone from now on -/
theorem Rel.storeO (R : Rel B g σ H p) {i : Nat} {a : Addr} {s : Slot} (f : Free B g σ p a) (k : i < σ.length → SlotOk B.W g.ρ H (σ.set i (some (.ref a))) i s) : Rel B g (σ.set i (some (.ref a))) H { p with env := p.env.set i s } := by
  have back : ∀ {b : Addr} {j : Nat}, OwnAt { p with env := p.env.set i s } (σ.set i (some (.ref a))) b j → (j = i ∧ b = a) ∨ (j ≠ i ∧ OwnAt p σ b j) := by
    rintro b j ⟨t, e1, o1, l1⟩
    rcases set_get e1 with ⟨rfl, rfl, hl⟩ | ⟨c, e1⟩
    · rw [List.getElem?_set_self (Nat.lt_of_lt_of_le hl R.len)] at l1
      cases l1
      exact .inl ⟨rfl, rfl⟩
    · rw [List.getElem?_set_ne c] at l1
      exact .inr ⟨Ne.symm c, t, e1, o1, l1⟩
  refine ⟨fun j t e1 => ?_, fun j l' b x y => ?_, fun j b x => ?_, R.cel, R.cln, R.cnd, R.pre, R.cnw, R.hid, R.hnd, R.keep, by simpa using R.len⟩
  · rcases set_get e1 with ⟨rfl, rfl, hl⟩ | ⟨c, e1⟩
    · exact k (Nat.lt_of_lt_of_le hl R.len)
    · have q := R.slot j t e1
      have es : (σ.set i (some (V.ref a)))[j]? = σ[j]? := List.getElem?_set_ne c
      cases t with
      | no => trivial
      | sh d => obtain ⟨v, e, r⟩ := q; exact ⟨v, es.trans e, r⟩
      | ow d => obtain ⟨v, e, r⟩ := q; exact ⟨v, es.trans e, r⟩
      | lk d => obtain ⟨v, e, r⟩ := q; exact ⟨v, es.trans e, r⟩
      | lz d => obtain ⟨v, e, r⟩ := q; exact ⟨v, es.trans e, r⟩
      | self me c fs => obtain ⟨v, e, r⟩ := q; exact ⟨v, es.trans e, r⟩
  · rcases back x with ⟨r1, z1⟩ | ⟨n1, x1⟩ <;> rcases back y with ⟨r2, z2⟩ | ⟨n2, y1⟩
    · exact r1.trans r2.symm
    · exact (f.own _ (by rw [← z1]; exact y1)).elim
    · exact (f.own _ (by rw [← z2]; exact x1)).elim
    · exact R.dis _ _ _ x1 y1
  · rcases back x with ⟨r1, z1⟩ | ⟨n1, x1⟩
    · rw [z1]; exact ⟨f.cel, f.hid, f.new⟩
    · exact R.new _ _ x1
theorem Free.of (R : Rel B g σ H p) {a : Addr} {i : Nat} (h : OwnAt p σ a i) : Free B g σ { p with env := p.env.set i .no } a := by
  refine ⟨fun j o => ?_, (R.new i a h).1, (R.new i a h).2.1, (R.new i a h).2.2⟩
  have q := ownAt_set o rfl
  have e := R.dis _ _ _ q h
  subst e
  obtain ⟨t, e1, o1, _⟩ := o
  rcases set_get e1 with ⟨_, rfl, _⟩ | ⟨c, _⟩
  · cases o1
  · exact c rfl
end
end Mi

/-! ## The mirror: expressions -/
namespace Mi
open PySem PySem.Spec PyProof.Rows L2 Lamp SlX

/-- known to all, or one's own: it may be read -/
def RepB (W : Wd) (ρ : List Addr) (H : Hp) (d : D) (v : V) : Prop := Rep W ρ H d v ∨ ∃ a, v = .ref a ∧ Own W ρ H d a
def get0 (p : PS) : RV → Option D
  | .sh d => some d
  | .fr _ => none
  | .pl i => match p.env[i]? with
    | some s => s.rd
    | none => none
/-- a changeable thing is read as what it is now -/
def deref (p : PS) : D → Option D
  | .cel n => p.st[n]?
  | d => some d
def get (p : PS) (r : RV) : Option D := (get0 p r).bind (deref p)
theorem get_fr {p : PS} {d : D} : get p (.fr d) = none := rfl
section
variable {B : Bd} {g : Gh} {σ : L2.St} {H H' : Hp} {p p' : PS} {ρ' : List Addr} {Q : VK}
theorem RepR.later {r : RV} {v : V} {d : D} (f : Frz H H') (q : g.ρ <+: ρ') (n : get p' r = some d) (h : RepR B g σ H p r v) : RepR B ⟨ρ', g.hid⟩ σ H' p' r v := by
  cases r with
  | sh d => exact Rep.mono f q h
  | fr d => cases n
  | pl i => exact h
theorem get0_rep (R : Rel B g σ H p) {r : RV} {v : V} {d : D} (h : RepR B g σ H p r v) (e : get0 p r = some d) : RepB B.W g.ρ H d v := by
  cases r with
  | sh d' => cases e; exact .inl h
  | fr d' => cases e
  | pl i =>
    have h' : σ[i]? = some (some v) := h
    unfold get0 at e
    cases c : p.env[i]? with
    | none => simp [c] at e
    | some s =>
      simp only [c] at e
      have k := R.slot i s c
      cases s with
      | no => cases e
      | sh d => cases e; obtain ⟨w, e1, r⟩ := k; rw [h'] at e1; cases e1; exact .inl r
      | ow d => cases e; obtain ⟨w, e1, r⟩ := k; rw [h'] at e1; cases e1; exact .inr ⟨_, rfl, r⟩
      | lk d => cases e; obtain ⟨w, e1, r⟩ := k; rw [h'] at e1; cases e1; exact .inr ⟨_, rfl, r⟩
      | lz d => cases e; obtain ⟨w, e1, r⟩ := k; rw [h'] at e1; cases e1; exact .inl r.rep
      | self me c fs => cases e
theorem get_rep (R : Rel B g σ H p) {r : RV} {v : V} {d : D} (h : RepR B g σ H p r v) (e : get p r = some d) : RepB B.W g.ρ H d v := by
  unfold get at e
  cases c : get0 p r with
  | none => rw [c] at e; cases e
  | some d0 =>
    rw [c] at e
    have k := get0_rep R h c
    cases d0 with
    | cel n =>
      have e' : p.st[n]? = some d := e
      rcases k with k | ⟨a, _, o⟩
      · cases k with
        | cel hn =>
          obtain ⟨b, e1, e2⟩ := R.cel n d e'
          rw [hn] at e1
          cases e1
          exact .inr ⟨_, rfl, e2⟩
      · cases o
    | _ => cases e; exact k
theorem Post.later {r : Option ER} (q : g.ρ <+: ρ') (f : Frz H H') (h : Post B g σ H Q r) : Post B ⟨ρ', g.hid⟩ σ H' Q r := by
  cases r with
  | none => exact h
  | some r =>
    cases r with
    | val r p => exact fun v H2 ρ2 R q2 f2 rr => h v H2 ρ2 R (q.trans q2) (f.trans f2) rr
    | exc x st => exact h
theorem Post.imp {r : Option ER} {Q' : VK} (i : ∀ v H, Q v H → Q' v H) (h : Post B g σ H Q r) : Post B g σ H Q' r := by
  cases r with
  | none => exact h
  | some r =>
    cases r with
    | val r p => exact fun v H2 ρ2 R q2 f2 rr => i _ _ (h v H2 ρ2 R q2 f2 rr)
    | exc x st => exact h

/-- what a built-in operation hands back -/
def PPost (W : Wd) (ρ : List Addr) (H : Hp) (Q : VK) : Option RV → Prop
  | none => False
  | some (.sh d) => ∀ v H', Same H H' → Rep W ρ H' d v → Q v H'
  | some (.fr d) => ∀ a H', Same H H' → H a = none → Own W ρ H' d a → Q (.ref a) H'
  | some (.pl _) => False
def ret (p : PS) : Option RV → Option ER
  | none => none
  | some r => some (.val r p)
theorem PPost.of (R : Rel B g σ H p) {r : Option RV} (h : Post B g σ H Q (ret p r)) : PPost B.W g.ρ H Q r ∨ ∃ i, r = some (.pl i) := by
  cases r with
  | none => exact .inl h
  | some r =>
    cases r with
    | sh d => exact .inl fun v H' s rr => h v H' g.ρ (R.same s) (List.prefix_refl _) (.of s) rr
    | fr d =>
      refine .inl fun a H' s n o => h (.ref a) H' g.ρ (R.same s) (List.prefix_refl _) (.of s) ⟨a, rfl, o, ?_⟩
      have f := R.free n
      exact ⟨f.own, f.cel, f.hid, f.new⟩
    | pl i => exact .inr ⟨i, rfl⟩
end

/-! ### the combinators -/
def bindE (m : EM) (k : RV → PS → Option ER) : EM := fun p => match m p with
  | none => none
  | some (.val r p') => k r p'
  | some (.exc x st) => some (.exc x st)
theorem bind_rd {B : Bd} {m : EM} {k : RV → PS → Option ER} {σ : L2.St} {H : Hp} {Q : VK} (h : rdE B (bindE m k) σ H Q) {Q' : VK}
    (i : ∀ g p' r v H', Rel B g σ H' p' → RepR B g σ H' p' r v → Post B g σ H' Q (k r p') → Q' v H') : rdE B m σ H Q' := by
  obtain ⟨g, p, R, hp⟩ := h
  refine ⟨g, p, R, ?_⟩
  unfold bindE at hp
  cases e : m p with
  | none => rw [e] at hp; exact hp
  | some r =>
    rw [e] at hp
    cases r with
    | val r p' => exact fun v H' ρ' R' q f rr => i ⟨ρ', g.hid⟩ p' r v H' R' rr (Post.later q f hp)
    | exc x st => exact hp
/-- what the name at a slot holds, to be read -/
def eBor (i : Nat) : EM := fun p => match get0 p (.pl i) with
  | some _ => some (.val (.pl i) p)
  | none => none
def eC (d : D) : EM := fun p => some (.val (.sh d) p)
/-- made known to all -/
def know (p : PS) : RV → Option ER
  | .sh d => some (.val (.sh d) p)
  | .fr d => some (.val (.sh d) p)
  | .pl i => match p.env[i]? with
    | some (.sh d) => some (.val (.sh d) p)
    | some (.ow d) => some (.val (.sh d) { p with env := p.env.set i (.sh d) })
    | _ => none
def fz (m : EM) : EM := bindE m fun r p => know p r
def eVar (i : Nat) : EM := fz (eBor i)
/-- a built-in operation on two values, on one -/
def op2 (pr : D → D → Option RV) (p : PS) (r1 r2 : RV) : Option ER := match get p r1, get p r2 with
  | some d1, some d2 => ret p (pr d1 d2)
  | _, _ => none
def op1 (pr : D → Option RV) (p : PS) (r1 : RV) : Option ER := match get p r1 with
  | some d1 => ret p (pr d1)
  | none => none
def mOp (pr : D → D → Option RV) (ma mb : EM) : EM := bindE ma fun r1 => bindE mb fun r2 p => op2 pr p r1 r2
def mUn (pr : D → Option RV) (ma : EM) : EM := bindE ma fun r1 p => op1 pr p r1
def noPl : Option RV → Prop
  | some (.pl _) => False
  | _ => True
/-- the mirror of an operation on two values -/
structure P2 (W : Wd) (r : R2) (pr : D → D → Option RV) : Prop where
  ok : ∀ ρ H d1 d2 v1 v2 Q, RepB W ρ H d1 v1 → RepB W ρ H d2 v2 → PPost W ρ H Q (pr d1 d2) → r v1 v2 H Q
  np : ∀ d1 d2, noPl (pr d1 d2)
structure P1 (W : Wd) (r : V → Hp → VK → Prop) (pr : D → Option RV) : Prop where
  ok : ∀ ρ H d1 v1 Q, RepB W ρ H d1 v1 → PPost W ρ H Q (pr d1) → r v1 H Q
  np : ∀ d1, noPl (pr d1)
section
variable {B : Bd} {g : Gh} {σ : L2.St} {H H' : Hp} {p p' : PS} {ρ' : List Addr} {Q : VK}
theorem PPost.of' (R : Rel B g σ H p) {r : Option RV} (n : noPl r) (h : Post B g σ H Q (ret p r)) : PPost B.W g.ρ H Q r := by
  rcases PPost.of R h with h | ⟨i, rfl⟩
  · exact h
  · exact n.elim
theorem op2_ok {r : R2} {pr : D → D → Option RV} (hp : P2 B.W r pr) (R : Rel B g σ H p) {r1 r2 : RV} {v1 v2 : V} (a1 : RepR B g σ H p r1 v1) (a2 : RepR B g σ H p r2 v2) (h : Post B g σ H Q (op2 pr p r1 r2)) : r v1 v2 H Q := by
  unfold op2 at h
  cases e1 : get p r1 with
  | none => rw [e1] at h; exact h.elim
  | some d1 =>
    cases e2 : get p r2 with
    | none => rw [e1, e2] at h; exact h.elim
    | some d2 =>
      rw [e1, e2] at h
      exact hp.ok _ _ _ _ _ _ _ (get_rep R a1 e1) (get_rep R a2 e2) (PPost.of' R (hp.np _ _) h)
theorem op1_ok {r : V → Hp → VK → Prop} {pr : D → Option RV} (hp : P1 B.W r pr) (R : Rel B g σ H p) {r1 : RV} {v1 : V} (a1 : RepR B g σ H p r1 v1) (h : Post B g σ H Q (op1 pr p r1)) : r v1 H Q := by
  unfold op1 at h
  cases e1 : get p r1 with
  | none => rw [e1] at h; exact h.elim
  | some d1 =>
    rw [e1] at h
    exact hp.ok _ _ _ _ _ (get_rep R a1 e1) (PPost.of' R (hp.np _) h)
/-- a value that was reckoned before another one -/
theorem RepR.on {r : RV} {v : V} (n : ∀ d, r ≠ .fr d) (f : Frz H H') (q : g.ρ <+: ρ') (h : RepR B g σ H p r v) : RepR B ⟨ρ', g.hid⟩ σ H' p' r v := by
  cases r with
  | sh d => exact Rep.mono f q h
  | fr d => exact (n d rfl).elim
  | pl i => exact h
theorem op2_fr {pr : D → D → Option RV} {d : D} {r2 : RV} : op2 pr p (.fr d) r2 = none := rfl
theorem mOp_rd {r : R2} {pr : D → D → Option RV} {ma mb : EM} (hp : P2 B.W r pr) (h : rdE B (mOp pr ma mb) σ H Q) : tOp r (rdE B ma) (rdE B mb) σ H Q := by
  refine bind_rd h fun g p1 r1 v1 H1 R1 a1 h1 => ?_
  refine ⟨g, p1, R1, ?_⟩
  unfold bindE at h1
  cases e : mb p1 with
  | none => rw [e] at h1; exact h1
  | some w =>
    rw [e] at h1
    cases w with
    | exc x st => exact h1
    | val r2 p2 =>
      intro v2 H2 ρ2 R2 q2 f2 a2
      have h2 := Post.later q2 f2 h1
      by_cases n : ∃ d, r1 = .fr d
      · obtain ⟨d, rfl⟩ := n
        exact (show False from h2).elim
      · exact op2_ok hp R2 (a1.on (fun d e => n ⟨d, e⟩) f2 q2) a2 h2
theorem mUn_rd {r : V → Hp → VK → Prop} {pr : D → Option RV} {ma : EM} (hp : P1 B.W r pr) (h : rdE B (mUn pr ma) σ H Q) : tUn r (rdE B ma) σ H Q :=
  bind_rd h fun g p1 r1 v1 H1 R1 a1 h1 => op1_ok hp R1 a1 h1
end

section
variable {X : Cx} {B : Bd} {a b c e : Expr} {ma mb mc : EM} {pos : Pos}
theorem sim_op {op : Operator} {r : R2} {pr : D → D → Option RV} (ho : OpR X (binaryOp op) r) (hp : P2 B.W r pr) (ha : PE X a (rdE B ma)) (hb : PE X b (rdE B mb)) : PE X (.BinOp a op b pos) (rdE B (mOp pr ma mb)) :=
  (pe_op ho ha hb).imp fun _ _ _ h => mOp_rd hp h
theorem sim_un {op : UnaryOp} {r : V → Hp → VK → Prop} {pr : D → Option RV} (ho : UnR X (unaryOp op) r) (hp : P1 B.W r pr) (ha : PE X a (rdE B ma)) : PE X (.UnaryOp op a pos) (rdE B (mUn pr ma)) :=
  (pe_un ho ha).imp fun _ _ _ h => mUn_rd hp h
theorem sim_cmp {op : CmpOp} {r : R2} {pr : D → D → Option RV} (ho : OpR X (compareOp op) r) (hp : P2 B.W r pr) (ha : PE X a (rdE B ma)) (hb : PE X b (rdE B mb)) (hm : behindInMarks op b = false) : PE X (.Compare a [op] [b] pos) (rdE B (mOp pr ma mb)) :=
  (pe_cmpR ho ha hb hm).imp fun _ _ _ h => mOp_rd hp h
abbrev rdT (B : Bd) (m : EM) : TT := tTest (rdE B m)
theorem _root_.L2.PT.imp {X : Cx} {e : Expr} {t t' : TT} (h : PT X e t) (i : ∀ σ H Q, t' σ H Q → t σ H Q) : PT X e t' := ⟨fun pins s σ H Q I q => h.run pins s σ H Q I (i σ H Q q)⟩
theorem _root_.L2.PW.imp {X : Cx} {e : Expr} {t t' : TT} (h : PW X e t) (i : ∀ σ H Q, t' σ H Q → t σ H Q) : PW X e t' := ⟨fun w pins s σ H Q I q => h.run w pins s σ H Q I (i σ H Q q)⟩
theorem simt_cmp {op : CmpOp} {r : R2} {pr : D → D → Option RV} (ho : OpR X (compareOp op) r) (hp : P2 B.W r pr) (ha : PE X a (rdE B ma)) (hb : PE X b (rdE B mb)) (hm : behindInMarks op b = false) : PT X (.Compare a [op] [b] pos) (rdT B (mOp pr ma mb)) :=
  (pt_cmpR ho ha hb hm).imp fun _ _ _ h => mOp_rd hp h
theorem sim_bor (i : Nat) {x : Str} (hN : X.N[i]? = some x) (hv : Vis X.env.scope x) (hd : (x == ("__debug__" : Str)) = false := by decide) (hcd : (x == ("__classdict__" : Str)) = false := by decide) : PE X (.Name x pos) (rdE B (eBor i)) :=
  (pe_var hN hv hd hcd).imp fun σ H Q h => by
    obtain ⟨g, p, R, h⟩ := h
    unfold eBor at h
    cases e : get0 p (.pl i) with
    | none => rw [e] at h; exact h.elim
    | some d =>
      rw [e] at h
      have key : ∃ v, σ[i]? = some (some v) := by
        unfold get0 at e
        cases c : p.env[i]? with
        | none => simp [c] at e
        | some s =>
          simp only [c] at e
          have k := R.slot i s c
          cases s with
          | no => cases e
          | sh d => obtain ⟨w, e1, r⟩ := k; exact ⟨_, e1⟩
          | ow d => obtain ⟨w, e1, r⟩ := k; exact ⟨_, e1⟩
          | lk d => obtain ⟨w, e1, r⟩ := k; exact ⟨_, e1⟩
          | lz d => obtain ⟨w, e1, r⟩ := k; exact ⟨_, e1⟩
          | self me c fs => cases e
      obtain ⟨v, hv⟩ := key
      exact ⟨v, hv, h v H g.ρ R (List.prefix_refl _) (Frz.refl H) hv⟩
theorem sim_c {d : D} {v : V} (h : PE X e (tC v)) (k : ∀ ρ H, Rep B.W ρ H d v) : PE X e (rdE B (eC d)) :=
  h.imp fun σ H Q h => by
    obtain ⟨g, p, R, h⟩ := h
    exact h v H g.ρ R (List.prefix_refl _) (Frz.refl H) (k _ _)
theorem sim_int {i j pos} : PE X (.Constant (.int i) j pos) (rdE B (eC (.int i))) := sim_c pe_int fun _ _ => .int i
theorem sim_bl {b j pos} : PE X (.Constant (.bool b) j pos) (rdE B (eC (.bl b))) := sim_c pe_bl fun _ _ => .bl b
theorem sim_non {j pos} : PE X (.Constant .none j pos) (rdE B (eC .non)) := sim_c pe_non fun _ _ => .non
theorem sim_str {x j pos} : PE X (.Constant (.str x) j pos) (rdE B (eC (.str x))) := sim_c pe_str fun _ _ => .str x
/-- what is fresh or one's own is made known to all -/
theorem sim_fz {m : EM} (h : PE X e (rdE B m)) : PE X e (rdE B (fz m)) := by
  refine ⟨fun pins s σ H Q I q => ?_⟩
  refine thn (h.run pins s σ H (fun v H' => ∃ g p r, Rel B g σ H' p ∧ RepR B g σ H' p r v ∧ Post B g σ H' Q (know p r)) I (bind_rd q fun g p' r v H' R a k => ⟨g, p', r, R, a, k⟩)) ?_
  rintro u s1 ⟨v, H1, I1, rv, g, p, r, R, a, k⟩
  cases r with
  | sh d => exact ⟨v, H1, I1, rv, k v H1 g.ρ R (List.prefix_refl _) (Frz.refl _) a⟩
  | fr d =>
    obtain ⟨ad, rfl, o, n1, n2, n3, n4⟩ := a
    obtain ⟨w, hw, mw, hl⟩ := o.lock
    obtain ⟨od, I2⟩ := I1.lock hw mw
    refine ⟨.ref ad, _, I2, rv, k (.ref ad) _ g.ρ (R.upd _ ⟨n1, n2, n3, n4⟩ fun z e => ?_) (List.prefix_refl _) (Frz.put hw mw) (hl od)⟩
    rw [hw] at e
    cases e
    exact Mut.per mw
  | pl i =>
    have a' : σ[i]? = some (some v) := a
    unfold know at k
    cases c : p.env[i]? with
    | none => simp [c] at k; exact k.elim
    | some t =>
      have ks := R.slot i t c
      cases t with
      | sh d =>
        simp only [c] at k
        obtain ⟨w, e1, rr⟩ := ks
        rw [a'] at e1
        cases e1
        exact ⟨v, H1, I1, rv, k v H1 g.ρ R (List.prefix_refl _) (Frz.refl _) rr⟩
      | ow d =>
        simp only [c] at k
        obtain ⟨ad, e1, o⟩ := ks
        rw [a'] at e1
        cases e1
        obtain ⟨w, hw, mw, hl⟩ := o.lock
        obtain ⟨od, I2⟩ := I1.lock hw mw
        have R2 := R.put (s' := .sh d) (o := .frz od w) c rfl a' (fun z e => by rw [hw] at e; cases e; exact Mut.per mw) ⟨.ref ad, a', hl od⟩
        exact ⟨.ref ad, _, I2, rv, k (.ref ad) _ g.ρ R2 (List.prefix_refl _) (Frz.put hw mw) (hl od)⟩
      | no => simp only [c] at k; exact k.elim
      | lk d => simp only [c] at k; exact k.elim
      | lz d => simp only [c] at k; exact k.elim
      | self me cc fs => simp only [c] at k; exact k.elim
theorem sim_var (i : Nat) {x : Str} (hN : X.N[i]? = some x) (hv : Vis X.env.scope x) (hd : (x == ("__debug__" : Str)) = false := by decide) (hcd : (x == ("__classdict__" : Str)) = false := by decide) : PE X (.Name x pos) (rdE B (eVar i)) :=
  sim_fz (sim_bor i hN hv hd hcd)
end
end Mi

/-! ## The mirror: tests, several values, built-in calls -/
namespace Mi
open PySem PySem.Spec PyProof.Rows L2 Lamp SlX

/-! ### truth -/
def asB (p : PS) : RV → Option Bool
  | .sh (.bl b) => some b
  | _ => none
def mIf (mc ma mb : EM) : EM := bindE mc fun r p => match asB p r with
  | some true => ma p
  | some false => mb p
  | none => none
def mAnd (ma mb : EM) : EM := mIf ma mb (eC (.bl false))
def mOr (ma mb : EM) : EM := mIf ma (eC (.bl true)) mb
def notB : D → Option RV
  | .bl b => some (.sh (.bl (!b)))
  | _ => none
def mNot (ma : EM) : EM := mIf ma (eC (.bl false)) (eC (.bl true))
/-- truth of a value -/
def tru : D → Option RV
  | .non => some (.sh (.bl false))
  | .bl b => some (.sh (.bl b))
  | .int i => some (.sh (.bl (i != 0)))
  | .str y => if y.length ≤ sizeLine then some (.sh (.bl ((y.length : Int) != 0))) else none
  | .lst ds => some (.sh (.bl (!ds.isEmpty)))
  | .tup ds => some (.sh (.bl (!ds.isEmpty)))
  | _ => none
def mTru (ma : EM) : EM := mUn tru ma
section
variable {B : Bd} {g : Gh} {σ : L2.St} {H H' : Hp} {p p' : PS} {ρ' : List Addr} {Q : VK}
theorem asB_rep {r : RV} {v : V} {b : Bool} (h : RepR B g σ H p r v) (e : asB p r = some b) : v = .bl b := by
  unfold asB at e
  split at e
  · cases e; cases (show Rep _ _ _ _ _ from h); rfl
  · cases e
theorem mIf_post {mc ma mb : EM} (h : rdE B (mIf mc ma mb) σ H Q) : rdE B mc σ H (fun v H1 => ∃ b, v = .bl b ∧ if b = true then rdE B ma σ H1 Q else rdE B mb σ H1 Q) := by
  refine bind_rd h fun g p1 r v H1 R a k => ?_
  cases e : asB p1 r with
  | none => rw [e] at k; exact k.elim
  | some b =>
    rw [e] at k
    refine ⟨b, asB_rep a e, ?_⟩
    cases b with
    | true => exact ⟨g, p1, R, k⟩
    | false => exact ⟨g, p1, R, k⟩
theorem rdC {d : D} (h : rdE B (eC d) σ H Q) {v : V} (k : ∀ ρ, Rep B.W ρ H d v) : Q v H := by
  obtain ⟨g, p, R, h⟩ := h
  exact h v H g.ρ R (List.prefix_refl _) (Frz.refl H) (k _)
end
theorem Reps.len {W : Wd} {ρ : List Addr} {H : Hp} : ∀ {ds : List D} {xs : List V}, Reps W ρ H ds xs → ds.length = xs.length
  | _, _, .nil => rfl
  | _, _, .cons _ t => congrArg (· + 1) t.len
theorem Reps.emp {W : Wd} {ρ : List Addr} {H : Hp} {ds : List D} {xs : List V} : Reps W ρ H ds xs → ds.isEmpty = xs.isEmpty
  | .nil => rfl
  | .cons _ _ => rfl
theorem Reps.get {W : Wd} {ρ : List Addr} {H : Hp} : ∀ {ds : List D} {xs : List V} {i : Nat} {d : D}, Reps W ρ H ds xs → ds[i]? = some d → ∃ x, xs[i]? = some x ∧ Rep W ρ H d x
  | _, _, i, d, .nil, e => by simp at e
  | _, _, 0, d, .cons h _, e => by cases e; exact ⟨_, rfl, h⟩
  | _, _, i + 1, d, .cons _ t, e => by
    obtain ⟨x, e1, e2⟩ := Reps.get (i := i) t (by simpa using e)
    exact ⟨x, by simpa using e1, e2⟩
theorem RepK.len {W : Wd} {ρ : List Addr} {H : Hp} : ∀ {ds : List (D × D)} {xs : List (Key × V)}, RepK W ρ H ds xs → ds.length = xs.length
  | _, _, .nil => rfl
  | _, _, .cons _ _ t => congrArg (· + 1) t.len
theorem RepT.len {W : Wd} {ρ : List Addr} {H : Hp} : ∀ {ds : List (D × D)} {xs : List (List Key × V)}, RepT W ρ H ds xs → ds.length = xs.length
  | _, _, .nil => rfl
  | _, _, .cons _ _ _ t => congrArg (· + 1) t.len
/-- what is read of a list, a tuple -/
theorem RepB.lstR {W : Wd} {ρ : List Addr} {H : Hp} {ds : List D} {v : V} (h : RepB W ρ H (.lst ds) v) : ∃ a xs, v = .ref a ∧ Rd H a (.lst xs) ∧ Reps W ρ H ds xs := by
  rcases h with h | ⟨a, rfl, h⟩
  · cases h with
    | lst h r => exact ⟨_, _, rfl, .inr ⟨_, h⟩, r⟩
  · cases h with
    | lst h r => exact ⟨_, _, rfl, .inl h, r⟩
theorem RepB.lst {W : Wd} {ρ : List Addr} {H : Hp} {ds : List D} {v : V} (h : RepB W ρ H (.lst ds) v) : ∃ a xs, v = .ref a ∧ SqL W.K H a xs ∧ Reps W ρ H ds xs := by
  obtain ⟨a, xs, e, r, q⟩ := h.lstR
  exact ⟨a, xs, e, .inl r, q⟩
theorem RepB.scr {W : Wd} {ρ : List Addr} {H : Hp} {ns : List Int} {v : V} (h : RepB W ρ H (.scr ns) v) : ∃ a, v = .ref a ∧ SqL W.K H a (ns.map V.int) := by
  rcases h with h | ⟨a, rfl, h⟩
  · cases h with
    | scr h => exact ⟨_, rfl, h.seq⟩
  · cases h
theorem RepB.tup {W : Wd} {ρ : List Addr} {H : Hp} {ds : List D} {v : V} (h : RepB W ρ H (.tup ds) v) : ∃ a xs, v = .ref a ∧ SqT W.K H a xs ∧ Reps W ρ H ds xs := by
  rcases h with h | ⟨a, rfl, h⟩
  · cases h with
    | tup h r => exact ⟨_, _, rfl, h.seq, r⟩
  · cases h
theorem RepB.int {W : Wd} {ρ : List Addr} {H : Hp} {i : Int} {v : V} (h : RepB W ρ H (.int i) v) : v = .int i := by
  rcases h with h | ⟨a, rfl, h⟩
  · cases h; rfl
  · cases h
theorem RepB.bl {W : Wd} {ρ : List Addr} {H : Hp} {b : Bool} {v : V} (h : RepB W ρ H (.bl b) v) : v = .bl b := by
  rcases h with h | ⟨a, rfl, h⟩
  · cases h; rfl
  · cases h
theorem RepB.str {W : Wd} {ρ : List Addr} {H : Hp} {s : Str} {v : V} (h : RepB W ρ H (.str s) v) : v = .str s := by
  rcases h with h | ⟨a, rfl, h⟩
  · cases h; rfl
  · cases h
theorem RepB.non {W : Wd} {ρ : List Addr} {H : Hp} {v : V} (h : RepB W ρ H .non v) : v = .non := by
  rcases h with h | ⟨a, rfl, h⟩
  · cases h; rfl
  · cases h
/-- a scalar handed back -/
theorem PPost.bl {W : Wd} {ρ : List Addr} {H : Hp} {Q : VK} {b : Bool} (h : PPost W ρ H Q (some (.sh (.bl b)))) : Q (.bl b) H := h _ _ (fun _ _ z => z) (.bl b)
theorem PPost.int {W : Wd} {ρ : List Addr} {H : Hp} {Q : VK} {b : Int} (h : PPost W ρ H Q (some (.sh (.int b)))) : Q (.int b) H := h _ _ (fun _ _ z => z) (.int b)
theorem PPost.str {W : Wd} {ρ : List Addr} {H : Hp} {Q : VK} {b : Str} (h : PPost W ρ H Q (some (.sh (.str b)))) : Q (.str b) H := h _ _ (fun _ _ z => z) (.str b)
theorem PPost.non {W : Wd} {ρ : List Addr} {H : Hp} {Q : VK} (h : PPost W ρ H Q (some (.sh .non))) : Q .non H := h _ _ (fun _ _ z => z) .non
theorem PPost.part {W : Wd} {ρ : List Addr} {H : Hp} {Q : VK} {d : D} {v : V} (h : PPost W ρ H Q (some (.sh d))) (r : Rep W ρ H d v) : Q v H := h _ _ (fun _ _ z => z) r
/-- a new list, .. -/
theorem PPost.new {W : Wd} {ρ : List Addr} {H : Hp} {Q : VK} {ds : List D} {xs : List V} (h : PPost W ρ H Q (some (.fr (.lst ds)))) (r : Reps W ρ H ds xs) {a : Addr} (n : H a = none) : Q (.ref a) (upd H a (.lst xs)) :=
  h a _ (Same.new n) n (.lst upd_same (r.mono (.of (Same.new n)) (List.prefix_refl _)))
theorem PPost.newT {W : Wd} {ρ : List Addr} {H : Hp} {Q : VK} {ds : List D} {xs : List V} (h : PPost W ρ H Q (some (.sh (.tup ds)))) (f : flat ds = true) (r : Reps W ρ H ds xs) {a : Addr} (n : H a = none) : Q (.ref a) (upd H a (.tup xs)) :=
  h (.ref a) _ (Same.new n) (.tup (by unfold TupAt; rw [if_pos f]; exact upd_same) (r.mono (.of (Same.new n)) (List.prefix_refl _)))
theorem PPost.newF {W : Wd} {ρ : List Addr} {H : Hp} {Q : VK} {ds : List D} {xs : List V} {its : List Value} (h : PPost W ρ H Q (some (.sh (.tup ds)))) (f : flat ds = false) (r : Reps W ρ H ds xs) {a : Addr} (n : H a = none) : Q (.ref a) (upd H a (.frz (plainT its) (.tup xs))) :=
  h (.ref a) _ (Same.new n) (.tup (by unfold TupAt; rw [if_neg (by rw [f]; decide)]; exact ⟨its, upd_same⟩) (r.mono (.of (Same.new n)) (List.prefix_refl _)))
theorem PPost.newD {W : Wd} {ρ : List Addr} {H : Hp} {Q : VK} {kvs : List (D × D)} {kys : List (Key × V)} (h : PPost W ρ H Q (some (.fr (.dic kvs)))) (r : RepK W ρ H kvs kys) {a : Addr} (n : H a = none) : Q (.ref a) (upd H a (.dK kys)) :=
  h a _ (Same.new n) n (.dic upd_same (r.mono (.of (Same.new n)) (List.prefix_refl _)))

section
variable {X : Cx} {B : Bd} {a b c e : Expr} {ma mb mc : EM} {pos : Pos} {rest : List Expr}
theorem p_tru (hK : X.K = B.W.K) : P1 B.W (fun x H Q => ∃ k, TruV X.K x H k ∧ Q (.bl k) H) tru := by
  refine ⟨fun ρ H d v Q r h => ?_, fun d => ?_⟩
  · cases d with
    | non => rw [r.non]; exact ⟨_, rfl, h.bl⟩
    | bl b => rw [r.bl]; exact ⟨_, rfl, h.bl⟩
    | int i => rw [r.int]; exact ⟨_, rfl, h.bl⟩
    | str s =>
      rw [r.str]
      by_cases c : s.length ≤ sizeLine
      · rw [show tru (.str s) = some (.sh (.bl ((s.length : Int) != 0))) from if_pos c] at h
        exact ⟨_, ⟨c, rfl⟩, h.bl⟩
      · rw [show tru (.str s) = none from if_neg c] at h
        exact h.elim
    | lst ds => obtain ⟨a, xs, rfl, s, rr⟩ := r.lst; exact ⟨_, .inl ⟨xs, by rw [hK]; exact s, rfl⟩, by rw [← rr.emp]; exact h.bl⟩
    | tup ds => obtain ⟨a, xs, rfl, s, rr⟩ := r.tup; exact ⟨_, .inr (.inl ⟨xs, by rw [hK]; exact s, rfl⟩), by rw [← rr.emp]; exact h.bl⟩
    | dic kvs => exact h.elim
    | obj c fs => exact h.elim
    | cel n => exact h.elim
    | scr ns => exact h.elim
    | pr ds => exact h.elim
  · cases d <;> first | trivial | (rename_i s; by_cases c : s.length ≤ sizeLine; (rw [show tru (.str s) = some (.sh (.bl ((s.length : Int) != 0))) from if_pos c]; trivial); (rw [show tru (.str s) = none from if_neg c]; trivial))
theorem simt_tru (hK : X.K = B.W.K) (ha : PE X a (rdE B ma)) (he : ∀ whole, isTrue a X.env whole = (do let v ← whole; standAt a.pos; holding [v] (truthy v)) := by exact fun _ => rfl) : PT X a (rdT B (mTru ma)) :=
  (pt_truth ha he).imp fun σ H Q h => by
    refine bind_rd (k := fun r p => op1 tru p r) h fun g p1 r1 v1 H1 R1 a1 h1 => ?_
    obtain ⟨k, z, w, e, q⟩ := op1_ok (p_tru (X := X) hK) R1 a1 h1
    cases e
    exact ⟨_, z, q⟩
theorem sim_if (hc : PT X c (rdT B mc)) (ha : PE X a (rdE B ma)) (hb : PE X b (rdE B mb)) : PE X (.IfExp c a b pos) (rdE B (mIf mc ma mb)) :=
  (pe_ifExp hc ha hb).imp fun σ H Q h => mIf_post h
theorem simt_and1 (ha : PT X a (rdT B ma)) : PW X (.BoolOp .And [a] pos) (rdT B ma) := pw_and1 ha
theorem simt_or1 (ha : PT X a (rdT B ma)) : PW X (.BoolOp .Or [a] pos) (rdT B ma) := pw_or1 ha
theorem mIfT {mc ma mb : EM} {σ : L2.St} {H : Hp} {Q : Bool → Hp → Prop} (h : rdT B (mIf mc ma mb) σ H Q) : rdT B mc σ H fun c H1 => if c = true then rdT B ma σ H1 Q else rdT B mb σ H1 Q := by
  have := mIf_post (B := B) h
  refine bind_rd (k := fun r p => match asB p r with
    | some true => ma p
    | some false => mb p
    | none => none) h fun g p1 r v H1 R a k => ?_
  cases e : asB p1 r with
  | none => rw [e] at k; exact k.elim
  | some b =>
    rw [e] at k
    refine ⟨b, asB_rep a e, ?_⟩
    cases b with
    | true => exact ⟨g, p1, R, k⟩
    | false => exact ⟨g, p1, R, k⟩
theorem simt_and (ha : PT X a (rdT B ma)) (hb : PW X (.BoolOp .And (b :: rest) pos) (rdT B mb)) : PW X (.BoolOp .And (a :: b :: rest) pos) (rdT B (mAnd ma mb)) :=
  (pw_and ha hb).imp fun σ H Q h => by
    obtain ⟨g, p, R, k⟩ := mIfT h
    refine ⟨g, p, R, Post.imp (fun v H1 z => ?_) k⟩
    obtain ⟨b, e, z⟩ := z
    refine ⟨b, e, ?_⟩
    cases b with
    | true => exact z
    | false =>
      obtain ⟨c, e, q⟩ := rdC z fun ρ => .bl false
      cases e
      exact q
theorem simt_or (ha : PT X a (rdT B ma)) (hb : PW X (.BoolOp .Or (b :: rest) pos) (rdT B mb)) : PW X (.BoolOp .Or (a :: b :: rest) pos) (rdT B (mOr ma mb)) :=
  (pw_or ha hb).imp fun σ H Q h => by
    obtain ⟨g, p, R, k⟩ := mIfT h
    refine ⟨g, p, R, Post.imp (fun v H1 z => ?_) k⟩
    obtain ⟨b, e, z⟩ := z
    refine ⟨b, e, ?_⟩
    cases b with
    | false => exact z
    | true =>
      obtain ⟨c, e, q⟩ := rdC z fun ρ => .bl true
      cases e
      exact q
theorem simt_not (ha : PT X a (rdT B ma)) : PT X (.UnaryOp .Not a pos) (rdT B (mNot ma)) :=
  (pt_not ha).imp fun σ H Q h => by
    obtain ⟨g, p, R, k⟩ := mIfT h
    refine ⟨g, p, R, Post.imp (fun v H1 z => ?_) k⟩
    obtain ⟨b, e, z⟩ := z
    refine ⟨b, e, ?_⟩
    cases b with
    | true => obtain ⟨c, e, q⟩ := rdC z fun ρ => .bl false; cases e; exact q
    | false => obtain ⟨c, e, q⟩ := rdC z fun ρ => .bl true; cases e; exact q
/-- as values -/
theorem sim_one {op} (ha : PE X a (rdE B ma)) : PE X (.BoolOp op [a] pos) (rdE B ma) := pe_one ha
theorem sim_and (ha : PE X a (rdE B ma)) (hb : PE X (.BoolOp .And (b :: rest) pos) (rdE B mb)) : PE X (.BoolOp .And (a :: b :: rest) pos) (rdE B (mAnd ma mb)) :=
  (pe_and ha hb).imp fun σ H Q h => by
    obtain ⟨g, p, R, k⟩ := mIf_post h
    refine ⟨g, p, R, Post.imp (fun v H1 z => ?_) k⟩
    obtain ⟨b, e, z⟩ := z
    refine ⟨b, e, ?_⟩
    cases b with
    | true => exact z
    | false => exact rdC z fun ρ => .bl false
theorem sim_or (ha : PE X a (rdE B ma)) (hb : PE X (.BoolOp .Or (b :: rest) pos) (rdE B mb)) : PE X (.BoolOp .Or (a :: b :: rest) pos) (rdE B (mOr ma mb)) :=
  (pe_or ha hb).imp fun σ H Q h => by
    obtain ⟨g, p, R, k⟩ := mIf_post h
    refine ⟨g, p, R, Post.imp (fun v H1 z => ?_) k⟩
    obtain ⟨b, e, z⟩ := z
    refine ⟨b, e, ?_⟩
    cases b with
    | false => exact z
    | true => exact rdC z fun ρ => .bl true
theorem sim_not (ha : PE X a (rdE B ma)) : PE X (.UnaryOp .Not a pos) (rdE B (mNot ma)) :=
  (pe_not ha).imp fun σ H Q h => by
    obtain ⟨g, p, R, k⟩ := mIf_post h
    refine ⟨g, p, R, Post.imp (fun v H1 z => ?_) k⟩
    obtain ⟨b, e, z⟩ := z
    refine ⟨b, e, ?_⟩
    cases b with
    | true => exact rdC z fun ρ => .bl false
    | false => exact rdC z fun ρ => .bl true
end
end Mi

/-! ## The mirror: several values, built-in calls and methods, subscripts, displays -/
namespace Mi
open PySem PySem.Spec PyProof.Rows L2 Lamp SlX

inductive AR where
  | vals (rs : List RV) (p : PS) | exc (x : Ex) (st : List D)
/-- from the left; what is fresh must have been made known -/
def args : List EM → PS → Option AR
  | [], p => some (.vals [] p)
  | m :: ms, p => match m p with
    | none => none
    | some (.exc x st) => some (.exc x st)
    | some (.val (.fr _) _) => none
    | some (.val r p1) => match args ms p1 with
      | none => none
      | some (.exc x st) => some (.exc x st)
      | some (.vals rs p2) => some (.vals (r :: rs) p2)
def gets (p : PS) : List RV → Option (List D)
  | [] => some []
  | r :: rs => match get p r, gets p rs with
    | some d, some ds => some (d :: ds)
    | _, _ => none
inductive RepRs (B : Bd) (g : Gh) (σ : L2.St) (H : Hp) (p : PS) : List RV → List V → Prop
  | nil : RepRs B g σ H p [] []
  | cons {r : RV} {rs : List RV} {v : V} {vs : List V} (n : ∀ d, r ≠ .fr d) (h : RepR B g σ H p r v) (t : RepRs B g σ H p rs vs) : RepRs B g σ H p (r :: rs) (v :: vs)
inductive RepBs (W : Wd) (ρ : List Addr) (H : Hp) : List D → List V → Prop
  | nil : RepBs W ρ H [] []
  | cons {d : D} {ds : List D} {v : V} {vs : List V} (h : RepB W ρ H d v) (t : RepBs W ρ H ds vs) : RepBs W ρ H (d :: ds) (v :: vs)
def PostA (B : Bd) (g : Gh) (σ : L2.St) (H : Hp) (Q : List V → Hp → Prop) : Option AR → Prop
  | none => False
  | some (.vals rs p) => ∀ vs H' ρ', Rel B ⟨ρ', g.hid⟩ σ H' p → g.ρ <+: ρ' → Frz H H' → RepRs B ⟨ρ', g.hid⟩ σ H' p rs vs → Q vs H'
  | some (.exc x st) => ExcAt B x st
def rdA (B : Bd) (ms : List EM) : TA := fun σ H Q => ∃ g p, Rel B g σ H p ∧ PostA B g σ H Q (args ms p)
theorem _root_.L2.PA.imp {X : Cx} {e : List Expr} {t t' : TA} (h : PA X e t) (i : ∀ σ H Q, t' σ H Q → t σ H Q) : PA X e t' := ⟨fun pos pins s σ H Q I q => h.run pos pins s σ H Q I (i σ H Q q)⟩
section
variable {B : Bd} {g : Gh} {σ : L2.St} {H H' : Hp} {p p' : PS} {ρ' : List Addr}
theorem gets_rep (R : Rel B g σ H p) : ∀ {rs : List RV} {vs : List V} {ds : List D}, RepRs B g σ H p rs vs → gets p rs = some ds → RepBs B.W g.ρ H ds vs
  | _, _, ds, .nil, e => by cases e; exact .nil
  | r :: rs, _, ds, .cons n h t, e => by
    unfold gets at e
    cases e1 : get p r with
    | none => rw [e1] at e; cases e
    | some d =>
      cases e2 : gets p rs with
      | none => rw [e1, e2] at e; cases e
      | some ds' =>
        rw [e1, e2] at e
        cases e
        exact .cons (get_rep R h e1) (gets_rep R t e2)
theorem RepRs.reps : ∀ {rs : List RV} {vs : List V} {ds : List D}, RepRs B g σ H p rs vs → rs = ds.map RV.sh → Reps B.W g.ρ H ds vs
  | _, _, ds, .nil, e => by
    cases ds with
    | nil => exact .nil
    | cons d ds => cases e
  | r :: rs, _, ds, .cons n h t, e => by
    cases ds with
    | nil => cases e
    | cons d ds =>
      injection e with e1 e2
      subst e1
      exact .cons h (t.reps e2)
theorem args_cons {m : EM} {ms : List EM} {Q : List V → Hp → Prop} (h : rdA B (m :: ms) σ H Q) : rdE B m σ H fun x H1 => rdA B ms σ H1 fun xs H2 => Q (x :: xs) H2 := by
  obtain ⟨g, p, R, k⟩ := h
  refine ⟨g, p, R, ?_⟩
  unfold args at k
  cases e : m p with
  | none => rw [e] at k; exact k
  | some r =>
    rw [e] at k
    cases r with
    | exc x st => exact k
    | val r p1 =>
      intro v H1 ρ1 R1 q1 f1 a1
      refine ⟨⟨ρ1, g.hid⟩, p1, R1, ?_⟩
      by_cases n : ∃ d, r = .fr d
      · obtain ⟨d, rfl⟩ := n
        exact (show False from k).elim
      have n' : ∀ d, r ≠ .fr d := fun d z => n ⟨d, z⟩
      have k' : PostA B g σ H Q (match args ms p1 with
        | none => none
        | some (.exc x st) => some (.exc x st)
        | some (.vals rs p2) => some (.vals (r :: rs) p2)) := by
        cases r with
        | sh d => exact k
        | fr d => exact (n' d rfl).elim
        | pl i => exact k
      cases e2 : args ms p1 with
      | none => rw [e2] at k'; exact k'
      | some w =>
        rw [e2] at k'
        cases w with
        | exc x st => exact k'
        | vals rs p2 => exact fun vs H2 ρ2 R2 q2 f2 a2 => k' (v :: vs) H2 ρ2 R2 (q1.trans q2) (f1.trans f2) (.cons n' (RepR.on (g := ⟨ρ1, g.hid⟩) (ρ' := ρ2) n' f2 q2 a1) a2)
end
section
variable {X : Cx} {B : Bd} {e : Expr} {es : List Expr} {m : EM} {ms : List EM}
theorem sim_nil : PA X [] (rdA B []) := pa_nil.imp fun σ H Q h => by
  obtain ⟨g, p, R, k⟩ := h
  exact k [] H g.ρ R (List.prefix_refl _) (Frz.refl H) .nil
theorem sim_cons (ha : PE X e (rdE B m)) (hr : PA X es (rdA B ms)) (hs : starEach (e :: es) X.env = (false, eval e X.env) :: starEach es X.env := by rfl) : PA X (e :: es) (rdA B (m :: ms)) :=
  (pa_cons ha hr hs).imp fun σ H Q h => args_cons h
end

/-- several values and what is made of them -/
def bindA (ms : List EM) (k : List RV → PS → Option ER) : EM := fun p => match args ms p with
  | none => none
  | some (.exc x st) => some (.exc x st)
  | some (.vals rs p') => k rs p'
theorem bindA_rd {B : Bd} {ms : List EM} {k : List RV → PS → Option ER} {σ : L2.St} {H : Hp} {Q : VK} (h : rdE B (bindA ms k) σ H Q) {Q' : List V → Hp → Prop}
    (i : ∀ g p' rs vs H', Rel B g σ H' p' → RepRs B g σ H' p' rs vs → Post B g σ H' Q (k rs p') → Q' vs H') : rdA B ms σ H Q' := by
  obtain ⟨g, p, R, hp⟩ := h
  refine ⟨g, p, R, ?_⟩
  unfold bindA at hp
  cases e : args ms p with
  | none => rw [e] at hp; exact hp
  | some r =>
    rw [e] at hp
    cases r with
    | vals rs p' => exact fun v H' ρ' R' q f rr => i ⟨ρ', g.hid⟩ p' rs v H' R' rr (Post.later q f hp)
    | exc x st => exact hp
def opN (pr : List D → Option RV) (p : PS) (rs : List RV) : Option ER := match gets p rs with
  | some ds => ret p (pr ds)
  | none => none
def mPrim (pr : List D → Option RV) (ms : List EM) : EM := bindA ms fun rs p => opN pr p rs
structure PN (W : Wd) (r : List V → Hp → VK → Prop) (pr : List D → Option RV) : Prop where
  ok : ∀ ρ H ds vs Q, RepBs W ρ H ds vs → PPost W ρ H Q (pr ds) → r vs H Q
  np : ∀ ds, noPl (pr ds)
theorem opN_ok {B : Bd} {g : Gh} {σ : L2.St} {H : Hp} {p : PS} {Q : VK} {r : List V → Hp → VK → Prop} {pr : List D → Option RV} (hp : PN B.W r pr) (R : Rel B g σ H p) {rs : List RV} {vs : List V} (a : RepRs B g σ H p rs vs) (h : Post B g σ H Q (opN pr p rs)) : r vs H Q := by
  unfold opN at h
  cases e : gets p rs with
  | none => rw [e] at h; exact h.elim
  | some ds =>
    rw [e] at h
    exact hp.ok _ _ _ _ _ (gets_rep R a e) (PPost.of' R (hp.np _) h)
theorem mPrim_rd {B : Bd} {σ : L2.St} {H : Hp} {Q : VK} {r : List V → Hp → VK → Prop} {pr : List D → Option RV} {ms : List EM} (hp : PN B.W r pr) (h : rdE B (mPrim pr ms) σ H Q) : tCB r (rdA B ms) σ H Q :=
  bindA_rd h fun g p rs vs H1 R a k => opN_ok hp R a k
section
variable {X : Cx} {B : Bd} {x : Str} {p pos : Pos} {e : Expr} {es : List Expr} {ms : List EM} {id T : String} {r : List V → Hp → VK → Prop} {pr : List D → Option RV}
theorem sim_callB (hc : CallR X (.builtin id) r) (hp : PN B.W r pr) (hm : X.mg x = none) (hg : Gl X x) (hv : bootBuiltins x = some (.builtin id)) (ha : PA X (e :: es) (rdA B ms)) (hn : x ≠ "__name__" := by decide) (hdb : (x == ("__debug__" : Str)) = false := by decide)
    (he : starEach (e :: es) X.env = (false, eval e X.env) :: starEach es X.env := by rfl) (hpl : (backTo pos (starEach es X.env)).any (·.1) = false := by rfl) : PE X (.Call (.Name x p) (e :: es) [] pos) (rdE B (mPrim pr ms)) :=
  (pe_callB hc hg hm hv ha hn hdb he hpl).imp fun σ H Q h => mPrim_rd hp h
theorem sim_callTy (hc : CallR X (.type T) r) (hp : PN B.W r pr) (hm : X.mg x = none) (hg : Gl X x) (hv : bootBuiltins x = some (.type T)) (ha : PA X (e :: es) (rdA B ms)) (hn : x ≠ "__name__" := by decide) (hdb : (x == ("__debug__" : Str)) = false := by decide)
    (he : starEach (e :: es) X.env = (false, eval e X.env) :: starEach es X.env := by rfl) (hpl : (backTo pos (starEach es X.env)).any (·.1) = false := by rfl) : PE X (.Call (.Name x p) (e :: es) [] pos) (rdE B (mPrim pr ms)) :=
  (pe_callTy hc hg hm hv ha hn hdb he hpl).imp fun σ H Q h => mPrim_rd hp h
end

/-! ### methods of built-in types that only read -/
def tyName : D → String
  | .lst _ => "list" | .dic _ => "dict" | .str _ => "str" | _ => ""
theorem tyB_is {X : Cx} {pins : List (Addr × Obj)} {σ : L2.St} {H : Hp} {s : Shared} {W : Wd} {ρ : List Addr} {d : D} {T : String} {x : V} {v : Value} (I : Inv X pins σ H s) (r : RelV x v) (h : RepB W ρ H d x) (e : tyName d = T) (ne : T ≠ "") :
    s.TypeIs v T ∧ ∀ a, v = .ref a → ∃ ob, s.heap.get? a = some ob ∧ ob.dict = none := by
  have dk : ∀ {a : Addr} {kys : List (Key × V)}, Rd H a (.dK kys) → s.TypeIs (.ref a) "dict" ∧ ∀ b, Value.ref a = .ref b → ∃ ob, s.heap.get? b = some ob ∧ ob.dict = none := fun rd => by
    rename_i a kys
    have g : DGet H a (kV (.inl 0)) (valV kys (Sum.inl 0)) := .inl ⟨kys, .inl 0, rd, rfl, rfl⟩
    exact ⟨dict_typeIs I g, dict_noDict I g⟩
  have dt : ∀ {a : Addr} {kys : List (List Key × V)}, Rd H a (.dT kys) → s.TypeIs (.ref a) "dict" ∧ ∀ b, Value.ref a = .ref b → ∃ ob, s.heap.get? b = some ob ∧ ob.dict = none := fun rd => by
    obtain ⟨_, _, xs, _, dd⟩ := dt_rd I.hok rd
    obtain ⟨o, es, ep, e0, ex, _⟩ := id dd
    refine ⟨dd.typeIs, fun b z => ?_⟩
    cases z
    exact ⟨o, e0, ex.2.1⟩
  cases d with
  | lst ds =>
    cases e
    obtain ⟨a, xs, rfl, rd, _⟩ := h.lstR
    cases r
    obtain ⟨its, _, pl, _⟩ := I.list (.inl rd)
    refine ⟨pl.isList.typeIs, fun a e => ?_⟩
    cases e
    obtain ⟨o, n, e, c, hd, _⟩ := pl
    exact ⟨o, e, hd⟩
  | str z =>
    cases e
    obtain rfl := h.str
    obtain ⟨t, rfl⟩ := r
    exact ⟨typeIs_str s z t, fun _ e => nomatch e⟩
  | dic kvs =>
    cases e
    rcases h with h | ⟨a, rfl, h⟩
    · cases h with
      | dic h _ => cases r; exact dk (.inr ⟨_, h⟩)
      | dit h _ _ => cases r; exact dt (.inr ⟨_, h⟩)
    · cases h with
      | dic h _ => cases r; exact dk (.inl h)
      | dit h _ _ => cases r; exact dt (.inl h)
  | non => exact (ne e.symm).elim
  | bl b => exact (ne e.symm).elim
  | int i => exact (ne e.symm).elim
  | tup ds => exact (ne e.symm).elim
  | obj c fs => exact (ne e.symm).elim
  | cel n => exact (ne e.symm).elim
  | scr ns => exact (ne e.symm).elim
  | pr ds => exact (ne e.symm).elim
structure PM (W : Wd) (r : V → List V → Hp → VK → Prop) (pr : D → List D → Option RV) : Prop where
  ok : ∀ ρ H d v ds vs Q, RepB W ρ H d v → RepBs W ρ H ds vs → PPost W ρ H Q (pr d ds) → r v vs H Q
  np : ∀ d ds, noPl (pr d ds)
def isTy (T : String) (p : PS) (r : RV) : Bool := match get p r with
  | some d => tyName d == T && T != ""
  | none => false
def opM (pr : D → List D → Option RV) (p : PS) (ro : RV) (rs : List RV) : Option ER := match get p ro, gets p rs with
  | some d, some ds => ret p (pr d ds)
  | _, _ => none
def mMeth (T : String) (pr : D → List D → Option RV) (mo : EM) (ms : List EM) : EM := bindE mo fun ro p1 => if isTy T p1 ro then bindA ms (fun rs p => opM pr p ro rs) p1 else none
theorem isTy_ok {T : String} {p : PS} {r : RV} (h : isTy T p r = true) : ∃ d, get p r = some d ∧ tyName d = T ∧ T ≠ "" := by
  unfold isTy at h
  cases e : get p r with
  | none => rw [e] at h; cases h
  | some d =>
    rw [e] at h
    simp only [Bool.and_eq_true, beq_iff_eq, bne_iff_ne] at h
    exact ⟨d, rfl, h.1, h.2⟩
theorem get_nfr {p : PS} {r : RV} {d : D} (h : get p r = some d) : ∀ d', r ≠ .fr d' := fun d' e => by subst e; cases h
section
variable {X : Cx} {B : Bd} {o e : Expr} {es : List Expr} {name : Str} {id T : String} {r : V → List V → Hp → VK → Prop} {pr : D → List D → Option RV} {mo : EM} {ms : List EM} {apos cpos : Pos}
theorem sim_bm (pa : PlainAttrs T) (slot : PySem.Slot T name id) (hty : typeOf (.builtin id) = pure (.type "method_descriptor")) (hm : MtR X id r) (hp : PM B.W r pr) (ho : PE X o (rdE B mo)) (ha : PA X (e :: es) (rdA B ms))
    (hbase : attributeBase o name X.env (eval o X.env) = eval o X.env := by rfl)
    (hfew : ((backTo cpos (starEach (e :: es) X.env)).all (fun x => !x.1) && (backToKw cpos (keywordEach [] X.env)).all (fun x => x.1.isSome)
      && decide ((e :: es).length + ([] : List Keyword).length + (if ([] : List Keyword).isEmpty then 0 else 1) < 30)) = true := by rfl)
    (hline : (apos.endLine == cpos.line) = true := by rfl) (hs : starEach (e :: es) X.env = (false, eval e X.env) :: starEach es X.env := by rfl) (hplain : (backTo cpos (starEach es X.env)).any (·.1) = false := by rfl) :
    PE X (.Call (.Attribute o name apos) (e :: es) [] cpos) (rdE B (mMeth T pr mo ms)) := by
  refine ⟨fun pins s σ H Q I h => ?_⟩
  have h1 := bind_rd h (Q' := fun v H1 => ∃ g p ro, Rel B g σ H1 p ∧ RepR B g σ H1 p ro v ∧ isTy T p ro = true ∧ Post B g σ H1 Q (bindA ms (fun rs p => opM pr p ro rs) p)) fun g p' ro v H' R a k => by
    by_cases c : isTy T p' ro = true
    · rw [if_pos c] at k
      exact ⟨g, p', ro, R, a, c, k⟩
    · rw [if_neg c] at k
      exact k.elim
  refine wpAny_Call_method_late hbase hfew hline rfl (thn (ho.run pins s σ H _ I h1) fun v s1 ⟨x, H1, I1, r1, g, p, ro, R, a, c, k⟩ => ?_)
  obtain ⟨d, e1, e2, ne⟩ := isTy_ok c
  obtain ⟨h1, h2⟩ := tyB_is I1 r1 (get_rep R a e1) e2 ne
  refine ⟨T, id, pa, slot, hty, h1, h2, ?_⟩
  have q1 : rdA B ms σ H1 fun vs H2 => r x vs H2 Q := by
    obtain ⟨g0, p0, hg0, hp0⟩ : ∃ g0 p0, g0 = g ∧ p0 = p := ⟨_, _, rfl, rfl⟩
    refine ⟨g, p, R, ?_⟩
    unfold bindA at k
    cases e3 : args ms p with
    | none => rw [e3] at k; exact k
    | some w =>
      rw [e3] at k
      cases w with
      | exc x st => exact k
      | vals rs p2 =>
        intro vs H2 ρ2 R2 q2 f2 a2
        have k2 := Post.later q2 f2 k
        unfold opM at k2
        cases e4 : get p2 ro with
        | none => simp only [e4] at k2; exact k2.elim
        | some d2 =>
          cases e5 : gets p2 rs with
          | none => simp only [e4, e5] at k2; exact k2.elim
          | some ds =>
            simp only [e4, e5] at k2
            exact hp.ok _ _ _ _ _ _ _ (get_rep R2 (a.on (get_nfr e1) f2 q2) e4) (gets_rep R2 a2 e5) (PPost.of' R2 (hp.np _ _) k2)
  have hA := ha.run cpos pins s1 σ H1 _ I1 q1
  rw [hs] at hA ⊢
  refine Calls.callWith_builtin (by show (false || (backTo cpos (starEach es X.env)).any (·.1)) = false; rw [hplain] <;> rfl) (Calls.evalArgs_plain ?_)
  exact thn hA fun us s2 ⟨vs, H2, I2, r2, q2⟩ => hm pins s2 σ H2 x vs v us Q I2 r1 r2 q2
end

/-! ### subscripts, slices -/
section
variable {X : Cx} {B : Bd} {a b e : Expr} {ma mb mc : EM} {pos p2 : Pos}
theorem sim_ix {r : R2} {pr : D → D → Option RV} (hr : IxR X r) (hp : P2 B.W r pr) (ha : PE X a (rdE B ma)) (hb : PE X b (rdE B mb)) (hs : PlainIx b := by exact fun _ _ => rfl) : PE X (.Subscript a b pos) (rdE B (mOp pr ma mb)) :=
  (pe_ix hr ha hb hs).imp fun _ _ _ h => mOp_rd hp h
end
/-- a slice's parts: given or left out -/
def mPart : Option EM → EM
  | none => eC .non
  | some m => m
def asPart : Bool → RV → Option (Option Int)
  | false, .sh .non => some none
  | true, .sh (.int i) => some (some i)
  | _, _ => none
def isFr : RV → Bool
  | .fr _ => true | _ => false
structure PSl (W : Wd) (r : V → Option Int → Option Int → Hp → VK → Prop) (pr : D → Option Int → Option Int → Option RV) : Prop where
  ok : ∀ ρ H d v lo hi Q, RepB W ρ H d v → PPost W ρ H Q (pr d lo hi) → r v lo hi H Q
  np : ∀ d lo hi, noPl (pr d lo hi)
def mSl (pr : D → Option Int → Option Int → Option RV) (mo : EM) (lo hi : Option EM) : EM :=
  bindE mo fun ro p0 => if isFr ro then none else bindE (mPart lo) (fun rl p1 => match asPart lo.isSome rl with
    | none => none
    | some l => bindE (mPart hi) (fun rh p => match get p ro, asPart hi.isSome rh with
      | some d, some h => ret p (pr d l h)
      | _, _ => none) p1) p0
structure SimO (X : Cx) (B : Bd) (e : Option Expr) (m : Option EM) : Prop where
  ok : (e = none ∧ m = none) ∨ ∃ e' m', e = some e' ∧ m = some m' ∧ PE X e' (rdE B m')
theorem so_none {X : Cx} {B : Bd} : SimO X B none none := ⟨.inl ⟨rfl, rfl⟩⟩
theorem so_some {X : Cx} {B : Bd} {e : Expr} {m : EM} (h : PE X e (rdE B m)) : SimO X B (some e) (some m) := ⟨.inr ⟨e, m, rfl, rfl, h⟩⟩
/-- what a part asks -/
def tOf (B : Bd) (m : Option EM) : TO := fun σ H Q => rdE B (mPart m) σ H fun x H1 => (x = .non ∧ m = none ∧ Q none H1) ∨ ∃ i, x = .int i ∧ m ≠ none ∧ Q (some i) H1
theorem po_of {X : Cx} {B : Bd} {e : Option Expr} {m : Option EM} (h : SimO X B e m) : PO X e (tOf B m) := by
  rcases h.ok with ⟨rfl, rfl⟩ | ⟨e', m', rfl, rfl, hp⟩
  · refine ⟨fun pins s σ H Q I q => po_none.run pins s σ H Q I ?_⟩
    have q' : rdE B (eC .non) σ H _ := q
    rcases rdC q' (v := .non) fun ρ => .non with ⟨_, _, z⟩ | ⟨i, z, _⟩
    · exact z
    · cases z
  · refine ⟨fun pins s σ H Q I q => (po_some hp).run pins s σ H Q I ?_⟩
    have q' : rdE B m' σ H _ := q
    obtain ⟨g, p, R, k⟩ := q'
    refine ⟨g, p, R, Post.imp (fun v H1 z => ?_) k⟩
    rcases z with ⟨_, z, _⟩ | ⟨i, z, _, w⟩
    · cases z
    · exact ⟨i, z, w⟩
theorem asPart_rep {B : Bd} {g : Gh} {σ : L2.St} {H : Hp} {p : PS} {r : RV} {v : V} {m : Option EM} {o : Option Int} (h : RepR B g σ H p r v) (e : asPart m.isSome r = some o) {Q : Option Int → Hp → Prop} (q : Q o H) :
    (v = .non ∧ m = none ∧ Q none H) ∨ ∃ i, v = .int i ∧ m ≠ none ∧ Q (some i) H := by
  cases m with
  | none =>
    cases r with
    | sh d =>
      cases d with
      | non => cases e; cases (show Rep _ _ _ _ _ from h); exact .inl ⟨rfl, rfl, q⟩
      | _ => cases e
    | fr d => cases e
    | pl i => cases e
  | some m =>
    cases r with
    | sh d =>
      cases d with
      | int i => cases e; cases (show Rep _ _ _ _ _ from h); exact .inr ⟨_, rfl, (fun z => nomatch z), q⟩
      | _ => cases e
    | fr d => cases e
    | pl i => cases e
end Mi

/-! ## The mirror: statements -/
namespace Mi
open PySem PySem.Spec PyProof.Rows L2 Lamp SlX

inductive SR where
  | next (p : PS) | brk (p : PS) | cont (p : PS) | ret (r : RV) (p : PS) | exc (x : Ex) (st : List D)
abbrev SM := PS → Option SR
def PostS (B : Bd) (g : Gh) (_σ : L2.St) (H : Hp) (N : Ends) : Option SR → Prop
  | none => False
  | some (.next p) => ∀ σ' H' ρ', Rel B ⟨ρ', g.hid⟩ σ' H' p → g.ρ <+: ρ' → Frz H H' → N.nx σ' H'
  | some (.brk p) => ∀ σ' H' ρ', Rel B ⟨ρ', g.hid⟩ σ' H' p → g.ρ <+: ρ' → Frz H H' → N.bk σ' H'
  | some (.cont p) => ∀ σ' H' ρ', Rel B ⟨ρ', g.hid⟩ σ' H' p → g.ρ <+: ρ' → Frz H H' → N.ct σ' H'
  | some (.ret r p) => ∀ v σ' H' ρ', Rel B ⟨ρ', g.hid⟩ σ' H' p → g.ρ <+: ρ' → Frz H H' → RepR B ⟨ρ', g.hid⟩ σ' H' p r v → N.rt v H'
  | some (.exc x st) => ExcAt B x st
def rdS (B : Bd) (m : SM) : TS := fun N σ H => ∃ g p, Rel B g σ H p ∧ PostS B g σ H N (m p)
theorem _root_.L2.PS.imp {X : Cx} {e : Stmt} {t t' : TS} (h : L2.PS X e t) (i : ∀ N σ H, t' N σ H → t N σ H) : L2.PS X e t' := ⟨fun pins s σ H N I q => h.run pins s σ H N I (i N σ H q)⟩
theorem _root_.L2.PSs.imp {X : Cx} {e : List Stmt} {t t' : TS} (h : PSs X e t) (i : ∀ N σ H, t' N σ H → t N σ H) : PSs X e t' := ⟨fun pins s σ H N I q => h.run pins s σ H N I (i N σ H q)⟩
theorem _root_.L2.PG.imp {X : Cx} {e : Expr} {t t' : TG} (h : PG X e t) (i : ∀ v σ H Q, t' v σ H Q → t v σ H Q) : PG X e t' := ⟨fun pins s σ H v u Q I r q => h.run pins s σ H v u Q I r (i v σ H Q q)⟩
theorem _root_.L2.PGs.imp {X : Cx} {e : List Expr} {t t' : TGs} (h : PGs X e t) (i : ∀ v σ H Q, t' v σ H Q → t v σ H Q) : PGs X e t' := ⟨fun pins s σ H v u Q I r q => h.run pins s σ H v u Q I r (i v σ H Q q)⟩
section
variable {B : Bd} {g : Gh} {σ σ' : L2.St} {H H' : Hp} {p p' : PS} {ρ' : List Addr} {N N' : Ends}
theorem PostS.later {r : Option SR} (q : g.ρ <+: ρ') (f : Frz H H') (h : PostS B g σ H N r) : PostS B ⟨ρ', g.hid⟩ σ' H' N r := by
  cases r with
  | none => exact h
  | some r =>
    cases r with
    | next p => exact fun σ2 H2 ρ2 R q2 f2 => h σ2 H2 ρ2 R (q.trans q2) (f.trans f2)
    | brk p => exact fun σ2 H2 ρ2 R q2 f2 => h σ2 H2 ρ2 R (q.trans q2) (f.trans f2)
    | cont p => exact fun σ2 H2 ρ2 R q2 f2 => h σ2 H2 ρ2 R (q.trans q2) (f.trans f2)
    | ret r p => exact fun v σ2 H2 ρ2 R q2 f2 a => h v σ2 H2 ρ2 R (q.trans q2) (f.trans f2) a
    | exc x st => exact h
end
/-- a statement made of an expression's value -/
def bindS (m : EM) (k : RV → PS → Option SR) : SM := fun p => match m p with
  | none => none
  | some (.val r p') => k r p'
  | some (.exc x st) => some (.exc x st)
theorem bindS_rd {B : Bd} {m : EM} {k : RV → PS → Option SR} {σ : L2.St} {H : Hp} {N : Ends} (h : rdS B (bindS m k) N σ H) {Q' : VK}
    (i : ∀ g p' r v H', Rel B g σ H' p' → RepR B g σ H' p' r v → PostS B g σ H' N (k r p') → Q' v H') : rdE B m σ H Q' := by
  obtain ⟨g, p, R, hp⟩ := h
  refine ⟨g, p, R, ?_⟩
  unfold bindS at hp
  cases e : m p with
  | none => rw [e] at hp; exact hp
  | some r =>
    rw [e] at hp
    cases r with
    | val r p' => exact fun v H' ρ' R' q f rr => i ⟨ρ', g.hid⟩ p' r v H' R' rr (PostS.later q f hp)
    | exc x st => exact hp
def sSeq (a b : SM) : SM := fun p => match a p with
  | some (.next p') => b p'
  | r => r
def sNil : SM := fun p => some (.next p)
def sIf (c : EM) (a b : SM) : SM := bindS c fun r p => match asB p r with
  | some true => a p
  | some false => b p
  | none => none
def sExpr (m : EM) : SM := bindS m fun _ p => some (.next p)
def sRet (m : EM) : SM := bindS m fun r p => match r with
  | .pl _ => none
  | r => some (.ret r p)
def sRetN : SM := fun p => some (.ret (.sh .non) p)
def sBrk : SM := fun p => some (.brk p)
def sCont : SM := fun p => some (.cont p)

/-! ### targets -/
abbrev GM := RV → PS → Option PS
/-- a name may be stored, unless a loop walks what it holds -/
def openAt (p : PS) (i : Nat) : Bool := match p.env[i]? with
  | some (.lk _) => false | some (.lz _) => false | some (.self _ _ _) => false | _ => true
def gNm (i : Nat) : GM := fun r p => if openAt p i then match r with
    | .sh d => some { p with env := p.env.set i (.sh d) }
    | .fr d => some { p with env := p.env.set i (.ow d) }
    | .pl _ => none
  else none
/-- the slots at ts alone have been stored -/
def Touch (ts : List Nat) (σ σ' : L2.St) : Prop := ∀ vs : List Nat, (∀ i ∈ ts, i ∈ vs) → wipe σ' vs = wipe σ vs
theorem wipe_set {σ : L2.St} {i : Nat} {x : Option V} : ∀ {vs : List Nat}, i ∈ vs → wipe (σ.set i x) vs = wipe σ vs
  | v :: vs, h => by
    show (wipe (σ.set i x) vs).set v none = (wipe σ vs).set v none
    by_cases m : i ∈ vs
    · rw [wipe_set m]
    · have e : i = v := (List.mem_cons.mp h).resolve_right m
      subst e
      have key : ∀ {ws : List Nat} {τ : L2.St}, i ∉ ws → wipe (τ.set i x) ws = (wipe τ ws).set i x := by
        intro ws
        induction ws with
        | nil => intro τ _; rfl
        | cons w ws ih =>
          intro τ hn
          show (wipe (τ.set i x) ws).set w none = ((wipe τ ws).set w none).set i x
          rw [ih fun z => hn (List.mem_cons_of_mem _ z), List.set_comm]
          exact fun z => hn (by rw [z]; exact List.mem_cons_self)
      rw [key m, List.set_set]
theorem Touch.set {σ : L2.St} {i : Nat} {x : Option V} : Touch [i] σ (σ.set i x) := fun vs h => wipe_set (h i (List.mem_singleton.mpr rfl))
theorem Touch.refl {σ : L2.St} {ts : List Nat} : Touch ts σ σ := fun _ _ => rfl
theorem Touch.trans {σ σ1 σ2 : L2.St} {ts us : List Nat} (a : Touch ts σ σ1) (b : Touch us σ1 σ2) : Touch (ts ++ us) σ σ2 := fun vs h => (b vs fun i m => h i (List.mem_append_right _ m)).trans (a vs fun i m => h i (List.mem_append_left _ m))
def PostG (B : Bd) (ts : List Nat) (g : Gh) (σ : L2.St) (H : Hp) (Q : L2.St → Hp → Prop) : Option PS → Prop
  | none => False
  | some p => ∀ σ' H' ρ', Touch ts σ σ' → Rel B ⟨ρ', g.hid⟩ σ' H' p → g.ρ <+: ρ' → Frz H H' → Q σ' H'
def rdG (B : Bd) (ts : List Nat) (m : GM) : TG := fun v σ H Q => ∃ g p r, Rel B g σ H p ∧ RepR B g σ H p r v ∧ PostG B ts g σ H Q (m r p)
def gAll : List GM → List D → PS → Option PS
  | [], [], p => some p
  | m :: ms, d :: ds, p => match m (.sh d) p with
    | some p1 => gAll ms ds p1
    | none => none
  | _, _, _ => none
def rdGs (B : Bd) (ts : List Nat) (ms : List GM) : TGs := fun vs σ H Q => ∃ g p ds, Rel B g σ H p ∧ Reps B.W g.ρ H ds vs ∧ PostG B ts g σ H Q (gAll ms ds p)
def gTp (ms : List GM) : GM := fun r p => match r with
  | .sh (.tup ds) => if ds.length = ms.length then gAll ms ds p else none
  | .sh (.lst ds) => if ds.length = ms.length then gAll ms ds p else none
  | .sh (.pr ds) => if ds.length = ms.length then gAll ms ds p else none
  | _ => none
section
variable {B : Bd} {g : Gh} {σ σ' : L2.St} {H H' : Hp} {p p' : PS} {ρ' : List Addr} {Q : L2.St → Hp → Prop}
theorem PostG.later {ts us : List Nat} {r : Option PS} (t : Touch us σ σ') (q : g.ρ <+: ρ') (f : Frz H H') (h : PostG B (us ++ ts) g σ H Q r) : PostG B ts ⟨ρ', g.hid⟩ σ' H' Q r := by
  cases r with
  | none => exact h
  | some p => exact fun σ2 H2 ρ2 t2 R q2 f2 => h σ2 H2 ρ2 (t.trans t2) R (q.trans q2) (f.trans f2)
/-- storing a value at a slot -/
theorem Rel.bindTo (R : Rel B g σ H p) {i : Nat} {r : RV} {v : V} (a : RepR B g σ H p r v) (e : gNm i r p = some p') : Rel B g (σ.set i (some v)) H p' := by
  unfold gNm at e
  split at e
  · cases r with
    | sh d =>
      cases e
      exact R.store rfl fun hl => ⟨v, by rw [List.getElem?_set_self hl], a⟩
    | fr d =>
      cases e
      obtain ⟨ad, rfl, o, n1, n2, n3, n4⟩ := a
      exact R.storeO ⟨n1, n2, n3, n4⟩ fun hl => ⟨ad, by rw [List.getElem?_set_self hl], o⟩
    | pl j => cases e
  · cases e
theorem gAll_cons {ts us : List Nat} {m : GM} {ms : List GM} {d : D} {ds : List D} {v : V} {vs : List V} (R : Rel B g σ H p) (hd : Rep B.W g.ρ H d v) (ht : Reps B.W g.ρ H ds vs) (k : PostG B (us ++ ts) g σ H Q (gAll (m :: ms) (d :: ds) p)) :
    rdG B us m v σ H fun σ' H' => rdGs B ts ms vs σ' H' Q := by
  refine ⟨g, p, .sh d, R, hd, ?_⟩
  unfold gAll at k
  cases e : m (.sh d) p with
  | none => simp only [e] at k; exact k
  | some p1 =>
    simp only [e] at k
    exact fun σ1 H1 ρ1 t1 R1 q1 f1 => ⟨⟨ρ1, g.hid⟩, p1, ds, R1, ht.mono f1 q1, PostG.later t1 q1 f1 k⟩
end
section
variable {X : Cx} {B : Bd} {e : Expr} {es : List Expr} {pos : Pos}
theorem simg_name (i : Nat) {x : Str} (hN : X.N.Nodup) (hi : X.N[i]? = some x) (hx : Loc X.env.scope x) (hf : X.fn x = true ∨ X.env.scope.names.lookup x = some .local := by first | exact .inl rfl | exact .inr rfl | assumption) : PG X (.Name x pos) (rdG B [i] (gNm i)) :=
  (pg_name hN hi hx hf).imp fun v σ H Q h => by
    obtain ⟨g, p, r, R, a, k⟩ := h
    cases e : gNm i r p with
    | none => rw [e] at k; exact k.elim
    | some p' => rw [e] at k; exact k _ H g.ρ Touch.set (R.bindTo a e) (List.prefix_refl _) (Frz.refl H)
theorem simg_nil : PGs X [] (rdGs B [] []) := pgs_nil.imp fun vs σ H Q h => by
  obtain ⟨g, p, ds, R, a, k⟩ := h
  cases a with
  | nil => exact ⟨rfl, k σ H g.ρ Touch.refl R (List.prefix_refl _) (Frz.refl H)⟩
  | cons _ _ => exact k.elim
theorem simg_cons {ts us : List Nat} {m : GM} {ms : List GM} (h1 : PG X e (rdG B us m)) (h2 : PGs X es (rdGs B ts ms)) (hs : (assignEach (e :: es) X.env).map (·.2) = assign e X.env :: (assignEach es X.env).map (·.2) := by rfl) : PGs X (e :: es) (rdGs B (us ++ ts) (m :: ms)) :=
  (pgs_cons h1 h2 hs).imp fun vs σ H Q h => by
    obtain ⟨g, p, ds, R, a, k⟩ := h
    cases a with
    | nil => exact k.elim
    | cons hd ht => exact ⟨_, _, rfl, gAll_cons R hd ht k⟩
theorem simg_tup {ts : List Nat} {ms : List GM} {n : Nat} {kk : Nat} (hK : X.K = B.W.K) (hc : X.calm = true) (h : PGs X es (rdGs B ts ms)) (hl : ms.length = n) (hn : (assignEach es X.env).length = n := by rfl) (hst : (assignEach es X.env).findIdx? (·.1) = none := by rfl) : PG X (.Tuple es kk pos) (rdG B ts (gTp ms)) := by
  refine ⟨fun pins s σ H v u Q I r q => ?_⟩
  obtain ⟨g, p, rv, R, a, k⟩ := q
  cases rv with
  | fr d => exact k.elim
  | pl i => exact k.elim
  | sh d =>
    have a' : Rep B.W g.ρ H d v := a
    cases d with
    | tup ds =>
      cases a' with
      | tup ht rr =>
        refine (pg_tup hc h hn hst).run pins s σ H _ u Q I r ⟨_, _, rfl, ht.seq, ?_, ?_⟩
        · unfold gTp at k
          by_cases c : ds.length = ms.length
          · rw [← rr.len, c, hl]
          · simp only [c, if_false] at k; exact k.elim
        · unfold gTp at k
          by_cases c : ds.length = ms.length
          · simp only [c, if_true] at k; exact ⟨g, p, ds, R, rr, k⟩
          · simp only [c, if_false] at k; exact k.elim
    | lst ds =>
      cases a' with
      | lst ht rr =>
        refine (pg_unl hc h hn hst).run pins s σ H _ u Q I r ⟨_, _, rfl, .inl (.inr ⟨_, ht⟩), ?_, ?_⟩
        · unfold gTp at k
          by_cases c : ds.length = ms.length
          · rw [← rr.len, c, hl]
          · simp only [c, if_false] at k; exact k.elim
        · unfold gTp at k
          by_cases c : ds.length = ms.length
          · simp only [c, if_true] at k; exact ⟨g, p, ds, R, rr, k⟩
          · simp only [c, if_false] at k; exact k.elim
    | pr ds =>
      cases a' with
      | pr ht rr =>
        refine (pg_tup hc h hn hst).run pins s σ H _ u Q I r ⟨_, _, rfl, SqT.of ht, ?_, ?_⟩
        · unfold gTp at k
          by_cases c : ds.length = ms.length
          · rw [← rr.len, c, hl]
          · simp only [c, if_false] at k; exact k.elim
        · unfold gTp at k
          by_cases c : ds.length = ms.length
          · simp only [c, if_true] at k; exact ⟨g, p, ds, R, rr, k⟩
          · simp only [c, if_false] at k; exact k.elim
    | _ => exact k.elim
end
/-- target = value -/
def sAsg (m : EM) (gm : GM) : SM := bindS m fun r p => match gm r p with
  | some p' => some (.next p')
  | none => none
section
variable {X : Cx} {B : Bd} {st : Stmt} {rest : List Stmt} {a b : List Stmt} {e c tg : Expr} {m mc : EM} {ma mb : SM} {gm : GM} {pos : Pos}
theorem sAsg_rd {ts : List Nat} {σ : L2.St} {H : Hp} {N : Ends} (h : rdS B (sAsg m gm) N σ H) : tAsg (rdE B m) (rdG B ts gm) N σ H := by
  refine bindS_rd (N := N) h fun g p r v H1 R a k => ⟨g, p, r, R, a, ?_⟩
  cases e : gm r p with
  | none => rw [e] at k; exact k
  | some p' => rw [e] at k; exact fun σ' H' ρ' _ R q f => k σ' H' ρ' R q f
theorem sims_nil : PSs X [] (rdS B sNil) := pss_nil.imp fun N σ H h => by
  obtain ⟨g, p, R, k⟩ := h
  exact k σ H g.ρ R (List.prefix_refl _) (Frz.refl H)
theorem sims_one (h : L2.PS X st (rdS B ma)) : PSs X [st] (rdS B ma) := pss_one h
theorem sims_cons (h1 : L2.PS X st (rdS B ma)) (h2 : PSs X rest (rdS B mb)) : PSs X (st :: rest) (rdS B (sSeq ma mb)) :=
  (pss_cons h1 h2).imp fun N σ H h => by
    obtain ⟨g, p, R, k⟩ := h
    refine ⟨g, p, R, ?_⟩
    unfold sSeq at k
    cases e : ma p with
    | none => rw [e] at k; exact k
    | some r =>
      rw [e] at k
      cases r with
      | next p1 => exact fun σ1 H1 ρ1 R1 q1 f1 => ⟨⟨ρ1, g.hid⟩, p1, R1, PostS.later q1 f1 k⟩
      | brk p1 => exact k
      | cont p1 => exact k
      | ret r p1 => exact k
      | exc x st => exact k
theorem sims_set (i : Nat) {x : Str} {pos' : Pos} (hN : X.N.Nodup) (hi : X.N[i]? = some x) (hx : Loc X.env.scope x) (he : PE X e (rdE B m)) (hs : swapsWith e (some (.Name x pos')) pos.line X.env = pure false := by rfl) (hf : X.fn x = true ∨ X.env.scope.names.lookup x = some .local := by first | exact .inl rfl | exact .inr rfl | assumption) :
    L2.PS X (.Assign [.Name x pos'] e pos) (rdS B (sAsg m (gNm i))) :=
  (ps_set hN hi hx he hs hf).imp fun N σ H h => by
    obtain ⟨g, p, R, k⟩ := sAsg_rd (ts := [i]) h
    refine ⟨g, p, R, Post.imp (fun v H1 z => ?_) k⟩
    obtain ⟨g, p, r, R, a, k⟩ := z
    cases e : gNm i r p with
    | none => rw [e] at k; exact k.elim
    | some p' => rw [e] at k; exact k _ H1 g.ρ Touch.set (R.bindTo a e) (List.prefix_refl _) (Frz.refl H1)
theorem sims_asg {ts : List Nat} (he : PE X e (rdE B m)) (hg : PG X tg (rdG B ts gm)) (hs : swapsWithSole [tg] e pos.line X.env = pure false := by rfl) (hw : swappedStores [tg] e X.env = pure none := by rfl)
    (h1 : (assignEach [tg] X.env).map (·.2) = [assign tg X.env] := by rfl) : L2.PS X (.Assign [tg] e pos) (rdS B (sAsg m gm)) :=
  (ps_asg he hg hs hw h1).imp fun N σ H h => sAsg_rd h
theorem sims_expr (he : PE X e (rdE B m)) (hs : swapsWith e none pos.line X.env = pure false := by rfl) : L2.PS X (.Expr e pos) (rdS B (sExpr m)) :=
  (ps_expr he hs).imp fun N σ H h => bindS_rd (N := N) h fun g p r v H1 R a k => k σ H1 g.ρ R (List.prefix_refl _) (Frz.refl H1)
theorem sims_ret (he : PE X e (rdE B m)) : L2.PS X (.Return (some e) pos) (rdS B (sRet m)) :=
  (ps_ret he).imp fun N σ H h => bindS_rd (N := N) h fun g p r v H1 R a k => by
    cases r with
    | pl i => exact k.elim
    | sh d => exact k v σ H1 g.ρ R (List.prefix_refl _) (Frz.refl H1) a
    | fr d => exact k v σ H1 g.ρ R (List.prefix_refl _) (Frz.refl H1) a
theorem sims_retN : L2.PS X (.Return none pos) (rdS B sRetN) := ps_retN.imp fun N σ H h => by
  obtain ⟨g, p, R, k⟩ := h
  exact k .non σ H g.ρ R (List.prefix_refl _) (Frz.refl H) .non
theorem sims_brk : L2.PS X (.Break pos) (rdS B sBrk) := ps_break.imp fun N σ H h => by
  obtain ⟨g, p, R, k⟩ := h
  exact k σ H g.ρ R (List.prefix_refl _) (Frz.refl H)
theorem sims_cont : L2.PS X (.Continue pos) (rdS B sCont) := ps_continue.imp fun N σ H h => by
  obtain ⟨g, p, R, k⟩ := h
  exact k σ H g.ρ R (List.prefix_refl _) (Frz.refl H)
theorem sims_pass : L2.PS X (.Pass pos) (rdS B sNil) := ps_pass.imp fun N σ H h => by
  obtain ⟨g, p, R, k⟩ := h
  exact k σ H g.ρ R (List.prefix_refl _) (Frz.refl H)
theorem sims_doc {x j pos'} : L2.PS X (.Expr (.Constant (.str x) j pos') pos) (rdS B sNil) := ps_doc.imp fun N σ H h => by
  obtain ⟨g, p, R, k⟩ := h
  exact k σ H g.ρ R (List.prefix_refl _) (Frz.refl H)
theorem sims_if (hc : PT X c (rdT B mc)) (ha : PSs X a (rdS B ma)) (hb : PSs X b (rdS B mb)) : L2.PS X (.If c a b pos) (rdS B (sIf mc ma mb)) :=
  (ps_if hc ha hb).imp fun N σ H h => bindS_rd (N := N) h fun g p r v H1 R a k => by
    cases e : asB p r with
    | none => rw [e] at k; exact k.elim
    | some b =>
      rw [e] at k
      refine ⟨b, asB_rep a e, ?_⟩
      cases b with
      | true => exact ⟨g, p, R, k⟩
      | false => exact ⟨g, p, R, k⟩
end

/-! ### loops -/
/-- a while, n turns at most -/
def whileN (c : EM) (b : SM) : Nat → SM
  | 0 => fun _ => none
  | n + 1 => bindS c fun r p => match asB p r with
    | some true => match b p with
      | some (.next p1) => whileN c b n p1
      | some (.cont p1) => whileN c b n p1
      | some (.brk p1) => some (.next p1)
      | r => r
    | some false => some (.next p)
    | none => none
theorem whileN_more {c : EM} {b : SM} : ∀ {n : Nat} {p : PS} {r : SR}, whileN c b n p = some r → whileN c b (n + 1) p = some r
  | 0, _, _, h => by cases h
  | n + 1, p, r, h => by
    unfold whileN bindS at h ⊢
    cases e : c p with
    | none => rw [e] at h; cases h
    | some w =>
      rw [e] at h
      cases w with
      | exc x st => exact h
      | val rv p1 =>
        simp only at h ⊢
        cases e2 : asB p1 rv with
        | none => simp only [e2] at h; cases h
        | some t =>
          cases t with
          | false => simp only [e2] at h ⊢; exact h
          | true =>
            simp only [e2] at h ⊢
            cases e3 : b p1 with
            | none => simp only [e3] at h; cases h
            | some z =>
              cases z with
              | next p2 => simp only [e3] at h ⊢; exact whileN_more h
              | cont p2 => simp only [e3] at h ⊢; exact whileN_more h
              | brk p2 => simp only [e3] at h ⊢; exact h
              | ret rr p2 => simp only [e3] at h ⊢; exact h
              | exc x st => simp only [e3] at h ⊢; exact h
theorem whileN_le {c : EM} {b : SM} {n m : Nat} {p : PS} {r : SR} (l : n ≤ m) (h : whileN c b n p = some r) : whileN c b m p = some r := by
  induction l with
  | refl => exact h
  | step _ ih => exact whileN_more ih
open Classical in
noncomputable def sWhile (c : EM) (b : SM) : SM := fun p => if h : ∃ n r, whileN c b n p = some r then some (Classical.choose (Classical.choose_spec h)) else none
theorem sWhile_eq {c : EM} {b : SM} {n : Nat} {p : PS} {r : SR} (h : whileN c b n p = some r) : sWhile c b p = some r := by
  unfold sWhile
  have hx : ∃ n r, whileN c b n p = some r := ⟨n, r, h⟩
  rw [dif_pos hx]
  have h1 := Classical.choose_spec (Classical.choose_spec hx)
  have a := whileN_le (Nat.le_max_left n (Classical.choose hx)) h
  have b := whileN_le (Nat.le_max_right n (Classical.choose hx)) h1
  rw [a] at b
  exact b.symm
theorem sWhile_ex {c : EM} {b : SM} {p : PS} {r : SR} (h : sWhile c b p = some r) : ∃ n, whileN c b n p = some r := by
  unfold sWhile at h
  split at h
  · rename_i hx
    have h1 := Classical.choose_spec (Classical.choose_spec hx)
    exact ⟨_, h1.trans h⟩
  · cases h
section
variable {X : Cx} {B : Bd} {c : Expr} {body : List Stmt} {mc : EM} {mb : SM} {pos : Pos}
theorem sims_while (hp : PassesOwn (model X.prog X.w) X.A X.env X.xe) (hc : PT X c (rdT B mc)) (hb : PSs X body (rdS B mb)) : L2.PS X (.While c body [] pos) (rdS B (sWhile mc mb)) :=
  (ps_while hp hc hb).imp fun N σ H h => by
    obtain ⟨g, p, R, k⟩ := h
    cases e : sWhile mc mb p with
    | none => rw [e] at k; exact k.elim
    | some r =>
      obtain ⟨n, hn⟩ := sWhile_ex e
      rw [e, ← hn] at k
      refine ⟨fun n σ' H' => ∃ g' p', Rel B g' σ' H' p' ∧ PostS B g' σ' H' N (whileN mc mb n p'), ⟨n, g, p, R, k⟩, ?_⟩
      rintro n σ1 H1 ⟨g1, p1, R1, k1⟩
      cases n with
      | zero => exact k1.elim
      | succ n =>
        refine bindS_rd (N := N) ⟨_, p1, R1, k1⟩ fun g2 p2 r v H2 R2 a k2 => ?_
        cases e2 : asB p2 r with
        | none => rw [e2] at k2; exact k2.elim
        | some b =>
          refine ⟨b, asB_rep a e2, ?_⟩
          cases b with
          | false =>
            simp only [e2] at k2
            exact k2 σ1 H2 g2.ρ R2 (List.prefix_refl _) (Frz.refl _)
          | true =>
            simp only [e2] at k2
            rw [if_pos rfl]
            refine ⟨fun σ' H' => ∃ g' p', Rel B g' σ' H' p' ∧ PostS B g' σ' H' N (whileN mc mb n p'), fun σ' H' z => ⟨n, Nat.lt_succ_self n, z⟩, g2, p2, R2, ?_⟩
            cases e3 : mb p2 with
            | none => simp only [e3] at k2; exact k2
            | some z =>
              cases z with
              | next p3 => simp only [e3] at k2; exact fun σ3 H3 ρ3 R3 q3 f3 => ⟨_, p3, R3, PostS.later q3 f3 k2⟩
              | cont p3 => simp only [e3] at k2; exact fun σ3 H3 ρ3 R3 q3 f3 => ⟨_, p3, R3, PostS.later q3 f3 k2⟩
              | brk p3 => simp only [e3] at k2; exact k2
              | ret rr p3 => simp only [e3] at k2; exact k2
              | exc x st => simp only [e3] at k2; exact k2
end

/-- a for over items; chk: what must hold ahead of each turn (the thing walked is still locked) -/
def forL (gm : GM) (b : SM) (chk : PS → Bool) : List D → SM
  | [] => fun p => if chk p then some (.next p) else none
  | d :: ds => fun p => if chk p then match gm (.sh d) p with
      | some p1 => match b p1 with
        | some (.next p2) => forL gm b chk ds p2
        | some (.cont p2) => forL gm b chk ds p2
        | some (.brk p2) => some (.next p2)
        | r => r
      | none => none
    else none
/-- what an iterator yields, as items -/
structure SrcOk (B : Bd) (hid : List (Addr × HO)) (ρ0 : List Addr) (H0 : Hp) (chk : PS → Bool) (J : It) (ds : List D) : Prop where
  stop : ∀ ρ σ H p, Rel B ⟨ρ, hid⟩ σ H p → ρ0 <+: ρ → Frz H0 H → chk p = true → J.stop ds.length H
  go : ∀ (i : Nat) d ρ σ H p, ds[i]? = some d → Rel B ⟨ρ, hid⟩ σ H p → ρ0 <+: ρ → Frz H0 H → chk p = true → J.go i H ∧ ∀ x H', J.yld i H x H' → Same H H' ∧ Rep B.W ρ H' d x
theorem for_post {ts : List Nat} {B : Bd} {g : Gh} {σ : L2.St} {H : Hp} {p : PS} {N : Ends} {J : It} {ds : List D} {gm : GM} {mb : SM} {chk : PS → Bool} (S : SrcOk B g.hid g.ρ H chk J ds) (R : Rel B g σ H p) (k : PostS B g σ H N (forL gm mb chk ds p)) :
    ∃ W : Nat → Nat → L2.St → Hp → Prop, (∃ m, W 0 m σ H) ∧ ∀ i m σ H, W i m σ H →
      (J.stop i H ∧ N.nx σ H) ∨ (J.go i H ∧ ∃ N2 : L2.St → Hp → Prop, (∀ σ' H', N2 σ' H' → ∃ m', m' < m ∧ W (i + 1) m' σ' H') ∧ ∀ x H', J.yld i H x H' → rdG B ts gm x σ H' fun σ2 H2 => rdS B mb { N with nx := N2, ct := N2, bk := N.nx } σ2 H2) := by
  refine ⟨fun i m σ' H' => ∃ ρ' p' es, ds = es ++ ds.drop i ∧ es.length = i ∧ m = ds.length - i ∧ Rel B ⟨ρ', g.hid⟩ σ' H' p' ∧ g.ρ <+: ρ' ∧ Frz H H' ∧ PostS B ⟨ρ', g.hid⟩ σ' H' N (forL gm mb chk (ds.drop i) p'), ⟨_, g.ρ, p, [], rfl, rfl, rfl, R, List.prefix_refl _, Frz.refl H, k⟩, ?_⟩
  rintro i m σ1 H1 ⟨ρ1, p1, es, e1, e2, rfl, R1, q1, f1, k1⟩
  cases e : ds.drop i with
  | nil =>
    rw [e] at k1 e1
    have hi : i = ds.length := by rw [← e2, e1]; simp
    unfold forL at k1
    by_cases c : chk p1 = true
    · simp only [c, if_true] at k1
      refine .inl ⟨?_, k1 σ1 H1 ρ1 R1 (List.prefix_refl _) (Frz.refl _)⟩
      rw [hi]
      exact S.stop ρ1 σ1 H1 p1 R1 q1 f1 c
    · simp only [c] at k1
      exact k1.elim
  | cons d r =>
    rw [e] at k1
    have hd : ds[i]? = some d := by
      have : (ds.drop i)[0]? = some d := by rw [e]; rfl
      rw [List.getElem?_drop] at this
      simpa using this
    have hr : ds.drop (i + 1) = r := by
      rw [← List.drop_drop, e]
      rfl
    have hlt : i < ds.length := (List.getElem?_eq_some_iff.mp hd).1
    unfold forL at k1
    by_cases c : chk p1 = true
    · simp only [c, if_true] at k1
      obtain ⟨g1, g2⟩ := S.go i d ρ1 σ1 H1 p1 hd R1 q1 f1 c
      refine .inr ⟨g1, fun σ' H' => ∃ ρ' p', Rel B ⟨ρ', g.hid⟩ σ' H' p' ∧ g.ρ <+: ρ' ∧ Frz H H' ∧ PostS B ⟨ρ', g.hid⟩ σ' H' N (forL gm mb chk r p'), ?_, fun x H' y => ?_⟩
      · rintro σ' H' ⟨ρ', p', R', q', f', k'⟩
        refine ⟨ds.length - (i + 1), by omega, ρ', p', es ++ [d], ?_, by rw [List.length_append, e2]; rfl, rfl, R', q', f', by rw [hr]; exact k'⟩
        rw [hr, List.append_assoc]
        show ds = es ++ (d :: r)
        rw [← e]
        exact e1
      · obtain ⟨s, rr⟩ := g2 x H' y
        refine ⟨⟨ρ1, g.hid⟩, p1, .sh d, R1.same s, rr, ?_⟩
        cases e3 : gm (.sh d) p1 with
        | none => simp only [e3] at k1; exact k1
        | some p2 =>
          simp only [e3] at k1
          refine fun σ2 H2 ρ2 _ R2 q2 f2 => ⟨⟨ρ2, g.hid⟩, p2, R2, ?_⟩
          have F2 : Frz H1 H2 := (Frz.of s).trans f2
          cases e4 : mb p2 with
          | none => simp only [e4] at k1; exact k1
          | some z =>
            cases z with
            | next p3 => simp only [e4] at k1; exact fun σ3 H3 ρ3 R3 q3 f3 => ⟨ρ3, p3, R3, (q1.trans q2).trans q3, (f1.trans F2).trans f3, PostS.later (g := ⟨ρ1, g.hid⟩) (ρ' := ρ3) (q2.trans q3) (F2.trans f3) k1⟩
            | cont p3 => simp only [e4] at k1; exact fun σ3 H3 ρ3 R3 q3 f3 => ⟨ρ3, p3, R3, (q1.trans q2).trans q3, (f1.trans F2).trans f3, PostS.later (g := ⟨ρ1, g.hid⟩) (ρ' := ρ3) (q2.trans q3) (F2.trans f3) k1⟩
            | brk p3 => simp only [e4] at k1; exact fun σ3 H3 ρ3 R3 q3 f3 => k1 σ3 H3 ρ3 R3 (q2.trans q3) (F2.trans f3)
            | ret rr p3 => simp only [e4] at k1; exact fun v σ3 H3 ρ3 R3 q3 f3 => k1 v σ3 H3 ρ3 R3 (q2.trans q3) (F2.trans f3)
            | exc x st => simp only [e4] at k1; exact k1
    · simp only [c] at k1
      exact k1.elim
end Mi

/-! ## The mirror: defs and their calls -/
namespace Mi
open PySem PySem.Spec PyProof.Rows L2 Lamp SlX

inductive FR where
  | ret (r : RV) (st : List D) | exc (x : Ex) (st : List D)
/-- what a def computes: from its arguments and the changeable things -/
abbrev Fn := List D → List D → Option FR

/-- the changeable things stand -/
structure Cells (W : Wd) (ρ : List Addr) (H : Hp) (st : List D) : Prop where
  at_ : ∀ (n : Nat) (d : D), st[n]? = some d → ∃ a, ρ[n]? = some a ∧ Own W ρ H d a
  len : st.length = ρ.length
  nd : ρ.Nodup
/-- from one state to a later one: what stood stands, but for the changeable things; there may be new ones of these -/
structure Later (ρ ρ' : List Addr) (H H' : Hp) : Prop where
  pre : ρ <+: ρ'
  new : ∀ (n : Nat) (a : Addr), ρ'[n]? = some a → ρ.length ≤ n → H a = none
  keep : ∀ b o, H b = some o → b ∉ ρ → H' b = some o
theorem Cells.mut {W : Wd} {ρ : List Addr} {H : Hp} {st : List D} (c : Cells W ρ H st) {a : Addr} (h : a ∈ ρ) : ∃ u, H a = some u ∧ Mut (some u) := by
  obtain ⟨n, hn, e⟩ := List.mem_iff_getElem.mp h
  have hn' : n < st.length := by rw [c.len]; exact hn
  obtain ⟨b, e1, e2⟩ := c.at_ n _ (List.getElem?_eq_getElem hn')
  rw [List.getElem?_eq_getElem hn, e] at e1
  cases e1
  exact e2.at_
theorem Later.frz {W : Wd} {ρ ρ' : List Addr} {H H' : Hp} {st : List D} (c : Cells W ρ H st) (l : Later ρ ρ' H H') : Frz H H' := fun b o h p => l.keep b o h fun m => by
  obtain ⟨u, e, mu⟩ := c.mut m
  rw [h] at e
  cases e
  exact Mut.per mu p
def FPost (W : Wd) (ρ : List Addr) (H : Hp) (Q : VK) (E : XK) : Option FR → Prop
  | none => False
  | some (.ret (.sh d) st) => ∀ v H' ρ', Later ρ ρ' H H' → Cells W ρ' H' st → Rep W ρ' H' d v → Q v H'
  | some (.ret (.fr d) st) => ∀ a H' ρ', Later ρ ρ' H H' → Cells W ρ' H' st → Own W ρ' H' d a → H a = none → a ∉ ρ' → Q (.ref a) H'
  | some (.ret (.pl _) _) => False
  | some (.exc x st) => ExcAt ⟨W, H, ρ, E⟩ x st
def fnSp (W : Wd) (n : Nat) (f : Fn) : Sp := fun vs H Q E => ∃ ρ ds st, Cells W ρ H st ∧ Reps W ρ H ds vs ∧ ds.length = n ∧ FPost W ρ H Q E (f ds st)
theorem fnSp_len {W : Wd} {n : Nat} {f : Fn} {vs : List V} {H : Hp} {Q : VK} {E : XK} (h : fnSp W n f vs H Q E) : vs.length = n := by
  obtain ⟨ρ, ds, st, c, r, l, _⟩ := h
  rw [← r.len, l]

def shs : List RV → Option (List D)
  | [] => some []
  | .sh d :: rs => match shs rs with
    | some ds => some (d :: ds)
    | none => none
  | _ => none
theorem shs_eq : ∀ {rs : List RV} {ds : List D}, shs rs = some ds → rs = ds.map RV.sh
  | [], ds, e => by cases e; rfl
  | .sh d :: rs, ds, e => by
    unfold shs at e
    cases e1 : shs rs with
    | none => rw [e1] at e; cases e
    | some ds' =>
      rw [e1] at e
      cases e
      rw [List.map_cons, ← shs_eq e1]
  | .fr d :: rs, ds, e => by cases e
  | .pl i :: rs, ds, e => by cases e
def backF (p : PS) : Option FR → Option ER
  | none => none
  | some (.ret (.sh d) st) => some (.val (.sh d) { p with st := st })
  | some (.ret (.fr d) st) => some (.val (.fr d) { p with st := st })
  | some (.ret (.pl _) _) => none
  | some (.exc x st) => some (.exc x st)
def callF (f : Fn) (p : PS) (rs : List RV) : Option ER := match shs rs with
  | some ds => backF p (f ds p.st)
  | none => none
def mCall (f : Fn) (ms : List EM) : EM := bindA ms fun rs p => callF f p rs
section
variable {B : Bd} {g : Gh} {σ : L2.St} {H H' : Hp} {p : PS} {ρ' : List Addr} {Q : VK}
theorem Rel.cells (R : Rel B g σ H p) : Cells B.W g.ρ H p.st := ⟨R.cel, R.cln, R.cnd⟩
theorem Rel.notC (R : Rel B g σ H p) {b : Addr} {o : HO} (e : B.H0 b = some o) (n : b ∉ B.ρ0) : b ∉ g.ρ := fun m => by
  obtain ⟨k, hk, e1⟩ := List.mem_iff_getElem.mp m
  have e2 : g.ρ[k]? = some b := by rw [List.getElem?_eq_getElem hk, e1]
  rcases Nat.lt_or_ge k B.ρ0.length with c | c
  · obtain ⟨t, ht⟩ := R.pre
    rw [← ht, List.getElem?_append_left c] at e2
    exact n (List.mem_of_getElem? e2)
  · rw [R.cnw k b e2 c] at e
    cases e
/-- behind a call -/
theorem Rel.called (R : Rel B g σ H p) (l : Later g.ρ ρ' H H') {st : List D} (c : Cells B.W ρ' H' st) : Rel B ⟨ρ', g.hid⟩ σ H' { p with st := st } := by
  have f : Frz H H' := l.frz R.cells
  have k : ∀ {b : Addr} {u : HO}, b ∉ g.ρ → H b = some u → H' b = some u := fun n e => l.keep _ _ e n
  have nw : ∀ {a : Addr} {u : HO}, a ∈ ρ' → a ∉ g.ρ → H a = some u → False := fun {a u} m n e => by
    obtain ⟨j, hj, e1⟩ := List.mem_iff_getElem.mp m
    have e2 : ρ'[j]? = some a := by rw [List.getElem?_eq_getElem hj, e1]
    rcases Nat.lt_or_ge j g.ρ.length with c | c
    · obtain ⟨t, ht⟩ := l.pre
      rw [← ht, List.getElem?_append_left c] at e2
      exact n (List.mem_of_getElem? e2)
    · rw [l.new j a e2 c] at e
      cases e
  have ow : ∀ {a : Addr} {i : Nat}, OwnAt { p with st := st } σ a i → OwnAt p σ a i := fun h => h
  refine ⟨fun i s e => (R.slot i s e).mono f l.pre fun a o e1 u h => k (R.new i a ⟨s, e, o, e1⟩).1 h, fun i j a x y => R.dis i j a x y, fun i a x => ?_, c.at_, c.len, c.nd, R.pre.trans l.pre, fun n a e le => ?_, fun x h => ?_, R.hnd, fun b o e n => k (R.notC e n) (R.keep b o e n), R.len⟩
  · obtain ⟨n1, n2, n3⟩ := R.new i a x
    obtain ⟨u, hu⟩ := R.there (ow x)
    exact ⟨fun m => nw m n1 hu, n2, n3⟩
  · rcases Nat.lt_or_ge n g.ρ.length with c | c
    · obtain ⟨t, ht⟩ := l.pre
      rw [← ht, List.getElem?_append_left c] at e
      exact R.cnw n a e le
    · exact (R.free (l.new n a e c)).new
  · obtain ⟨h1, h2, h3, h4⟩ := R.hid x h
    exact ⟨k h3 h1, h2, fun m => nw m h3 h1, h4⟩
theorem ExcAt.into {x : Ex} {st : List D} (R : Rel B g σ H p) (h : ExcAt B x st) : ExcAt ⟨B.W, H, g.ρ, B.E⟩ x st := by
  intro H' ρ' d fs pr nd len cel new keep hd hn hk rr
  refine h H' ρ' d fs (R.pre.trans pr) nd len cel (fun n a e le => ?_) (fun b o e n => keep b o (R.keep b o e n) (R.notC e n)) hd (R.free hn).new hk rr
  rcases Nat.lt_or_ge n g.ρ.length with c | c
  · obtain ⟨t, ht⟩ := pr
    rw [← ht, List.getElem?_append_left c] at e
    exact R.cnw n a e le
  · exact (R.free (new n a e c)).new
theorem call_sp {n : Nat} {f : Fn} {rs : List RV} {vs : List V} (hn : rs.length = n) (R : Rel B g σ H p) (a : RepRs B g σ H p rs vs) (k : Post B g σ H Q (callF f p rs)) : fnSp B.W n f vs H Q B.E := by
  unfold callF at k
  cases e : shs rs with
  | none => rw [e] at k; exact k.elim
  | some ds =>
    rw [e] at k
    have er := shs_eq e
    refine ⟨g.ρ, ds, p.st, R.cells, a.reps er, by rw [← hn, er, List.length_map], ?_⟩
    simp only at k
    cases e2 : f ds p.st with
    | none => rw [e2] at k; exact k
    | some r =>
      rw [e2] at k
      cases r with
      | exc x st => exact ExcAt.into R k
      | ret r st =>
        cases r with
        | sh d => exact fun v H' ρ' l c rr => k v H' ρ' (R.called l c) l.pre (l.frz R.cells) rr
        | fr d =>
          refine fun ad H' ρ' l c o nn nr => k (.ref ad) H' ρ' (R.called l c) l.pre (l.frz R.cells) ⟨ad, rfl, o, ?_⟩
          have f := R.free nn
          exact ⟨fun i z => f.own i z, nr, f.hid, f.new⟩
        | pl i =>
          -- such a def hands back no place
          exact k.elim
end
end Mi

/-! ## The mirror: a def's promise by its body's mirror; calls by name -/
namespace Mi
open PySem PySem.Spec PyProof.Rows L2 Lamp SlX Gd

abbrev FnM (P : Program) (w : World) (W : Wd) (mg : Str → Option Value) (base : Heap) (k : Nat) (f : Addr) (fd : FuncData) (ps : List Str) (fn : Fn) : Prop :=
  FnG P w W.K mg base (L2.CX P w) k f fd ps (fnSp W ps.length fn)
/-- how a body begins -/
def enter (N : Nat) (ds st : List D) : PS := ⟨ds.map Slot.sh ++ List.replicate (N - ds.length) .no, st⟩
/-- how it ends -/
def leave : Option SR → Option FR
  | some (.ret (.sh d) p) => some (.ret (.sh d) p.st)
  | some (.ret (.fr d) p) => some (.ret (.fr d) p.st)
  | some (.next p) => some (.ret (.sh .non) p.st)
  | some (.exc x st) => some (.exc x st)
  | _ => none
def runFn (N : Nat) (m : SM) : Fn := fun ds st => leave (m (enter N ds st))
theorem reps_at {W : Wd} {ρ : List Addr} {H : Hp} {ds : List D} {vs : List V} (r : Reps W ρ H ds vs) {i : Nat} {s : Slot} (N : List Str) {st : List D} (e : (enter N.length ds st).env[i]? = some s) : s = .no ∨ ∃ d v, s = .sh d ∧ (L2.start N vs)[i]? = some (some v) ∧ Rep W ρ H d v := by
  unfold enter at e
  rcases Nat.lt_or_ge i ds.length with c | c
  · have e' : (ds.map Slot.sh)[i]? = some s := by
      rw [List.getElem?_append_left (by rw [List.length_map]; exact c)] at e
      exact e
    rw [List.getElem?_map, List.getElem?_eq_getElem c] at e'
    cases e'
    obtain ⟨v, hv, rr⟩ := r.get (List.getElem?_eq_getElem c)
    refine .inr ⟨_, v, rfl, ?_, rr⟩
    unfold L2.start
    rw [List.getElem?_append_left (by rw [List.length_map, ← r.len]; exact c), List.getElem?_map, hv]
    rfl
  · left
    rw [List.getElem?_append_right (by rw [List.length_map]; exact c)] at e
    have m := List.mem_of_getElem? e
    exact (List.mem_replicate.mp m).2
theorem rel_start {W : Wd} {ρ : List Addr} {H : Hp} {ds st : List D} {vs : List V} {E : XK} (N : List Str) (c : Cells W ρ H st) (r : Reps W ρ H ds vs) (hl : ds.length ≤ N.length) : Rel ⟨W, H, ρ, E⟩ ⟨ρ, []⟩ (L2.start N vs) H (enter N.length ds st) := by
  have no : ∀ {a : Addr} {i : Nat}, ¬ OwnAt (enter N.length ds st) (L2.start N vs) a i := by
    rintro a i ⟨s, e, o, _⟩
    rcases reps_at r N e with rfl | ⟨d, v, rfl, _⟩
    · cases o
    · cases o
  refine ⟨fun i s e => ?_, fun i j a x _ => (no x).elim, fun i a x => (no x).elim, c.at_, c.len, c.nd, List.prefix_refl _, fun n a e le => ?_, fun x h => (nomatch h), List.nodup_nil, fun b o e _ => e, ?_⟩
  · rcases reps_at r N e with rfl | ⟨d, v, rfl, e1, rr⟩
    · trivial
    · exact ⟨v, e1, rr⟩
  · have hn : n < ρ.length := (List.getElem?_eq_some_iff.mp e).1
    have le' : ρ.length ≤ n := le
    omega
  · unfold enter L2.start
    simp only [List.length_append, List.length_map, List.length_replicate]
    have := r.len
    omega
section
variable {P : Program} {w : World} {W : Wd} {mg : Str → Option Value} {base : Heap} {k : Nat} {f : Addr} {fd : FuncData} {ps : List Str}
/-- behind the body: what the caller is told -/
theorem post_leave {ρ : List Addr} {H : Hp} {Q : VK} {E : XK} {r : Option SR} {σ : L2.St} (h : FPost W ρ H Q E (leave r)) : PostS ⟨W, H, ρ, E⟩ ⟨ρ, []⟩ σ H { nx := fun _ H' => Q .non H', rt := Q } r := by
  have later : ∀ {σ' : L2.St} {H' : Hp} {ρ' : List Addr} {p : PS}, Rel ⟨W, H, ρ, E⟩ ⟨ρ', []⟩ σ' H' p → Later ρ ρ' H H' := fun R => ⟨R.pre, fun n a e le => R.cnw n a e le, fun b o e n => R.keep b o e n⟩
  cases r with
  | none => exact h
  | some r =>
    cases r with
    | next p => exact fun σ' H' ρ' R _ _ => h .non H' ρ' (later R) R.cells .non
    | brk p => exact h.elim
    | cont p => exact h.elim
    | exc x st => exact h
    | ret r p =>
      cases r with
      | sh d => exact fun v σ' H' ρ' R _ _ a => h v H' ρ' (later R) R.cells a
      | fr d =>
        intro v σ' H' ρ' R _ _ a
        obtain ⟨ad, rfl, o, n1, n2, n3, n4⟩ := a
        exact h ad H' ρ' (later R) R.cells o n4 n2
      | pl i => exact h.elim
/-- the rule for a def -/
theorem okM {x qual : Str} {st : Stmt} {N : List Str} {m : SM} (F : Fun W.K x qual st f fd) (S : FnScope N ps (defScope st)) (hN : ps.length ≤ N.length)
    (hbody : ∀ (cdv : Value) (A : Around) (outer : List Env) (s : Shared) (H : Hp) (E : XK) (ρ : List Addr), A.guards = some [] → Room k (A.deeper (envOfC qual (defScope st) s.heap.objs.size f cdv)) →
      PSs (cxOf (L2.CX P w) P w W.K mg base N qual (defScope st) f cdv A outer s H E) (defBody st) (rdS ⟨W, H, ρ, E⟩ m)) :
    FnM P w W mg base (k + 1) f fd ps (runFn N.length m) := by
  refine okG F S (fun vs H Q E h => fnSp_len h) fun cdv A outer s H vs Q E hg hr h => ?_
  obtain ⟨ρ, ds, st', c, r, l, q⟩ := h
  exact ⟨_, hbody cdv A outer s H E ρ hg hr, ⟨ρ, []⟩, _, rel_start N c r (by omega), post_leave q⟩
end
section
variable {X : Cx} {B : Bd} {k : Nat} {f : Addr} {fd : FuncData} {ps : List Str} {fn : Fn} {x : Str} {p pos : Pos} {e : Expr} {es : List Expr} {ms : List EM}
theorem args_len : ∀ {ms : List EM} {p p' : PS} {rs : List RV}, args ms p = some (.vals rs p') → rs.length = ms.length
  | [], p, p', rs, e => by cases e; rfl
  | m :: ms, p, p', rs, e => by
    unfold args at e
    cases e1 : m p with
    | none => rw [e1] at e; cases e
    | some r =>
      rw [e1] at e
      cases r with
      | exc x st => cases e
      | val r p1 =>
        have key : ∀ {rs}, (match args ms p1 with
          | none => none
          | some (.exc x st) => some (.exc x st)
          | some (.vals rs p2) => some (.vals (r :: rs) p2)) = some (AR.vals rs p') → rs.length = (m :: ms).length := fun {rs} h => by
          cases e2 : args ms p1 with
          | none => rw [e2] at h; cases h
          | some w =>
            rw [e2] at h
            cases w with
            | exc x st => cases h
            | vals rs2 p2 =>
              cases h
              rw [List.length_cons, List.length_cons, args_len e2]
        cases r with
        | sh d => exact key e
        | fr d => cases e
        | pl i => exact key e
theorem call_rd {n : Nat} {σ : L2.St} {H : Hp} {Q : VK} (hn : ms.length = n) (h : rdE B (mCall fn ms) σ H Q) : rdA B ms σ H fun vs H1 => fnSp B.W n fn vs H1 Q B.E := by
  obtain ⟨g, p, R, hp⟩ := h
  refine ⟨g, p, R, ?_⟩
  unfold mCall bindA at hp
  cases e : args ms p with
  | none => rw [e] at hp; exact hp
  | some r =>
    rw [e] at hp
    cases r with
    | vals rs p' => exact fun v H' ρ' R' q f rr => call_sp (g := ⟨ρ', g.hid⟩) (by rw [args_len e, hn]) R' rr (Post.later q f hp)
    | exc x st => exact hp
/-- f(e, ..) -/
theorem sim_call (F : FnG X.prog X.w X.K X.mg X.base (L2.CX X.prog X.w) k f fd ps (fnSp B.W ps.length fn)) (hn : ms.length = ps.length) (hgd : X.A.guards = some []) (hr : Room k X.A) (hm : X.mg x = some (.ref f)) (hk : PySem.W.keepIn X.K (.ref f) = true) (hb : Binds X.K fd ps []) (hx : Passes (L2.CX X.prog X.w) X B.E) (hg : Gl X x)
    (ha : PA X (e :: es) (rdA B ms)) (hdb : (x == ("__debug__" : Str)) = false := by decide) (he : starEach (e :: es) X.env = (false, eval e X.env) :: starEach es X.env := by rfl) (hpl : (backTo pos (starEach es X.env)).any (·.1) = false := by rfl) :
    PE X (.Call (.Name x p) (e :: es) [] pos) (rdE B (mCall fn ms)) :=
  (pe_callG F hgd hr hg hm hk hb hx ha hdb he hpl).imp fun σ H Q h => by
    have h1 := call_rd hn h
    obtain ⟨g, p, R, k⟩ := h1
    refine ⟨g, p, R, ?_⟩
    cases e : args ms p with
    | none => rw [e] at k; exact k
    | some r =>
      rw [e] at k
      cases r with
      | exc x st => exact k
      | vals rs p' =>
        refine fun vs H' ρ' R' q f rr => ?_
        show fnSp B.W ps.length fn (vs ++ []) H' Q B.E
        rw [List.append_nil]
        exact k vs H' ρ' R' q f rr
end
end Mi

/-! ## The mirror: what is walked; for -/
namespace Mi
open PySem PySem.Spec PyProof.Rows L2 Lamp SlX

abbrev yes : PS → Bool := fun _ => true
inductive SV where
  | items (ds : List D) (p : PS) | exc (x : Ex) (st : List D)
abbrev IM := PS → Option SV
def PostI (B : Bd) (g : Gh) (σ : L2.St) (H : Hp) (R : It → Hp → Prop) : Option SV → Prop
  | some (.items ds p') => ∀ H' ρ' J, Rel B ⟨ρ', g.hid⟩ σ H' p' → g.ρ <+: ρ' → Frz H H' → SrcOk B g.hid ρ' H' yes J ds → R J H'
  | some (.exc x st) => ExcAt B x st
  | none => False
def rdI (B : Bd) (m : IM) : TI := fun σ H R => ∃ g p, Rel B g σ H p ∧ PostI B g σ H R (m p)
def srcE (its : D → Option (List D)) (m : EM) : IM := fun p => match m p with
  | some (.val (.sh d) p') => match its d with
    | some ds => some (.items ds p')
    | none => none
  | some (.exc x st) => some (.exc x st)
  | _ => none
def srcA (f : List D → Option (List D)) (ms : List EM) : IM := fun p => match args ms p with
  | some (.vals rs p') => match shs rs with
    | some ds => match f ds with
      | some es => some (.items es p')
      | none => none
    | none => none
  | some (.exc x st) => some (.exc x st)
  | none => none
theorem _root_.L2.PI.imp {X : Cx} {tg e : Expr} {t t' : TI} (h : PI X tg e t) (i : ∀ σ H R, t' σ H R → t σ H R) : PI X tg e t' := ⟨fun pins s σ H R I q => h.run pins s σ H R I (i σ H R q)⟩
/-- the items of a thing that is walked as it is -/
def seqOf : D → Option (List D)
  | .lst ds => some ds
  | .tup ds => some ds
  | .scr ns => some (ns.map D.int)
  | .str s => some (s.cps.toList.map fun c => D.str ⟨#[c]⟩)
  | .dic kvs => some (kvs.map (·.1))
  | _ => none
theorem Reps.ints {W : Wd} {ρ : List Addr} {H : Hp} : ∀ (ns : List Int), Reps W ρ H (ns.map D.int) (ns.map V.int)
  | [] => .nil
  | n :: r => .cons (.int n) (Reps.ints r)
section
variable {B : Bd} {g : Gh} {σ : L2.St} {H : Hp} {p : PS} {hid : List (Addr × HO)} {ρ0 : List Addr}
theorem src_frz {a : Addr} {o : Obj} {ds : List D} {xs : List V} (h : H a = some (.frz o (.lst xs))) (r : Reps B.W ρ0 H ds xs) : SrcOk B hid ρ0 H yes (Itl B.W.K a) ds := by
  refine ⟨fun ρ σ H1 p R q f _ => ⟨xs, .inl (.inr ⟨o, f _ _ h trivial⟩), by rw [r.len]; exact Nat.le_refl _⟩, fun i d ρ σ H1 p e R q f _ => ?_⟩
  obtain ⟨x, ex, rx⟩ := r.get e
  have s : SqL B.W.K H1 a xs := .inl (.inr ⟨o, f _ _ h trivial⟩)
  refine ⟨⟨xs, x, s, ex⟩, fun y H' ⟨e1, e2⟩ => ?_⟩
  subst e1
  have := e2 xs s
  rw [ex] at this
  cases this
  exact ⟨fun _ _ z => z, rx.mono f q⟩
theorem src_scr {a : Addr} {ns : List Int} (h : LstAt B.W.K H a (ns.map V.int)) : SrcOk B hid ρ0 H yes (Itl B.W.K a) (ns.map D.int) := by
  refine ⟨fun ρ σ H1 p R q f _ => ⟨_, (h.mono f).seq, by rw [List.length_map, List.length_map]; exact Nat.le_refl _⟩, fun i d ρ σ H1 p e R q f _ => ?_⟩
  obtain ⟨x, ex, rx⟩ := (Reps.ints (W := B.W) (ρ := ρ) (H := H1) ns).get e
  have s := (h.mono f).seq
  refine ⟨⟨_, x, s, ex⟩, fun y H' ⟨e1, e2⟩ => ?_⟩
  subst e1
  have := e2 _ s
  rw [ex] at this
  cases this
  exact ⟨fun _ _ z => z, rx⟩
theorem src_tup {a : Addr} {ds : List D} {xs : List V} (h : TupAt H a ds xs) (r : Reps B.W ρ0 H ds xs) : SrcOk B hid ρ0 H yes (Itt B.W.K a) ds := by
  refine ⟨fun ρ σ H1 p R q f _ => ⟨xs, (h.mono f).seq, by rw [r.len]; exact Nat.le_refl _⟩, fun i d ρ σ H1 p e R q f _ => ?_⟩
  obtain ⟨x, ex, rx⟩ := r.get e
  have s : SqT B.W.K H1 a xs := (h.mono f).seq
  refine ⟨⟨xs, x, s, ex⟩, fun y H' ⟨e1, e2⟩ => ?_⟩
  subst e1
  have := e2 xs s
  rw [ex] at this
  cases this
  exact ⟨fun _ _ z => z, rx.mono f q⟩
theorem src_str (s : Str) : SrcOk B hid ρ0 H yes (Its s) (s.cps.toList.map fun c => D.str ⟨#[c]⟩) := by
  refine ⟨fun ρ σ H1 p R q f _ => ?_, fun i d ρ σ H1 p e R q f _ => ?_⟩
  · show s.cps.size ≤ _
    rw [List.length_map]
    exact Nat.le_refl _
  · rw [List.getElem?_map] at e
    cases e1 : s.cps.toList[i]? with
    | none => rw [e1] at e; cases e
    | some c =>
      rw [e1] at e
      cases e
      have hi : i < s.cps.size := by
        have := (List.getElem?_eq_some_iff.mp e1).1
        simpa using this
      refine ⟨hi, fun y H' ⟨e2, c', e3, e4⟩ => ?_⟩
      subst e2 e4
      have : s.cps[i]? = some c := by simpa using e1
      rw [this] at e3
      cases e3
      exact ⟨fun _ _ z => z, .str _⟩
theorem src_range (lo : Int) (n : Nat) : SrcOk B hid ρ0 H yes (Itr lo n) ((List.range n).map fun (i : Nat) => D.int (lo + i)) := by
  refine ⟨fun ρ σ H1 p R q f _ => by show n ≤ _; simp, fun i d ρ σ H1 p e R q f _ => ?_⟩
  rw [List.getElem?_map] at e
  rcases Nat.lt_or_ge i n with c | c
  · rw [List.getElem?_range c] at e
    cases e
    refine ⟨c, fun y H' ⟨e1, e2⟩ => ?_⟩
    subst e1 e2
    exact ⟨fun _ _ z => z, .int _⟩
  · rw [List.getElem?_eq_none (by simpa using c)] at e
    cases e
theorem src_rangeC (lo c : Int) (n : Nat) : SrcOk B hid ρ0 H yes (Itc lo c n) ((List.range n).map fun (i : Nat) => D.int (lo + i * c)) := by
  refine ⟨fun ρ σ H1 p R q f _ => by show n ≤ _; simp, fun i d ρ σ H1 p e R q f _ => ?_⟩
  rw [List.getElem?_map] at e
  rcases Nat.lt_or_ge i n with cc | cc
  · rw [List.getElem?_range cc] at e
    cases e
    refine ⟨cc, fun y H' ⟨e1, e2⟩ => ?_⟩
    subst e1 e2
    exact ⟨fun _ _ z => z, .int _⟩
  · rw [List.getElem?_eq_none (by simpa using cc)] at e
    cases e
theorem RepK.get {W : Wd} {ρ : List Addr} {H : Hp} : ∀ {kvs : List (D × D)} {kys : List (Key × V)} {i : Nat} {kd d : D}, RepK W ρ H kvs kys → kvs[i]? = some (kd, d) → ∃ k x, kys[i]? = some (k, x) ∧ kd = keyD k ∧ Rep W ρ H d x
  | _, _, i, _, _, .nil, e => by simp at e
  | _, _, 0, _, _, .cons e0 h _, e => by cases e; exact ⟨_, _, rfl, e0, h⟩
  | _, _, i + 1, _, _, .cons _ _ t, e => by
    obtain ⟨k, x, e1, e2⟩ := RepK.get (i := i) t (by simpa using e)
    exact ⟨k, x, by simpa using e1, e2⟩
theorem rep_key {W : Wd} {ρ : List Addr} {H : Hp} : ∀ k : Key, Rep W ρ H (keyD k) (kV k)
  | .inl i => .int i
  | .inr s => .str s
theorem src_items {a : Addr} {o : Obj} {kvs : List (D × D)} {kys : List (Key × V)} (h : H a = some (.frz o (.dK kys))) (r : RepK B.W ρ0 H kvs kys) : SrcOk B hid ρ0 H yes (Iti a o kys) (kvs.map fun kv => D.pr [kv.1, kv.2]) := by
  refine ⟨fun ρ σ H1 p R q f _ => ⟨f _ _ h trivial, by rw [List.length_map, r.len]; exact Nat.le_refl _⟩, fun i d ρ σ H1 p e R q f _ => ?_⟩
  rw [List.getElem?_map] at e
  cases e1 : kvs[i]? with
  | none => rw [e1] at e; cases e
  | some kv =>
    rw [e1] at e
    cases e
    obtain ⟨kd, d⟩ := kv
    obtain ⟨k, x, e2, e3, rx⟩ := r.get e1
    refine ⟨⟨f _ _ h trivial, (List.getElem?_eq_some_iff.mp e2).1⟩, fun y H' ⟨T, k', v', e4, e5, e6, e7⟩ => ?_⟩
    rw [e2] at e4
    cases e4
    subst e5 e7
    have s : Same H1 (upd H1 T (.tup [kV k, x])) := Same.new e6
    refine ⟨s, .pr upd_same (.cons ?_ (.cons (rx.mono (f.trans (.of s)) q) .nil))⟩
    show Rep _ _ _ kd _
    rw [e3]
    exact rep_key k
theorem src_vals {a : Addr} {o : Obj} {kvs : List (D × D)} {kys : List (Key × V)} (h : H a = some (.frz o (.dK kys))) (r : RepK B.W ρ0 H kvs kys) : SrcOk B hid ρ0 H yes (Itd a o kys) (kvs.map (·.2)) := by
  refine ⟨fun ρ σ H1 p R q f _ => ⟨f _ _ h trivial, by rw [List.length_map, r.len]; exact Nat.le_refl _⟩, fun i d ρ σ H1 p e R q f _ => ?_⟩
  rw [List.getElem?_map] at e
  cases e1 : kvs[i]? with
  | none => rw [e1] at e; cases e
  | some kv =>
    rw [e1] at e
    cases e
    obtain ⟨kd, d⟩ := kv
    obtain ⟨k, x, e2, e3, rx⟩ := r.get e1
    refine ⟨⟨f _ _ h trivial, (List.getElem?_eq_some_iff.mp e2).1⟩, fun y H' ⟨e4, k', e5⟩ => ?_⟩
    rw [e2] at e5
    cases e5
    subst e4
    exact ⟨fun _ _ z => z, rx.mono f q⟩
theorem src_keys {a : Addr} {o : Obj} {kvs : List (D × D)} {kys : List (Key × V)} (h : H a = some (.frz o (.dK kys))) (r : RepK B.W ρ0 H kvs kys) : SrcOk B hid ρ0 H yes (Itk a o kys) (kvs.map (·.1)) := by
  refine ⟨fun ρ σ H1 p R q f _ => ⟨f _ _ h trivial, by rw [List.length_map, r.len]; exact Nat.le_refl _⟩, fun i d ρ σ H1 p e R q f _ => ?_⟩
  rw [List.getElem?_map] at e
  cases e1 : kvs[i]? with
  | none => rw [e1] at e; cases e
  | some kv =>
    rw [e1] at e
    cases e
    obtain ⟨kd, d⟩ := kv
    obtain ⟨k, x, e2, e3, rx⟩ := r.get e1
    refine ⟨⟨f _ _ h trivial, (List.getElem?_eq_some_iff.mp e2).1⟩, fun y H' ⟨e4, k', v', e5, e6⟩ => ?_⟩
    rw [e2] at e5
    cases e5
    subst e4 e6
    refine ⟨fun _ _ z => z, ?_⟩
    show Rep _ _ _ kd _
    rw [e3]
    exact rep_key k
theorem RepT.get {W : Wd} {ρ : List Addr} {H : Hp} : ∀ {kvs : List (D × D)} {kys : List (List Key × V)} {i : Nat} {kd d : D}, RepT W ρ H kvs kys → kvs[i]? = some (kd, d) → ∃ k x, kys[i]? = some (k, x) ∧ kd = .tup (k.map keyD) ∧ k ≠ [] ∧ Rep W ρ H d x
  | _, _, i, _, _, .nil, e => by simp at e
  | _, _, 0, _, _, .cons e0 n h _, e => by cases e; exact ⟨_, _, rfl, e0, n, h⟩
  | _, _, i + 1, _, _, .cons _ _ _ t, e => by
    obtain ⟨k, x, e1, e2⟩ := RepT.get (i := i) t (by simpa using e)
    exact ⟨k, x, by simpa using e1, e2⟩
theorem flat_keys {k : List Key} (n : k ≠ []) : flat (k.map keyD) = true := by
  unfold flat
  cases k with
  | nil => exact (n rfl).elim
  | cons a r =>
    simp only [List.map_cons, List.isEmpty_cons, Bool.not_false, Bool.true_and]
    rw [List.all_eq_true]
    intro d hd
    rw [← List.map_cons, List.mem_map] at hd
    obtain ⟨q, _, rfl⟩ := hd
    cases q <;> rfl
theorem reps_keys {W : Wd} {ρ : List Addr} {H : Hp} : ∀ k : List Key, Reps W ρ H (k.map keyD) (k.map kV)
  | [] => .nil
  | a :: r => .cons (rep_key a) (reps_keys r)
theorem rep_tkey {W : Wd} {ρ : List Addr} {H : Hp} {k : List Key} {a : Addr} (n : k ≠ []) (h : H a = some (.tup (k.map kV))) : Rep W ρ H (.tup (k.map keyD)) (.ref a) :=
  .tup (by unfold TupAt; rw [if_pos (flat_keys n)]; exact h) (reps_keys k)
theorem src_keysT {a : Addr} {o : Obj} {kvs : List (D × D)} {kys : List (List Key × V)} (h : H a = some (.frz o (.dT kys))) (r : RepT B.W ρ0 H kvs kys) : SrcOk B hid ρ0 H yes (Itkt a o kys) (kvs.map (·.1)) := by
  refine ⟨fun ρ σ H1 p R q f _ => ⟨f _ _ h trivial, by rw [List.length_map, r.len]; exact Nat.le_refl _⟩, fun i d ρ σ H1 p e R q f _ => ?_⟩
  rw [List.getElem?_map] at e
  cases e1 : kvs[i]? with
  | none => rw [e1] at e; cases e
  | some kv =>
    rw [e1] at e
    cases e
    obtain ⟨kd, d⟩ := kv
    obtain ⟨k, x, e2, e3, nn, rx⟩ := r.get e1
    refine ⟨⟨f _ _ h trivial, (List.getElem?_eq_some_iff.mp e2).1⟩, fun y H' ⟨e4, k', v', q', e5, e6, e7⟩ => ?_⟩
    rw [e2] at e5
    cases e5
    subst e4 e6
    refine ⟨fun _ _ z => z, ?_⟩
    show Rep _ _ _ kd _
    rw [e3]
    exact rep_tkey nn e7
theorem src_enumL {a : Addr} {o : Obj} {ds : List D} {xs : List V} (h : H a = some (.frz o (.lst xs))) (r : Reps B.W ρ0 H ds xs) : SrcOk B hid ρ0 H yes (Ite B.W.K a) ((List.range ds.length).zipWith (fun (i : Nat) d => D.pr [.int i, d]) ds) := by
  have len : ((List.range ds.length).zipWith (fun (i : Nat) d => D.pr [.int i, d]) ds).length = ds.length := by simp
  refine ⟨fun ρ σ H1 p R q f _ => ⟨xs, .inl (.inr ⟨o, f _ _ h trivial⟩), by rw [len, r.len]; exact Nat.le_refl _⟩, fun i d ρ σ H1 p e R q f _ => ?_⟩
  have hi : i < ds.length := by
    have := (List.getElem?_eq_some_iff.mp e).1
    rw [len] at this
    exact this
  have s : SqL B.W.K H1 a xs := .inl (.inr ⟨o, f _ _ h trivial⟩)
  rw [List.getElem?_zipWith, List.getElem?_range hi, List.getElem?_eq_getElem hi] at e
  cases e
  obtain ⟨x, ex, rx⟩ := r.get (List.getElem?_eq_getElem hi)
  refine ⟨⟨xs, x, s, ex⟩, fun y H' ⟨T, x', e1, e2, e3, e4⟩ => ?_⟩
  have e5 := e4 xs s
  rw [ex] at e5
  cases e5
  subst e1 e3
  have st : Same H1 (upd H1 T (.tup [.int (i : Nat), x])) := Same.new e2
  exact ⟨st, .pr upd_same (.cons (.int _) (.cons (rx.mono (f.trans (.of st)) q) .nil))⟩
theorem src_enumT {a : Addr} {ds : List D} {xs : List V} (h : TupAt H a ds xs) (r : Reps B.W ρ0 H ds xs) : SrcOk B hid ρ0 H yes (ItE B.W.K a) ((List.range ds.length).zipWith (fun (i : Nat) d => D.pr [.int i, d]) ds) := by
  have len : ((List.range ds.length).zipWith (fun (i : Nat) d => D.pr [.int i, d]) ds).length = ds.length := by simp
  refine ⟨fun ρ σ H1 p R q f _ => ⟨xs, (h.mono f).seq, by rw [len, r.len]⟩, fun i d ρ σ H1 p e R q f _ => ?_⟩
  have hi : i < ds.length := by
    have := (List.getElem?_eq_some_iff.mp e).1
    rw [len] at this
    exact this
  have s : SqT B.W.K H1 a xs := (h.mono f).seq
  rw [List.getElem?_zipWith, List.getElem?_range hi, List.getElem?_eq_getElem hi] at e
  cases e
  obtain ⟨x, ex, rx⟩ := r.get (List.getElem?_eq_getElem hi)
  refine ⟨⟨xs, x, s, ex⟩, fun y H' ⟨T, x', e1, e2, e3, e4⟩ => ?_⟩
  have e5 := e4 xs s
  rw [ex] at e5
  cases e5
  subst e1 e3
  have st : Same H1 (upd H1 T (.tup [.int (i : Nat), x])) := Same.new e2
  exact ⟨st, .pr upd_same (.cons (.int _) (.cons (rx.mono (f.trans (.of st)) q) .nil))⟩
end

/-- by the value that m gives -/
theorem rdI_at {B : Bd} {m : EM} {its : D → Option (List D)} {σ : L2.St} {H : Hp} {R : It → Hp → Prop} (h : rdI B (srcE its m) σ H R) :
    (∃ d ds, its d = some ds ∧ (∀ Q : VK, (∀ v H' hid ρ', Rep B.W ρ' H' d v → (∀ J, SrcOk B hid ρ' H' yes J ds → R J H') → Q v H') → rdE B m σ H Q)) ∨ ∀ Q : VK, rdE B m σ H Q := by
  obtain ⟨g, p, Rl, k⟩ := h
  unfold srcE at k
  cases e : m p with
  | none => rw [e] at k; exact k.elim
  | some r =>
    cases r with
    | exc x st => exact .inr fun Q => ⟨g, p, Rl, by rw [e]; rw [e] at k; exact k⟩
    | val r p' =>
      cases r with
      | fr d => rw [e] at k; exact k.elim
      | pl i => rw [e] at k; exact k.elim
      | sh d =>
        rw [e] at k
        cases e2 : its d with
        | none => simp only [e2] at k; exact k.elim
        | some ds =>
          simp only [e2] at k
          refine .inl ⟨d, ds, e2, fun Q i => ⟨g, p, Rl, ?_⟩⟩
          rw [e]
          exact fun v H' ρ' R' q f a => i v H' g.hid ρ' a fun J S => k H' ρ' J R' q f S
theorem rdI_args {B : Bd} {ms : List EM} {f : List D → Option (List D)} {σ : L2.St} {H : Hp} {R : It → Hp → Prop} (h : rdI B (srcA f ms) σ H R) {Q' : List V → Hp → Prop}
    (i : ∀ ds es vs H' hid ρ', f ds = some es → Reps B.W ρ' H' ds vs → (∀ J, SrcOk B hid ρ' H' yes J es → R J H') → Q' vs H') : rdA B ms σ H Q' := by
  obtain ⟨g, p, Rl, k⟩ := h
  refine ⟨g, p, Rl, ?_⟩
  unfold srcA at k
  cases e : args ms p with
  | none => rw [e] at k; exact k.elim
  | some r =>
    rw [e] at k
    cases r with
    | exc x st => exact k
    | vals rs p' =>
      intro vs H' ρ' R' q f' a
      cases e2 : shs rs with
      | none => simp only [e2] at k; exact k.elim
      | some ds =>
        simp only [e2] at k
        cases e3 : f ds with
        | none => simp only [e3] at k; exact k.elim
        | some es =>
          simp only [e3] at k
          exact i ds es vs H' g.hid ρ' e3 (a.reps (shs_eq e2)) fun J S => k H' ρ' J R' q f' S
section
variable {X : Cx} {B : Bd} {tg e e2 : Expr} {m : EM} {p pos apos cpos tpos : Pos} {elts : List Expr} {kk : Nat}
/-- a list, a tuple, a text, the keys of a dict -/
theorem simi (hK : X.K = B.W.K) (h : PE X e (rdE B m)) : PI X tg e (rdI B (srcE seqOf m)) := by
  refine ⟨fun pins s σ H R I k => ?_⟩
  rcases rdI_at k with ⟨d, ds, e1, k⟩ | k
  · cases d with
    | lst es =>
      cases e1
      exact (pi_list h).run pins s σ H R I (k _ fun v H' hid ρ' a i => by
        cases a with
        | lst h r => exact ⟨_, rfl, ⟨_, .inl (.inr ⟨_, h⟩)⟩, i _ (by rw [hK]; exact src_frz h r)⟩)
    | tup es =>
      cases e1
      exact (pi_tup h).run pins s σ H R I (k _ fun v H' hid ρ' a i => by
        cases a with
        | tup h r => exact ⟨_, rfl, ⟨_, by rw [hK]; exact h.seq⟩, i _ (by rw [hK]; exact src_tup h r)⟩)
    | scr ns =>
      cases e1
      exact (pi_list h).run pins s σ H R I (k _ fun v H' hid ρ' a i => by
        cases a with
        | scr h => exact ⟨_, rfl, ⟨_, by rw [hK]; exact h.seq⟩, i _ (by rw [hK]; exact src_scr h)⟩)
    | str z =>
      cases e1
      exact (pi_str h).run pins s σ H R I (k _ fun v H' hid ρ' a i => by
        cases a
        exact ⟨_, rfl, i _ (src_str z)⟩)
    | dic kvs =>
      cases e1
      exact (pi_keys h).run pins s σ H R I (k _ fun v H' hid ρ' a i => by
        cases a with
        | dic h r => exact ⟨_, _, rfl, .inl ⟨_, h, i _ (src_keys h r)⟩⟩
        | dit h n r => exact ⟨_, _, rfl, .inr ⟨_, h, i _ (src_keysT h r)⟩⟩)
    | _ => cases e1
  · exact (pi_list h).run pins s σ H R I (k _)
/-- d.items(), to two names; d.values() -/
def itemsOf : D → Option (List D)
  | .dic kvs => if kvs.all (fun kv => match kv.1 with | .tup _ => false | _ => true) then some (kvs.map fun kv => .pr [kv.1, kv.2]) else none
  | _ => none
def valsOf : D → Option (List D)
  | .dic kvs => if kvs.all (fun kv => match kv.1 with | .tup _ => false | _ => true) then some (kvs.map (·.2)) else none
  | _ => none
theorem no_dit {W : Wd} {ρ : List Addr} {H : Hp} {kvs : List (D × D)} {kys : List (List Key × V)} (n : kvs ≠ []) (r : RepT W ρ H kvs kys) : ¬ kvs.all (fun kv => match kv.1 with | .tup _ => false | _ => true) = true := by
  cases r with
  | nil => exact (n rfl).elim
  | cons e _ _ _ =>
    subst e
    simp
theorem simi_items (h : PE X e (rdE B m)) (hbase : attributeBase e "items" X.env (eval e X.env) = eval e X.env := by rfl) (hline : (apos.endLine == cpos.line) = true := by rfl) :
    PI X (.Tuple elts kk tpos) (.Call (.Attribute e "items" apos) [] [] cpos) (rdI B (srcE itemsOf m)) := by
  refine ⟨fun pins s σ H R I k => (pi_items h hbase hline).run pins s σ H R I ?_⟩
  rcases rdI_at k with ⟨d, ds, e1, k⟩ | k
  · refine k _ fun v H' hid ρ' a i => ?_
    cases d with
    | dic kvs =>
      unfold itemsOf at e1
      by_cases c : kvs.all (fun kv => match kv.1 with | .tup _ => false | _ => true) = true
      · simp only [c, if_true] at e1
        cases e1
        cases a with
        | dic h r => exact ⟨_, _, _, rfl, h, i _ (src_items h r)⟩
        | dit h n r => exact (no_dit n r c).elim
      · simp only [c] at e1
        cases e1
    | _ => cases e1
  · exact k _
theorem simi_vals (h : PE X e (rdE B m)) (hbase : attributeBase e "values" X.env (eval e X.env) = eval e X.env := by rfl) (hline : (apos.endLine == cpos.line) = true := by rfl) :
    PI X tg (.Call (.Attribute e "values" apos) [] [] cpos) (rdI B (srcE valsOf m)) := by
  refine ⟨fun pins s σ H R I k => (pi_values h hbase hline).run pins s σ H R I ?_⟩
  rcases rdI_at k with ⟨d, ds, e1, k⟩ | k
  · refine k _ fun v H' hid ρ' a i => ?_
    cases d with
    | dic kvs =>
      unfold valsOf at e1
      by_cases c : kvs.all (fun kv => match kv.1 with | .tup _ => false | _ => true) = true
      · simp only [c, if_true] at e1
        cases e1
        cases a with
        | dic h r => exact ⟨_, _, _, rfl, h, i _ (src_vals h r)⟩
        | dit h n r => exact (no_dit n r c).elim
      · simp only [c] at e1
        cases e1
    | _ => cases e1
  · exact k _
/-- range(..) -/
def rangeL (lo hi : Int) : List D := (List.range (hi - lo).toNat).map fun (i : Nat) => D.int (lo + i)
/-- sealed: the kernel shall not reckon 2^62 -/
noncomputable def rng1 : List D → Option (List D)
  | [.int j] => @ite _ (-(2 ^ 62) ≤ j ∧ j < 2 ^ 62) (Classical.propDecidable _) (some (rangeL 0 j)) none
  | _ => none
/-- sealed: the kernel shall not reckon 2^62 -/
noncomputable def rng2 : List D → Option (List D)
  | [.int i, .int j] => @ite _ (-(2 ^ 62) ≤ i ∧ i < 2 ^ 62 ∧ -(2 ^ 62) ≤ j ∧ j < 2 ^ 62) (Classical.propDecidable _) (some (rangeL i j)) none
  | _ => none
/-- sealed: the kernel shall not reckon 2^62 -/
noncomputable def rng3 : List D → Option (List D)
  | [.int i, .int j, .int c] => @ite _ (c = -1 ∧ -(2 ^ 62) ≤ i ∧ i < 2 ^ 62 ∧ -(2 ^ 62) ≤ j ∧ j < 2 ^ 62) (Classical.propDecidable _) (some ((List.range (i - j).toNat).map fun (k : Nat) => D.int (i + k * (-1)))) none
  | _ => none
theorem reps1 {W : Wd} {ρ : List Addr} {H : Hp} {a : D} {vs : List V} (h : Reps W ρ H [a] vs) : ∃ x, vs = [x] ∧ Rep W ρ H a x := by
  cases h with
  | cons h t => cases t; exact ⟨_, rfl, h⟩
theorem reps2 {W : Wd} {ρ : List Addr} {H : Hp} {a b : D} {vs : List V} (h : Reps W ρ H [a, b] vs) : ∃ x y, vs = [x, y] ∧ Rep W ρ H a x ∧ Rep W ρ H b y := by
  cases h with
  | cons h t => obtain ⟨y, rfl, h2⟩ := reps1 t; exact ⟨_, _, rfl, h, h2⟩
theorem reps3 {W : Wd} {ρ : List Addr} {H : Hp} {a b c : D} {vs : List V} (h : Reps W ρ H [a, b, c] vs) : ∃ x y z, vs = [x, y, z] ∧ Rep W ρ H a x ∧ Rep W ρ H b y ∧ Rep W ρ H c z := by
  cases h with
  | cons h t => obtain ⟨y, z, rfl, h2, h3⟩ := reps2 t; exact ⟨_, _, _, rfl, h, h2, h3⟩
variable {a b c : Expr} {ms : List EM}
theorem simi_range1 (hm : X.mg "range" = none) (hg : Gl X "range") (ha : PA X [a] (rdA B ms)) (hs : starEach [a] X.env = [(false, eval a X.env)] := by rfl) : PI X tg (.Call (.Name "range" p) [a] [] pos) (rdI B (srcA rng1 ms)) :=
  (pi_range1 hg hm ha hs).imp fun σ H R k => rdI_args k fun ds es vs H' hid ρ' e a i => by
    unfold rng1 at e
    split at e
    · obtain ⟨x, rfl, r1⟩ := reps1 a
      cases r1
      split at e
      · rename_i j c
        cases e
        exact ⟨j, rfl, c.1, c.2, i _ (by have := src_range (B := B) (hid := hid) (ρ0 := ρ') (H := H') 0 j.toNat; unfold rangeL; rw [Int.sub_zero]; exact this)⟩
      · cases e
    · cases e
theorem simi_range2 (hm : X.mg "range" = none) (hg : Gl X "range") (ha : PA X [a, b] (rdA B ms)) (hs : starEach [a, b] X.env = [(false, eval a X.env), (false, eval b X.env)] := by rfl) (hs2 : starEach [b] X.env = [(false, eval b X.env)] := by rfl) : PI X tg (.Call (.Name "range" p) [a, b] [] pos) (rdI B (srcA rng2 ms)) :=
  (pi_range2 hg hm ha hs hs2).imp fun σ H R k => rdI_args k fun ds es vs H' hid ρ' e a i => by
    unfold rng2 at e
    split at e
    · obtain ⟨x, y, rfl, r1, r2⟩ := reps2 a
      cases r1
      cases r2
      split at e
      · rename_i i' j c
        cases e
        exact ⟨i', j, rfl, c, i _ (src_range i' (j - i').toNat)⟩
      · cases e
    · cases e
theorem simi_range3 (hm : X.mg "range" = none) (hg : Gl X "range") (ha : PA X [a, b, c] (rdA B ms)) (hs : starEach [a, b, c] X.env = (false, eval a X.env) :: starEach [b, c] X.env := by rfl) (hpl : (backTo pos (starEach [b, c] X.env)).any (·.1) = false := by rfl) : PI X tg (.Call (.Name "range" p) [a, b, c] [] pos) (rdI B (srcA rng3 ms)) :=
  (pi_range3 hg hm ha hs hpl).imp fun σ H R k => rdI_args k fun ds es vs H' hid ρ' e a i => by
    unfold rng3 at e
    split at e
    · obtain ⟨x, y, z, rfl, r1, r2, r3⟩ := reps3 a
      cases r1
      cases r2
      cases r3
      split at e
      · rename_i i' j c' c
        cases e
        obtain ⟨rfl, h1, h2, h3, h4⟩ := c
        exact ⟨i', j, -1, (i' - j).toNat, rfl, RgC.neg h1 h2 h3 h4, i _ (src_rangeC i' (-1) (i' - j).toNat)⟩
      · cases e
    · cases e
def enumL (ds : List D) : List D := (List.range ds.length).zipWith (fun (i : Nat) d => D.pr [.int i, d]) ds
def enum1 : List D → Option (List D)
  | [.lst ds] => some (enumL ds)
  | _ => none
def enumT : List D → Option (List D)
  | [.tup ds] => some (enumL ds)
  | _ => none
theorem simi_enum (hK : X.K = B.W.K) (hm : X.mg "enumerate" = none) (hg : Gl X "enumerate") (ha : PA X [e] (rdA B ms)) (hs : starEach [e] X.env = [(false, eval e X.env)] := by rfl) :
    PI X (.Tuple elts kk tpos) (.Call (.Name "enumerate" p) [e] [] pos) (rdI B (srcA enum1 ms)) :=
  (pi_enum hg hm ha hs).imp fun σ H R k => rdI_args k fun ds es vs H' hid ρ' e a i => by
    unfold enum1 at e
    split at e
    · obtain ⟨x, rfl, r1⟩ := reps1 a
      cases e
      cases r1 with
      | lst h r => exact ⟨_, _, rfl, .inl (.inr ⟨_, h⟩), i _ (by rw [hK]; exact src_enumL h r)⟩
    · cases e
theorem simi_enumT (hK : X.K = B.W.K) (hm : X.mg "enumerate" = none) (hg : Gl X "enumerate") (ha : PA X [e] (rdA B ms)) (hs : starEach [e] X.env = [(false, eval e X.env)] := by rfl) :
    PI X (.Tuple elts kk tpos) (.Call (.Name "enumerate" p) [e] [] pos) (rdI B (srcA enumT ms)) :=
  (pi_enumT hg hm ha hs).imp fun σ H R k => rdI_args k fun ds es vs H' hid ρ' e a i => by
    unfold enumT at e
    split at e
    · obtain ⟨x, rfl, r1⟩ := reps1 a
      cases e
      cases r1 with
      | tup h r => exact ⟨_, _, rfl, by rw [hK]; exact h.seq, i _ (by rw [hK]; exact src_enumT h r)⟩
    · cases e
end

/-! ### for -/
def sFor (m : IM) (gm : GM) (b : SM) : SM := fun p => match m p with
  | some (.items ds p') => forL gm b yes ds p'
  | some (.exc x st) => some (.exc x st)
  | none => none
section
variable {X : Cx} {B : Bd} {tg iter : Expr} {body : List Stmt} {m : IM} {gm : GM} {mb : SM} {ts : List Nat} {pos : Pos}
theorem sims_for (hp : PassesOwn (model X.prog X.w) X.A X.env X.xe) (hc : X.calm = true) (hi : PI X tg iter (rdI B m)) (hg : PG X tg (rdG B ts gm)) (hb : PSs X body (rdS B mb)) (hs : ∀ x, foldedSetIterable iter X.env x = pure x := by intro _; rfl) :
    L2.PS X (.For tg iter body [] pos) (rdS B (sFor m gm mb)) :=
  (ps_for hp hc hi hg hb hs).imp fun N σ H h => by
    obtain ⟨g, p, R, k⟩ := h
    refine ⟨g, p, R, ?_⟩
    unfold sFor at k
    cases e : m p with
    | none => rw [e] at k; exact k
    | some v =>
      rw [e] at k
      cases v with
      | exc x st => exact k
      | items ds p' => exact fun H' ρ' J R' q f S => for_post (g := ⟨ρ', g.hid⟩) S R' (PostS.later (σ' := σ) q f k)
end
end Mi

/-! ## The mirror: comprehensions -/
namespace Mi
open PySem PySem.Spec PyProof.Rows L2 Lamp SlX

/-- within a comprehension nothing may be raised -/
abbrev Bd.nx (B : Bd) : Bd := { B with E := E0 }
theorem Rel.nx {B : Bd} {g : Gh} {σ : L2.St} {H : Hp} {p : PS} (R : Rel B g σ H p) : Rel B.nx g σ H p :=
  ⟨R.slot, R.dis, R.new, R.cel, R.cln, R.cnd, R.pre, R.cnw, R.hid, R.hnd, R.keep, R.len⟩
theorem Rel.unx {B : Bd} {g : Gh} {σ : L2.St} {H : Hp} {p : PS} (R : Rel B.nx g σ H p) : Rel B g σ H p :=
  ⟨R.slot, R.dis, R.new, R.cel, R.cln, R.cnd, R.pre, R.cnw, R.hid, R.hnd, R.keep, R.len⟩
/-- the block's own names are forgotten -/
def wipeE (env : List Slot) : List Nat → List Slot
  | [] => env
  | v :: vs => (wipeE env vs).set v .no
theorem wipeE_len (env : List Slot) : ∀ vs : List Nat, (wipeE env vs).length = env.length
  | [] => rfl
  | v :: vs => by unfold wipeE; rw [List.length_set, wipeE_len env vs]
theorem wipeE_get {env : List Slot} {i : Nat} {s : Slot} : ∀ {vs : List Nat}, (wipeE env vs)[i]? = some s → s = .no ∨ (env[i]? = some s ∧ i ∉ vs)
  | [], h => .inr ⟨h, by simp⟩
  | v :: vs, h => by
    unfold wipeE at h
    rcases set_get h with ⟨_, rfl, _⟩ | ⟨c, h⟩
    · exact .inl rfl
    · rcases wipeE_get h with e | ⟨e, n⟩
      · exact .inl e
      · exact .inr ⟨e, fun m => (List.mem_cons.mp m).elim (fun z => c z.symm) n⟩
theorem wipeE_out {env : List Slot} {i : Nat} : ∀ {vs : List Nat}, i ∉ vs → (wipeE env vs)[i]? = env[i]?
  | [], _ => rfl
  | v :: vs, h => by
    have h1 : v ≠ i := fun e => h (by rw [e]; exact List.mem_cons_self)
    unfold wipeE
    rw [List.getElem?_set_ne h1]
    exact wipeE_out fun m => h (List.mem_cons_of_mem _ m)
/-- .. and are as they were, behind the block -/
def restE (env0 : List Slot) (env : List Slot) : List Nat → List Slot
  | [] => env
  | v :: vs => (restE env0 env vs).set v ((env0[v]?).getD .no)
theorem restE_len (env0 env : List Slot) : ∀ vs : List Nat, (restE env0 env vs).length = env.length
  | [] => rfl
  | v :: vs => by unfold restE; rw [List.length_set, restE_len env0 env vs]
theorem restE_get {env0 env : List Slot} {i : Nat} {s : Slot} : ∀ {vs : List Nat}, (restE env0 env vs)[i]? = some s → (i ∈ vs ∧ s = (env0[i]?).getD .no) ∨ (env[i]? = some s ∧ i ∉ vs)
  | [], h => .inr ⟨h, by simp⟩
  | v :: vs, h => by
    unfold restE at h
    rcases set_get h with ⟨rfl, rfl, _⟩ | ⟨c, h⟩
    · exact .inl ⟨List.mem_cons_self, rfl⟩
    · rcases restE_get h with ⟨m, e⟩ | ⟨e, n⟩
      · exact .inl ⟨List.mem_cons_of_mem _ m, e⟩
      · exact .inr ⟨e, fun m => (List.mem_cons.mp m).elim (fun z => c z.symm) n⟩
def ownOk (env : List Slot) (vs : List Nat) : Bool := vs.all fun v => match env[v]? with
  | some s => !s.owned
  | none => true
section
variable {B : Bd} {g : Gh} {σ σ' : L2.St} {H H' : Hp} {p p' : PS} {ρ' : List Addr}
theorem Rel.wiped (R : Rel B g σ H p) (vs : List Nat) (hσ : σ' = wipe σ vs) : Rel B g σ' H { p with env := wipeE p.env vs } := by
  subst hσ
  have back : ∀ {a : Addr} {i : Nat}, OwnAt { p with env := wipeE p.env vs } (wipe σ vs) a i → OwnAt p σ a i := by
    rintro a i ⟨s, e, o, l⟩
    rcases wipeE_get e with rfl | ⟨e, n⟩
    · cases o
    · exact ⟨s, e, o, (wipe_some l).1⟩
  refine ⟨fun i s e => ?_, fun i j a x y => R.dis i j a (back x) (back y), fun i a x => R.new i a (back x), R.cel, R.cln, R.cnd, R.pre, R.cnw, R.hid, R.hnd, R.keep, ?_⟩
  · rcases wipeE_get e with rfl | ⟨e, n⟩
    · trivial
    · have q := R.slot i s e
      have es : (wipe σ vs)[i]? = σ[i]? := wipe_out n
      cases s with
      | no => trivial
      | sh d => obtain ⟨v, e, r⟩ := q; exact ⟨v, es.trans e, r⟩
      | ow d => obtain ⟨v, e, r⟩ := q; exact ⟨v, es.trans e, r⟩
      | lk d => obtain ⟨v, e, r⟩ := q; exact ⟨v, es.trans e, r⟩
      | lz d => obtain ⟨v, e, r⟩ := q; exact ⟨v, es.trans e, r⟩
      | self me c fs => obtain ⟨v, e, r⟩ := q; exact ⟨v, es.trans e, r⟩
  · show (wipeE p.env vs).length ≤ (wipe σ vs).length
    rw [wipeE_len, wipe_length]
    exact R.len
/-- behind a block: p0 is the state ahead of it -/
theorem Rel.rested {g0 : Gh} {H0 : Hp} {p0 : PS} {vs : List Nat} (R0 : Rel B g0 σ H0 p0) (ok : ownOk p0.env vs = true) (R : Rel B g (wipe σ vs) H p) (q : g0.ρ <+: g.ρ) (f : Frz H0 H) (hl : p.env.length ≤ p0.env.length) :
    Rel B g σ H { p with env := restE p0.env p.env vs } := by
  have notOwn : ∀ {i : Nat}, i ∈ vs → ((p0.env[i]?).getD .no).owned = false := fun {i} m => by
    have := (List.all_eq_true.mp ok) i m
    cases e : p0.env[i]? with
    | none => rfl
    | some s =>
      rw [e] at this
      simpa using this
  have back : ∀ {a : Addr} {i : Nat}, OwnAt { p with env := restE p0.env p.env vs } σ a i → OwnAt p (wipe σ vs) a i := by
    rintro a i ⟨s, e, o, l⟩
    rcases restE_get e with ⟨m, rfl⟩ | ⟨e, n⟩
    · rw [notOwn m] at o; cases o
    · exact ⟨s, e, o, by rw [wipe_out n]; exact l⟩
  refine ⟨fun i s e => ?_, fun i j a x y => R.dis i j a (back x) (back y), fun i a x => R.new i a (back x), R.cel, R.cln, R.cnd, R.pre, R.cnw, R.hid, R.hnd, R.keep, ?_⟩
  · rcases restE_get e with ⟨m, rfl⟩ | ⟨e, n⟩
    · cases e2 : p0.env[i]? with
      | none => trivial
      | some s =>
        show SlotOk _ _ _ _ _ s
        have q0 := R0.slot i s e2
        have no := notOwn m
        rw [e2] at no
        exact q0.mono f q fun a o => by rw [show s.owned = false from no] at o; cases o
    · have q := R.slot i s e
      have es : σ[i]? = (wipe σ vs)[i]? := (wipe_out n).symm
      cases s with
      | no => trivial
      | sh d => obtain ⟨v, e, r⟩ := q; exact ⟨v, es.trans e, r⟩
      | ow d => obtain ⟨v, e, r⟩ := q; exact ⟨v, es.trans e, r⟩
      | lk d => obtain ⟨v, e, r⟩ := q; exact ⟨v, es.trans e, r⟩
      | lz d => obtain ⟨v, e, r⟩ := q; exact ⟨v, es.trans e, r⟩
      | self me c fs => obtain ⟨v, e, r⟩ := q; exact ⟨v, es.trans e, r⟩
  · show (restE p0.env p.env vs).length ≤ σ.length
    rw [restE_len]
    exact Nat.le_trans hl R0.len
/-- a fresh thing is laid aside, known to the rule alone -/
theorem Rel.aside (R : Rel B g σ H p) {a : Addr} {u : HO} (n : H a = none) (m : Mut (some u)) : Rel B ⟨g.ρ, (a, u) :: g.hid⟩ σ (L2.upd H a u) p := by
  have f := R.free n
  have R1 := R.upd u f fun w e => by rw [n] at e; cases e
  refine ⟨R1.slot, R1.dis, fun i b x => ?_, R1.cel, R1.cln, R1.cnd, R1.pre, R1.cnw, fun x h => ?_, ?_, R1.keep, R1.len⟩
  · obtain ⟨n1, n2, n3⟩ := R1.new i b x
    refine ⟨n1, fun w h => ?_, n3⟩
    rcases List.mem_cons.mp h with e | h
    · injection e with e1 e2
      exact f.own i (by rw [← e1]; exact x)
    · exact n2 w h
  · rcases List.mem_cons.mp h with rfl | h
    · exact ⟨upd_same, m, f.cel, f.new⟩
    · exact R1.hid x h
  · rw [List.map_cons, List.nodup_cons]
    refine ⟨fun h => ?_, R1.hnd⟩
    obtain ⟨x, hx, e⟩ := List.mem_map.mp h
    have ex : x = (a, x.2) := by
      obtain ⟨x1, x2⟩ := x
      exact congrArg (·, x2) e
    exact f.hid x.2 (by rw [← ex]; exact hx)
/-- .. is written -/
theorem Rel.asideUpd {a : Addr} {u w : HO} {hid : List (Addr × HO)} {ρ : List Addr} (R : Rel B ⟨ρ, (a, u) :: hid⟩ σ H p) (m : Mut (some w)) : Rel B ⟨ρ, (a, w) :: hid⟩ σ (L2.upd H a w) p := by
  obtain ⟨h1, h2, h3, h4⟩ := R.hid (a, u) List.mem_cons_self
  have own : ∀ i, ¬ OwnAt p σ a i := fun i x => (R.new i a x).2.1 u List.mem_cons_self
  have F : Frz H (L2.upd H a w) := Frz.put h1 h2
  have hnd := R.hnd
  rw [List.map_cons, List.nodup_cons] at hnd
  refine ⟨fun i t e => (R.slot i t e).mono F (List.prefix_refl _) fun b ow l v h => ?_, R.dis, fun i b x => ?_, fun n d e => ?_, R.cln, R.cnd, R.pre, R.cnw, fun x h => ?_, ?_, fun b o e n => ?_, R.len⟩
  · rw [upd_ne fun z => own i ⟨t, e, ow, by rw [← z]; exact l⟩]
    exact h
  · obtain ⟨n1, n2, n3⟩ := R.new i b x
    refine ⟨n1, fun v h => ?_, n3⟩
    rcases List.mem_cons.mp h with e | h
    · injection e with e1 e2
      exact own i (by rw [← e1]; exact x)
    · exact n2 v (List.mem_cons_of_mem _ h)
  · obtain ⟨b, e1, e2⟩ := R.cel n d e
    refine ⟨b, e1, e2.mono F (List.prefix_refl _) fun v h => ?_⟩
    rw [upd_ne fun z => h3 (by rw [← z]; exact List.mem_of_getElem? e1)]
    exact h
  · rcases List.mem_cons.mp h with rfl | h
    · exact ⟨upd_same, m, h3, h4⟩
    · obtain ⟨k1, k2, k3, k4⟩ := R.hid x (List.mem_cons_of_mem _ h)
      refine ⟨?_, k2, k3, k4⟩
      rw [upd_ne fun z => hnd.1 (List.mem_map.mpr ⟨x, h, z⟩)]
      exact k1
  · rw [List.map_cons, List.nodup_cons]
    exact hnd
  · rw [upd_ne fun z => by rw [z, h4] at e; cases e]
    exact R.keep b o e n
/-- .. and comes back as a fresh thing -/
theorem Rel.unaside {a : Addr} {u : HO} {hid : List (Addr × HO)} {ρ : List Addr} (R : Rel B ⟨ρ, (a, u) :: hid⟩ σ H p) : Rel B ⟨ρ, hid⟩ σ H p ∧ H a = some u ∧ (∀ i, ¬ OwnAt p σ a i) ∧ a ∉ ρ ∧ (∀ w, (a, w) ∉ hid) ∧ B.H0 a = none := by
  obtain ⟨h1, h2, h3, h4⟩ := R.hid (a, u) List.mem_cons_self
  have hnd := R.hnd
  rw [List.map_cons, List.nodup_cons] at hnd
  refine ⟨⟨R.slot, R.dis, fun i b x => ?_, R.cel, R.cln, R.cnd, R.pre, R.cnw, fun x h => R.hid x (List.mem_cons_of_mem _ h), hnd.2, R.keep, R.len⟩, h1, fun i x => (R.new i a x).2.1 u List.mem_cons_self, h3, fun w h => hnd.1 (List.mem_map.mpr ⟨_, h, rfl⟩), h4⟩
  obtain ⟨n1, n2, n3⟩ := R.new i b x
  exact ⟨n1, fun w h => n2 w (List.mem_cons_of_mem _ h), n3⟩
end

/-! ### [elt for target in iter if ..] -/
/-- one turn: what is appended, if anything -/
def lcTurn (gm : GM) (mt me : EM) (vs : List Nat) (d : D) (p : PS) : Option (Option D × PS) := match gm (.sh d) p with
  | none => none
  | some p1 => match mt p1 with
    | some (.val r p2) => match asB p2 r with
      | some true => match me p2 with
        | some (.val (.sh y) p3) => some (some y, { p3 with env := wipeE p3.env vs })
        | _ => none
      | some false => some (none, { p2 with env := wipeE p2.env vs })
      | none => none
    | _ => none
def lcL (gm : GM) (mt me : EM) (vs : List Nat) : List D → List D → PS → Option (List D × PS)
  | [], acc, p => some (acc, p)
  | d :: ds, acc, p => match lcTurn gm mt me vs d p with
    | none => none
    | some (none, p') => lcL gm mt me vs ds acc p'
    | some (some y, p') => if acc.length < sizeLine then lcL gm mt me vs ds (acc ++ [y]) p' else none
def mLc (m : IM) (gm : GM) (mt me : EM) (vs : List Nat) : EM := fun p => match m p with
  | none => none
  | some (.exc x st) => some (.exc x st)
  | some (.items ds p1) => if ownOk p1.env vs then match lcL gm mt me vs ds [] { p1 with env := wipeE p1.env vs } with
      | some (acc, p2) => if p2.env.length ≤ p1.env.length then some (.val (.fr (.lst acc)) { p2 with env := restE p1.env p2.env vs }) else none
      | none => none
    else none
theorem Reps.snoc {W : Wd} {ρ : List Addr} {H : Hp} : ∀ {ds : List D} {xs : List V} {d : D} {x : V}, Reps W ρ H ds xs → Rep W ρ H d x → Reps W ρ H (ds ++ [d]) (xs ++ [x])
  | _, _, _, _, .nil, h => .cons h .nil
  | _, _, _, _, .cons a t, h => .cons a (t.snoc h)
theorem lc_rd {B : Bd} {m : IM} {gm : GM} {mt me : EM} {vs ts : List Nat} {σ : L2.St} {H : Hp} {Q : VK} (hv : ∀ i ∈ ts, i ∈ vs) (h : rdE B (mLc m gm mt me vs) σ H Q) :
    tLc (rdI B m) (rdG B.nx ts gm) (rdT B.nx mt) (rdE B.nx me) vs σ H Q := by
  obtain ⟨g, p, R, k⟩ := h
  refine ⟨g, p, R, ?_⟩
  unfold mLc at k
  cases e : m p with
  | none => rw [e] at k; exact k
  | some v =>
    rw [e] at k
    cases v with
    | exc x st => exact k
    | items ds p1 =>
      intro H1 ρ1 J R1 q1 f1 S
      intro D hD
      by_cases ok : ownOk p1.env vs = true
      · simp only [ok, if_true] at k
        -- the state of the block
        refine ⟨fun i n H' => ∃ ρ' p' acc xs es, ds = es ++ ds.drop i ∧ es.length = i ∧ n = ds.length - i ∧ Rel B.nx ⟨ρ', (D, .lst xs) :: g.hid⟩ (wipe σ vs) H' p' ∧ ρ1 <+: ρ' ∧ Frz H1 H' ∧ Reps B.W ρ' H' acc xs ∧
          lcL gm mt me vs ds [] { p1 with env := wipeE p1.env vs } = lcL gm mt me vs (ds.drop i) acc p', ⟨_, ρ1, _, [], [], [], rfl, rfl, rfl, ((R1.nx.aside (u := .lst []) hD trivial).wiped vs rfl), List.prefix_refl _, Frz.new hD, .nil, rfl⟩, ?_⟩
        rintro i n H2 ⟨ρ2, p2, acc, xs, es, e1, e2, rfl, R2, q2, f2, ra, eL⟩
        have R2' : Rel B ⟨ρ2, g.hid⟩ (wipe σ vs) H2 p2 := (R2.unaside.1).unx
        cases e3 : ds.drop i with
        | nil =>
          rw [e3] at eL e1
          have hi : i = ds.length := by rw [← e2, e1]; simp
          refine .inl ⟨?_, ?_⟩
          · rw [hi]
            exact S.stop ρ2 _ H2 p2 R2' q2 f2 rfl
          · rw [eL] at k
            simp only [lcL] at k
            by_cases hl : p2.env.length ≤ p1.env.length
            · simp only [hl, if_true] at k
              obtain ⟨_, h1, h2, h3, h4, h5⟩ := R2.unaside
              have Rr := R1.rested (g := ⟨ρ2, g.hid⟩) (vs := vs) ok R2' q2 f2 hl
              refine k (.ref D) H2 ρ2 Rr (q1.trans q2) (f1.trans f2) ⟨D, rfl, .lst h1 ra, fun i x => ?_, h3, h4, h5⟩
              obtain ⟨s, es', o, l⟩ := x
              rcases restE_get es' with ⟨mm, rfl⟩ | ⟨es', nn⟩
              · have := (List.all_eq_true.mp ok) i mm
                cases e9 : p1.env[i]? with
                | none => rw [e9] at o; cases o
                | some s9 => rw [e9] at this o; simp at this; rw [show s9.owned = true from o] at this; cases this
              · exact h2 i ⟨s, es', o, by rw [wipe_out nn]; exact l⟩
            · simp only [hl, if_false] at k; exact k.elim
        | cons d r =>
          have hd : ds[i]? = some d := by
            have : (ds.drop i)[0]? = some d := by rw [e3]; rfl
            rw [List.getElem?_drop] at this
            simpa using this
          have hr : ds.drop (i + 1) = r := by
            rw [← List.drop_drop, e3]
            rfl
          have hlt : i < ds.length := (List.getElem?_eq_some_iff.mp hd).1
          obtain ⟨g1, g2⟩ := S.go i d ρ2 _ H2 p2 hd R2' q2 f2 rfl
          rw [e3] at eL
          rw [eL] at k
          -- where the turn comes to
          refine .inr ⟨g1, fun H' => ∃ ρ' p' acc' xs', Rel B.nx ⟨ρ', (D, .lst xs') :: g.hid⟩ (wipe σ vs) H' p' ∧ ρ1 <+: ρ' ∧ Frz H1 H' ∧ Reps B.W ρ' H' acc' xs' ∧ lcL gm mt me vs (d :: r) acc p2 = lcL gm mt me vs r acc' p', ?_, fun x H3 y => ?_⟩
          · rintro H' ⟨ρ', p', acc', xs', R', q', f', ra', eL'⟩
            refine ⟨ds.length - (i + 1), by omega, ρ', p', acc', xs', es ++ [d], ?_, by rw [List.length_append, e2]; rfl, rfl, R', q', f', ra', by rw [hr, ← eL', eL]⟩
            rw [hr, List.append_assoc]
            show ds = es ++ (d :: r)
            rw [← e3]
            exact e1
          · obtain ⟨sm, rr⟩ := g2 x H3 y
            have R3 := R2.same sm
            refine ⟨⟨ρ2, (D, .lst xs) :: g.hid⟩, p2, .sh d, R3, rr, ?_⟩
            have turn : lcL gm mt me vs (d :: r) acc p2 = match lcTurn gm mt me vs d p2 with
              | none => none
              | some (none, p') => lcL gm mt me vs r acc p'
              | some (some y, p') => if acc.length < sizeLine then lcL gm mt me vs r (acc ++ [y]) p' else none := rfl
            have live : lcL gm mt me vs (d :: r) acc p2 ≠ none := fun z => by rw [z] at k; exact k
            unfold lcTurn at turn
            cases e5 : gm (.sh d) p2 with
            | none => rw [turn] at live; simp only [e5] at live; exact (live rfl).elim
            | some p3 =>
              simp only [e5] at turn
              intro σ3 H4 ρ4 t4 R4 q4 f4
              have tw : wipe σ3 vs = wipe σ vs := by
                have h1 := t4 vs hv
                have idem : wipe (wipe σ vs) vs = wipe σ vs := by
                  have key : ∀ (ws us : List Nat) (τ : L2.St), (∀ i ∈ ws, i ∈ us) → wipe (wipe τ us) ws = wipe τ us := by
                    intro ws
                    induction ws with
                    | nil => intro us τ _; rfl
                    | cons w ws ih =>
                      intro us τ hh
                      show (wipe (wipe τ us) ws).set w none = wipe τ us
                      rw [ih us τ fun i m => hh i (List.mem_cons_of_mem _ m)]
                      have hw : ∀ (us : List Nat), w ∈ us → (wipe τ us).set w none = wipe τ us := by
                        intro us
                        induction us with
                        | nil => intro m; cases m
                        | cons u us ih2 =>
                          intro m
                          show ((wipe τ us).set u none).set w none = (wipe τ us).set u none
                          by_cases c : w = u
                          · rw [c, List.set_set]
                          · rw [List.set_comm _ _ (fun z => c z.symm), ih2 ((List.mem_cons.mp m).resolve_left c)]
                      exact hw us (hh w List.mem_cons_self)
                  exact key vs vs σ fun i m => m
                rw [h1, idem]
              refine ⟨tw, ⟨ρ4, (D, .lst xs) :: g.hid⟩, p3, R4, ?_⟩
              cases e6 : mt p3 with
              | none => rw [turn] at live; simp only [e6] at live; exact (live rfl).elim
              | some w =>
                cases w with
                | exc x st => rw [turn] at live; simp only [e6] at live; exact (live rfl).elim
                | val rb p4 =>
                  simp only [e6] at turn
                  intro v5 H5 ρ5 R5 q5 f5 a5
                  have F5 : Frz H2 H5 := (Frz.of sm).trans (f4.trans f5)
                  have q25 : ρ2 <+: ρ5 := List.IsPrefix.trans q4 q5
                  cases e7 : asB p4 rb with
                  | none => rw [turn] at live; simp only [e7] at live; exact (live rfl).elim
                  | some b =>
                    refine ⟨b, asB_rep a5 e7, ?_⟩
                    cases b with
                    | false =>
                      simp only [e7] at turn
                      exact ⟨ρ5, _, acc, xs, R5.wiped vs tw.symm, q2.trans q25, f2.trans F5, ra.mono F5 q25, turn⟩
                    | true =>
                      simp only [e7] at turn
                      refine ⟨⟨ρ5, (D, .lst xs) :: g.hid⟩, p4, R5, ?_⟩
                      cases e8 : me p4 with
                      | none => rw [turn] at live; simp only [e8] at live; exact (live rfl).elim
                      | some w =>
                        cases w with
                        | exc x st => rw [turn] at live; simp only [e8] at live; exact (live rfl).elim
                        | val ry p5 =>
                          cases ry with
                          | fr _ => rw [turn] at live; simp only [e8] at live; exact (live rfl).elim
                          | pl _ => rw [turn] at live; simp only [e8] at live; exact (live rfl).elim
                          | sh yd =>
                            simp only [e8] at turn
                            intro v6 H6 ρ6 R6 q6 f6 a6
                            have F6 : Frz H2 H6 := F5.trans f6
                            have q26 : ρ2 <+: ρ6 := List.IsPrefix.trans q25 q6
                            by_cases sz : acc.length < sizeLine
                            · simp only [sz, if_true] at turn
                              obtain ⟨_, h1, h2, h3, h4, h5⟩ := R6.unaside
                              have fl : Frz H6 (upd H6 D (.lst (xs ++ [v6]))) := Frz.put h1 trivial
                              refine ⟨xs, h1, by rw [← ra.len]; exact sz, ρ6, _, acc ++ [yd], xs ++ [v6], (R6.asideUpd (w := .lst (xs ++ [v6])) trivial).wiped vs tw.symm, q2.trans q26, (f2.trans F6).trans fl, ?_, turn⟩
                              exact (ra.mono (F6.trans fl) q26).snoc (Rep.mono fl (List.prefix_refl _) a6)
                            · simp only [sz, if_false] at turn
                              exact (live turn).elim
      · simp only [ok] at k; exact k.elim
section
variable {X : Cx} {B : Bd} {elt tg iter : Expr} {ifs : List Expr} {scope : Scope} {own : List (Str × Nat)} {pos : Pos} {m : IM} {gm : GM} {mt me : EM} {ts : List Nat}
theorem simts_nil : PTs X [] (rdT B (eC (.bl true))) := by
  refine ⟨fun pins s σ H Q I h => pts_nil.run pins s σ H Q I ?_⟩
  obtain ⟨b, e, q⟩ := rdC h fun ρ => .bl true
  cases e
  exact q
theorem simts_one {c : Expr} {mc : EM} (h : PT X c (rdT B mc)) : PTs X [c] (rdT B mc) := pts_one h
theorem sim_lc (hc : X.calm = true) (hN : X.N.Nodup) (hi : PI X tg iter (rdI B m)) (ok : BlkOk X.N X.env.scope scope own) (hv : ∀ i ∈ ts, i ∈ own.map (·.2))
    (hg : ∀ (s : Shared) (H : Hp) (C : Addr) (cl : List (Str × Addr)) (fp : List Addr), PG (X.blk s H scope (compEnvC scope cl C X.env) fp) tg (rdG B.nx ts gm))
    (ht : ∀ (s : Shared) (H : Hp) (C : Addr) (cl : List (Str × Addr)) (fp : List Addr), PTs (X.blk s H scope (compEnvC scope cl C X.env) fp) ifs (rdT B.nx mt))
    (he : ∀ (s : Shared) (H : Hp) (C : Addr) (cl : List (Str × Addr)) (fp : List Addr), PE (X.blk s H scope (compEnvC scope cl C X.env) fp) elt (rdE B.nx me)) (hs : ∀ x, foldedSetIterable iter X.env x = pure x := by intro _; rfl) :
    PE X (.ListComp elt [⟨tg, iter, ifs, 0⟩] scope pos) (rdE B (mLc m gm mt me (own.map (·.2)))) :=
  (pe_lc hc hN hi ok hg ht he hs).imp fun σ H Q h => lc_rd hv h
theorem sims_setLc (i : Nat) {y : Str} {py spos : Pos} (hc : X.calm = true) (hN : X.N.Nodup) (hy : X.N[i]? = some y) (hyl : X.env.scope.names.lookup y = some .local)
    (hsw : swapsWith (.ListComp elt [⟨tg, iter, ifs, 0⟩] scope pos) (some (.Name y py)) spos.line X.env = pure true) (hi : PI X tg iter (rdI B m)) (ok : BlkOk X.N X.env.scope scope own) (hv : ∀ i ∈ ts, i ∈ own.map (·.2))
    (hg : ∀ (s : Shared) (H : Hp) (C : Addr) (cl : List (Str × Addr)) (fp : List Addr), PG (X.blk s H scope (compEnvC scope cl C X.env) fp) tg (rdG B.nx ts gm))
    (ht : ∀ (s : Shared) (H : Hp) (C : Addr) (cl : List (Str × Addr)) (fp : List Addr), PTs (X.blk s H scope (compEnvC scope cl C X.env) fp) ifs (rdT B.nx mt))
    (he : ∀ (s : Shared) (H : Hp) (C : Addr) (cl : List (Str × Addr)) (fp : List Addr), PE (X.blk s H scope (compEnvC scope cl C X.env) fp) elt (rdE B.nx me)) (hs : ∀ x, foldedSetIterable iter X.env x = pure x := by intro _; rfl) :
    L2.PS X (.Assign [.Name y py] (.ListComp elt [⟨tg, iter, ifs, 0⟩] scope pos) spos) (rdS B (sAsg (mLc m gm mt me (own.map (·.2))) (gNm i))) :=
  (ps_setLc hc hN hy hyl hsw hi ok hg ht he hs).imp fun N σ H h => by
    obtain ⟨g, p, R, k⟩ := sAsg_rd (ts := [i]) h
    refine lc_rd hv ⟨g, p, R, Post.imp (fun v H1 z => ?_) k⟩
    obtain ⟨g, p, r, R, a, k⟩ := z
    cases e : gNm i r p with
    | none => rw [e] at k; exact k.elim
    | some p' => rw [e] at k; exact k _ H1 g.ρ Touch.set (R.bindTo a e) (List.prefix_refl _) (Frz.refl H1)
end
end Mi

/-! ## The mirror: built-in operations -/
namespace Mi
open PySem PySem.Spec PyProof.Rows L2 Lamp SlX

/-- an operation on two values and its mirror -/
def O2 (X : Cx) (W : Wd) (f : Value → Value → Sem Value) (pr : D → D → Option RV) : Prop := ∃ r, OpR X f r ∧ P2 W r pr
def Ix2 (X : Cx) (W : Wd) (pr : D → D → Option RV) : Prop := ∃ r, IxR X r ∧ P2 W r pr
def C1 (X : Cx) (W : Wd) (f : Value) (pr : List D → Option RV) : Prop := ∃ r, CallR X f r ∧ PN W r pr
def M1 (X : Cx) (W : Wd) (id : String) (pr : D → List D → Option RV) : Prop := ∃ r, MtR X id r ∧ PM W r pr
section
variable {X : Cx} {W : Wd} {B : Bd}
theorem O2.mix {f : Value → Value → Sem Value} {p1 p2 pr : D → D → Option RV} (h1 : O2 X W f p1) (h2 : O2 X W f p2) (c : ∀ a b, pr a b = p1 a b ∨ pr a b = p2 a b) : O2 X W f pr := by
  obtain ⟨r1, o1, k1⟩ := h1
  obtain ⟨r2, o2, k2⟩ := h2
  refine ⟨_, o1.or o2, fun ρ H d1 d2 v1 v2 Q a1 a2 h => ?_, fun d1 d2 => ?_⟩
  · rcases c d1 d2 with e | e
    · exact .inl (k1.ok _ _ _ _ _ _ _ a1 a2 (by rw [← e]; exact h))
    · exact .inr (k2.ok _ _ _ _ _ _ _ a1 a2 (by rw [← e]; exact h))
  · rcases c d1 d2 with e | e
    · rw [e]; exact k1.np _ _
    · rw [e]; exact k2.np _ _
theorem Ix2.mix {p1 p2 pr : D → D → Option RV} (h1 : Ix2 X W p1) (h2 : Ix2 X W p2) (c : ∀ a b, pr a b = p1 a b ∨ pr a b = p2 a b) : Ix2 X W pr := by
  obtain ⟨r1, o1, k1⟩ := h1
  obtain ⟨r2, o2, k2⟩ := h2
  refine ⟨_, o1.or o2, fun ρ H d1 d2 v1 v2 Q a1 a2 h => ?_, fun d1 d2 => ?_⟩
  · rcases c d1 d2 with e | e
    · exact .inl (k1.ok _ _ _ _ _ _ _ a1 a2 (by rw [← e]; exact h))
    · exact .inr (k2.ok _ _ _ _ _ _ _ a1 a2 (by rw [← e]; exact h))
  · rcases c d1 d2 with e | e
    · rw [e]; exact k1.np _ _
    · rw [e]; exact k2.np _ _
theorem C1.mix {f : Value} {p1 p2 pr : List D → Option RV} (h1 : C1 X W f p1) (h2 : C1 X W f p2) (c : ∀ a, pr a = p1 a ∨ pr a = p2 a) : C1 X W f pr := by
  obtain ⟨r1, o1, k1⟩ := h1
  obtain ⟨r2, o2, k2⟩ := h2
  refine ⟨_, o1.or o2, fun ρ H ds vs Q a h => ?_, fun ds => ?_⟩
  · rcases c ds with e | e
    · exact .inl (k1.ok _ _ _ _ _ a (by rw [← e]; exact h))
    · exact .inr (k2.ok _ _ _ _ _ a (by rw [← e]; exact h))
  · rcases c ds with e | e
    · rw [e]; exact k1.np _
    · rw [e]; exact k2.np _
theorem M1.mix {id : String} {p1 p2 pr : D → List D → Option RV} (h1 : M1 X W id p1) (h2 : M1 X W id p2) (c : ∀ d a, pr d a = p1 d a ∨ pr d a = p2 d a) : M1 X W id pr := by
  obtain ⟨r1, o1, k1⟩ := h1
  obtain ⟨r2, o2, k2⟩ := h2
  refine ⟨_, o1.or o2, fun ρ H d v ds vs Q a1 a2 h => ?_, fun d ds => ?_⟩
  · rcases c d ds with e | e
    · exact .inl (k1.ok _ _ _ _ _ _ _ a1 a2 (by rw [← e]; exact h))
    · exact .inr (k2.ok _ _ _ _ _ _ _ a1 a2 (by rw [← e]; exact h))
  · rcases c d ds with e | e
    · rw [e]; exact k1.np _ _
    · rw [e]; exact k2.np _ _
variable {a b e : Expr} {ma mb : EM} {pos p : Pos}
theorem simo {op : Operator} {pr : D → D → Option RV} (h : O2 X B.W (binaryOp op) pr) (ha : PE X a (rdE B ma)) (hb : PE X b (rdE B mb)) : PE X (.BinOp a op b pos) (rdE B (mOp pr ma mb)) := let ⟨_, o, k⟩ := h; sim_op o k ha hb
theorem simc {op : CmpOp} {pr : D → D → Option RV} (h : O2 X B.W (compareOp op) pr) (ha : PE X a (rdE B ma)) (hb : PE X b (rdE B mb)) (hm : behindInMarks op b = false) : PE X (.Compare a [op] [b] pos) (rdE B (mOp pr ma mb)) := let ⟨_, o, k⟩ := h; sim_cmp o k ha hb hm
theorem simtc {op : CmpOp} {pr : D → D → Option RV} (h : O2 X B.W (compareOp op) pr) (ha : PE X a (rdE B ma)) (hb : PE X b (rdE B mb)) (hm : behindInMarks op b = false) : PT X (.Compare a [op] [b] pos) (rdT B (mOp pr ma mb)) := let ⟨_, o, k⟩ := h; simt_cmp o k ha hb hm
theorem simx {pr : D → D → Option RV} (h : Ix2 X B.W pr) (ha : PE X a (rdE B ma)) (hb : PE X b (rdE B mb)) (hs : PlainIx b := by exact fun _ _ => rfl) : PE X (.Subscript a b pos) (rdE B (mOp pr ma mb)) := let ⟨_, o, k⟩ := h; sim_ix o k ha hb hs
variable {x : Str} {es : List Expr} {ms : List EM} {id T : String} {pr : List D → Option RV}
theorem simb (h : C1 X B.W (.builtin id) pr) (hm : X.mg x = none) (hg : Gl X x) (hv : bootBuiltins x = some (.builtin id)) (ha : PA X (e :: es) (rdA B ms)) (hn : x ≠ "__name__" := by decide) (hdb : (x == ("__debug__" : Str)) = false := by decide)
    (he : starEach (e :: es) X.env = (false, eval e X.env) :: starEach es X.env := by rfl) (hpl : (backTo pos (starEach es X.env)).any (·.1) = false := by rfl) : PE X (.Call (.Name x p) (e :: es) [] pos) (rdE B (mPrim pr ms)) := let ⟨_, o, k⟩ := h; sim_callB o k hm hg hv ha hn hdb he hpl
theorem simty (h : C1 X B.W (.type T) pr) (hm : X.mg x = none) (hg : Gl X x) (hv : bootBuiltins x = some (.type T)) (ha : PA X (e :: es) (rdA B ms)) (hn : x ≠ "__name__" := by decide) (hdb : (x == ("__debug__" : Str)) = false := by decide)
    (he : starEach (e :: es) X.env = (false, eval e X.env) :: starEach es X.env := by rfl) (hpl : (backTo pos (starEach es X.env)).any (·.1) = false := by rfl) : PE X (.Call (.Name x p) (e :: es) [] pos) (rdE B (mPrim pr ms)) := let ⟨_, o, k⟩ := h; sim_callTy o k hm hg hv ha hn hdb he hpl
end

/-! ### ints -/
def i2 (c : Int → Int → Bool) (g : Int → Int → Int) : D → D → Option RV
  | .int i, .int j => if c i j then some (.sh (.int (g i j))) else none
  | _, _ => none
def b2 (g : Int → Int → Bool) : D → D → Option RV
  | .int i, .int j => some (.sh (.bl (g i j)))
  | _, _ => none
theorem P2.i2 {W : Wd} {C : Int → Int → Prop} {c : Int → Int → Bool} {g : Int → Int → Int} (hc : ∀ i j, c i j = true → C i j) : P2 W (rI C fun i j => .int (g i j)) (i2 c g) := by
  refine ⟨fun ρ H d1 d2 v1 v2 Q a1 a2 h => ?_, fun d1 d2 => ?_⟩
  · unfold Mi.i2 at h
    split at h
    · split at h
      · rename_i q
        rw [a1.int, a2.int]
        exact ⟨_, _, rfl, rfl, hc _ _ q, h.int⟩
      · exact h.elim
    · exact h.elim
  · unfold Mi.i2
    split
    · split <;> trivial
    · trivial
theorem P2.i20 {W : Wd} {g : Int → Int → Int} : P2 W (rI0 fun i j => .int (g i j)) (Mi.i2 (fun _ _ => true) g) := by
  refine ⟨fun ρ H d1 d2 v1 v2 Q a1 a2 h => ?_, fun d1 d2 => ?_⟩
  · unfold Mi.i2 at h
    split at h
    · simp only [if_true] at h
      rw [a1.int, a2.int]
      exact ⟨_, _, rfl, rfl, h.int⟩
    · exact h.elim
  · unfold Mi.i2
    split
    · simp only [if_true]; trivial
    · trivial
theorem P2.b2 {W : Wd} {g : Int → Int → Bool} : P2 W (rI0 fun i j => .bl (g i j)) (b2 g) := by
  refine ⟨fun ρ H d1 d2 v1 v2 Q a1 a2 h => ?_, fun d1 d2 => ?_⟩
  · unfold Mi.b2 at h
    split at h
    · rw [a1.int, a2.int]
      exact ⟨_, _, rfl, rfl, h.bl⟩
    · exact h.elim
  · unfold Mi.b2
    split <;> trivial
def dSub := i2 (fun _ _ => true) (· - ·)
def mulOk (i j : Int) : Bool := decide (Builtin.Int.intBits i ≤ 4000000) && decide (Builtin.Int.intBits j ≤ 4000000)
def dMulI := i2 mulOk (· * ·)
def dDiv := i2 (fun _ j => decide (j ≠ 0) && decide (j.natAbs.log2 < 9000)) Int.fdiv
def dMod := i2 (fun _ j => decide (j ≠ 0)) Int.fmod
def dPow := i2 (fun i j => decide (0 ≤ j) && decide (j ≤ 1000000) && decide (i.natAbs < 2 ^ 64)) fun i j => i ^ j.toNat
def cLtI := b2 fun i j => decide (i < j)
def cLe := b2 fun i j => decide (i ≤ j)
def cGt := b2 fun i j => decide (j < i)
def cGe := b2 fun i j => decide (j ≤ i)
section
variable {X : Cx} {W : Wd}
theorem o_sub : O2 X W (binaryOp .Sub) dSub := ⟨_, op_sub, P2.i20⟩
theorem o_mulI : O2 X W (binaryOp .Mult) dMulI := ⟨_, op_mulI, P2.i2 fun i j h => by
  unfold mulOk at h
  simp only [Bool.and_eq_true, decide_eq_true_eq] at h
  exact mul_ok_bits h.1 h.2⟩
theorem o_div : O2 X W (binaryOp .FloorDiv) dDiv := ⟨_, Lamp.op_fdivW, P2.i2 fun i j h => by
  simp only [Bool.and_eq_true, decide_eq_true_eq] at h
  exact h⟩
theorem o_mod : O2 X W (binaryOp .Mod) dMod := ⟨_, op_modN, P2.i2 fun i j h => of_decide_eq_true h⟩
theorem o_pow : O2 X W (binaryOp .Pow) dPow := ⟨_, op_pow, P2.i2 fun i j h => by
  simp only [Bool.and_eq_true, decide_eq_true_eq] at h
  exact ⟨h.1.1, h.1.2, h.2⟩⟩
theorem c_lt : O2 X W (compareOp .Lt) cLtI := ⟨_, op_lt, P2.b2⟩
theorem c_le : O2 X W (compareOp .LtE) cLe := ⟨_, op_le, P2.b2⟩
theorem c_gt : O2 X W (compareOp .Gt) cGt := ⟨_, op_gt, P2.b2⟩
theorem c_ge : O2 X W (compareOp .GtE) cGe := ⟨_, op_ge, P2.b2⟩
end
def dNeg : D → Option RV
  | .int i => some (.sh (.int (-i)))
  | _ => none
theorem sim_neg {X : Cx} {B : Bd} {a : Expr} {ma : EM} {pos : Pos} (ha : PE X a (rdE B ma)) : PE X (.UnaryOp .USub a pos) (rdE B (mUn dNeg ma)) :=
  sim_un un_neg ⟨fun ρ H d v Q r h => by
    unfold dNeg at h
    split at h
    · rw [r.int]; exact ⟨_, rfl, h.int⟩
    · exact h.elim, fun d => by unfold dNeg; split <;> trivial⟩ ha

/-! ### + of texts, lists, tuples -/
theorem lstR {X : Cx} {pins : List (Addr × Obj)} {σ : L2.St} {H : Hp} {s : Shared} {l : Addr} {xs : List V} (I : Inv X pins σ H s) (h : Rd H l (.lst xs)) : xs.length ≤ sizeLine ∧ ∃ (its : List Value) (n : Nat), Vals xs its ∧ s.heap.get? l = some { cls := .type "list", data := .seq its.toArray n } := by
  have := h.ok I.hok
  exact this
def rCatL : R2 := fun x y H Q => ∃ l b xs zs, x = .ref l ∧ y = .ref b ∧ Rd H l (.lst xs) ∧ Rd H b (.lst zs) ∧ xs.length + zs.length ≤ sizeLine ∧ ∀ p, H p = none → Q (.ref p) (upd H p (.lst (xs ++ zs)))
theorem op_catL {X : Cx} : OpR X (binaryOp .Add) rCatL := by
  intro pins s σ H x y v u Q I rx ry h
  obtain ⟨l, b, xs, zs, rfl, rfl, hH, hB, hz, q⟩ := h
  cases rx
  cases ry
  obtain ⟨z, its, n, r, e⟩ := lstR I hH
  obtain ⟨z2, its2, n2, r2, e2⟩ := lstR I hB
  have hl := r.length
  have hl2 := r2.length
  refine PySem.P.add_list e e2 ?_ (by rw [List.size_toArray, List.size_toArray]; omega)
  have ea : its.toArray ++ its2.toArray = (its ++ its2).toArray := by simp
  rw [ea]
  exact ⟨.ref _, _, I.lnew (t' := s.toks) (r.append r2) (by rw [List.length_append]; omega), rfl, q _ I.fresh⟩
/-- a new tuple, of either kind -/
def NewT (H : Hp) (xs : List V) (Q : VK) : Prop := (∀ p, H p = none → Q (.ref p) (upd H p (.tup xs))) ∨ ∀ p its, H p = none → Q (.ref p) (upd H p (.frz (plainT its) (.tup xs)))
theorem newT_ok {X : Cx} {pins : List (Addr × Obj)} {σ : L2.St} {H : Hp} {s : Shared} {xs : List V} {its : List Value} {Q : VK} (I : Inv X pins σ H s) (r : Vals xs its) (hz : xs.length ≤ sizeLine) (q : NewT H xs Q) :
    EP X pins σ Q (.ref s.heap.objs.size) { s with heap := s.heap.push { cls := .type "tuple", data := .seq its.toArray } } := by
  have fr := I.hok.fresh (Nat.le_refl s.heap.objs.size)
  rcases q with q | q
  · exact ⟨.ref s.heap.objs.size, _, I.laid (t' := s.toks) (o := .tup xs) (fun b ob q => Heap.get?_push_of_some _ q) (Nat.le_refl _) ⟨hz, its, r, IsTup.new _ _⟩, rfl, q _ fr⟩
  · exact ⟨.ref s.heap.objs.size, _, I.laid (t' := s.toks) (o := .frz (plainT its) (.tup xs)) (fun b ob q => Heap.get?_push_of_some _ q) (Nat.le_refl _) ⟨Heap.get?_push_size _ rfl, hz, its, r, IsTup.new _ _⟩, rfl, q _ its fr⟩
def rCatTT (K : PySem.W.Frag) : R2 := fun x y H Q => ∃ a b xs ys, x = .ref a ∧ y = .ref b ∧ SqT K H a xs ∧ SqT K H b ys ∧ xs.length + ys.length ≤ sizeLine ∧
  (xs = [] → Q (.ref b) H) ∧ (xs ≠ [] → ys = [] → Q (.ref a) H) ∧ (xs ≠ [] → ys ≠ [] → NewT H (xs ++ ys) Q)
theorem op_catTT {X : Cx} : OpR X (binaryOp .Add) (rCatTT X.K) := by
  intro pins s σ H x y v u Q I rx ry h
  obtain ⟨a, b, xs, ys, rfl, rfl, ha, hb, hz, q0, q1, q2⟩ := h
  cases rx
  cases ry
  obtain ⟨its, r1, p1, _⟩ := I.tuple ha
  obtain ⟨its2, r2, p2, _⟩ := I.tuple hb
  by_cases hx : xs = []
  · subst hx
    cases r1
    exact cat_tup0 p1 p2 ⟨.ref b, H, I, rfl, q0 rfl⟩
  · refine HT.cat_tup p1 p2 (fun z => hx (r1.nil_iff.mp z)) (fun z => ⟨.ref a, H, I, rfl, q1 hx (r2.nil_iff.mp z)⟩) (fun z => ?_) (by rw [← r1.length, ← r2.length]; exact hz)
    exact newT_ok I (r1.append r2) (by rw [List.length_append]; exact hz) (q2 hx fun w => z (r2.nil_iff.mpr w))
theorem Reps.app {W : Wd} {ρ : List Addr} {H : Hp} : ∀ {ds es : List D} {xs ys : List V}, Reps W ρ H ds xs → Reps W ρ H es ys → Reps W ρ H (ds ++ es) (xs ++ ys)
  | _, _, _, _, .nil, h => h
  | _, _, _, _, .cons a t, h => .cons a (t.app h)
theorem newT_rep {W : Wd} {ρ : List Addr} {H : Hp} {ds : List D} {xs : List V} {Q : VK} (r : Reps W ρ H ds xs) (h : PPost W ρ H Q (some (.sh (.tup ds)))) : NewT H xs Q := by
  by_cases c : flat ds = true
  · exact .inl fun p n => h.newT c r n
  · exact .inr fun p its n => h.newF (by simpa using c) r n
def addS : D → D → Option RV
  | .str a, .str b => if a.length + b.length ≤ sizeLine then some (.sh (.str (a ++ b))) else none
  | _, _ => none
def addL : D → D → Option RV
  | .lst a, .lst b => if a.length + b.length ≤ sizeLine then some (.fr (.lst (a ++ b))) else none
  | _, _ => none
def addT : D → D → Option RV
  | .tup a, .tup b => if a.length + b.length ≤ sizeLine then some (.sh (.tup (a ++ b))) else none
  | _, _ => none
def dAdd : D → D → Option RV
  | .int i, .int j => some (.sh (.int (i + j)))
  | .str a, .str b => addS (.str a) (.str b)
  | .lst a, .lst b => addL (.lst a) (.lst b)
  | .tup a, .tup b => addT (.tup a) (.tup b)
  | _, _ => none
section
variable {X : Cx} {W : Wd}
theorem o_addS : O2 X W (binaryOp .Add) addS := ⟨_, op_add_str, fun ρ H d1 d2 v1 v2 Q a1 a2 h => by
    unfold addS at h
    split at h
    · split at h
      · rename_i c
        rw [a1.str, a2.str]
        exact ⟨_, _, rfl, rfl, c, h.str⟩
      · exact h.elim
    · exact h.elim, fun d1 d2 => by unfold addS; split <;> first | trivial | (split <;> trivial)⟩
theorem o_addL : O2 X W (binaryOp .Add) addL := ⟨_, op_catL, fun ρ H d1 d2 v1 v2 Q a1 a2 h => by
    unfold addL at h
    split at h
    · split at h
      · rename_i c
        obtain ⟨l, xs, rfl, h1, r1⟩ := a1.lstR
        obtain ⟨b, ys, rfl, h2, r2⟩ := a2.lstR
        exact ⟨l, b, xs, ys, rfl, rfl, h1, h2, by rw [← r1.len, ← r2.len]; exact c, fun p n => h.new (r1.app r2) n⟩
      · exact h.elim
    · exact h.elim, fun d1 d2 => by unfold addL; split <;> first | trivial | (split <;> trivial)⟩
theorem o_addT (hK : X.K = W.K) : O2 X W (binaryOp .Add) addT := ⟨_, op_catTT, fun ρ H d1 d2 v1 v2 Q a1 a2 h => by
    unfold addT at h
    split at h
    · split at h
      · rename_i c
        obtain ⟨l, xs, e1, h1, r1⟩ := a1.tup
        obtain ⟨b, ys, e2, h2, r2⟩ := a2.tup
        subst e1 e2
        have t1 : Rep W ρ H (.tup _) (.ref l) := a1.elim id fun ⟨_, _, z⟩ => nomatch z
        have t2 : Rep W ρ H (.tup _) (.ref b) := a2.elim id fun ⟨_, _, z⟩ => nomatch z
        refine ⟨l, b, xs, ys, rfl, rfl, by rw [hK]; exact h1, by rw [hK]; exact h2, by rw [← r1.len, ← r2.len]; exact c, fun e => ?_, fun _ e => ?_, fun _ _ => newT_rep (r1.app r2) h⟩
        · subst e
          cases r1
          exact h.part t2
        · subst e
          cases r2
          rw [List.append_nil] at h
          exact h.part t1
      · exact h.elim
    · exact h.elim, fun d1 d2 => by unfold addT; split <;> first | trivial | (split <;> trivial)⟩
theorem o_add (hK : X.K = W.K) : O2 X W (binaryOp .Add) dAdd := by
  have h0 : O2 X W (binaryOp .Add) (i2 (fun _ _ => true) (· + ·)) := ⟨_, op_add, P2.i20⟩
  refine ((h0.mix o_addS (pr := fun a b => match a, b with | .int i, .int j => some (.sh (.int (i + j))) | a, b => addS a b) fun a b => ?_).mix (o_addL.mix (o_addT hK) (pr := fun a b => match a, b with | .lst x, .lst y => addL (.lst x) (.lst y) | a, b => addT a b) fun a b => ?_)) fun a b => ?_
  · cases a <;> cases b <;> first | exact .inl rfl | exact .inr rfl
  · cases a <;> cases b <;> first | exact .inl rfl | exact .inr rfl
  · cases a <;> cases b <;> first | exact .inl rfl | exact .inr rfl
end
end Mi

/-! ## The mirror: comparisons, lengths, items, displays, conversions -/
namespace Mi
open PySem PySem.Spec PyProof.Rows L2 Lamp SlX

/-! ### data as the library's == knows it -/
mutual
def toPy : D → Option PyData
  | .non => some .none
  | .bl b => some (.bool b)
  | .int i => some (.int i)
  | .str s => some (.str s)
  | .tup ds => (toPys ds).map .tuple
  | .lst ds => (toPys ds).map .list
  | _ => none
def toPys : List D → Option (List PyData)
  | [] => some []
  | d :: ds => match toPy d, toPys ds with
    | some p, some ps => some (p :: ps)
    | _, _ => none
end
mutual
theorem dp_of {W : Wd} {ρ : List Addr} {H : Hp} : ∀ {d : D} {v : V} {q : PyData}, Rep W ρ H d v → toPy d = some q → Dp W.K H v q
  | _, _, q, .non, e => by cases e; exact .non
  | _, _, q, .bl b, e => by cases e; exact .bl b
  | _, _, q, .int i, e => by cases e; exact .int i
  | _, _, q, .str s, e => by cases e; exact .str s
  | .tup ds, _, q, .tup h r, e => by
    unfold toPy at e
    cases e1 : toPys ds with
    | none => rw [e1] at e; cases e
    | some qs => rw [e1] at e; cases e; exact .tup h.seq (dps_of r e1)
  | .lst ds, _, q, .lst h r, e => by
    unfold toPy at e
    cases e1 : toPys ds with
    | none => rw [e1] at e; cases e
    | some qs => rw [e1] at e; cases e; exact .lst (.inl (.inr ⟨_, h⟩)) (dps_of r e1)
  | _, _, q, .dic _ _, e => by simp [toPy] at e
  | _, _, q, .dit _ _ _, e => by simp [toPy] at e
  | _, _, q, .sob _ _ _ _, e => by simp [toPy] at e
  | _, _, q, .pob _ _ _ _, e => by simp [toPy] at e
  | _, _, q, .cel _, e => by simp [toPy] at e
  | _, _, q, .scr _, e => by simp [toPy] at e
  | _, _, q, .pr _ _, e => by simp [toPy] at e
theorem dps_of {W : Wd} {ρ : List Addr} {H : Hp} : ∀ {ds : List D} {xs : List V} {qs : List PyData}, Reps W ρ H ds xs → toPys ds = some qs → DpAll W.K H xs qs
  | _, _, qs, .nil, e => by cases e; exact .nil
  | d :: ds, _, qs, .cons h t, e => by
    unfold toPys at e
    cases e1 : toPy d with
    | none => rw [e1] at e; cases e
    | some q =>
      cases e2 : toPys ds with
      | none => rw [e1, e2] at e; cases e
      | some qs' => rw [e1, e2] at e; cases e; exact .cons (dp_of h e1) (dps_of t e2)
end
theorem dpB_of {W : Wd} {ρ : List Addr} {H : Hp} {d : D} {v : V} {q : PyData} (h : RepB W ρ H d v) (e : toPy d = some q) : Dp W.K H v q := by
  rcases h with h | ⟨a, rfl, h⟩
  · exact dp_of h e
  · cases h with
    | lst h r =>
      unfold toPy at e
      rename_i ds xs
      cases e1 : toPys ds with
      | none => rw [e1] at e; cases e
      | some qs => rw [e1] at e; cases e; exact .lst (SqL.of h) (dps_of r e1)
    | dic _ _ => simp [toPy] at e
    | dit _ _ _ => simp [toPy] at e
    | sob _ _ _ _ => simp [toPy] at e
    | pob _ _ _ _ => simp [toPy] at e
def eqP0 (neg : Bool) (a b : D) : Option RV := match toPy a, toPy b with
  | some p, some q => if SeqAt.shaped p && SeqAt.shaped q then some (.sh (.bl (if neg then !PyData.eqv p q else PyData.eqv p q))) else none
  | _, _ => none
section
variable {X : Cx} {W : Wd}
theorem eqP0_ok {neg : Bool} {ρ : List Addr} {H : Hp} {Q : VK} {d1 d2 : D} {v1 v2 : V} (a1 : RepB W ρ H d1 v1) (a2 : RepB W ρ H d2 v2) (h : PPost W ρ H Q (eqP0 neg d1 d2)) :
    ∃ d e, Dp W.K H v1 d ∧ Dp W.K H v2 e ∧ SeqAt.shaped d = true ∧ SeqAt.shaped e = true ∧ Q (.bl (if neg then !PyData.eqv d e else PyData.eqv d e)) H := by
  unfold eqP0 at h
  cases e1 : toPy d1 with
  | none => rw [e1] at h; exact h.elim
  | some p =>
    cases e2 : toPy d2 with
    | none => rw [e1, e2] at h; exact h.elim
    | some q =>
      rw [e1, e2] at h
      by_cases c : (SeqAt.shaped p && SeqAt.shaped q) = true
      · simp only [c, if_true] at h
        rw [Bool.and_eq_true] at c
        exact ⟨p, q, dpB_of a1 e1, dpB_of a2 e2, c.1, c.2, h.bl⟩
      · simp only [c] at h; exact h.elim
theorem eqP0_np {neg : Bool} (d1 d2 : D) : noPl (eqP0 neg d1 d2) := by
  unfold eqP0
  split
  · split <;> trivial
  · trivial
theorem c_eq0 (hK : X.K = W.K) (hu : X.A.units + 64 < cLine) : O2 X W (compareOp .Eq) (eqP0 false) := ⟨_, op_eqD hu, fun ρ H d1 d2 v1 v2 Q a1 a2 h => by
  obtain ⟨d, e, h1, h2, h3, h4, h5⟩ := eqP0_ok a1 a2 h
  rw [← hK] at h1 h2
  exact ⟨d, e, h1, h2, h3, h4, h5⟩, eqP0_np⟩
theorem c_ne0 (hK : X.K = W.K) (hu : X.A.units + 64 < cLine) : O2 X W (compareOp .NotEq) (eqP0 true) := ⟨_, op_neD hu, fun ρ H d1 d2 v1 v2 Q a1 a2 h => by
  obtain ⟨d, e, h1, h2, h3, h4, h5⟩ := eqP0_ok a1 a2 h
  rw [← hK] at h1 h2
  exact ⟨d, e, h1, h2, h3, h4, h5⟩, eqP0_np⟩
end
/-- texts of any kind -/
def eqS0 (neg : Bool) : D → D → Option RV
  | .str a, .str b => some (.sh (.bl (if neg then !decide (a = b) else decide (a = b))))
  | _, _ => none
def eqP (neg : Bool) (a b : D) : Option RV := match a, b with
  | .str x, .str y => eqS0 neg (.str x) (.str y)
  | a, b => eqP0 neg a b
theorem eqP_or (neg : Bool) (a b : D) : eqP neg a b = eqS0 neg a b ∨ eqP neg a b = eqP0 neg a b := by
  unfold eqP
  split
  · exact .inl rfl
  · exact .inr rfl
section
variable {X : Cx} {W : Wd}
theorem eqS0_np {neg : Bool} (d1 d2 : D) : noPl (eqS0 neg d1 d2) := by
  unfold eqS0
  split <;> trivial
theorem c_eqS : O2 X W (compareOp .Eq) (eqS0 false) := ⟨_, op_eq, fun ρ H d1 d2 v1 v2 Q a1 a2 h => by
  unfold eqS0 at h
  split at h
  · rename_i a b
    rw [a1.str, a2.str]
    refine ⟨rfl, ?_⟩
    have e : decide (V.str a = V.str b) = decide (a = b) := by simp
    rw [e]
    exact h.bl
  · exact h.elim, eqS0_np⟩
theorem c_neS : O2 X W (compareOp .NotEq) (eqS0 true) := ⟨_, op_ne, fun ρ H d1 d2 v1 v2 Q a1 a2 h => by
  unfold eqS0 at h
  split at h
  · rename_i a b
    rw [a1.str, a2.str]
    refine ⟨rfl, ?_⟩
    have e : decide (V.str a = V.str b) = decide (a = b) := by simp
    rw [e]
    exact h.bl
  · exact h.elim, eqS0_np⟩
theorem c_eq (hK : X.K = W.K) (hu : X.A.units + 64 < cLine) : O2 X W (compareOp .Eq) (eqP false) := .mix c_eqS (c_eq0 hK hu) (eqP_or false)
theorem c_ne (hK : X.K = W.K) (hu : X.A.units + 64 < cLine) : O2 X W (compareOp .NotEq) (eqP true) := .mix c_neS (c_ne0 hK hu) (eqP_or true)
end
/-! ### is None, is True -/
def isNon : D → Option Bool
  | .non => some true
  | .bl _ => some false | .int _ => some false | .str _ => some false | .tup _ => some false | .lst _ => some false | .dic _ => some false | .obj _ _ => some false | .cel _ => some false | _ => none
def isP (neg : Bool) (a b : D) : Option RV := match b with
  | .non => (isNon a).map fun c => .sh (.bl (if neg then !c else c))
  | .bl y => match a with
    | .bl x => some (.sh (.bl (if neg then !decide (x = y) else decide (x = y))))
    | _ => none
  | _ => none
theorem isNon_ok {W : Wd} {ρ : List Addr} {H : Hp} {d : D} {v : V} {c : Bool} (h : RepB W ρ H d v) (e : isNon d = some c) : decide (v = .non) = c := by
  rcases h with h | ⟨a, rfl, h⟩
  · cases h <;> first | (cases e; rfl) | (cases e)
  · cases h <;> (cases e; rfl)
section
variable {X : Cx} {W : Wd}
theorem c_is : O2 X W (compareOp .Is) (isP false) := ⟨_, op_isN.or op_isBl, fun ρ H d1 d2 v1 v2 Q a1 a2 h => by
    unfold isP at h
    split at h
    · cases e : isNon d1 with
      | none => rw [e] at h; exact h.elim
      | some c =>
        rw [e] at h
        have hh : PPost W ρ H Q (some (.sh (.bl c))) := h
        exact .inl ⟨a2.non, by rw [isNon_ok a1 e]; exact hh.bl⟩
    · split at h
      · exact .inr ⟨_, _, a1.bl, a2.bl, h.bl⟩
      · exact h.elim
    · exact h.elim, fun d1 d2 => by unfold isP; split; (cases isNon d1 <;> trivial); (split <;> trivial); trivial⟩
theorem c_isnot : O2 X W (compareOp .IsNot) (isP true) := ⟨_, op_notN.or op_notBl, fun ρ H d1 d2 v1 v2 Q a1 a2 h => by
    unfold isP at h
    split at h
    · cases e : isNon d1 with
      | none => rw [e] at h; exact h.elim
      | some c =>
        rw [e] at h
        have hh : PPost W ρ H Q (some (.sh (.bl (!c)))) := h
        exact .inl ⟨a2.non, by rw [isNon_ok a1 e]; exact hh.bl⟩
    · split at h
      · exact .inr ⟨_, _, a1.bl, a2.bl, h.bl⟩
      · exact h.elim
    · exact h.elim, fun d1 d2 => by unfold isP; split; (cases isNon d1 <;> trivial); (split <;> trivial); trivial⟩
end
/-! ### len -/
def dLen : List D → Option RV
  | [.lst ds] => some (.sh (.int ds.length))
  | [.tup ds] => some (.sh (.int ds.length))
  | [.scr ns] => some (.sh (.int ns.length))
  | [.str s] => if s.length ≤ sizeLine then some (.sh (.int s.length)) else none
  | [.dic kvs] => if kvs.all (fun kv => match kv.1 with | .tup _ => false | _ => true) then some (.sh (.int kvs.length)) else none
  | _ => none
theorem repBs1 {W : Wd} {ρ : List Addr} {H : Hp} {d : D} {vs : List V} (h : RepBs W ρ H [d] vs) : ∃ v, vs = [v] ∧ RepB W ρ H d v := by
  cases h with
  | cons h t => cases t; exact ⟨_, rfl, h⟩
theorem repBs2 {W : Wd} {ρ : List Addr} {H : Hp} {d e : D} {vs : List V} (h : RepBs W ρ H [d, e] vs) : ∃ v w, vs = [v, w] ∧ RepB W ρ H d v ∧ RepB W ρ H e w := by
  cases h with
  | cons h t => obtain ⟨w, rfl, r⟩ := repBs1 t; exact ⟨_, _, rfl, h, r⟩
theorem call_lenDR {X : Cx} : CallR X (.builtin "len") (fun xs H Q => ∃ a kvs, xs = [V.ref a] ∧ Rd H a (.dK kvs) ∧ Q (.int kvs.length) H) := by
  intro pins s σ H xs us Q I r h
  obtain ⟨a, kvs, rfl, hd, q⟩ := h
  obtain ⟨u, rfl, ru⟩ := vals1 r
  cases ru
  exact d_len I hd fun t s' I' => ⟨.int _, H, I', ⟨t, rfl⟩, q⟩
theorem RepB.dicK {W : Wd} {ρ : List Addr} {H : Hp} {kvs : List (D × D)} {v : V} (h : RepB W ρ H (.dic kvs) v) (c : kvs.all (fun kv => match kv.1 with | .tup _ => false | _ => true) = true) : ∃ a kys, v = .ref a ∧ Rd H a (.dK kys) ∧ RepK W ρ H kvs kys := by
  rcases h with h | ⟨a, rfl, h⟩
  · cases h with
    | dic h r => exact ⟨_, _, rfl, .inr ⟨_, h⟩, r⟩
    | dit h n r => exact (no_dit n r c).elim
  · cases h with
    | dic h r => exact ⟨_, _, rfl, .inl h, r⟩
    | dit h n r => exact (no_dit n r c).elim
section
variable {X : Cx} {W : Wd}
theorem k_len (hK : X.K = W.K) : C1 X W (.builtin "len") dLen := ⟨_, call_len.or call_lenDR, fun ρ H ds vs Q a h => by
    unfold dLen at h
    split at h
    · obtain ⟨v, rfl, r⟩ := repBs1 a
      obtain ⟨p, xs, rfl, s, rr⟩ := r.lst
      exact .inl ⟨_, _, rfl, .inl ⟨xs, by rw [hK]; exact s, rfl⟩, by rw [← rr.len]; exact h.int⟩
    · obtain ⟨v, rfl, r⟩ := repBs1 a
      obtain ⟨p, xs, rfl, s, rr⟩ := r.tup
      exact .inl ⟨_, _, rfl, .inr ⟨xs, by rw [hK]; exact s, rfl⟩, by rw [← rr.len]; exact h.int⟩
    · obtain ⟨v, rfl, r⟩ := repBs1 a
      obtain ⟨p, rfl, s⟩ := r.scr
      exact .inl ⟨_, _, rfl, .inl ⟨_, by rw [hK]; exact s, rfl⟩, by rw [List.length_map]; exact h.int⟩
    · obtain ⟨v, rfl, r⟩ := repBs1 a
      obtain rfl := r.str
      split at h
      · rename_i c
        exact .inl ⟨_, _, rfl, ⟨c, rfl⟩, h.int⟩
      · exact h.elim
    · obtain ⟨v, rfl, r⟩ := repBs1 a
      split at h
      · rename_i c
        obtain ⟨p, kys, rfl, rd, rr⟩ := r.dicK c
        exact .inr ⟨p, kys, rfl, rd, by rw [← rr.len]; exact h.int⟩
      · exact h.elim
    · exact h.elim, fun ds => by unfold dLen; split <;> first | trivial | (split <;> trivial)⟩
end
/-! ### items -/
def ixS : D → D → Option RV
  | .lst ds, .int i => (atI ds i).map .sh
  | .tup ds, .int i => (atI ds i).map .sh
  | .pr ds, .int i => (atI ds i).map .sh
  | .scr ns, .int i => (atI ns i).map fun n => .sh (.int n)
  | .str s, .int i => if s.length ≤ sizeLine then (atI s.cps.toList i).map fun c => .sh (.str ⟨#[c]⟩) else none
  | _, _ => none
theorem Reps.atI {W : Wd} {ρ : List Addr} {H : Hp} {ds : List D} {xs : List V} {i : Int} {d : D} (r : Reps W ρ H ds xs) (e : L2.atI ds i = some d) : ∃ x, L2.atI xs i = some x ∧ Rep W ρ H d x := by
  unfold L2.atI at e ⊢
  rw [← r.len]
  cases e1 : ixN ds.length i with
  | none => rw [e1] at e; cases e
  | some j =>
    rw [e1] at e
    have e' : ds[j]? = some d := e
    exact r.get e'
theorem atI_map {α β : Type} (f : α → β) (xs : List α) (i : Int) : L2.atI (xs.map f) i = (L2.atI xs i).map f := by
  unfold L2.atI
  rw [List.length_map]
  cases ixN xs.length i with
  | none => rfl
  | some j => show (xs.map f)[j]? = (xs[j]?).map f; rw [List.getElem?_map]
theorem np_map {α : Type} {o : Option α} {f : α → D} : noPl (o.map fun x => .sh (f x)) := by cases o <;> trivial
section
variable {X : Cx} {W : Wd}
theorem x_seq (hK : X.K = W.K) : Ix2 X W ixS := ⟨_, ix_seq, fun ρ H d1 d2 v1 v2 Q a1 a2 h => by
    unfold ixS at h
    split at h
    · rename_i ds i
      obtain ⟨p, xs, rfl, s, rr⟩ := a1.lst
      rw [a2.int]
      cases e : atI ds i with
      | none => rw [e] at h; exact h.elim
      | some d =>
        rw [e] at h
        obtain ⟨x, ex, rx⟩ := rr.atI e
        exact .inl ⟨p, xs, i, x, rfl, rfl, by rw [hK]; exact s, ex, PPost.part h rx⟩
    · rename_i ds i
      obtain ⟨p, xs, rfl, s, rr⟩ := a1.tup
      rw [a2.int]
      cases e : atI ds i with
      | none => rw [e] at h; exact h.elim
      | some d =>
        rw [e] at h
        obtain ⟨x, ex, rx⟩ := rr.atI e
        exact .inr (.inl ⟨p, xs, i, x, rfl, rfl, by rw [hK]; exact s, ex, PPost.part h rx⟩)
    · rename_i ds i
      rw [a2.int]
      rcases a1 with a1 | ⟨_, _, z⟩
      · cases a1 with
        | pr hp rr =>
          cases e : atI ds i with
          | none => rw [e] at h; exact h.elim
          | some d =>
            rw [e] at h
            obtain ⟨x, ex, rx⟩ := rr.atI e
            exact .inr (.inl ⟨_, _, i, x, rfl, rfl, SqT.of hp, ex, PPost.part h rx⟩)
      · cases z
    · rename_i ns i
      obtain ⟨p, rfl, s⟩ := a1.scr
      rw [a2.int]
      cases e : atI ns i with
      | none => rw [e] at h; exact h.elim
      | some n =>
        rw [e] at h
        exact .inl ⟨p, _, i, .int n, rfl, rfl, by rw [hK]; exact s, by rw [atI_map, e]; rfl, PPost.int h⟩
    · rename_i s i
      rw [a1.str, a2.int]
      split at h
      · rename_i c
        cases e : atI s.cps.toList i with
        | none => rw [e] at h; exact h.elim
        | some n =>
          rw [e] at h
          exact .inr (.inr ⟨s, i, n, rfl, rfl, c, e, PPost.str h⟩)
      · exact h.elim
    · exact h.elim, fun d1 d2 => by
      unfold ixS
      split
      · exact np_map
      · exact np_map
      · exact np_map
      · exact np_map
      · split
        · exact np_map
        · trivial
      · trivial⟩
end
/-! ### displays -/
theorem pe_tupA {X : Cx} {es : List Expr} {t : TA} {x1 : Nat} {pos : Pos} (h : PA X es t) : PE X (.Tuple es x1 pos) (fun σ H Q => t σ H fun xs H1 => xs.length ≤ sizeLine ∧ NewT H1 xs Q) := by
  refine ⟨fun pins s σ H Q I hq => ?_⟩
  refine wpAny_Tuple_spliced (thn (h.run _ pins s σ H _ I hq) fun us s1 ⟨xs, H1, I1, r, z, q⟩ => ⟨by rw [← r.length]; exact z, ?_⟩)
  exact newT_ok I1 r z q
def mTup (ms : List EM) : EM := bindA ms fun rs p => match shs rs with
  | some ds => if ds.length ≤ sizeLine then some (.val (.sh (.tup ds)) p) else none
  | none => none
def mLst (ms : List EM) : EM := bindA ms fun rs p => match shs rs with
  | some ds => if ds.length ≤ sizeLine then some (.val (.fr (.lst ds)) p) else none
  | none => none
section
variable {X : Cx} {B : Bd} {es : List Expr} {ms : List EM} {pos : Pos}
theorem sim_tup {x1 : Nat} (h : PA X es (rdA B ms)) : PE X (.Tuple es x1 pos) (rdE B (mTup ms)) :=
  (pe_tupA h).imp fun σ H Q k => bindA_rd k fun g p rs vs H1 R a k => by
    cases e : shs rs with
    | none => simp only [e] at k; exact k.elim
    | some ds =>
      simp only [e] at k
      have rr := a.reps (shs_eq e)
      by_cases c : ds.length ≤ sizeLine
      · simp only [c, if_true] at k
        exact ⟨by rw [← rr.len]; exact c, newT_rep rr (PPost.of' (r := some (.sh (.tup ds))) R trivial k)⟩
      · simp only [c, if_false] at k; exact k.elim
theorem sim_lst (h : PA X es (rdA B ms)) : PE X (.List es pos) (rdE B (mLst ms)) :=
  (pe_lst h).imp fun σ H Q k => bindA_rd k fun g p rs vs H1 R a k => by
    cases e : shs rs with
    | none => simp only [e] at k; exact k.elim
    | some ds =>
      simp only [e] at k
      have rr := a.reps (shs_eq e)
      by_cases c : ds.length ≤ sizeLine
      · simp only [c, if_true] at k
        have pp := PPost.of' (r := some (.fr (.lst ds))) R trivial k
        exact ⟨by rw [← rr.len]; exact c, fun q n => pp.new rr n⟩
      · simp only [c, if_false] at k; exact k.elim
theorem sim_dic0 : PE X (.Dict [] [] pos) (rdE B (fun p => some (.val (.fr (.dic [])) p))) :=
  pe_dnewK.imp fun σ H Q k => by
    obtain ⟨g, p, R, k⟩ := k
    intro q n
    exact (PPost.of' (r := some (.fr (.dic []))) R trivial k).newD .nil n
end
end Mi

/-! ## The mirror: slices, conversions, calls of built-in functions -/
namespace Mi
open PySem PySem.Spec PyProof.Rows L2 Lamp SlX

/-! ### slices -/
def cutL {α : Type} (xs : List α) (lo hi : Option Int) : List α := (xs.drop (HT.sIx xs.length 0 lo)).take (HT.sIx xs.length xs.length hi - HT.sIx xs.length 0 lo)
theorem cutL_map {α β : Type} (f : α → β) (xs : List α) (lo hi : Option Int) : (cutL xs lo hi).map f = cutL (xs.map f) lo hi := by
  unfold cutL
  rw [List.map_take, List.map_drop, List.length_map]
theorem Reps.drop {W : Wd} {ρ : List Addr} {H : Hp} : ∀ {ds : List D} {xs : List V} (n : Nat), Reps W ρ H ds xs → Reps W ρ H (ds.drop n) (xs.drop n)
  | _, _, 0, r => r
  | _, _, _ + 1, .nil => .nil
  | _, _, n + 1, .cons _ t => t.drop n
theorem Reps.take {W : Wd} {ρ : List Addr} {H : Hp} : ∀ {ds : List D} {xs : List V} (n : Nat), Reps W ρ H ds xs → Reps W ρ H (ds.take n) (xs.take n)
  | _, _, 0, _ => .nil
  | _, _, _ + 1, .nil => .nil
  | _, _, n + 1, .cons h t => .cons h (t.take n)
theorem Reps.cut {W : Wd} {ρ : List Addr} {H : Hp} {ds : List D} {xs : List V} (r : Reps W ρ H ds xs) (lo hi : Option Int) : Reps W ρ H (cutL ds lo hi) (cutV xs lo hi) := by
  unfold cutL cutV
  rw [← r.len]
  exact (r.drop _).take _
def rSlTT (K : PySem.W.Frag) : V → Option Int → Option Int → Hp → VK → Prop := fun x lo hi H Q => ∃ a xs, x = .ref a ∧ SqT K H a xs ∧
  (HT.sIx xs.length 0 lo = 0 ∧ HT.sIx xs.length xs.length hi = xs.length → Q (.ref a) H) ∧ (¬ (HT.sIx xs.length 0 lo = 0 ∧ HT.sIx xs.length xs.length hi = xs.length) → NewT H (cutV xs lo hi) Q)
theorem sl_tupTT {X : Cx} : SlR X (rSlTT X.K) := by
  intro pins s σ H x v vl vu lo hi sl Q I rx hs pl pu h
  obtain ⟨a, xs, rfl, hx, q1, q2⟩ := h
  cases rx
  obtain ⟨its, r, ht, hz⟩ := I.tuple hx
  have hlen : its.toArray.size = xs.length := by rw [List.size_toArray]; exact r.length.symm
  by_cases hw : HT.sIx xs.length 0 lo = 0 ∧ HT.sIx xs.length xs.length hi = xs.length
  · refine ⟨"tuple", _, PyProof.Rows.slot_tuple_getitem.lookup, ht.typeIs, ?_⟩
    exact getItem_tuple_whole ht hs pl pu (by rw [hlen]; exact hw) ⟨.ref a, H, I, rfl, q1 hw⟩
  · refine ⟨"tuple", _, PyProof.Rows.slot_tuple_getitem.lookup, ht.typeIs, ?_⟩
    refine HT.getItem_tuple_cut ht hs pl pu (by rw [hlen]; exact hw) ?_ (by rw [hlen]; exact hz)
    rw [hlen]
    exact newT_ok I ((r.drop (HT.sIx xs.length 0 lo)).take (HT.sIx xs.length xs.length hi - HT.sIx xs.length 0 lo)) (Nat.le_trans (cutV_length xs lo hi) hz) (q2 hw)
def dSl : D → Option Int → Option Int → Option RV
  | .lst ds, lo, hi => some (.fr (.lst (cutL ds lo hi)))
  | .scr ns, lo, hi => some (.fr (.lst ((cutL ns lo hi).map .int)))
  | .tup ds, lo, hi => some (.sh (.tup (cutL ds lo hi)))
  | .str s, lo, hi => if s.length ≤ sizeLine then some (.sh (.str (cutS s lo hi))) else none
  | _, _, _ => none
theorem cut_whole {α : Type} {xs : List α} {lo hi : Option Int} (h : HT.sIx xs.length 0 lo = 0 ∧ HT.sIx xs.length xs.length hi = xs.length) : cutL xs lo hi = xs := by
  unfold cutL
  rw [h.1, h.2]
  simp
section
variable {X : Cx} {W : Wd} {B : Bd}
theorem s_any (hK : X.K = W.K) : SlR X (fun x lo hi H Q => rSlL X.K x lo hi H Q ∨ rSlTT X.K x lo hi H Q ∨ rSlS x lo hi H Q) := sl_list.or (sl_tupTT.or sl_str)
theorem s_ok (hK : X.K = W.K) : PSl W (fun x lo hi H Q => rSlL X.K x lo hi H Q ∨ rSlTT X.K x lo hi H Q ∨ rSlS x lo hi H Q) dSl := by
  refine ⟨fun ρ H d v lo hi Q a h => ?_, fun d lo hi => ?_⟩
  · unfold dSl at h
    split at h
    · obtain ⟨p, xs, rfl, s, rr⟩ := a.lst
      exact .inl ⟨p, xs, rfl, by rw [hK]; exact s, fun q n => h.new (rr.cut _ _) n⟩
    · obtain ⟨p, rfl, s⟩ := a.scr
      rename_i ns
      refine .inl ⟨p, _, rfl, by rw [hK]; exact s, fun q n => ?_⟩
      have e : cutV (ns.map V.int) lo hi = (cutL ns lo hi).map V.int := (cutL_map V.int ns lo hi).symm
      rw [e]
      exact h.new (Reps.ints _) n
    · obtain ⟨p, xs, e1, s, rr⟩ := a.tup
      subst e1
      have t1 : Rep W ρ H (.tup _) (.ref p) := a.elim id fun ⟨_, _, z⟩ => nomatch z
      refine .inr (.inl ⟨p, xs, rfl, by rw [hK]; exact s, fun w => ?_, fun _ => newT_rep (rr.cut _ _) h⟩)
      rw [← rr.len] at w
      rw [cut_whole w] at h
      exact h.part t1
    · split at h
      · rename_i c
        exact .inr (.inr ⟨_, a.str, c, h.str⟩)
      · exact h.elim
    · exact h.elim
  · unfold dSl
    split <;> first | trivial | (split <;> trivial)
variable {e : Expr} {mo : EM} {lo hi : Option Expr} {ml mh : Option EM} {pos p2 : Pos}
theorem sim_sl (hK : X.K = B.W.K) (he : PE X e (rdE B mo)) (hl : SimO X B lo ml) (hh : SimO X B hi mh) : PE X (.Subscript e (.Slice lo hi none p2) pos) (rdE B (mSl dSl mo ml mh)) :=
  (pe_slice (s_any hK) he (po_of hl) (po_of hh)).imp fun σ H Q k => by
    refine bind_rd (k := fun ro p0 => if isFr ro then none else bindE (mPart ml) (fun rl p1 => match asPart ml.isSome rl with
      | none => none
      | some l => bindE (mPart mh) (fun rh p => match get p ro, asPart mh.isSome rh with
        | some d, some h => ret p (dSl d l h)
        | _, _ => none) p1) p0) k fun g p1 ro v H1 R1 a1 k1 => ?_
    by_cases n : isFr ro = true
    · simp only [n, if_true] at k1; exact k1.elim
    · simp only [n] at k1
      have nf : ∀ d, ro ≠ .fr d := fun d z => n (by rw [z]; rfl)
      refine ⟨g, p1, R1, ?_⟩
      unfold bindE at k1
      cases e1 : mPart ml p1 with
      | none => rw [e1] at k1; exact k1
      | some w =>
        rw [e1] at k1
        cases w with
        | exc x st => exact k1
        | val rl p2 =>
          intro vl H2 ρ2 R2 q2 f2 al
          have k2 := Post.later q2 f2 k1
          simp only at k2
          cases eo : asPart ml.isSome rl with
          | none => simp only [eo] at k2; exact k2.elim
          | some o =>
            simp only [eo] at k2
            refine asPart_rep (Q := fun l H2 => tOf B mh σ H2 fun u H3 => rSlL X.K v l u H3 Q ∨ rSlTT X.K v l u H3 Q ∨ rSlS v l u H3 Q) al eo ?_
            refine ⟨⟨ρ2, g.hid⟩, p2, R2, ?_⟩
            cases e2 : mPart mh p2 with
            | none => simp only [e2] at k2; exact k2
            | some w =>
              simp only [e2] at k2
              cases w with
              | exc x st => exact k2
              | val rh p3 =>
                intro vh H3 ρ3 R3 q3 f3 ah
                have k3 := Post.later (g := ⟨ρ2, g.hid⟩) (ρ' := ρ3) q3 f3 k2
                cases eh : asPart mh.isSome rh with
                | none => cases e3 : get p3 ro <;> simp only [eh, e3] at k3 <;> exact k3.elim
                | some o2 =>
                  cases e3 : get p3 ro with
                  | none => simp only [e3] at k3; exact k3.elim
                  | some d =>
                    simp only [eh, e3] at k3
                    refine asPart_rep (Q := fun u H3 => rSlL X.K v o u H3 Q ∨ rSlTT X.K v o u H3 Q ∨ rSlS v o u H3 Q) ah eh ?_
                    have aro : RepR B ⟨ρ3, g.hid⟩ σ H3 p3 ro v := RepR.on (g := g) nf (f2.trans f3) (List.IsPrefix.trans q2 q3) a1
                    exact (s_ok hK).ok _ _ _ _ _ _ _ (get_rep R3 aro e3) (PPost.of' R3 ((s_ok hK).np _ _ _) k3)
end
end Mi

/-! ## The mirror: calls of built-in functions and types -/
namespace Mi
open PySem PySem.Spec PyProof.Rows L2 Lamp SlX

def asInts : List D → Option (List Int)
  | [] => some []
  | .int i :: ds => match asInts ds with
    | some r => some (i :: r)
    | none => none
  | _ => none
def asStrs : List D → Option (List Str)
  | [] => some []
  | .str i :: ds => match asStrs ds with
    | some r => some (i :: r)
    | none => none
  | _ => none
def asBls : List D → Option (List Bool)
  | [] => some []
  | .bl i :: ds => match asBls ds with
    | some r => some (i :: r)
    | none => none
  | _ => none
theorem asInts_eq : ∀ {ds : List D} {ns : List Int}, asInts ds = some ns → ds = ns.map D.int
  | [], ns, e => by cases e; rfl
  | d :: ds, ns, e => by
    cases d with
    | int i =>
      unfold asInts at e
      cases e1 : asInts ds with
      | none => rw [e1] at e; cases e
      | some r => rw [e1] at e; cases e; rw [List.map_cons, ← asInts_eq e1]
    | _ => cases e
theorem asStrs_eq : ∀ {ds : List D} {ns : List Str}, asStrs ds = some ns → ds = ns.map D.str
  | [], ns, e => by cases e; rfl
  | d :: ds, ns, e => by
    cases d with
    | str i =>
      unfold asStrs at e
      cases e1 : asStrs ds with
      | none => rw [e1] at e; cases e
      | some r => rw [e1] at e; cases e; rw [List.map_cons, ← asStrs_eq e1]
    | _ => cases e
theorem asBls_eq : ∀ {ds : List D} {ns : List Bool}, asBls ds = some ns → ds = ns.map D.bl
  | [], ns, e => by cases e; rfl
  | d :: ds, ns, e => by
    cases d with
    | bl i =>
      unfold asBls at e
      cases e1 : asBls ds with
      | none => rw [e1] at e; cases e
      | some r => rw [e1] at e; cases e; rw [List.map_cons, ← asBls_eq e1]
    | _ => cases e
@[simp] theorem asInts_map (ns : List Int) : asInts (ns.map D.int) = some ns := by
  induction ns with
  | nil => rfl
  | cons a r ih => simp [asInts, ih]
@[simp] theorem asStrs_map (ns : List Str) : asStrs (ns.map D.str) = some ns := by
  induction ns with
  | nil => rfl
  | cons a r ih => simp [asStrs, ih]
@[simp] theorem asBls_map (ns : List Bool) : asBls (ns.map D.bl) = some ns := by
  induction ns with
  | nil => rfl
  | cons a r ih => simp [asBls, ih]
section
variable {W : Wd} {ρ : List Addr} {H : Hp}
theorem Reps.vInts : ∀ {ns : List Int} {xs : List V}, Reps W ρ H (ns.map D.int) xs → xs = ns.map V.int
  | [], _, .nil => rfl
  | n :: r, _, .cons h t => by cases h; rw [List.map_cons, ← Reps.vInts t]
theorem Reps.vStrs : ∀ {ns : List Str} {xs : List V}, Reps W ρ H (ns.map D.str) xs → xs = ns.map V.str
  | [], _, .nil => rfl
  | n :: r, _, .cons h t => by cases h; rw [List.map_cons, ← Reps.vStrs t]
theorem Reps.vBls : ∀ {ns : List Bool} {xs : List V}, Reps W ρ H (ns.map D.bl) xs → xs = ns.map V.bl
  | [], _, .nil => rfl
  | n :: r, _, .cons h t => by cases h; rw [List.map_cons, ← Reps.vBls t]
theorem Reps.strs : ∀ (ns : List Str), Reps W ρ H (ns.map D.str) (ns.map V.str)
  | [] => .nil
  | n :: r => .cons (.str n) (Reps.strs r)
/-- a sequence of ints, read -/
theorem repB_ints {d : D} {v : V} {ds : List D} {ns : List Int} (h : RepB W ρ H d v) (e : d = .lst ds ∨ d = .tup ds) (e2 : asInts ds = some ns) : ∃ a, v = .ref a ∧ ((d = .lst ds ∧ SqL W.K H a (ns.map V.int)) ∨ SqT W.K H a (ns.map V.int)) := by
  have := asInts_eq e2
  subst this
  rcases e with rfl | rfl
  · obtain ⟨a, xs, rfl, s, r⟩ := h.lst
    rw [r.vInts] at s
    exact ⟨a, rfl, .inl ⟨rfl, s⟩⟩
  · obtain ⟨a, xs, rfl, s, r⟩ := h.tup
    rw [r.vInts] at s
    exact ⟨a, rfl, .inr s⟩
end
/-! ### list(..), tuple(..), dict(..) -/
def dList : List D → Option RV
  | [.lst ds] => some (.fr (.lst ds))
  | [.tup ds] => some (.fr (.lst ds))
  | [.dic kvs] => if kvs.all (fun kv => match kv.1 with | .tup _ => false | _ => true) then some (.fr (.lst (kvs.map (·.1)))) else none
  | _ => none
theorem RepK.keys {W : Wd} {ρ : List Addr} {H : Hp} : ∀ {kvs : List (D × D)} {kys : List (Key × V)}, RepK W ρ H kvs kys → Reps W ρ H (kvs.map (·.1)) (kys.map fun kv => kV kv.1)
  | _, _, .nil => .nil
  | _, _, .cons e h t => .cons (by show Rep _ _ _ _ _; rw [e]; exact rep_key _) t.keys
section
variable {X : Cx} {W : Wd}
theorem k_list (hK : X.K = W.K) (hc : X.calm = true) : C1 X W (.type "list") dList := ⟨_, call_list_of.or (call_listD hc), fun ρ H ds vs Q a h => by
    unfold dList at h
    split at h
    · obtain ⟨v, rfl, r⟩ := repBs1 a
      obtain ⟨p, xs, rfl, s, rr⟩ := r.lst
      exact .inl ⟨p, xs, rfl, .inl (by rw [hK]; exact s), fun l n => h.new rr n⟩
    · obtain ⟨v, rfl, r⟩ := repBs1 a
      obtain ⟨p, xs, rfl, s, rr⟩ := r.tup
      exact .inl ⟨p, xs, rfl, .inr (by rw [hK]; exact s), fun l n => h.new rr n⟩
    · obtain ⟨v, rfl, r⟩ := repBs1 a
      split at h
      · rename_i c
        obtain ⟨p, kys, rfl, rd, rr⟩ := r.dicK c
        exact .inr ⟨p, kys, rfl, rd, fun l n => h.new rr.keys n⟩
      · exact h.elim
    · exact h.elim, fun ds => by unfold dList; split <;> first | trivial | (split <;> trivial)⟩
def dTuple : List D → Option RV
  | [.lst ds] => some (.sh (.tup ds))
  | [.tup ds] => some (.sh (.tup ds))
  | _ => none
theorem k_tuple (hK : X.K = W.K) : C1 X W (.type "tuple") dTuple := ⟨_, call_tuple_of.or call_tupF, fun ρ H ds vs Q a h => by
    unfold dTuple at h
    split at h
    · rename_i ds
      obtain ⟨v, rfl, r⟩ := repBs1 a
      obtain ⟨p, xs, rfl, s, rr⟩ := r.lst
      by_cases c : flat ds = true
      · exact .inl ⟨p, xs, rfl, .inl ⟨by rw [hK]; exact s, fun l n => h.newT c rr n⟩⟩
      · exact .inr ⟨p, xs, rfl, by rw [hK]; exact s, fun l its n => h.newF (by simpa using c) rr n⟩
    · obtain ⟨v, rfl, r⟩ := repBs1 a
      have t1 : Rep W ρ H (.tup _) v := r.elim id fun ⟨_, _, z⟩ => nomatch z
      obtain ⟨p, xs, e1, s, rr⟩ := r.tup
      subst e1
      exact .inl ⟨p, xs, rfl, .inr ⟨by rw [hK]; exact s, h.part t1⟩⟩
    · exact h.elim, fun ds => by unfold dTuple; split <;> trivial⟩
end
/-- a key that a dict may have -/
def asKey : D → Option Key
  | .int i => some (.inl i)
  | .str s => some (.inr s)
  | _ => none
theorem asKey_eq {d : D} {k : Key} (e : asKey d = some k) : d = keyD k := by
  cases d <;> first | (cases e; rfl) | cases e
def kEq : D → D → Bool
  | .int i, .int j => i == j
  | .str a, .str b => decide (a = b)
  | _, _ => false
theorem kEq_key (a b : Key) : kEq (keyD a) (keyD b) = decide (a = b) := by
  cases a <;> cases b
  · rw [key_ll]; rfl
  · rw [key_lr]; rfl
  · rw [key_rl]; rfl
  · rw [key_rr]; rfl
/-- in its place, or at the end -/
def putD (kvs : List (D × D)) (k v : D) : List (D × D) := if kvs.any (fun kv => kEq kv.1 k) then kvs.map (fun kv => if kEq kv.1 k then (kv.1, v) else kv) else kvs ++ [(k, v)]
def lookD (kvs : List (D × D)) (k : D) : Option D := (kvs.find? fun kv => kEq kv.1 k).map (·.2)
def dropD (kvs : List (D × D)) (k : D) : List (D × D) := kvs.filter fun kv => !kEq kv.1 k
section
variable {W : Wd} {ρ : List Addr} {H : Hp}
theorem RepK.any (k : Key) : ∀ {kvs : List (D × D)} {kys : List (Key × V)}, RepK W ρ H kvs kys → kvs.any (fun kv => kEq kv.1 (keyD k)) = kys.any fun kv => decide (kv.1 = k)
  | _, _, .nil => rfl
  | _, _, .cons e h t => by
    rw [List.any_cons, List.any_cons, RepK.any k t]
    congr 1
    rw [e, kEq_key]
theorem RepK.cons' {p : D × D} {q : Key × V} {r : List (D × D)} {ys : List (Key × V)} (e : p.1 = keyD q.1) (h : Rep W ρ H p.2 q.2) (t : RepK W ρ H r ys) : RepK W ρ H (p :: r) (q :: ys) := .cons e h t
theorem RepK.repl (k : Key) {d : D} {x : V} (hd : Rep W ρ H d x) : ∀ {kvs : List (D × D)} {kys : List (Key × V)}, RepK W ρ H kvs kys → RepK W ρ H (kvs.map fun kv => if kEq kv.1 (keyD k) then (kv.1, d) else kv) (kys.map fun kv => if kv.1 = k then (kv.1, x) else kv)
  | _, _, .nil => .nil
  | _, _, .cons (k := k') (kd := kd) e h t => by
    rw [List.map_cons, List.map_cons]
    subst e
    have c := kEq_key k' k
    refine RepK.cons' ?_ ?_ (t.repl k hd)
    · show (if kEq (keyD k') (keyD k) = true then _ else _ : D × D).1 = keyD (if k' = k then _ else _ : Key × V).1
      rw [c]
      by_cases q : k' = k
      · rw [if_pos (decide_eq_true q), if_pos q]
      · rw [if_neg (by simp [q]), if_neg q]
    · show Rep W ρ H (if kEq (keyD k') (keyD k) = true then _ else _ : D × D).2 (if k' = k then _ else _ : Key × V).2
      rw [c]
      by_cases q : k' = k
      · rw [if_pos (decide_eq_true q), if_pos q]
        exact hd
      · rw [if_neg (by simp [q]), if_neg q]
        exact h
theorem RepK.app : ∀ {kvs kvs' : List (D × D)} {kys kys' : List (Key × V)}, RepK W ρ H kvs kys → RepK W ρ H kvs' kys' → RepK W ρ H (kvs ++ kvs') (kys ++ kys')
  | _, _, _, _, .nil, h => h
  | _, _, _, _, .cons e h t, q => .cons e h (t.app q)
theorem RepK.put (k : Key) {d : D} {x : V} (hd : Rep W ρ H d x) {kvs : List (D × D)} {kys : List (Key × V)} (r : RepK W ρ H kvs kys) : RepK W ρ H (putD kvs (keyD k) d) (putK kys k x) := by
  unfold putD putK
  rw [r.any k]
  split
  · exact r.repl k hd
  · exact r.app (.cons rfl hd .nil)
theorem RepK.look (k : Key) : ∀ {kvs : List (D × D)} {kys : List (Key × V)}, RepK W ρ H kvs kys → (lookD kvs (keyD k) = none ∧ valV kys k = none) ∨ ∃ d x, lookD kvs (keyD k) = some d ∧ valV kys k = some x ∧ Rep W ρ H d x
  | _, _, .nil => .inl ⟨rfl, rfl⟩
  | _, _, .cons (k := k') (kd := kd) (r := r) (x := x) (ys := ys) (d := d) e h t => by
    subst e
    have c := kEq_key k' k
    by_cases q : k' = k
    · right
      refine ⟨d, x, ?_, valV_pos (p := (k', x)) q, h⟩
      unfold lookD
      rw [List.find?_cons_of_pos (by rw [c, decide_eq_true q])]
      rfl
    · have e1 : lookD ((keyD k', d) :: r) (keyD k) = lookD r (keyD k) := by
        unfold lookD
        rw [List.find?_cons_of_neg (by rw [c, decide_eq_false q]; decide)]
      have e2 : valV ((k', x) :: ys) k = valV ys k := valV_neg (p := (k', x)) q
      rw [e1, e2]
      exact t.look k
theorem RepK.drop (k : Key) : ∀ {kvs : List (D × D)} {kys : List (Key × V)}, RepK W ρ H kvs kys → RepK W ρ H (dropD kvs (keyD k)) (dropK kys k)
  | _, _, .nil => .nil
  | _, _, .cons (k := k') (kd := kd) (r := r) (x := x) (ys := ys) (d := d) e h t => by
    subst e
    have c := kEq_key k' k
    unfold dropD dropK
    by_cases q : k' = k
    · rw [List.filter_cons_of_neg (by show ¬ (!kEq (keyD k') (keyD k)) = true; rw [c, decide_eq_true q]; decide), List.filter_cons_of_neg (by simp [q])]
      exact t.drop k
    · rw [List.filter_cons_of_pos (by show (!kEq (keyD k') (keyD k)) = true; rw [c, decide_eq_false q]; rfl), List.filter_cons_of_pos (by simp [q])]
      exact .cons rfl h (t.drop k)
end
/-- the pairs of a sequence of pairs -/
def asPairs : List D → Option (List (D × D))
  | [] => some []
  | .tup [k, v] :: ds => match asKey k, asPairs ds with
    | some _, some r => some ((k, v) :: r)
    | _, _ => none
  | .pr [k, v] :: ds => match asKey k, asPairs ds with
    | some _, some r => some ((k, v) :: r)
    | _, _ => none
  | _ => none
def mergeD (kvs more : List (D × D)) : List (D × D) := more.foldl (fun acc kv => putD acc kv.1 kv.2) kvs
section
variable {W : Wd} {ρ : List Addr} {H : Hp}
theorem RepK.merge : ∀ {more : List (D × D)} {ms : List (Key × V)} {kvs : List (D × D)} {kys : List (Key × V)}, RepK W ρ H more ms → RepK W ρ H kvs kys → RepK W ρ H (mergeD kvs more) (mergeK kys ms)
  | _, _, _, _, .nil, r => r
  | _, _, kvs, kys, .cons (k := k) (d := d) (x := x) (r := r0) (ys := ys) e h t, r => by
    subst e
    have q : RepK W ρ H (mergeD (putD kvs (keyD k) d) r0) (mergeK (putK kys k x) ys) := RepK.merge t (r.put _ h)
    exact q
/-- .. as they lie: refs to pairs -/
theorem pairs_lie : ∀ {ds : List D} {xs : List V} {prs : List (D × D)}, Reps W ρ H ds xs → asPairs ds = some prs → ∃ (ps : List Addr) (kys : List (Key × V)), xs = ps.map V.ref ∧ RepK W ρ H prs kys ∧ Paired (fun p (kv : Key × V) => SqT W.K H p [kV kv.1, kv.2]) ps kys
  | _, _, prs, .nil, e => by cases e; exact ⟨[], [], rfl, .nil, .nil⟩
  | d :: ds, _, prs, .cons h t, e => by
    have step : ∀ {k v : D} {a : Addr} {xs : List V} {prs : List (D × D)}, SqT W.K H a xs → Reps W ρ H [k, v] xs → (match asKey k, asPairs ds with
        | some _, some r => some ((k, v) :: r)
        | _, _ => none) = some prs → ∀ {rest : List V}, Reps W ρ H ds rest → ∃ (ps : List Addr) (kys : List (Key × V)), V.ref a :: rest = ps.map V.ref ∧ RepK W ρ H prs kys ∧ Paired (fun p (kv : Key × V) => SqT W.K H p [kV kv.1, kv.2]) ps kys := fun {k v a xs prs} s r e {rest} t => by
      cases e1 : asKey k with
      | none => rw [e1] at e; cases e
      | some kk =>
        cases e2 : asPairs ds with
        | none => rw [e1, e2] at e; cases e
        | some prs' =>
          rw [e1, e2] at e
          cases e
          obtain ⟨ps, kys, e3, r3, p3⟩ := pairs_lie t e2
          have ek := asKey_eq e1
          subst ek
          obtain ⟨x, y, rfl, hx, hy⟩ := reps2 r
          have ex : x = kV kk := by
            cases kk with
            | inl i => cases hx; rfl
            | inr z => cases hx; rfl
          subst ex
          exact ⟨a :: ps, (kk, y) :: kys, by rw [List.map_cons, e3], .cons rfl hy r3, .cons s p3⟩
    cases d with
    | tup es =>
      match es, e with
      | [k, v], e =>
        cases h with
        | tup hh rr => exact step hh.seq rr e t
      | [], e => cases e
      | [_], e => cases e
      | _ :: _ :: _ :: _, e => cases e
    | pr es =>
      match es, e with
      | [k, v], e =>
        cases h with
        | pr hh rr => exact step (SqT.of hh) rr e t
      | [], e => cases e
      | [_], e => cases e
      | _ :: _ :: _ :: _, e => cases e
    | _ => cases e
end
/-- dict(t) of a plain tuple of pairs -/
theorem call_dictTF {X : Cx} (hcalm : X.calm = true) : CallR X (.type "dict") (fun xs H Q => ∃ (t : Addr) (its : List Value) (ps : List Addr) (kys : List (Key × V)), xs = [.ref t] ∧ H t = some (.frz (plainT its) (.tup (ps.map V.ref))) ∧
    Paired (fun p (kv : Key × V) => SqT X.K H p [kV kv.1, kv.2]) ps kys ∧ ∀ p, H p = none → Q (.ref p) (upd H p (.dK (mergeK [] kys)))) := by
  intro pins s σ H xs us Q I r q
  obtain ⟨t, its, ps, kys, ex, ht, hps, q⟩ := q
  subst ex
  obtain ⟨u, eu, rx⟩ := vals1 r
  subst eu
  cases rx
  obtain ⟨hget, hz, its', rv, hT⟩ := (show ObjOk X.prog X.w H s.heap t (.frz (plainT its) (.tup (ps.map V.ref))) from I.hok t _ ht)
  have ei := refs_at rv
  subst ei
  have hT' : s.heap.IsTuple t (ps.map Value.ref).toArray := hT
  have edat : its.toArray = (ps.map Value.ref).toArray := by
    obtain ⟨o, ho, hc, n, hd⟩ := hT'
    rw [hget] at ho
    cases ho
    exact (Data.seq.inj hd).1
  obtain ⟨prs, pv, rel, hl, hl2, hp⟩ := Lamp.pairs2 I hps
  rw [List.length_map] at hz
  refine Lamp.KE_dict (its := its) (ps := ps) (prs := prs) (pv := pv) (I.ok.hd hcalm) hget edat hl hl2 hp (by rw [hl]; exact hz) fun h' tk hd' k => ?_
  have hm : (s.heap.objs.size == sysModules) = false := beq_eq_false_iff_ne.mpr (Nat.ne_of_gt I.big)
  have hlen : (mergeK [] kys).length ≤ sizeLine := by
    refine Nat.le_trans (length_mergeK kys []) ?_
    rw [List.length_nil, Nat.zero_add, rel.length, hl2]
    exact hz
  exact ⟨.ref s.heap.objs.size, upd H s.heap.objs.size (.dK (mergeK [] kys)), I.laid (t' := tk) k (Nat.le_refl _) (show ObjOk X.prog X.w _ _ _ (.dK (mergeK [] kys)) from ⟨hlen, hm, merged [] prs, KV.merge rel .nil, hd'⟩), rfl, q _ (I.hok.fresh (Nat.le_refl _))⟩
def dDict : List D → Option RV
  | [.dic kvs] => if kvs.all (fun kv => match kv.1 with | .tup _ => false | _ => true) then some (.fr (.dic kvs)) else none
  | [.tup ds] => if flat ds then none else (asPairs ds).map fun prs => .fr (.dic (mergeD [] prs))
  | [.lst ds] => (asPairs ds).map fun prs => .fr (.dic (mergeD [] prs))
  | _ => none
section
variable {X : Cx} {W : Wd}
theorem k_dict (hK : X.K = W.K) (hc : X.calm = true) : C1 X W (.type "dict") dDict := ⟨_, call_dictD.or ((call_dictTF hc).or (call_dictP hc)), fun ρ H ds vs Q a h => by
    unfold dDict at h
    split at h
    · obtain ⟨v, rfl, r⟩ := repBs1 a
      split at h
      · rename_i c
        obtain ⟨p, kys, rfl, rd, rr⟩ := r.dicK c
        exact .inl ⟨p, kys, rfl, rd, fun l n => h.newD rr n⟩
      · exact h.elim
    · rename_i ds
      obtain ⟨v, rfl, r⟩ := repBs1 a
      split at h
      · exact h.elim
      · rename_i c
        cases e : asPairs ds with
        | none => rw [e] at h; exact h.elim
        | some prs =>
          rw [e] at h
          rcases r with r | ⟨_, _, z⟩
          · cases r with
            | tup ht rr =>
              unfold TupAt at ht
              rw [if_neg c] at ht
              obtain ⟨its, ht⟩ := ht
              obtain ⟨ps, kys, rfl, r3, p3⟩ := pairs_lie rr e
              exact .inr (.inl ⟨_, its, ps, kys, rfl, ht, by rw [hK]; exact p3, fun l n => PPost.newD h (RepK.merge r3 .nil) n⟩)
          · cases z
    · rename_i ds
      obtain ⟨v, rfl, r⟩ := repBs1 a
      cases e : asPairs ds with
      | none => rw [e] at h; exact h.elim
      | some prs =>
        rw [e] at h
        obtain ⟨p, xs, rfl, s, rr⟩ := r.lst
        obtain ⟨ps, kys, rfl, r3, p3⟩ := pairs_lie rr e
        exact .inr (.inr ⟨p, ps, kys, rfl, by rw [hK]; exact s, by rw [hK]; exact p3, fun l n => PPost.newD h (RepK.merge r3 .nil) n⟩)
    · exact h.elim, fun ds => by
      unfold dDict
      split
      · split <;> trivial
      · split
        · trivial
        · rename_i ds _; cases asPairs ds <;> trivial
      · rename_i ds; cases asPairs ds <;> trivial
      · trivial⟩
end
end Mi

/-! ## The mirror: further calls -/
namespace Mi
open PySem PySem.Spec PyProof.Rows L2 Lamp SlX Gd

def dStr : List D → Option RV
  | [.int i] => if i.natAbs.log2 < 1920 then some (.sh (.str (toString i))) else none
  | [.str s] => some (.sh (.str s))
  | _ => none
def dInt : List D → Option RV
  | [.int i] => some (.sh (.int i))
  | [.bl k] => some (.sh (.int (if k then 1 else 0)))
  | [.str s] => match PySem.intText? s with
    | some n => if s.length ≤ 640 then some (.sh (.int n)) else none
    | none => none
  | _ => none
def dAbs : List D → Option RV
  | [.int i] => some (.sh (.int (if i < 0 then -i else i)))
  | _ => none
def listOf : D → Option (List D)
  | .lst ds => some ds
  | _ => none
def maxL : List Int → Int
  | [] => 0
  | [a] => a
  | a :: r => if maxL r > a then maxL r else a
def minL : List Int → Int
  | [] => 0
  | [a] => a
  | a :: r => if minL r < a then minL r else a
theorem maxL_spec : ∀ {ns : List Int}, 0 < ns.length → maxL ns ∈ ns ∧ ∀ y ∈ ns, y ≤ maxL ns
  | [a], _ => ⟨List.mem_singleton.mpr rfl, fun y h => by rw [List.mem_singleton] at h; subst h; exact Int.le_refl _⟩
  | a :: b :: r, _ => by
    obtain ⟨h1, h2⟩ := maxL_spec (ns := b :: r) (by simp)
    show (if maxL (b :: r) > a then maxL (b :: r) else a) ∈ _ ∧ ∀ y ∈ _, y ≤ (if maxL (b :: r) > a then maxL (b :: r) else a)
    by_cases c : maxL (b :: r) > a
    · rw [if_pos c]
      refine ⟨List.mem_cons_of_mem _ h1, fun y h => ?_⟩
      rcases List.mem_cons.mp h with rfl | h
      · omega
      · exact h2 y h
    · rw [if_neg c]
      refine ⟨List.mem_cons_self, fun y h => ?_⟩
      rcases List.mem_cons.mp h with rfl | h
      · exact Int.le_refl _
      · have := h2 y h; omega
theorem minL_spec : ∀ {ns : List Int}, 0 < ns.length → minL ns ∈ ns ∧ ∀ y ∈ ns, minL ns ≤ y
  | [a], _ => ⟨List.mem_singleton.mpr rfl, fun y h => by rw [List.mem_singleton] at h; subst h; exact Int.le_refl _⟩
  | a :: b :: r, _ => by
    obtain ⟨h1, h2⟩ := minL_spec (ns := b :: r) (by simp)
    show (if minL (b :: r) < a then minL (b :: r) else a) ∈ _ ∧ ∀ y ∈ _, (if minL (b :: r) < a then minL (b :: r) else a) ≤ y
    by_cases c : minL (b :: r) < a
    · rw [if_pos c]
      refine ⟨List.mem_cons_of_mem _ h1, fun y h => ?_⟩
      rcases List.mem_cons.mp h with rfl | h
      · omega
      · exact h2 y h
    · rw [if_neg c]
      refine ⟨List.mem_cons_self, fun y h => ?_⟩
      rcases List.mem_cons.mp h with rfl | h
      · exact Int.le_refl _
      · have := h2 y h; omega
theorem max_uniq {ns : List Int} {a b : Int} (h1 : a ∈ ns) (h2 : ∀ y ∈ ns, y ≤ a) (h3 : b ∈ ns) (h4 : ∀ y ∈ ns, y ≤ b) : a = b := Int.le_antisymm (h4 a h1) (h2 b h3)
theorem min_uniq {ns : List Int} {a b : Int} (h1 : a ∈ ns) (h2 : ∀ y ∈ ns, a ≤ y) (h3 : b ∈ ns) (h4 : ∀ y ∈ ns, b ≤ y) : a = b := Int.le_antisymm (h2 b h3) (h4 a h1)
def dMax : List D → Option RV
  | [.int i, .int j] => some (.sh (.int (if j > i then j else i)))
  | [.lst ds] => match asInts ds with
    | some ns => if 0 < ns.length then some (.sh (.int (maxL ns))) else none
    | none => none
  | _ => none
def dMin : List D → Option RV
  | [.int i, .int j] => some (.sh (.int (if j < i then j else i)))
  | [.lst ds] => match asInts ds with
    | some ns => if 0 < ns.length then some (.sh (.int (minL ns))) else none
    | none => none
  | _ => none
def dSum : List D → Option RV
  | [.lst ds] => match asInts ds with
    | some ns => some (.sh (.int ns.sum))
    | none => none
  | _ => none
def dAll : List D → Option RV
  | [.lst ds] => match asBls ds with
    | some bs => some (.sh (.bl (bs.all id)))
    | none => none
  | _ => none
def dAny : List D → Option RV
  | [.lst ds] => match asBls ds with
    | some bs => some (.sh (.bl (bs.any id)))
    | none => none
  | _ => none
def sortI (ns : List Int) : List Int := ns.mergeSort fun a b => decide (a ≤ b)
theorem sortI_uniq {ns ms : List Int} (h1 : ms.Perm ns) (h2 : ms.Pairwise (· ≤ ·)) : ms = sortI ns := by
  have p1 : (sortI ns).Perm ns := List.mergeSort_perm _ _
  have s1 : (sortI ns).Pairwise (fun a b => decide (a ≤ b) = true) := List.pairwise_mergeSort (fun a b c h1 h2 => by simp at *; omega) (fun a b => by simp; omega) ns
  exact List.Perm.eq_of_pairwise (le := fun a b : Int => a ≤ b) (fun a b _ _ h1 h2 => Int.le_antisymm h1 h2) h2 (s1.imp fun h => of_decide_eq_true h) (h1.trans p1.symm)
def dSorted : List D → Option RV
  | [.lst ds] => match asInts ds with
    | some ns => some (.fr (.lst ((sortI ns).map .int)))
    | none => none
  | _ => none
section
variable {X : Cx} {W : Wd}
theorem k_str : C1 X W (.type "str") dStr := ⟨_, call_str_int.or SkE.call_str_str, fun ρ H ds vs Q a h => by
    unfold dStr at h
    split at h
    · obtain ⟨v, rfl, r⟩ := repBs1 a
      split at h
      · rename_i c; exact .inl ⟨_, by rw [r.int], c, h.str⟩
      · exact h.elim
    · obtain ⟨v, rfl, r⟩ := repBs1 a
      exact .inr ⟨_, by rw [r.str], h.str⟩
    · exact h.elim, fun ds => by unfold dStr; split <;> first | trivial | (split <;> trivial)⟩
theorem k_int : C1 X W (.type "int") dInt := ⟨_, call_int1.or call_int_str, fun ρ H ds vs Q a h => by
    unfold dInt at h
    split at h
    · obtain ⟨v, rfl, r⟩ := repBs1 a
      exact .inl (.inl ⟨_, by rw [r.int], h.int⟩)
    · obtain ⟨v, rfl, r⟩ := repBs1 a
      exact .inl (.inr ⟨_, by rw [r.bl], h.int⟩)
    · obtain ⟨v, rfl, r⟩ := repBs1 a
      split at h
      · rename_i n e
        split at h
        · rename_i c; exact .inr ⟨_, n, by rw [r.str], e, c, h.int⟩
        · exact h.elim
      · exact h.elim
    · exact h.elim, fun ds => by unfold dInt; split <;> first | trivial | (split <;> first | trivial | (split <;> trivial))⟩
theorem k_abs : C1 X W (.builtin "abs") dAbs := ⟨_, call_abs, fun ρ H ds vs Q a h => by
    unfold dAbs at h
    split at h
    · obtain ⟨v, rfl, r⟩ := repBs1 a
      exact ⟨_, by rw [r.int], h.int⟩
    · exact h.elim, fun ds => by unfold dAbs; split <;> trivial⟩
theorem RepB.intsL {ρ : List Addr} {H : Hp} {ds : List D} {ns : List Int} {v : V} (h : RepB W ρ H (.lst ds) v) (e : asInts ds = some ns) : ∃ a, v = .ref a ∧ SqL W.K H a (ns.map V.int) := by
  obtain ⟨a, xs, rfl, s, r⟩ := h.lst
  rw [asInts_eq e] at r
  rw [r.vInts] at s
  exact ⟨a, rfl, s⟩
theorem RepB.blsL {ρ : List Addr} {H : Hp} {ds : List D} {ns : List Bool} {v : V} (h : RepB W ρ H (.lst ds) v) (e : asBls ds = some ns) : ∃ a, v = .ref a ∧ SqL W.K H a (ns.map V.bl) := by
  obtain ⟨a, xs, rfl, s, r⟩ := h.lst
  rw [asBls_eq e] at r
  rw [r.vBls] at s
  exact ⟨a, rfl, s⟩
theorem k_max (hK : X.K = W.K) (hc : X.calm = true) : C1 X W (.builtin "max") dMax := ⟨_, (call_max2 hc).or (cr_max hc), fun ρ H ds vs Q a h => by
    unfold dMax at h
    split at h
    · obtain ⟨v, w, rfl, r1, r2⟩ := repBs2 a
      exact .inl ⟨_, _, by rw [r1.int, r2.int], h.int⟩
    · obtain ⟨v, rfl, r⟩ := repBs1 a
      split at h
      · rename_i ns e
        split at h
        · rename_i c
          obtain ⟨p, rfl, s⟩ := r.intsL e
          exact .inr ⟨p, ns, rfl, by rw [hK]; exact s, c, fun m h1 h2 => by rw [max_uniq h1 h2 (maxL_spec c).1 (maxL_spec c).2]; exact h.int⟩
        · exact h.elim
      · exact h.elim
    · exact h.elim, fun ds => by unfold dMax; split <;> first | trivial | (split <;> first | trivial | (split <;> trivial))⟩
theorem k_min (hK : X.K = W.K) (hc : X.calm = true) : C1 X W (.builtin "min") dMin := ⟨_, (call_min2 hc).or (cr_min hc), fun ρ H ds vs Q a h => by
    unfold dMin at h
    split at h
    · obtain ⟨v, w, rfl, r1, r2⟩ := repBs2 a
      exact .inl ⟨_, _, by rw [r1.int, r2.int], h.int⟩
    · obtain ⟨v, rfl, r⟩ := repBs1 a
      split at h
      · rename_i ns e
        split at h
        · rename_i c
          obtain ⟨p, rfl, s⟩ := r.intsL e
          exact .inr ⟨p, ns, rfl, by rw [hK]; exact s, c, fun m h1 h2 => by rw [min_uniq h1 h2 (minL_spec c).1 (minL_spec c).2]; exact h.int⟩
        · exact h.elim
      · exact h.elim
    · exact h.elim, fun ds => by unfold dMin; split <;> first | trivial | (split <;> first | trivial | (split <;> trivial))⟩
theorem k_sum (hK : X.K = W.K) (hc : X.calm = true) : C1 X W (.builtin "sum") dSum := ⟨_, cr_sum hc, fun ρ H ds vs Q a h => by
    unfold dSum at h
    split at h
    · obtain ⟨v, rfl, r⟩ := repBs1 a
      split at h
      · rename_i ns e
        obtain ⟨p, rfl, s⟩ := r.intsL e
        exact ⟨p, ns, rfl, by rw [hK]; exact s, h.int⟩
      · exact h.elim
    · exact h.elim, fun ds => by unfold dSum; split <;> first | trivial | (split <;> trivial)⟩
theorem k_all (hK : X.K = W.K) (hc : X.calm = true) : C1 X W (.builtin "all") dAll := ⟨_, cr_all hc, fun ρ H ds vs Q a h => by
    unfold dAll at h
    split at h
    · obtain ⟨v, rfl, r⟩ := repBs1 a
      split at h
      · rename_i ns e
        obtain ⟨p, rfl, s⟩ := r.blsL e
        exact ⟨p, ns, rfl, by rw [hK]; exact s, h.bl⟩
      · exact h.elim
    · exact h.elim, fun ds => by unfold dAll; split <;> first | trivial | (split <;> trivial)⟩
theorem k_any (hK : X.K = W.K) (hc : X.calm = true) : C1 X W (.builtin "any") dAny := ⟨_, cr_any hc, fun ρ H ds vs Q a h => by
    unfold dAny at h
    split at h
    · obtain ⟨v, rfl, r⟩ := repBs1 a
      split at h
      · rename_i ns e
        obtain ⟨p, rfl, s⟩ := r.blsL e
        exact ⟨p, ns, rfl, by rw [hK]; exact s, h.bl⟩
      · exact h.elim
    · exact h.elim, fun ds => by unfold dAny; split <;> first | trivial | (split <;> trivial)⟩
theorem k_sorted (hK : X.K = W.K) : C1 X W (.builtin "sorted") dSorted := ⟨_, cr_sortedI, fun ρ H ds vs Q a h => by
    unfold dSorted at h
    split at h
    · obtain ⟨v, rfl, r⟩ := repBs1 a
      split at h
      · rename_i ns e
        obtain ⟨p, rfl, s⟩ := r.intsL e
        exact ⟨p, ns, rfl, by rw [hK]; exact s, fun ms q h1 h2 n => by rw [sortI_uniq h1 h2]; exact h.new (Reps.ints _) n⟩
      · exact h.elim
    · exact h.elim, fun ds => by unfold dSorted; split <;> first | trivial | (split <;> trivial)⟩
/-- repr of data -/
def reprOk (q : PyData) : Bool := q.showable && !q.hasDict && decide (q.depth ≤ 40) && decide (q.shown.length ≤ sizeLine)
def dRepr : List D → Option RV
  | [.lst ds] => match toPy (.lst ds) with
    | some q => if reprOk q then some (.sh (.str q.shown)) else none
    | none => none
  | [.tup ds] => match toPy (.tup ds) with
    | some q => if reprOk q then some (.sh (.str q.shown)) else none
    | none => none
  | _ => none
theorem k_repr {k : Nat} (hK : X.K = W.K) (hgd : X.A.guards = some []) (hr : Room k X.A) : C1 X W (.builtin "repr") dRepr := ⟨_, Gd.call_repr hgd hr, fun ρ H ds vs Q a h => by
    have fin : ∀ {d : D} {v : V} {q : PyData} {b : Addr}, RepB W ρ H d v → v = .ref b → toPy d = some q → PPost W ρ H Q (if reprOk q then some (.sh (.str q.shown)) else none) → Gd.rRepr X.K [v] H Q := fun {d v q b} r ev e h => by
      by_cases c : reprOk q = true
      · rw [if_pos c] at h
        unfold reprOk at c
        simp only [Bool.and_eq_true, Bool.not_eq_true', decide_eq_true_eq] at c
        obtain ⟨⟨⟨c1, c2⟩, c3⟩, c4⟩ := c
        subst ev
        exact ⟨b, q, rfl, by rw [hK]; exact dpB_of r e, c1, c2, c3, c4, h.str⟩
      · rw [if_neg c] at h; exact h.elim
    unfold dRepr at h
    split at h
    · obtain ⟨v, rfl, r⟩ := repBs1 a
      split at h
      · rename_i q e
        obtain ⟨b, _, ev, _⟩ := r.lst
        exact fin r ev e h
      · exact h.elim
    · obtain ⟨v, rfl, r⟩ := repBs1 a
      split at h
      · rename_i q e
        obtain ⟨b, _, ev, _⟩ := r.tup
        exact fin r ev e h
      · exact h.elim
    · exact h.elim, fun ds => by unfold dRepr; split <;> first | trivial | (split <;> first | trivial | (split <;> trivial))⟩
/-- divmod -/
noncomputable def dDivmod : List D → Option RV
  | [.int i, .int j] => @ite _ (0 < j ∧ j < 1073741824) (Classical.propDecidable _) (some (.sh (.pr [.int (i / j), .int (i % j)]))) none
  | _ => none
theorem k_divmod : C1 X W (.builtin "divmod") dDivmod := ⟨_, call_divmod, fun ρ H ds vs Q a h => by
    unfold dDivmod at h
    split at h
    · obtain ⟨v, w, rfl, r1, r2⟩ := repBs2 a
      split at h
      · rename_i c
        exact ⟨_, _, by rw [r1.int, r2.int], c, fun p n => h (.ref p) _ (Same.new n) (.pr upd_same (.cons (.int _) (.cons (.int _) .nil)))⟩
      · exact h.elim
    · exact h.elim, fun ds => by unfold dDivmod; split <;> first | trivial | (split <;> trivial)⟩
end
/-! ### in -/
def inS : D → D → Option RV
  | .str a, .str b => some (.sh (.bl (!(Builtin.Str.occurrences b a 0 b.length 1).isEmpty)))
  | _, _ => none
def notInS : D → D → Option RV
  | .str a, .str b => some (.sh (.bl (!(!(Builtin.Str.occurrences b a 0 b.length 1).isEmpty))))
  | _, _ => none
/-- == of scalars, as in asks it -/
def eqF : D → D → Bool
  | .non, .non => true
  | .bl a, .bl b => a == b
  | .bl a, .int b => (if a then 1 else 0) == b
  | .int a, .bl b => a == (if b then 1 else 0)
  | .int a, .int b => a == b
  | .str a, .str b => a == b
  | _, _ => false
def inL (neg : Bool) : D → D → Option RV
  | x, .lst ds => if x.scal && ds.all D.scal then some (.sh (.bl (if neg then !ds.any (fun y => eqF y x) else ds.any (fun y => eqF y x)))) else none
  | x, .tup ds => if x.scal && ds.all D.scal then some (.sh (.bl (if neg then !ds.any (fun y => eqF y x) else ds.any (fun y => eqF y x)))) else none
  | _, _ => none
def inD (neg : Bool) : D → D → Option RV
  | k, .dic kvs => match asKey k with
    | some _ => if kvs.all (fun kv => match kv.1 with | .tup _ => false | _ => true) then some (.sh (.bl (if neg then !(lookD kvs k).isSome else (lookD kvs k).isSome))) else none
    | none => none
  | _, _ => none
def cIn : D → D → Option RV
  | .str a, .str b => inS (.str a) (.str b)
  | x, .lst ds => inL false x (.lst ds)
  | x, .tup ds => inL false x (.tup ds)
  | x, .dic kvs => inD false x (.dic kvs)
  | _, _ => none
def cNotIn : D → D → Option RV
  | .str a, .str b => notInS (.str a) (.str b)
  | x, .lst ds => inL true x (.lst ds)
  | x, .tup ds => inL true x (.tup ds)
  | x, .dic kvs => inD true x (.dic kvs)
  | _, _ => none
theorem scal_flat {W : Wd} {ρ : List Addr} {H : Hp} {d : D} {v : V} (h : RepB W ρ H d v) (s : d.scal = true) : flatV v = true := by
  rcases h with h | ⟨a, rfl, h⟩
  · cases h <;> first | rfl | cases s
  · cases h <;> cases s
theorem scal_flats {W : Wd} {ρ : List Addr} {H : Hp} : ∀ {ds : List D} {xs : List V}, Reps W ρ H ds xs → ds.all D.scal = true → xs.all flatV = true
  | _, _, .nil, _ => rfl
  | _, _, .cons h t, s => by
    rw [List.all_cons, Bool.and_eq_true] at s ⊢
    exact ⟨scal_flat (.inl h) s.1, scal_flats t s.2⟩
theorem eqF_eqV {W : Wd} {ρ : List Addr} {H : Hp} {d e : D} {v w : V} (h : RepB W ρ H d v) (k : RepB W ρ H e w) (s : d.scal = true) (t : e.scal = true) : eqV v w = eqF d e := by
  cases d <;> first | cases s | skip
  all_goals (cases e <;> first | cases t | skip)
  all_goals (first | rw [h.non] | rw [h.bl] | rw [h.int] | rw [h.str])
  all_goals (first | rw [k.non] | rw [k.bl] | rw [k.int] | rw [k.str])
  all_goals rfl
theorem any_eqF {W : Wd} {ρ : List Addr} {H : Hp} {e : D} {w : V} (k : RepB W ρ H e w) (t : e.scal = true) : ∀ {ds : List D} {xs : List V}, Reps W ρ H ds xs → ds.all D.scal = true → inV w xs = ds.any fun y => eqF y e
  | _, _, .nil, _ => rfl
  | _, _, .cons (d := d) (x := x) (ds := ds) (xs := xs) h r, s => by
    rw [List.all_cons, Bool.and_eq_true] at s
    show ((x :: xs).any fun y => eqV y w) = _
    rw [List.any_cons, List.any_cons, eqF_eqV (.inl h) k s.1 t]
    congr 1
    exact any_eqF k t r s.2
section
variable {X : Cx} {W : Wd}
theorem o_inS : O2 X W (compareOp .In) inS := ⟨_, op_in_str, fun ρ H d1 d2 v1 v2 Q a1 a2 h => by
    unfold inS at h
    split at h
    · rw [a1.str, a2.str]; exact ⟨_, _, rfl, rfl, h.bl⟩
    · exact h.elim, fun d1 d2 => by unfold inS; split <;> trivial⟩
theorem o_notInS : O2 X W (compareOp .NotIn) notInS := ⟨_, L2.op_notIn_str, fun ρ H d1 d2 v1 v2 Q a1 a2 h => by
    unfold notInS at h
    split at h
    · rw [a1.str, a2.str]; exact ⟨_, _, rfl, rfl, h.bl⟩
    · exact h.elim, fun d1 d2 => by unfold notInS; split <;> trivial⟩
theorem inL_ok (hK : X.K = W.K) {neg : Bool} : P2 W (rIn X.K neg) (inL neg) := ⟨fun ρ H d1 d2 v1 v2 Q a1 a2 h => by
    unfold inL at h
    split at h
    · split at h
      · rename_i c
        rw [Bool.and_eq_true] at c
        obtain ⟨p, xs, rfl, s, rr⟩ := a2.lst
        exact ⟨p, xs, rfl, .inl (by rw [hK]; exact s), scal_flat a1 c.1, scal_flats rr c.2, by rw [any_eqF a1 c.1 rr c.2]; exact h.bl⟩
      · exact h.elim
    · split at h
      · rename_i c
        rw [Bool.and_eq_true] at c
        obtain ⟨p, xs, rfl, s, rr⟩ := a2.tup
        exact ⟨p, xs, rfl, .inr (by rw [hK]; exact s), scal_flat a1 c.1, scal_flats rr c.2, by rw [any_eqF a1 c.1 rr c.2]; exact h.bl⟩
      · exact h.elim
    · exact h.elim, fun d1 d2 => by unfold inL; split <;> first | trivial | (split <;> trivial)⟩
theorem dget_look {ρ : List Addr} {H : Hp} {kvs : List (D × D)} {k : Key} {v kv : V} (h : RepB W ρ H (.dic kvs) v) (hk : RepB W ρ H (keyD k) kv) (c : kvs.all (fun kv => match kv.1 with | .tup _ => false | _ => true) = true) :
    ∃ a, v = .ref a ∧ kv = kV k ∧ ((lookD kvs (keyD k) = none ∧ DGet H a (kV k) none) ∨ ∃ d x, lookD kvs (keyD k) = some d ∧ DGet H a (kV k) (some x) ∧ Rep W ρ H d x) := by
  obtain ⟨a, kys, rfl, rd, rr⟩ := h.dicK c
  refine ⟨a, rfl, ?_, ?_⟩
  · cases k with
    | inl i => exact hk.int
    | inr s => exact hk.str
  · rcases rr.look k with ⟨e1, e2⟩ | ⟨d, x, e1, e2, rx⟩
    · exact .inl ⟨e1, .inl ⟨kys, k, rd, rfl, e2.symm⟩⟩
    · exact .inr ⟨d, x, e1, .inl ⟨kys, k, rd, rfl, e2.symm⟩, rx⟩
theorem op_inD (hu : X.A.units + 1 < cLine) : OpR X (compareOp .In) (fun y x H Q => ∃ a o, x = .ref a ∧ DGet H a y o ∧ Q (.bl o.isSome) H) := by
  intro pins s σ H y x u v Q I ry rx h
  obtain ⟨a, o, rfl, g, q⟩ := h
  cases rx
  exact d_in hu I g ry fun s' I' => ⟨.bl o.isSome, H, I', rfl, q⟩
theorem op_notInD (hu : X.A.units + 1 < cLine) : OpR X (compareOp .NotIn) (fun y x H Q => ∃ a o, x = .ref a ∧ DGet H a y o ∧ Q (.bl (!o.isSome)) H) := by
  intro pins s σ H y x u v Q I ry rx h
  obtain ⟨a, o, rfl, g, q⟩ := h
  cases rx
  exact d_notIn hu I g ry fun s' I' => ⟨.bl (!o.isSome), H, I', rfl, q⟩
theorem o_inD (hu : X.A.units + 1 < cLine) : O2 X W (compareOp .In) (inD false) := ⟨_, op_inD hu, fun ρ H d1 d2 v1 v2 Q a1 a2 h => by
    unfold inD at h
    split at h
    · split at h
      · rename_i kvs _ kk e
        split at h
        · rename_i c
          have ek := asKey_eq e
          subst ek
          obtain ⟨a, rfl, rfl, q | ⟨d, x, e1, g, _⟩⟩ := dget_look a2 a1 c
          · exact ⟨a, none, rfl, q.2, by have h' : PPost W ρ H Q (some (.sh (.bl (lookD kvs (keyD _)).isSome))) := h; rw [q.1] at h'; exact h'.bl⟩
          · exact ⟨a, some x, rfl, g, by have h' : PPost W ρ H Q (some (.sh (.bl (lookD kvs (keyD _)).isSome))) := h; rw [e1] at h'; exact h'.bl⟩
        · exact h.elim
      · exact h.elim
    · exact h.elim, fun d1 d2 => by unfold inD; split <;> first | trivial | (split <;> first | trivial | (split <;> trivial))⟩
theorem o_notInD (hu : X.A.units + 1 < cLine) : O2 X W (compareOp .NotIn) (inD true) := ⟨_, op_notInD hu, fun ρ H d1 d2 v1 v2 Q a1 a2 h => by
    unfold inD at h
    split at h
    · split at h
      · rename_i kvs _ kk e
        split at h
        · rename_i c
          have ek := asKey_eq e
          subst ek
          obtain ⟨a, rfl, rfl, q | ⟨d, x, e1, g, _⟩⟩ := dget_look a2 a1 c
          · exact ⟨a, none, rfl, q.2, by have h' : PPost W ρ H Q (some (.sh (.bl (!(lookD kvs (keyD _)).isSome)))) := h; rw [q.1] at h'; exact h'.bl⟩
          · exact ⟨a, some x, rfl, g, by have h' : PPost W ρ H Q (some (.sh (.bl (!(lookD kvs (keyD _)).isSome)))) := h; rw [e1] at h'; exact h'.bl⟩
        · exact h.elim
      · exact h.elim
    · exact h.elim, fun d1 d2 => by unfold inD; split <;> first | trivial | (split <;> first | trivial | (split <;> trivial))⟩
theorem c_in (hK : X.K = W.K) (hu : X.A.units + 1 < cLine) : O2 X W (compareOp .In) cIn := by
  refine O2.mix (o_inS.mix (o_inD hu) (pr := fun a b => match b with | .dic k => inD false a (.dic k) | b => inS a b) fun a b => ?_) ⟨_, op_in_seq, inL_ok hK⟩ fun a b => ?_
  · cases b <;> first | exact .inl rfl | exact .inr rfl
  · cases a <;> cases b <;> first | exact .inl rfl | exact .inr rfl
theorem c_notin (hK : X.K = W.K) (hu : X.A.units + 1 < cLine) : O2 X W (compareOp .NotIn) cNotIn := by
  refine O2.mix (o_notInS.mix (o_notInD hu) (pr := fun a b => match b with | .dic k => inD true a (.dic k) | b => notInS a b) fun a b => ?_) ⟨_, op_notIn_seq, inL_ok hK⟩ fun a b => ?_
  · cases b <;> first | exact .inl rfl | exact .inr rfl
  · cases a <;> cases b <;> first | exact .inl rfl | exact .inr rfl
end
end Mi

/-! ## The mirror: methods, things that are changed in place -/
namespace Mi
open PySem PySem.Spec PyProof.Rows L2 Lamp SlX

section
variable {X : Cx} {B : Bd} {o e : Expr} {es : List Expr} {name : Str} {id T : String} {pr : D → List D → Option RV} {mo : EM} {ms : List EM} {apos cpos : Pos}
theorem simm (h : M1 X B.W id pr) (pa : PlainAttrs T) (slot : PySem.Slot T name id) (hty : typeOf (.builtin id) = pure (.type "method_descriptor")) (ho : PE X o (rdE B mo)) (ha : PA X (e :: es) (rdA B ms))
    (hbase : attributeBase o name X.env (eval o X.env) = eval o X.env := by rfl)
    (hfew : ((backTo cpos (starEach (e :: es) X.env)).all (fun x => !x.1) && (backToKw cpos (keywordEach [] X.env)).all (fun x => x.1.isSome)
      && decide ((e :: es).length + ([] : List Keyword).length + (if ([] : List Keyword).isEmpty then 0 else 1) < 30)) = true := by rfl)
    (hline : (apos.endLine == cpos.line) = true := by rfl) (hs : starEach (e :: es) X.env = (false, eval e X.env) :: starEach es X.env := by rfl) (hplain : (backTo cpos (starEach es X.env)).any (·.1) = false := by rfl) :
    PE X (.Call (.Attribute o name apos) (e :: es) [] cpos) (rdE B (mMeth T pr mo ms)) := let ⟨_, o, k⟩ := h; sim_bm pa slot hty o k ho ha hbase hfew hline hs hplain
end
/-! ### d.get, d[k] -/
theorem mt_get2 {X : Cx} (hu : X.A.units + 1 < cLine) : MtR X "dict.get" (fun x xs H Q => ∃ a y z o, x = .ref a ∧ xs = [y, z] ∧ DGet H a y o ∧ Q (o.getD z) H) := by
  intro pins s σ H x xs v us Q I rx r h
  obtain ⟨a, y, z, o, rfl, rfl, g, q⟩ := h
  cases rx
  obtain ⟨u, w', rfl, ry, rz⟩ := vals2 r
  exact d_get2 hu I g ry rz fun w' s4 I4 rw' => ⟨_, H, I4, rw', q⟩
def dGet : D → List D → Option RV
  | .dic kvs, [k, d] => match asKey k with
    | some _ => if kvs.all (fun kv => match kv.1 with | .tup _ => false | _ => true) then some (.sh ((lookD kvs k).getD d)) else none
    | none => none
  | _, _ => none
theorem RepB.rep {W : Wd} {ρ : List Addr} {H : Hp} {d : D} {v : V} (h : RepB W ρ H d v) (s : d.scal = true) : Rep W ρ H d v := by
  rcases h with h | ⟨a, rfl, h⟩
  · exact h
  · cases h <;> cases s
section
variable {X : Cx} {W : Wd}
/-- the default must be known to all -/
def D.stiff : D → Bool
  | .tup _ => true
  | d => d.scal
theorem RepB.stiff {W : Wd} {ρ : List Addr} {H : Hp} {d : D} {v : V} (h : RepB W ρ H d v) (s : d.stiff = true) : Rep W ρ H d v := by
  rcases h with h | ⟨a, rfl, h⟩
  · exact h
  · cases h <;> cases s
def dGetS : D → List D → Option RV
  | .dic kvs, [k, d] => if d.stiff then dGet (.dic kvs) [k, d] else none
  | _, _ => none
theorem m_get (hu : X.A.units + 1 < cLine) : M1 X W "dict.get" dGetS := ⟨_, mt_get2 hu, fun ρ H d v ds vs Q a1 a2 h => by
    unfold dGetS at h
    split at h
    · rename_i kvs k dd
      split at h
      · rename_i sc
        unfold dGet at h
        simp only at h
        cases e : asKey k with
        | none => simp only [e] at h; exact h.elim
        | some kk =>
          simp only [e] at h
          by_cases c : kvs.all (fun kv => match kv.1 with | .tup _ => false | _ => true) = true
          · rw [if_pos c] at h
            obtain ⟨y, z, rfl, ry, rz⟩ := repBs2 a2
            have ek := asKey_eq e
            subst ek
            obtain ⟨a, rfl, rfl, q | ⟨d, x, e1, g, rx⟩⟩ := dget_look a1 ry c
            · rw [q.1] at h
              exact ⟨a, _, z, none, rfl, rfl, q.2, h.part (rz.stiff sc)⟩
            · rw [e1] at h
              exact ⟨a, _, z, some x, rfl, rfl, g, h.part rx⟩
          · rw [if_neg c] at h; exact h.elim
      · exact h.elim
    · exact h.elim, fun d ds => by
      unfold dGetS
      split
      · split
        · unfold dGet
          simp only
          split
          · split <;> trivial
          · trivial
        · trivial
      · trivial⟩
theorem ix_dict (hu : X.A.units + 1 < cLine) : IxR X (fun x y H Q => ∃ a v, x = .ref a ∧ DGet H a y (some v) ∧ Q v H) := by
  intro value slice pins s σ H x y v u Q I rx ry h hs
  obtain ⟨a, z, rfl, g, q⟩ := h
  cases rx
  unfold subscriptTail
  refine wpAny_bind ?_
  rw [getitemInPython_of_ne (dict_typeIs I g).not_modules]
  refine wpAny_bind (wpAny_specialOf (dict_typeIs I g) PySem.F.slot_dict_getitem.lookup ?_)
  have fin : wpAny (model X.prog X.w) X.A (subscripted slice false (.ref a) u) (fun r s₃ => wpAny (model X.prog X.w) X.A (letTemporaryGo value (.ref a) r >>= fun _ => pure r) (EP X pins σ Q) X.xe s₃) X.xe s := by
    rw [hs]
    exact wpAny_operating (wpAny_mono (d_getItem hu I g ry fun w' s3 I3 rw' => (⟨z, H, I3, rw', q⟩ : EP X pins σ Q w' s3)) (fun r s₃ h₃ => wpAny_bind (wpAny_letTemporaryGo (wpAny_pure h₃))) fun _ _ x => x)
  first
    | exact wpAny_pure (wpAny_bind fin)
    | exact wpAny_bind (wpAny_pure (wpAny_bind fin))
    | exact wpAny_bind fin
def ixD : D → D → Option RV
  | .dic kvs, k => match asKey k with
    | some _ => if kvs.all (fun kv => match kv.1 with | .tup _ => false | _ => true) then (lookD kvs k).map .sh else none
    | none => none
  | _, _ => none
def dIx : D → D → Option RV
  | .dic kvs, k => ixD (.dic kvs) k
  | a, b => ixS a b
theorem x_any (hK : X.K = W.K) (hu : X.A.units + 1 < cLine) : Ix2 X W dIx := by
  refine Ix2.mix (x_seq hK) (p2 := ixD) ⟨_, ix_dict hu, fun ρ H d1 d2 v1 v2 Q a1 a2 h => ?_, fun d1 d2 => ?_⟩ fun a b => ?_
  · unfold ixD at h
    split at h
    · rename_i kvs
      cases e : asKey d2 with
      | none => simp only [e] at h; exact h.elim
      | some kk =>
        simp only [e] at h
        by_cases c : kvs.all (fun kv => match kv.1 with | .tup _ => false | _ => true) = true
        · rw [if_pos c] at h
          have ek := asKey_eq e
          subst ek
          obtain ⟨a, rfl, rfl, q | ⟨d, x, e1, g, rx⟩⟩ := dget_look a1 a2 c
          · rw [q.1] at h; exact h.elim
          · rw [e1] at h
            exact ⟨a, x, rfl, g, PPost.part h rx⟩
        · rw [if_neg c] at h; exact h.elim
    · exact h.elim
  · unfold ixD
    split
    · split
      · split
        · cases lookD _ _ <;> trivial
        · trivial
      · trivial
    · trivial
  · cases a <;> first | exact .inr rfl | exact .inl rfl
end
/-! ### texts -/
def mJoin : D → List D → Option RV
  | .str a, [.lst ds] => match asStrs ds with
    | some ys => if (ys.map (·.length)).sum + ys.length * a.length ≤ 16777216 then some (.sh (.str (Txt.join a ys))) else none
    | none => none
  | _, _ => none
def mSplit : D → List D → Option RV
  | .str a, [.str b] => if (b.length == 0) = false ∧ a.length + 2 ≤ sizeLine then some (.fr (.lst ((Txt.split a b).map .str))) else none
  | _, _ => none
theorem RepB.strsL {W : Wd} {ρ : List Addr} {H : Hp} {ds : List D} {ns : List Str} {v : V} (h : RepB W ρ H (.lst ds) v) (e : asStrs ds = some ns) : ∃ a, v = .ref a ∧ SqL W.K H a (ns.map V.str) := by
  obtain ⟨a, xs, rfl, s, r⟩ := h.lst
  rw [asStrs_eq e] at r
  rw [r.vStrs] at s
  exact ⟨a, rfl, s⟩
section
variable {X : Cx} {W : Wd}
theorem m_join (hK : X.K = W.K) : M1 X W "str.join" mJoin := ⟨_, mt_join, fun ρ H d v ds vs Q a1 a2 h => by
    unfold mJoin at h
    split at h
    · obtain ⟨w, rfl, r⟩ := repBs1 a2
      split at h
      · rename_i ys e
        split at h
        · rename_i c
          obtain ⟨p, rfl, s⟩ := r.strsL e
          exact ⟨_, p, ys, a1.str, rfl, .inl (by rw [hK]; exact s), c, h.str⟩
        · exact h.elim
      · exact h.elim
    · exact h.elim, fun d ds => by unfold mJoin; split <;> first | trivial | (split <;> first | trivial | (split <;> trivial))⟩
theorem m_split : M1 X W "str.split" mSplit := ⟨_, mt_split, fun ρ H d v ds vs Q a1 a2 h => by
    unfold mSplit at h
    split at h
    · obtain ⟨w, rfl, r⟩ := repBs1 a2
      split at h
      · rename_i c
        exact ⟨_, _, a1.str, by rw [r.str], c.1, c.2, fun p n => h.new (Reps.strs _) n⟩
      · exact h.elim
    · exact h.elim, fun d ds => by unfold mSplit; split <;> first | trivial | (split <;> trivial)⟩
end

/-! ### one's own thing, changed by a method -/
structure PU (W : Wd) (r : V → List V → Hp → VK → Prop) (pr : D → List D → Option (D × D)) : Prop where
  ok : ∀ ρ H a d ds vs Q d' rv, Own W ρ H d a → Reps W ρ H ds vs → pr d ds = some (d', rv) →
    (∀ o v, Own W ρ (upd H a o) d' a → Rep W ρ (upd H a o) rv v → Q v (upd H a o)) → r (.ref a) vs H Q
def MU (X : Cx) (W : Wd) (id : String) (pr : D → List D → Option (D × D)) : Prop := ∃ r, MtR X id r ∧ PU W r pr
def mMut (T : String) (pr : D → List D → Option (D × D)) (i : Nat) (ms : List EM) : EM := fun p => match p.env[i]? with
  | some (.ow d0) => if tyName d0 == T && T != "" then bindA ms (fun rs p1 => match shs rs, p1.env[i]? with
      | some ds, some (.ow d) => match pr d ds with
        | some (d', rv) => some (.val (.sh rv) { p1 with env := p1.env.set i (.ow d') })
        | none => none
      | _, _ => none) p else none
  | _ => none
theorem mut_rd {B : Bd} {T : String} {pr : D → List D → Option (D × D)} {i : Nat} {ms : List EM} {r : V → List V → Hp → VK → Prop} (hp : PU B.W r pr) {σ : L2.St} {H : Hp} {Q : VK} (h : rdE B (mMut T pr i ms) σ H Q) :
    ∃ a d0, σ[i]? = some (some (.ref a)) ∧ (∃ g p, Rel B g σ H p ∧ Own B.W g.ρ H d0 a) ∧ tyName d0 = T ∧ T ≠ "" ∧ rdA B ms σ H fun vs H1 => r (.ref a) vs H1 Q := by
  obtain ⟨g, p, R, k⟩ := h
  unfold mMut at k
  cases e : p.env[i]? with
  | none => simp only [e] at k; exact k.elim
  | some s =>
    cases s with
    | ow d0 =>
      simp only [e] at k
      obtain ⟨a, ha, o⟩ := R.slot i _ e
      by_cases c : (tyName d0 == T && T != "") = true
      · simp only [c, if_true] at k
        simp only [Bool.and_eq_true, beq_iff_eq, bne_iff_ne] at c
        refine ⟨a, d0, ha, ⟨g, p, R, o⟩, c.1, c.2, ?_⟩
        refine bindA_rd ⟨g, p, R, k⟩ fun g1 p1 rs vs H1 R1 a1 k1 => ?_
        cases e1 : shs rs with
        | none => simp only [e1] at k1; exact k1.elim
        | some ds =>
          cases e2 : p1.env[i]? with
          | none => simp only [e1, e2] at k1; exact k1.elim
          | some s1 =>
            cases s1 with
            | ow d =>
              simp only [e1, e2] at k1
              cases e3 : pr d ds with
              | none => simp only [e3] at k1; exact k1.elim
              | some w =>
                obtain ⟨d', rv⟩ := w
                simp only [e3] at k1
                obtain ⟨b, hb, ob⟩ := R1.slot i _ e2
                rw [ha] at hb
                cases hb
                obtain ⟨u, hu, mu⟩ := ob.at_
                refine hp.ok _ _ _ _ _ _ _ _ _ ob (a1.reps (shs_eq e1)) e3 fun o v ow rr => ?_
                have np : ∀ w, H1 a = some w → ¬ Per w := fun w z => by rw [hu] at z; cases z; exact Mut.per mu
                exact k1 v _ g1.ρ (R1.put (s' := .ow d') e2 rfl ha np ⟨a, ha, ow⟩) (List.prefix_refl _) (Frz.upd np) rr
            | _ => simp only [e1, e2] at k1; exact k1.elim
      · simp only [c] at k; exact k.elim
    | _ => simp only [e] at k; exact k.elim
section
variable {X : Cx} {B : Bd} {e : Expr} {es : List Expr} {x name : Str} {id T : String} {pr : D → List D → Option (D × D)} {ms : List EM} {p apos cpos : Pos}
theorem sim_mut (i : Nat) (h : MU X B.W id pr) (pa : PlainAttrs T) (slot : PySem.Slot T name id) (hty : typeOf (.builtin id) = pure (.type "method_descriptor")) (hN : X.N[i]? = some x) (hv : Vis X.env.scope x) (ha : PA X (e :: es) (rdA B ms))
    (hd : (x == ("__debug__" : Str)) = false := by decide) (hcd : (x == ("__classdict__" : Str)) = false := by decide)
    (hbase : attributeBase (.Name x p) name X.env (eval (.Name x p) X.env) = eval (.Name x p) X.env := by rfl)
    (hfew : ((backTo cpos (starEach (e :: es) X.env)).all (fun x => !x.1) && (backToKw cpos (keywordEach [] X.env)).all (fun x => x.1.isSome)
      && decide ((e :: es).length + ([] : List Keyword).length + (if ([] : List Keyword).isEmpty then 0 else 1) < 30)) = true := by rfl)
    (hline : (apos.endLine == cpos.line) = true := by rfl) (hs : starEach (e :: es) X.env = (false, eval e X.env) :: starEach es X.env := by rfl) (hplain : (backTo cpos (starEach es X.env)).any (·.1) = false := by rfl) :
    PE X (.Call (.Attribute (.Name x p) name apos) (e :: es) [] cpos) (rdE B (mMut T pr i ms)) := by
  obtain ⟨r, hm, hp⟩ := h
  refine ⟨fun pins s σ H Q I k => ?_⟩
  obtain ⟨a, d0, hσ, ⟨g, p', R, ow⟩, e1, ne, q⟩ := mut_rd hp k
  refine wpAny_Call_method_late hbase hfew hline rfl (thn ((pe_var hN hv hd hcd).run pins s σ H (fun v H' => v = .ref a ∧ H' = H) I ⟨.ref a, hσ, rfl, rfl⟩) fun v s1 ⟨x', H1, I1, r1, ex, eh⟩ => ?_)
  subst ex eh
  obtain ⟨h1, h2⟩ := tyB_is I1 r1 (.inr ⟨a, rfl, ow⟩) e1 ne
  refine ⟨T, id, pa, slot, hty, h1, h2, ?_⟩
  have hA := ha.run cpos pins s1 σ H1 _ I1 q
  rw [hs] at hA ⊢
  refine Calls.callWith_builtin (by show (false || (backTo cpos (starEach es X.env)).any (·.1)) = false; rw [hplain] <;> rfl) (Calls.evalArgs_plain ?_)
  exact thn hA fun us s2 ⟨vs, H2, I2, r2, q2⟩ => hm pins s2 σ H2 _ vs v us Q I2 r1 r2 q2
theorem sim_mut0 (i : Nat) (h : MU X B.W id pr) (pa : PlainAttrs T) (slot : PySem.Slot T name id) (hty : typeOf (.builtin id) = pure (.type "method_descriptor")) (hN : X.N[i]? = some x) (hv : Vis X.env.scope x)
    (hd : (x == ("__debug__" : Str)) = false := by decide) (hcd : (x == ("__classdict__" : Str)) = false := by decide)
    (hbase : attributeBase (.Name x p) name X.env (eval (.Name x p) X.env) = eval (.Name x p) X.env := by rfl) (hline : (apos.endLine == cpos.line) = true := by rfl) :
    PE X (.Call (.Attribute (.Name x p) name apos) [] [] cpos) (rdE B (mMut T pr i [])) := by
  obtain ⟨r, hm, hp⟩ := h
  have ho : PE X (.Name x p) (tVar i) := pe_var hN hv hd hcd
  have key : PE X (.Call (.Attribute (.Name x p) name apos) [] [] cpos) (fun σ H Q => ∃ a d0 ρ W, σ[i]? = some (some (.ref a)) ∧ Own W ρ H d0 a ∧ tyName d0 = T ∧ T ≠ "" ∧ r (.ref a) [] H Q) := by
    refine ⟨fun pins s σ H Q I k => ?_⟩
    obtain ⟨a, d0, ρ, W, hσ, ow, e1, ne, q⟩ := k
    refine wpAny_Call_method0_late hbase hline (thn (ho.run pins s σ H (fun v H' => v = .ref a ∧ H' = H) I ⟨.ref a, hσ, rfl, rfl⟩) fun v s1 ⟨x', H1, I1, r1, ex, eh⟩ => ?_)
    subst ex eh
    obtain ⟨h1, h2⟩ := tyB_is I1 r1 (.inr ⟨a, rfl, ow⟩) e1 ne
    exact ⟨T, id, pa, slot, hty, h1, h2, Calls.callWith_builtin rfl (PySem.evalArgs_none (hm pins s1 σ H1 _ [] v [] Q I1 r1 .nil q))⟩
  refine key.imp fun σ H Q k => ?_
  obtain ⟨a, d0, hσ, ⟨g, p', R, ow⟩, e1, ne, q⟩ := mut_rd hp k
  refine ⟨a, d0, g.ρ, B.W, hσ, ow, e1, ne, ?_⟩
  obtain ⟨g2, p2, R2, k2⟩ := q
  exact k2 [] H g2.ρ R2 (List.prefix_refl _) (Frz.refl H) .nil
end
def uApp : D → List D → Option (D × D)
  | .lst ds, [d] => if ds.length < sizeLine then some (.lst (ds ++ [d]), .non) else none
  | _, _ => none
def uExt : D → List D → Option (D × D)
  | .lst ds, [.lst es] => if ds.length + es.length ≤ sizeLine then some (.lst (ds ++ es), .non) else none
  | _, _ => none
def uPop : D → List D → Option (D × D)
  | .lst ds, [] => match ds[ds.length - 1]? with
    | some d => some (.lst ds.dropLast, d)
    | none => none
  | _, _ => none
def uPopD : D → List D → Option (D × D)
  | .dic kvs, [k, d] => match asKey k with
    | some _ => if kvs.all (fun kv => match kv.1 with | .tup _ => false | _ => true) then some (.dic (dropD kvs k), (lookD kvs k).getD d) else none
    | none => none
  | _, _ => none
theorem mt_extendR {X : Cx} : MtR X "list.extend" (fun x vs H Q => ∃ l b xs zs, x = .ref l ∧ vs = [.ref b] ∧ H l = some (.lst xs) ∧ Rd H b (.lst zs) ∧ xs.length + zs.length ≤ sizeLine ∧ Q .non (upd H l (.lst (xs ++ zs)))) := by
  intro pins s σ H x vs v us Q I rx rv h
  obtain ⟨l, b, xs, zs, rfl, rfl, hH, hB, hz, q⟩ := h
  cases rx
  obtain ⟨u, rfl, ru⟩ := rv.one
  cases ru
  obtain ⟨z, its, n, r, hl, e⟩ := I.lstM hH
  obtain ⟨z2, its2, n2, r2, e2⟩ := lstR I hB
  have hl2 := r2.length
  have hsz : its.toArray.size + its2.toArray.size ≤ sizeLine := by rw [List.size_toArray, List.size_toArray]; omega
  have hlong : ¬ (!its.toArray.isEmpty && Builtin.List.listTooLong (its.toArray.size + its2.toArray.size)) = true := by
    rw [notLongL hsz, Bool.and_false]
    exact Bool.false_ne_true
  refine call_meets F.slot_list_extend ⟨_, e, rfl⟩ F.entry_list_extend (F.args_list_extend_2 _ _)
    (AutoSeq1.list_extend_list_list_0 l its.toArray n b its2.toArray n2 hlong (by rw [List.size_toArray]; omega) (by omega)) ⟨e, e2, ?_⟩
  refine ⟨.non, _, I.lset (its' := its ++ its2) hH e (by simp) (r.append r2) ?_, rfl, q⟩
  rw [List.length_append]
  omega
theorem mt_popD {X : Cx} : MtR X "dict.pop" (fun x xs H Q => ∃ a kvs k z, x = .ref a ∧ xs = [kV k, z] ∧ H a = some (.dK kvs) ∧ (∀ v, valV kvs k = some v → Q v (upd H a (.dK (dropK kvs k)))) ∧ (valV kvs k = none → Q z H)) := by
  intro pins s σ H x xs v us Q I rx r h
  obtain ⟨a, kvs, k, z, rfl, rfl, ea, q3, q4⟩ := h
  cases rx
  obtain ⟨u, w', rfl, ry, rz⟩ := vals2 r
  cases l : valV kvs k with
  | some v => exact d_pop I ea ry l (.inr ⟨w', rfl⟩) fun w' s4 I4 rw' => ⟨v, _, I4, rw', q3 v l⟩
  | none => exact d_popD I ea ry l fun s4 I4 => ⟨z, H, I4, rz, q4 l⟩
theorem drop_none {kvs : List (D × D)} {k : D} (h : lookD kvs k = none) : dropD kvs k = kvs := by
  unfold lookD at h
  unfold dropD
  rw [List.filter_eq_self]
  intro kv m
  cases e : kvs.find? fun kv => kEq kv.1 k with
  | some w => rw [e] at h; cases h
  | none =>
    have := List.find?_eq_none.mp e kv m
    simpa using this
theorem upd_id {H : Hp} {a : Addr} {o : HO} (h : H a = some o) : upd H a o = H := by
  funext b
  by_cases e : b = a
  · subst e; rw [upd_same, h]
  · rw [upd_ne e]
section
variable {X : Cx} {W : Wd}
theorem u_app : MU X W "list.append" uApp := ⟨_, mt_append, ⟨fun ρ H a d ds vs Q d' rv ow rr e q => by
    unfold uApp at e
    split at e
    · split at e
      · rename_i c
        cases e
        cases ow with
        | lst h r =>
          rename_i xs
          obtain ⟨v, rfl, rv⟩ := reps1 rr
          have f : Frz H (upd H a (.lst (xs ++ [v]))) := Frz.put h trivial
          exact ⟨a, _, v, rfl, rfl, h, by rw [← r.len]; exact c, q _ _ (.lst upd_same ((r.mono f (List.prefix_refl _)).snoc (rv.mono f (List.prefix_refl _)))) .non⟩
      · cases e
    · cases e⟩⟩
theorem u_ext : MU X W "list.extend" uExt := ⟨_, mt_extendR, ⟨fun ρ H a d ds vs Q d' rv ow rr e q => by
    unfold uExt at e
    split at e
    · split at e
      · rename_i c
        cases e
        cases ow with
        | lst h r =>
          rename_i xs
          obtain ⟨v, rfl, rv⟩ := reps1 rr
          cases rv with
          | lst hb rb =>
            rename_i zs
            have f : Frz H (upd H a (.lst (xs ++ zs))) := Frz.put h trivial
            exact ⟨a, _, xs, zs, rfl, rfl, h, .inr ⟨_, hb⟩, by rw [← r.len, ← rb.len]; exact c, q _ _ (.lst upd_same ((r.mono f (List.prefix_refl _)).app (rb.mono f (List.prefix_refl _)))) .non⟩
      · cases e
    · cases e⟩⟩
theorem Reps.dropLast {ρ : List Addr} {H : Hp} : ∀ {ds : List D} {xs : List V}, Reps W ρ H ds xs → Reps W ρ H ds.dropLast xs.dropLast
  | _, _, .nil => .nil
  | _, _, .cons _ .nil => .nil
  | _, _, .cons h (.cons h2 t) => .cons h (Reps.dropLast (.cons h2 t))
theorem u_pop : MU X W "list.pop" uPop := ⟨_, mt_pop, ⟨fun ρ H a d ds vs Q d' rv ow rr e q => by
    unfold uPop at e
    split at e
    · rename_i es
      cases e1 : es[es.length - 1]? with
      | none => rw [e1] at e; cases e
      | some y =>
        rw [e1] at e
        cases e
        cases ow with
        | lst h r =>
          cases rr
          rename_i xs
          obtain ⟨x, ex, rx⟩ := r.get e1
          rw [r.len] at ex
          have f : Frz H (upd H a (.lst xs.dropLast)) := Frz.put h trivial
          exact ⟨a, _, x, rfl, rfl, h, ex, q _ _ (.lst upd_same ((r.mono f (List.prefix_refl _)).dropLast)) (rx.mono f (List.prefix_refl _))⟩
    · cases e⟩⟩
theorem u_popD : MU X W "dict.pop" uPopD := ⟨_, mt_popD, ⟨fun ρ H a d ds vs Q d' rv ow rr e q => by
    unfold uPopD at e
    split at e
    · rename_i kvs k dd
      cases e1 : asKey k with
      | none => rw [e1] at e; cases e
      | some kk =>
        rw [e1] at e
        simp only at e
        by_cases c : kvs.all (fun kv => match kv.1 with | .tup _ => false | _ => true) = true
        · rw [if_pos c] at e
          cases e
          have ek := asKey_eq e1
          subst ek
          obtain ⟨y, z, rfl, ry, rz⟩ := reps2 rr
          have ey : y = kV kk := by
            cases kk with
            | inl i => cases ry; rfl
            | inr s => cases ry; rfl
          subst ey
          cases ow with
          | dit h n r => exact (no_dit n r c).elim
          | dic h r =>
            rename_i kys
            refine ⟨a, kys, kk, z, rfl, rfl, h, fun v hv => ?_, fun hn => ?_⟩
            · rcases r.look kk with ⟨_, e3⟩ | ⟨d, x, e2, e3, rx⟩
              · rw [hv] at e3; cases e3
              · rw [hv] at e3
                cases e3
                have f : Frz H (upd H a (.dK (dropK kys kk))) := Frz.put h trivial
                exact q _ _ (.dic upd_same ((r.drop kk).mono f (List.prefix_refl _))) (by rw [e2]; exact rx.mono f (List.prefix_refl _))
            · rcases r.look kk with ⟨e2, _⟩ | ⟨d, x, e2, e3, rx⟩
              · have := q (.dK kys) z
                rw [upd_id h, drop_none e2, e2] at this
                exact this (.dic h r) rz
              · rw [hn] at e3; cases e3
        · rw [if_neg c] at e; cases e
    · cases e⟩⟩
end
end Mi

/-! ## The mirror: stores to items, several names at once, name op= e, changeable things made -/
namespace Mi
open PySem PySem.Spec PyProof.Rows L2 Lamp SlX

theorem PSet.or {X : Cx} {t t' : TSet} (h : PSet X t) (h' : PSet X t') : PSet X (fun o i v H Q => t o i v H Q ∨ t' o i v H Q) := fun pins s σ H o i v ov iv u Q I ro ri rv q => by
  rcases q with q | q
  · exact h pins s σ H o i v ov iv u Q I ro ri rv q
  · exact h' pins s σ H o i v ov iv u Q I ro ri rv q
/-- what is at an item is put otherwise -/
def setD : D → D → D → Option D
  | .lst ds, .int k, d => (ixN ds.length k).map fun j => .lst (ds.set j d)
  | .dic kvs, k, d => match asKey k with
    | some _ => if kvs.all (fun kv => match kv.1 with | .tup _ => false | _ => true) then (if kvs.length < sizeLine then some (.dic (putD kvs k d)) else none) else none
    | none => none
  | _, _, _ => none
theorem Reps.set {W : Wd} {ρ : List Addr} {H : Hp} {d : D} {x : V} (h : Rep W ρ H d x) : ∀ {ds : List D} {xs : List V} (j : Nat), Reps W ρ H ds xs → Reps W ρ H (ds.set j d) (xs.set j x)
  | _, _, _, .nil => .nil
  | _, _, 0, .cons _ t => .cons h t
  | _, _, j + 1, .cons a t => .cons a (t.set h j)
def rSet : TSet := fun o i v H Q => rSetL o i v H Q ∨ rSetD o i v H Q
theorem p_set {X : Cx} (hu : X.A.units + 1 < cLine) : PSet X rSet := PSet.or set_list (set_dict hu)
/-- .. of a thing that is one's own -/
theorem set_own {W : Wd} {ρ : List Addr} {H : Hp} {a : Addr} {d0 k d d' : D} {kv v : V} {Q : Hp → Prop} (o : Own W ρ H d0 a) (hk : Rep W ρ H k kv) (hv : Rep W ρ H d v) (e : setD d0 k d = some d') (q : ∀ o, Own W ρ (upd H a o) d' a → Q (upd H a o)) : rSet (.ref a) kv v H Q := by
  unfold setD at e
  split at e
  · rename_i ds i
    cases o with
    | lst h r =>
      rename_i xs
      cases e1 : ixN ds.length i with
      | none => rw [e1] at e; cases e
      | some j =>
        rw [e1] at e
        cases e
        cases hk
        have f : Frz H (upd H a (.lst (xs.set j v))) := Frz.put h trivial
        exact .inl ⟨a, xs, i, j, rfl, rfl, h, by rw [← r.len]; exact e1, q _ (.lst upd_same ((r.mono f (List.prefix_refl _)).set (hv.mono f (List.prefix_refl _)) j))⟩
  · rename_i kvs
    cases e1 : asKey k with
    | none => rw [e1] at e; cases e
    | some kk =>
      rw [e1] at e
      simp only at e
      by_cases c : kvs.all (fun kv => match kv.1 with | .tup _ => false | _ => true) = true
      · rw [if_pos c] at e
        by_cases c2 : kvs.length < sizeLine
        · rw [if_pos c2] at e
          cases e
          have ek := asKey_eq e1
          subst ek
          have ey : kv = kV kk := by
            cases kk with
            | inl i => cases hk; rfl
            | inr s => cases hk; rfl
          subst ey
          cases o with
          | dit h n r => exact (no_dit n r c).elim
          | dic h r =>
            rename_i kys
            have f : Frz H (upd H a (.dK (putK kys kk v))) := Frz.put h trivial
            exact .inr ⟨a, _, rfl, DPut.k h (by rw [← r.len]; exact c2), q _ (.dic upd_same ((r.mono f (List.prefix_refl _)).put kk (hv.mono f (List.prefix_refl _))))⟩
        · rw [if_neg c2] at e; cases e
      · rw [if_neg c] at e; cases e
  · cases e
/-- a changeable thing is changed -/
theorem Rel.cell {B : Bd} {g : Gh} {σ : L2.St} {H : Hp} {p : PS} (R : Rel B g σ H p) {n : Nat} {a : Addr} {d d' : D} {o : HO} (e : p.st[n]? = some d) (ea : g.ρ[n]? = some a) (k : Own B.W g.ρ (L2.upd H a o) d' a) : Rel B g σ (L2.upd H a o) { p with st := p.st.set n d' } := by
  obtain ⟨b, e1, e2⟩ := R.cel n d e
  rw [ea] at e1
  cases e1
  obtain ⟨u, hu, mu⟩ := e2.at_
  have F : Frz H (L2.upd H a o) := Frz.put hu mu
  have ma := List.mem_of_getElem? ea
  refine ⟨fun i t e => (R.slot i t e).mono F (List.prefix_refl _) fun b ow l w h => ?_, R.dis, R.new, fun m c e3 => ?_, by rw [List.length_set]; exact R.cln, R.cnd, R.pre, R.cnw, fun x h => ⟨?_, (R.hid x h).2⟩, R.hnd, fun b w e3 nb => ?_, R.len⟩
  · rw [upd_ne fun z => (R.new i a ⟨t, e, ow, by rw [← z]; exact l⟩).1 ma]
    exact h
  · rcases set_get e3 with ⟨rfl, rfl, _⟩ | ⟨ne, e3⟩
    · exact ⟨a, ea, k⟩
    · obtain ⟨b, e4, e5⟩ := R.cel m c e3
      refine ⟨b, e4, e5.mono F (List.prefix_refl _) fun w h => ?_⟩
      rw [upd_ne fun z => ?_]
      · exact h
      · subst z
        exact ne (nd_ix R.cnd ea e4)
  · rw [upd_ne fun z => (R.hid x h).2.2.1 (by rw [z]; exact ma)]
    exact (R.hid x h).1
  · rw [upd_ne fun z => R.notC e3 nb (by rw [z]; exact ma)]
    exact R.keep b w e3 nb
def setAt (j : Nat) (k d : D) (p : PS) : Option PS := match p.env[j]? with
  | some (.ow d0) => match setD d0 k d with
    | some d' => some { p with env := p.env.set j (.ow d') }
    | none => none
  | some (.sh (.cel n)) => match p.st[n]? with
    | some d0 => match setD d0 k d with
      | some d' => some { p with st := p.st.set n d' }
      | none => none
    | none => none
  | _ => none
/-- name[i] as a target -/
def gSubM (j : Nat) (mi : EM) : GM := fun rv p => match rv, get0 p (.pl j) with
  | .sh d, some _ => match mi p with
    | some (.val (.sh k) p2) => setAt j k d p2
    | _ => none
  | _, _ => none
theorem Rel.at_pl {B : Bd} {g : Gh} {σ : L2.St} {H : Hp} {p : PS} (R : Rel B g σ H p) {j : Nat} {d : D} (e : get0 p (.pl j) = some d) : ∃ v, σ[j]? = some (some v) := by
  unfold get0 at e
  cases c : p.env[j]? with
  | none => simp [c] at e
  | some s =>
    simp only [c] at e
    have k := R.slot j s c
    cases s with
    | no => cases e
    | sh d => obtain ⟨w, e1, r⟩ := k; exact ⟨_, e1⟩
    | ow d => obtain ⟨w, e1, r⟩ := k; exact ⟨_, e1⟩
    | lk d => obtain ⟨w, e1, r⟩ := k; exact ⟨_, e1⟩
    | lz d => obtain ⟨w, e1, r⟩ := k; exact ⟨_, e1⟩
    | self me c fs => cases e
theorem setAt_ok {B : Bd} {g : Gh} {σ : L2.St} {H : Hp} {p p' : PS} {j : Nat} {k d : D} {o kv v : V} {Q : Hp → Prop} (R : Rel B g σ H p) (ho : σ[j]? = some (some o)) (hk : Rep B.W g.ρ H k kv) (hv : Rep B.W g.ρ H d v) (e : setAt j k d p = some p')
    (q : ∀ H', Rel B g σ H' p' → Frz H H' → Q H') : rSet o kv v H Q := by
  unfold setAt at e
  cases e2 : p.env[j]? with
  | none => simp only [e2] at e; cases e
  | some s =>
    cases s with
    | ow d0 =>
      simp only [e2] at e
      cases e3 : setD d0 k d with
      | none => simp only [e3] at e; cases e
      | some d' =>
        simp only [e3] at e
        cases e
        obtain ⟨ad, ha, ow⟩ := R.slot j _ e2
        rw [ho] at ha
        cases ha
        obtain ⟨u, hu', mu⟩ := ow.at_
        have np : ∀ w, H ad = some w → ¬ Per w := fun w z => by rw [hu'] at z; cases z; exact Mut.per mu
        exact set_own ow hk hv e3 fun o ow' => q _ (R.put (s' := .ow d') e2 rfl ho np ⟨ad, ho, ow'⟩) (Frz.upd np)
    | sh dd =>
      cases dd with
      | cel n =>
        simp only [e2] at e
        cases e4 : p.st[n]? with
        | none => simp only [e4] at e; cases e
        | some d0 =>
          simp only [e4] at e
          cases e3 : setD d0 k d with
          | none => simp only [e3] at e; cases e
          | some d' =>
            simp only [e3] at e
            cases e
            obtain ⟨w, ha, rr⟩ := R.slot j _ e2
            rw [ho] at ha
            cases ha
            cases rr with
            | cel hn =>
              obtain ⟨b, e5, ow⟩ := R.cel n d0 e4
              rw [hn] at e5
              cases e5
              obtain ⟨u, hu', mu⟩ := ow.at_
              exact set_own ow hk hv e3 fun o ow' => q _ (R.cell e4 hn ow') (Frz.put hu' mu)
      | _ => simp only [e2] at e; cases e
    | _ => simp only [e2] at e; cases e
section
variable {X : Cx} {B : Bd} {i : Expr} {mi : EM} {x : Str} {px pos : Pos}
theorem simg_sub (j : Nat) (hu : X.A.units + 1 < cLine) (hN : X.N[j]? = some x) (hv : Vis X.env.scope x) (hi : PE X i (rdE B mi)) (hd : (x == ("__debug__" : Str)) = false := by decide) (hcd : (x == ("__classdict__" : Str)) = false := by decide)
    (ha : ∀ v, assign (.Subscript (.Name x px) i pos) X.env v = (do
      let ov ← holding [v] (eval (.Name x px) X.env)
      let iv ← holding [v, ov] (eval i X.env)
      standAt pos
      holding [v, ov, iv] (setItem ov iv v)
      release [v, ov, iv] []) := by intro _; rfl) : PG X (.Subscript (.Name x px) i pos) (rdG B [] (gSubM j mi)) :=
  (pg_sub (pe_var hN hv hd hcd) hi (p_set hu) ha).imp fun v σ H Q h => by
    obtain ⟨g, p, r, R, a, k⟩ := h
    cases r with
    | fr d => exact k.elim
    | pl i => exact k.elim
    | sh d =>
      unfold gSubM at k
      cases e0 : get0 p (.pl j) with
      | none => simp only [e0] at k; exact k.elim
      | some d0 =>
        simp only [e0] at k
        obtain ⟨o, ho⟩ := R.at_pl e0
        refine ⟨o, ho, g, p, R, ?_⟩
        cases e : mi p with
        | none => simp only [e] at k; exact k.elim
        | some w =>
          cases w with
          | exc x st => simp only [e] at k; exact k.elim
          | val rk p2 =>
            cases rk with
            | fr _ => simp only [e] at k; exact k.elim
            | pl _ => simp only [e] at k; exact k.elim
            | sh kd =>
              simp only [e] at k
              intro kv H1 ρ1 R1 q1 f1 rk
              cases e2 : setAt j kd d p2 with
              | none => rw [e2] at k; exact k.elim
              | some p' =>
                rw [e2] at k
                exact setAt_ok R1 ho rk (Rep.mono f1 q1 a) e2 fun H' R' f' => k σ H' ρ1 Touch.refl R' q1 (f1.trans f')
end
/-! ### a, b = x, y -/
def sPar (i j : Nat) (ma mb : EM) : SM := fun p => match ma p with
  | none => none
  | some (.exc x st) => some (.exc x st)
  | some (.val r1 p1) => match mb p1 with
    | none => none
    | some (.exc x st) => some (.exc x st)
    | some (.val r2 p2) => match gNm i r1 p2 with
      | some p3 => match gNm j r2 p3 with
        | some p4 => some (.next p4)
        | none => none
      | none => none
theorem Rel.asideOld {B : Bd} {g : Gh} {σ : L2.St} {H : Hp} {p : PS} {a : Addr} {u : HO} (R : Rel B g σ H p) (h : H a = some u) (m : Mut (some u)) (f : Free B g σ p a) : Rel B ⟨g.ρ, (a, u) :: g.hid⟩ σ H p := by
  refine ⟨R.slot, R.dis, fun i b x => ?_, R.cel, R.cln, R.cnd, R.pre, R.cnw, fun x hx => ?_, ?_, R.keep, R.len⟩
  · obtain ⟨n1, n2, n3⟩ := R.new i b x
    refine ⟨n1, fun w h => ?_, n3⟩
    rcases List.mem_cons.mp h with e | h
    · injection e with e1 e2
      exact f.own i (by rw [← e1]; exact x)
    · exact n2 w h
  · rcases List.mem_cons.mp hx with rfl | hx
    · exact ⟨h, m, f.cel, f.new⟩
    · exact R.hid x hx
  · rw [List.map_cons, List.nodup_cons]
    refine ⟨fun h => ?_, R.hnd⟩
    obtain ⟨x, hx, e⟩ := List.mem_map.mp h
    have ex : x = (a, x.2) := by
      obtain ⟨x1, x2⟩ := x
      exact congrArg (·, x2) e
    exact f.hid x.2 (by rw [← ex]; exact hx)
theorem RepR.stored {B : Bd} {g : Gh} {σ : L2.St} {H : Hp} {p p' : PS} {i : Nat} {r1 r2 : RV} {v1 v2 : V} (a1 : RepR B g σ H p r1 v1) (a2 : RepR B g σ H p r2 v2) (e : gNm i r1 p = some p') (n : ∀ j, r2 ≠ .pl j) (d : ∀ d1 d2, r1 = .fr d1 → r2 = .fr d2 → v1 ≠ v2) : RepR B g (σ.set i (some v1)) H p' r2 v2 := by
  cases r2 with
  | sh d => exact a2
  | pl j => exact (n j rfl).elim
  | fr d2 =>
    obtain ⟨a, rfl, o, n1, n2, n3, n4⟩ := a2
    refine ⟨a, rfl, o, fun k => ?_, n2, n3, n4⟩
    rintro ⟨s, e1, o1, l1⟩
    unfold gNm at e
    split at e
    · cases r1 with
      | sh d1 =>
        cases e
        rcases set_get e1 with ⟨rfl, rfl, _⟩ | ⟨c, e1⟩
        · cases o1
        · rw [List.getElem?_set_ne c] at l1
          exact n1 k ⟨s, e1, o1, l1⟩
      | fr d1 =>
        cases e
        rcases set_get e1 with ⟨rfl, rfl, hl⟩ | ⟨c, e1⟩
        · by_cases hσ : i < σ.length
          · rw [List.getElem?_set_self hσ] at l1
            cases l1
            exact d d1 d2 rfl rfl rfl
          · rw [List.set_eq_of_length_le (by omega), List.getElem?_eq_none (by omega)] at l1
            cases l1
        · rw [List.getElem?_set_ne c] at l1
          exact n1 k ⟨s, e1, o1, l1⟩
      | pl _ => cases e
    · cases e
section
variable {X : Cx} {B : Bd} {ma mb : EM} {i j : Nat}
theorem par_rd {σ : L2.St} {H : Hp} {N : Ends} (h : rdS B (sPar i j ma mb) N σ H) : rdE B ma σ H fun x H1 => rdE B mb σ H1 fun y H2 => N.nx ((σ.set i (some x)).set j (some y)) H2 := by
  obtain ⟨g, p, R, k⟩ := h
  refine ⟨g, p, R, ?_⟩
  unfold sPar at k
  cases e1 : ma p with
  | none => rw [e1] at k; exact k
  | some w =>
    rw [e1] at k
    cases w with
    | exc x st => exact k
    | val r1 p1 =>
      intro v1 H1 ρ1 R1 q1 f1 a1
      simp only at k
      -- the end: both are stored
      have fin : ∀ {v2 : V} {H2 : Hp} {ρ2 : List Addr} {r2 : RV} {p2 : PS}, mb p1 = some (.val r2 p2) → Rel B ⟨ρ2, g.hid⟩ σ H2 p2 → ρ1 <+: ρ2 → Frz H1 H2 → RepR B ⟨ρ2, g.hid⟩ σ H2 p2 r1 v1 → RepR B ⟨ρ2, g.hid⟩ σ H2 p2 r2 v2 → (∀ d1 d2, r1 = .fr d1 → r2 = .fr d2 → v1 ≠ v2) → N.nx ((σ.set i (some v1)).set j (some v2)) H2 := by
        intro v2 H2 ρ2 r2 p2 e2 R2 q2 f2 a1' a2 nd
        simp only [e2] at k
        cases e3 : gNm i r1 p2 with
        | none => simp only [e3] at k; exact k.elim
        | some p3 =>
          simp only [e3] at k
          cases e4 : gNm j r2 p3 with
          | none => simp only [e4] at k; exact k.elim
          | some p4 =>
            simp only [e4] at k
            have R3 := R2.bindTo a1' e3
            have n2 : ∀ jj, r2 ≠ .pl jj := fun jj z => by
              subst z
              unfold gNm at e4
              split at e4 <;> cases e4
            exact k _ H2 ρ2 (R3.bindTo (RepR.stored a1' a2 e3 n2 nd) e4) (q1.trans q2) (f1.trans f2)
      by_cases n : ∃ d, r1 = .fr d
      · obtain ⟨d, rfl⟩ := n
        obtain ⟨ad, rfl, o, n1, n2, n3, n4⟩ := a1
        obtain ⟨u, hu, mu⟩ := o.at_
        refine ⟨⟨ρ1, (ad, u) :: g.hid⟩, p1, R1.asideOld hu mu ⟨n1, n2, n3, n4⟩, ?_⟩
        cases e2 : mb p1 with
        | none => simp only [e2] at k; exact k
        | some w2 =>
          cases w2 with
          | exc x st => simp only [e2] at k; exact k
          | val r2 p2 =>
            intro v2 H2 ρ2 R2 q2 f2 a2
            obtain ⟨R2', h1, h2, h3, h4, h5⟩ := R2.unaside
            have o2 : Own B.W ρ2 H2 d ad := o.mono f2 q2 fun w hw => by rw [hu] at hw; cases hw; exact h1
            have a2' : RepR B ⟨ρ2, g.hid⟩ σ H2 p2 r2 v2 := by
              cases r2 with
              | sh d2 => exact a2
              | pl jj => exact a2
              | fr d2 =>
                obtain ⟨a3, e3, o3, m1, m2, m3, m4⟩ := a2
                exact ⟨a3, e3, o3, m1, m2, fun w hw => m3 w (List.mem_cons_of_mem _ hw), m4⟩
            refine fin e2 R2' q2 f2 ⟨ad, rfl, o2, h2, h3, h4, h5⟩ a2' fun d1 d2 _ z2 => ?_
            subst z2
            obtain ⟨a3, e3, _, _, _, m3, _⟩ := a2
            intro z
            rw [e3] at z
            cases z
            exact m3 u List.mem_cons_self
      · refine ⟨⟨ρ1, g.hid⟩, p1, R1, ?_⟩
        cases e2 : mb p1 with
        | none => simp only [e2] at k; exact k
        | some w2 =>
          cases w2 with
          | exc x st => simp only [e2] at k; exact k
          | val r2 p2 =>
            intro v2 H2 ρ2 R2 q2 f2 a2
            exact fin e2 R2 q2 f2 (RepR.on (g := ⟨ρ1, g.hid⟩) (ρ' := ρ2) (fun d z => n ⟨d, z⟩) f2 q2 a1) a2 fun d1 d2 z _ => (n ⟨d1, z⟩).elim
theorem sims_par (i j : Nat) {x y : Str} {a b : Expr} {px py pt pos : Pos} {kt k2 pt2} (hc : X.calm = true) (hN : X.N.Nodup) (hi : X.N[i]? = some x) (hj : X.N[j]? = some y) (hij : i ≠ j)
    (hx : X.env.scope.names.lookup x = some .local) (hy : X.env.scope.names.lookup y = some .local) (ha : PE X a (rdE B ma)) (hb : PE X b (rdE B mb))
    (hw : swappedStores [.Tuple [.Name x px, .Name y py] kt pt] (.Tuple [a, b] k2 pt2) X.env = pure (some [x, y]))
    (s1 : starEach [a, b] X.env = (false, eval a X.env) :: starEach [b] X.env := by rfl) (s2 : starEach [b] X.env = (false, eval b X.env) :: starEach [] X.env := by rfl)
    (hs : swapsWithSole [.Tuple [.Name x px, .Name y py] kt pt] (.Tuple [a, b] k2 pt2) pos.line X.env = pure false := by rfl) :
    L2.PS X (.Assign [.Tuple [.Name x px, .Name y py] kt pt] (.Tuple [a, b] k2 pt2) pos) (rdS B (sPar i j ma mb)) :=
  (ps_par hc hN hi hj hij hx hy (pa_cons ha (pa_cons hb pa_nil s2) s1) hw hs).imp fun N σ H h => by
    obtain ⟨g, p, R, k⟩ := par_rd h
    refine ⟨g, p, R, Post.imp (fun v1 H1 z => ?_) k⟩
    obtain ⟨g, p, R, k⟩ := z
    exact ⟨g, p, R, Post.imp (fun v2 H2 z => ⟨v1, v2, rfl, z⟩) k⟩
end
/-! ### name op= e -/
def sAug (pr : D → D → Option RV) (i : Nat) (m : EM) : SM := fun p => match get0 p (.pl i) with
  | some _ => bindS m (fun r p1 => match op2 pr p1 (.pl i) r with
      | some (.val r' p2) => match gNm i r' p2 with
        | some p3 => some (.next p3)
        | none => none
      | _ => none) p
  | none => none
theorem sims_aug (i : Nat) {X : Cx} {B : Bd} {m : EM} {x : Str} {e : Expr} {op : Operator} {r : R2} {pr : D → D → Option RV} {pos pos' : Pos} (hN : X.N.Nodup) (hi : X.N[i]? = some x) (hx : Loc X.env.scope x) (he : PE X e (rdE B m)) (ho : OpR X (inplaceOp op) r) (hp : P2 B.W r pr)
    (hf : X.fn x = true ∨ X.env.scope.names.lookup x = some .local := by first | exact .inl rfl | exact .inr rfl | assumption) : L2.PS X (.AugAssign (.Name x pos') op e pos) (rdS B (sAug pr i m)) :=
  (ps_aug hN hi hx he (ti := r) (fun pins s σ H x y v u Q I rx ry q => ho pins s σ H x y v u Q I rx ry q) hf).imp fun N σ H h => by
    obtain ⟨g, p, R, k⟩ := h
    unfold sAug at k
    cases e0 : get0 p (.pl i) with
    | none => simp only [e0] at k; exact k.elim
    | some d0 =>
      simp only [e0] at k
      obtain ⟨o, hσ⟩ := R.at_pl e0
      refine ⟨o, hσ, ?_⟩
      refine bindS_rd (N := N) ⟨g, p, R, k⟩ fun g1 p1 r1 v1 H1 R1 a1 k1 => ?_
      have ao : RepR B g1 σ H1 p1 (.pl i) o := hσ
      refine op2_ok (Q := fun z H2 => N.nx (σ.set i (some z)) H2) hp R1 ao a1 ?_
      cases e2 : op2 pr p1 (.pl i) r1 with
      | none => rw [e2] at k1; exact k1.elim
      | some w =>
        rw [e2] at k1
        cases w with
        | exc x st => exact k1.elim
        | val r' p2 =>
          simp only at k1
          intro v2 H2 ρ2 R2 q2 f2 a2
          cases e3 : gNm i r' p2 with
          | none => simp only [e3] at k1; exact k1.elim
          | some p3 =>
            simp only [e3] at k1
            exact k1 _ H2 ρ2 (R2.bindTo a2 e3) q2 f2
theorem aug_add {X : Cx} : OpR X (inplaceOp .Add) (rI0 fun i j => .int (i + j)) := iop_add
theorem aug_sub {X : Cx} : OpR X (inplaceOp .Sub) (rI0 fun i j => .int (i - j)) := iop_sub
end Mi

/-! ## The mirror: objects of the text's classes: fields, properties, methods -/
namespace Mi
open PySem PySem.Spec PyProof.Rows L2 Lamp SlX Gd

/-- an instance with slots, locked or not -/
def SlL (H : Hp) (a C dx : Addr) (vs : List (Option V)) : Prop := Rd H a (SlO a C dx vs) ∧ H dx = some (.xd [])
theorem RepB.sob {W : Wd} {ρ : List Addr} {H : Hp} {c : Nat} {fs : List D} {v : V} (s : W.slots c = true) (h : RepB W ρ H (.obj c fs) v) : ∃ a dx vs, v = .ref a ∧ SlL H a (W.cC c) dx (vs.map some) ∧ Reps W ρ H fs vs := by
  rcases h with h | ⟨a, rfl, h⟩
  · cases h with
    | sob _ h h' r => exact ⟨_, _, _, rfl, ⟨.inr ⟨_, h⟩, h'⟩, r⟩
    | pob s' => rw [s] at s'; cases s'
  · cases h with
    | sob _ h h' r => exact ⟨_, _, _, rfl, ⟨.inl h, h'⟩, r⟩
    | pob s' => rw [s] at s'; cases s'
theorem RepB.pob {W : Wd} {ρ : List Addr} {H : Hp} {c : Nat} {fs : List D} {v : V} (s : W.slots c = false) (h : RepB W ρ H (.obj c fs) v) : ∃ a dx ys vs, v = .ref a ∧ Rd H a (.ins (W.cC c) dx ys) ∧ Flds W c ys vs ∧ Reps W ρ H fs vs := by
  rcases h with h | ⟨a, rfl, h⟩
  · cases h with
    | sob s' => rw [s] at s'; cases s'
    | pob _ h l r => exact ⟨_, _, _, _, rfl, .inr ⟨_, h⟩, l, r⟩
  · cases h with
    | sob s' => rw [s] at s'; cases s'
    | pob _ h l r => exact ⟨_, _, _, _, rfl, .inl h, l, r⟩
section
variable {X : Cx} {pins : List (Addr × Obj)} {σ : L2.St} {H : Hp} {s : Shared} {a C dx : Addr} {W : Wd} {ρ : List Addr}
theorem sll_inst {vs : List (Option V)} (I : Inv X pins σ H s) (h : SlL H a C dx vs) : ∃ (sl : Array (Option Value)) (od : Obj), SlR vs sl ∧ PySem.W.InstAt s.heap a { PySem.W.instObj C dx with slots := sl } C (some od) ∧ ∀ f, PySem.W.lookIn f od = some Option.none := by
  obtain ⟨⟨sl, e, r⟩, _, _⟩ := (show ObjOk X.prog X.w H s.heap a (SlO a C dx vs) from h.1.ok I.hok)
  obtain ⟨mA, n, r2⟩ := I.hok dx _ h.2
  obtain ⟨od, ho, hl⟩ := lookIn_ns n
  exact ⟨sl, od, r, ⟨e, rfl, rfl, ho⟩, fun f => by rw [hl f, RelO.none_of (r2 f)]⟩
theorem ins_rd {ys : List (Str × V)} (I : Inv X pins σ H s) (h : Rd H a (.ins C dx ys)) : ∃ mA, ObjM s.heap a dx C mA ∧ ∀ f, RelO (ys.lookup f) (mA f) := by
  obtain ⟨d, z, ne, ob, mA, n, r, q⟩ := (show ObjOk X.prog X.w H s.heap a (.ins C dx ys) from h.ok I.hok)
  exact ⟨mA, ⟨ob, n, ne⟩, r⟩
/-- what all that is asked of the class needs -/
structure ClM (W : Wd) (c : Nat) : Prop where
  pg : PySem.W.plainGet W.K (W.cC c) Str.empty = true
  ic : PySem.W.isClsIn W.K (W.cC c) = true
  hd : W.slots c = false → PySem.W.hasDictIn W.K (W.cC c) = true
theorem ClM.get {c : Nat} (k : ClM W c) (f : Str) : PySem.W.plainGet W.K (W.cC c) f = true := k.pg
theorem obj_inst {c : Nat} {fs : List D} {v : V} (I : Inv X pins σ H s) (h : RepB W ρ H (.obj c fs) v) : ∃ a ox od, v = .ref a ∧ PySem.W.InstAt s.heap a ox (W.cC c) (some od) ∧ ∀ f, (W.slots c = true ∨ f ∉ W.fld c) → PySem.W.lookIn f od = some Option.none := by
  cases e : W.slots c with
  | true =>
    obtain ⟨a, dx, vs, rfl, hs, _⟩ := h.sob e
    obtain ⟨sl, od, _, J, hl⟩ := sll_inst I hs
    exact ⟨a, _, od, rfl, J, fun f _ => hl f⟩
  | false =>
    obtain ⟨a, dx, ys, vs, rfl, hs, hf, _⟩ := h.pob e
    obtain ⟨mA, O, r⟩ := ins_rd I hs
    obtain ⟨od, J, hl⟩ := O.look
    refine ⟨a, _, od, rfl, J, fun f z => ?_⟩
    rcases z with z | z
    · cases z
    · rw [hl f, RelO.none_of (o := mA f) (by rw [← hf.no f z]; exact r f)]
end

/-! ### fields -/
/-- the field at place i of an instance of class c -/
def gFldO (c i c' : Nat) (fs : List D) : Option RV := if c' = c then fs[i]?.map RV.sh else none
def gFld (c i : Nat) : D → Option RV
  | .obj c' fs => gFldO c i c' fs
  | _ => none
def rFld (W : Wd) (c i : Nat) : V → Hp → VK → Prop := fun x H Q => ∃ ρ fs d, RepB W ρ H (.obj c fs) x ∧ fs[i]? = some d ∧ ∀ v, Rep W ρ H d v → Q v H
def AttR (X : Cx) (f : Str) (r : V → Hp → VK → Prop) : Prop :=
  ∀ (pins : List (Addr × Obj)) (σ : L2.St) (H : Hp) (s : Shared) (x : V) (u : Value) (Q : VK), Inv X pins σ H s → RelV x u → r x H Q → wpAny (model X.prog X.w) X.A (getAttr u f true) (EP X pins σ Q) X.xe s
theorem pe_att {X : Cx} {e : Expr} {f : Str} {pos : Pos} {ta : TE} {r : V → Hp → VK → Prop} (hr : AttR X f r) (he : PE X e ta) (hb : attributeBase e f X.env (eval e X.env) = eval e X.env) : PE X (.Attribute e f pos) (tUn r ta) := by
  refine ⟨fun pins s σ H Q I h => ?_⟩
  exact attr_of hb (thn (he.run pins s σ H _ I h) fun w s1 ⟨x, H1, I1, rx, q⟩ => hr pins σ H1 s1 x w Q I1 rx q)
theorem p_fld {W : Wd} {c i : Nat} : P1 W (rFld W c i) (gFld c i) := by
  refine ⟨fun ρ H d v Q r h => ?_, fun d => ?_⟩
  · cases d with
    | obj c' fs =>
      have h : PPost W ρ H Q (gFldO c i c' fs) := h
      unfold gFldO at h
      by_cases e : c' = c
      · subst e
        rw [if_pos rfl] at h
        cases e2 : fs[i]? with
        | none => rw [e2] at h; exact h.elim
        | some d => rw [e2] at h; exact ⟨ρ, fs, d, r, e2, fun v z => h v H (fun _ _ y => y) z⟩
      · rw [if_neg e] at h
        exact h.elim
    | _ => exact h.elim
  · cases d with
    | obj c' fs =>
      show noPl (gFldO c i c' fs)
      unfold gFldO
      split
      · cases fs[i]? <;> trivial
      · trivial
    | _ => trivial
section
variable {X : Cx} {B : Bd} {W : Wd} {c i : Nat} {f : Str} {p : Addr}
theorem att_slot (hK : X.K = W.K) (s : W.slots c = true) (k : SCls W.K (W.cC c)) (t : Slot1 W.K (W.cC c) f p i) : AttR X f (rFld W c i) := by
  intro pins σ H st x u Q I rx h
  obtain ⟨ρ, fs, d, hr, e, q⟩ := h
  obtain ⟨a, dx, vs, rfl, hs, rs⟩ := hr.sob s
  cases (show u = Value.ref a from rx)
  obtain ⟨v, ev, rv⟩ := rs.get e
  obtain ⟨sl, od, r, J, _⟩ := sll_inst I hs
  obtain ⟨u, eu, ru⟩ := r i v (by rw [List.getElem?_map, ev]; rfl)
  obtain ⟨m, F⟩ := I.fr
  have mk := I.mod.kin
  rw [hK] at mk
  refine PySem.W.get_slot F mk J (k.get f) k.ic t.at_ t.get t.tk t.ix (v := u) ?_ (handed_of ru) ⟨v, H, I.tok _, ru, q v rv⟩
  show (sl[i]?).join = some u
  rw [eu]
  rfl
theorem att_ins (hK : X.K = W.K) (s : W.slots c = false) (k : ClM W c) (n : NoAttr W.K (W.cC c) f) (hf : (W.fld c)[i]? = some f) : AttR X f (rFld W c i) := by
  intro pins σ H st x u Q I rx h
  obtain ⟨ρ, fs, d, hr, e, q⟩ := h
  obtain ⟨a, dx, ys, vs, rfl, hs, hl, rs⟩ := hr.pob s
  cases (show u = Value.ref a from rx)
  obtain ⟨v, ev, rv⟩ := rs.get e
  obtain ⟨mA, O, r⟩ := ins_rd I hs
  obtain ⟨u, hu, ru⟩ := RelO.some_of (v := v) (o := mA f) (by rw [← ev, ← hl.at_ i f hf]; exact r f)
  have ki := I.kIn
  rw [hK] at ki
  exact get_map ki O (k.get f) (k.hd s) n hu (handed_of ru) ⟨v, H, I.tok _, ru, q v rv⟩
theorem sim_fld {e : Expr} {pos : Pos} {ma : EM} (hr : AttR X f (rFld B.W c i)) (ha : PE X e (rdE B ma)) (hb : attributeBase e f X.env (eval e X.env) = eval e X.env := by rfl) : PE X (.Attribute e f pos) (rdE B (mUn (gFld c i) ma)) :=
  (pe_att hr ha hb).imp fun _ _ _ h => mUn_rd p_fld h
end

/-! ### what is done by a def of the class -/
/-- the thing is an instance of class c -/
def isC (c : Nat) (p : PS) (r : RV) : Bool := match r with
  | .sh d => match deref p d with
    | some (.obj c' _) => c' == c
    | _ => false
  | _ => false
theorem isC_rep {B : Bd} {g : Gh} {σ : L2.St} {H : Hp} {p : PS} {c : Nat} {r : RV} {v : V} (R : Rel B g σ H p) (a : RepR B g σ H p r v) (h : isC c p r = true) : (∃ d, r = .sh d ∧ Rep B.W g.ρ H d v) ∧ ∃ fs, RepB B.W g.ρ H (.obj c fs) v := by
  cases r with
  | fr d => cases h
  | pl i => cases h
  | sh d =>
    refine ⟨⟨d, rfl, a⟩, ?_⟩
    have h' : (match deref p d with
      | some (.obj c' _) => c' == c
      | _ => false) = true := h
    cases e : deref p d with
    | none => rw [e] at h'; cases h'
    | some d' =>
      rw [e] at h'
      cases d' with
      | obj c' fs =>
        simp only [beq_iff_eq] at h'
        subst h'
        exact ⟨fs, get_rep (r := .sh d) R a e⟩
      | _ => cases h'
def noX : Option ER → Option ER
  | some (.exc _ _) => none
  | r => r
/-- e.f, f a property with the getter fn -/
def mProp (c : Nat) (fn : Fn) (m : EM) : EM := bindE m fun r p => if isC c p r then noX (callF fn p [r]) else none
/-- o.m(e, ..) -/
def mMth (c : Nat) (fn : Fn) (m : EM) (ms : List EM) : EM := bindE m fun r p => if isC c p r then bindA ms (fun rs p => callF fn p (r :: rs)) p else none
section
variable {X : Cx} {B : Bd} {W : Wd} {c k : Nat} {f m : Str} {fa pa : Addr} {fd : FuncData} {ps : List Str} {fn : Fn} {pins : List (Addr × Obj)} {σ : L2.St} {H : Hp} {s : Shared} {E : XK}
theorem rep1 {g : Gh} {p : PS} {r : RV} {v : V} {d : D} (e : r = .sh d) (a : RepR B g σ H p r v) : RepRs B g σ H p [r] [v] := .cons (fun d' z => by rw [e] at z; cases z) a .nil
/-- where another place than the body's own is asked -/
theorem runAt {A : Around} {Q : VK} {us ws : List Value} {vs : List V} {kw : List (Str × Value)} {sp : Sp} (F : FnG X.prog X.w X.K X.mg X.base (L2.CX X.prog X.w) k fa fd ps sp) (hgd : A.guards = some []) (hr : Room k A) (e0 : Env0 X.prog X.w X.K X.mg X.base A X.stack s H)
    (bt : BindsTo s fd ⟨us, kw⟩ (ps.zip ws)) (hx : Passes (L2.CX X.prog X.w) X E) (I : Inv X pins σ H s) (r : Vals vs ws) (h : sp vs H Q E) :
    codeAny (model X.prog X.w) A (.call (.ref fa) ⟨us, kw⟩) (fun r s' => match r with | .ok (.ret v) => EP X pins σ Q v s' | .ok _ => False | .error e => X.xe e s') s := by
  refine codeAny_mono (F.goes A X.stack s H ⟨us, kw⟩ ws vs Q E hgd hr e0 bt r h) fun r s' hq => ?_
  cases r with
  | error e => exact hx pins σ H s e s' I hq
  | ok fl =>
    cases fl with
    | ret u => exact I.after hq
    | next => exact False.elim hq
    | brk => exact False.elim hq
    | cont => exact False.elim hq
theorem sim_prop {e : Expr} {pos : Pos} {ma : EM} {x0 : Str} (kc : ClM B.W c) (hK : X.K = B.W.K) (hp : PropOf B.W.K (B.W.cC c) f pa fa) (F : FnM X.prog X.w B.W X.mg X.base k fa fd [x0] fn) (hgd : X.A.guards = some []) (hr : Room (k + 1) X.A) (hb : Binds B.W.K fd [x0] [])
    (ha : PE X e (rdE B ma)) (hbs : attributeBase e f X.env (eval e X.env) = eval e X.env := by rfl) : PE X (.Attribute e f pos) (rdE B (mProp c fn ma)) := by
  refine ⟨fun pins s σ H Q I h => ?_⟩
  have h1 := bind_rd h (Q' := fun v H1 => ∃ g p r, Rel B g σ H1 p ∧ RepR B g σ H1 p r v ∧ isC c p r = true ∧ Post B g σ H1 Q (noX (callF fn p [r]))) fun g p' r v H' R a k => by
    by_cases z : isC c p' r = true
    · rw [if_pos z] at k
      exact ⟨g, p', r, R, a, z, k⟩
    · rw [if_neg z] at k
      exact k.elim
  refine attr_of hbs (thn (ha.run pins s σ H _ I h1) fun u s1 ⟨x, H1, I1, rx, g, p, r, R, a, z, q⟩ => ?_)
  obtain ⟨⟨d, er, _⟩, fs, rb⟩ := isC_rep R a z
  obtain ⟨ad, ox, od, rfl, J, _⟩ := obj_inst I1 rb
  cases (show u = Value.ref ad from rx)
  have q1 : fnSp B.W 1 fn [.ref ad] H1 Q (fun _ _ _ => False) := by
    have q2 : Post ⟨B.W, B.H0, B.ρ0, fun _ _ _ => False⟩ g σ H1 Q (callF fn p [r]) := by
      cases e : callF fn p [r] with
      | none => rw [e] at q; exact q.elim
      | some w =>
        rw [e] at q
        cases w with
        | exc x st => exact q.elim
        | val r2 p2 => exact fun v H2 ρ2 R2 q2 f2 a2 => q v H2 ρ2 ⟨R2.slot, R2.dis, R2.new, R2.cel, R2.cln, R2.cnd, R2.pre, R2.cnw, R2.hid, R2.hnd, R2.keep, R2.len⟩ q2 f2 (by cases r2 <;> exact a2)
    exact call_sp (B := ⟨B.W, B.H0, B.ρ0, fun _ _ _ => False⟩) (n := 1) rfl ⟨R.slot, R.dis, R.new, R.cel, R.cln, R.cnd, R.pre, R.cnw, R.hid, R.hnd, R.keep, R.len⟩ (rep1 er (by subst er; exact a)) q2
  obtain ⟨rest, hrec⟩ := hp.rec_
  have I2 : Inv X pins σ H1 { s1 with toks := s1.toks + 1 } := I1.tok (s1.toks + 1)
  have ki := I1.kIn
  rw [hK] at ki
  have bt := hb { s1 with toks := s1.toks + 1 } [.ref ad] ki rfl
  have cg := PySem.W.plainGet_of (kc.get f)
  refine PySem.W.get_bind ki J cg.1 (PySem.W.findObj_data kc.ic hp.at_ hp.get hp.tak) cg.2 (wpAny_call (PySem.W.prop_get (s := { s1 with toks := s1.toks + 1 }) ki hrec ?_))
  have F' : FnM X.prog X.w B.W X.mg X.base k fa fd [x0] fn := F
  unfold FnM at F'
  rw [← hK] at F'
  refine codeAny_mono (F'.goes X.A.in1 X.stack { s1 with toks := s1.toks + 1 } H1 ⟨[.ref ad], []⟩ [.ref ad] [.ref ad] Q (fun _ _ _ => False) hgd hr.in1 I2.env0.in1 bt (.cons rfl .nil) q1) fun r s' hq => ?_
  cases r with
  | error e => obtain ⟨_, _, _, _, _, _, _, _, _, _, _, _, z⟩ := hq; exact z.elim
  | ok fl =>
    cases fl with
    | ret u =>
      obtain ⟨v, H', I3, rv, q3⟩ := I2.after hq
      exact wpAny_of_eq (PySem.W.handedOut_of (handed_of rv)) ⟨v, H', I3, rv, q3⟩
    | next => exact False.elim hq
    | brk => exact False.elim hq
    | cont => exact False.elim hq
theorem meth_post {g : Gh} {p : PS} {r : RV} {v : V} {d : D} {Q : VK} {ms : List EM} (R : Rel B g σ H p) (er : r = .sh d) (a : RepR B g σ H p r v) (n : ms.length + 1 = ps.length) (q : Post B g σ H Q (bindA ms (fun rs p => callF fn p (r :: rs)) p)) :
    rdA B ms σ H fun vs H1 => fnSp B.W ps.length fn (v :: vs) H1 Q B.E := by
  refine ⟨g, p, R, ?_⟩
  unfold bindA at q
  cases e : args ms p with
  | none => rw [e] at q; exact q
  | some w =>
    rw [e] at q
    cases w with
    | exc x st => exact q
    | vals rs p' =>
      intro vs H1 ρ1 R1 q1 f1 a1
      refine call_sp (g := ⟨ρ1, g.hid⟩) (rs := r :: rs) (by rw [List.length_cons, args_len e, n]) R1 (.cons (fun d' z => by rw [er] at z; cases z) ?_ a1) (Post.later q1 f1 q)
      subst er
      exact Rep.mono f1 q1 a
theorem sim_meth {o e : Expr} {es : List Expr} {pos apos : Pos} {mo : EM} {ms : List EM} {pl : Sem Bool} (kc : ClM B.W c) (hK : X.K = B.W.K) (hm : Meth B.W.K (B.W.cC c) m fa) (hs : B.W.slots c = true ∨ m ∉ B.W.fld c) (F : FnM X.prog X.w B.W X.mg X.base k fa fd ps fn) (n : ms.length + 1 = ps.length) (hgd : X.A.guards = some []) (hr : Room k X.A) (hb : Binds B.W.K fd ps [])
    (hx : Passes (L2.CX X.prog X.w) X B.E) (ho : PE X o (rdE B mo)) (ha : PA X (e :: es) (rdA B ms)) (hst : starEach (e :: es) X.env = (false, eval e X.env) :: starEach es X.env := by rfl) (hpl : (backTo pos (starEach es X.env)).any (·.1) = false := by rfl)
    (ht : eval (.Call (.Attribute o m apos) (e :: es) [] pos) X.env = (do
      let ov ← eval o X.env
      standAt apos.atName
      let (f, first) ← holding [ov] (getMethod ov m pl)
      callWith pos f first (backTo pos (starEach (e :: es) X.env)) (backToKw pos (keywordEach [] X.env))) := by rfl) :
    PE X (.Call (.Attribute o m apos) (e :: es) [] pos) (rdE B (mMth c fn mo ms)) := by
  refine ⟨fun pins s σ H Q I h => ?_⟩
  have h1 := bind_rd h (Q' := fun v H1 => ∃ g p r, Rel B g σ H1 p ∧ RepR B g σ H1 p r v ∧ isC c p r = true ∧ Post B g σ H1 Q (bindA ms (fun rs p => callF fn p (r :: rs)) p)) fun g p' r v H' R a k => by
    by_cases z : isC c p' r = true
    · rw [if_pos z] at k
      exact ⟨g, p', r, R, a, z, k⟩
    · rw [if_neg z] at k
      exact k.elim
  refine PySem.W.methodCall_KW (pl := pl) (thn (ho.run pins s σ H _ I h1) fun u s1 ⟨x, H1, I1, rx, g, p, r, R, a, z, q⟩ => ?_) ht
  obtain ⟨⟨d, er, _⟩, fs, rb⟩ := isC_rep R a z
  obtain ⟨ad, ox, od, rfl, J, hl⟩ := obj_inst I1 rb
  cases (show u = Value.ref ad from rx)
  have ki := I1.kIn
  rw [hK] at ki
  have cg := PySem.W.plainGet_of (kc.get m)
  have F' : FnM X.prog X.w B.W X.mg X.base k fa fd ps fn := F
  unfold FnM at F'
  rw [← hK] at F' hb
  have mk := hm.kp
  rw [← hK] at mk
  refine PySem.W.method_fn ki J cg.1 cg.2 hm.at_ (beq_iff_eq.mp hm.fn) (by show (PySem.W.lookIn m od).map (·.isSome) = some false; rw [hl m hs]; rfl) ?_
  refine PySem.W.callWith_K (first := [.ref ad]) (h₀ := X.base) I.ok.mod.kin mk (thn (ha.run pos pins s1 σ H1 _ I1 (meth_post (ps := ps) R er a n q)) fun us s2 ⟨ws, H2, I2, r2, q2⟩ => ⟨I2.kIn, ?_⟩) hst hpl
  have rv : Vals (V.ref ad :: ws) (Value.ref ad :: us) := .cons rfl r2
  have bt := hb s2 (.ref ad :: us) I2.kIn (by rw [List.append_nil, ← rv.length]; exact F'.many _ _ _ _ q2)
  rw [List.append_nil] at bt
  exact wpAny_call (runAt F' hgd hr I2.env0 bt hx I2 rv q2)
theorem sim_meth0 {o : Expr} {pos apos : Pos} {mo : EM} {pl : Sem Bool} (kc : ClM B.W c) (hK : X.K = B.W.K) (hm : Meth B.W.K (B.W.cC c) m fa) (hs : B.W.slots c = true ∨ m ∉ B.W.fld c) (F : FnM X.prog X.w B.W X.mg X.base k fa fd ps fn) (n : 0 + 1 = ps.length) (hgd : X.A.guards = some []) (hr : Room k X.A) (hb : Binds B.W.K fd ps [])
    (hx : Passes (L2.CX X.prog X.w) X B.E) (ho : PE X o (rdE B mo))
    (ht : eval (.Call (.Attribute o m apos) [] [] pos) X.env = (do
      let ov ← eval o X.env
      standAt apos.atName
      let (f, first) ← holding [ov] (getMethod ov m pl)
      callWith pos f first (backTo pos (starEach [] X.env)) (backToKw pos (keywordEach [] X.env))) := by rfl) :
    PE X (.Call (.Attribute o m apos) [] [] pos) (rdE B (mMth c fn mo [])) := by
  refine ⟨fun pins s σ H Q I h => ?_⟩
  have h1 := bind_rd h (Q' := fun v H1 => ∃ g p r, Rel B g σ H1 p ∧ RepR B g σ H1 p r v ∧ isC c p r = true ∧ Post B g σ H1 Q (bindA [] (fun rs p => callF fn p (r :: rs)) p)) fun g p' r v H' R a k => by
    by_cases z : isC c p' r = true
    · rw [if_pos z] at k
      exact ⟨g, p', r, R, a, z, k⟩
    · rw [if_neg z] at k
      exact k.elim
  refine PySem.W.methodCall_KW (pl := pl) (thn (ho.run pins s σ H _ I h1) fun u s1 ⟨x, H1, I1, rx, g, p, r, R, a, z, q⟩ => ?_) ht
  obtain ⟨⟨d, er, _⟩, fs, rb⟩ := isC_rep R a z
  obtain ⟨ad, ox, od, rfl, J, hl⟩ := obj_inst I1 rb
  cases (show u = Value.ref ad from rx)
  have ki := I1.kIn
  rw [hK] at ki
  have cg := PySem.W.plainGet_of (kc.get m)
  have F' : FnM X.prog X.w B.W X.mg X.base k fa fd ps fn := F
  unfold FnM at F'
  rw [← hK] at F' hb
  have mk := hm.kp
  rw [← hK] at mk
  refine PySem.W.method_fn ki J cg.1 cg.2 hm.at_ (beq_iff_eq.mp hm.fn) (by show (PySem.W.lookIn m od).map (·.isSome) = some false; rw [hl m hs]; rfl) ?_
  have q2 : fnSp B.W ps.length fn [.ref ad] H1 Q B.E := by
    obtain ⟨g0, p0, R0, k0⟩ := meth_post (ps := ps) (ms := []) R er a n q
    exact k0 [] H1 g0.ρ R0 (List.prefix_refl _) (Frz.refl _) .nil
  have rv : Vals [V.ref ad] [Value.ref ad] := .cons rfl .nil
  have bt := hb s1 [.ref ad] I1.kIn n
  exact PySem.W.callWith_K0 (first := [.ref ad]) I1.kIn mk (wpAny_call (runAt F' hgd hr I1.env0 bt hx I1 rv q2))
end
end Mi

/-! ## The mirror: new instances -/
namespace Mi
open PySem PySem.Spec PyProof.Rows L2 Lamp SlX Gd

def unsome : List (Option D) → Option (List D)
  | [] => some []
  | some d :: r => (unsome r).map (d :: ·)
  | none :: _ => none
theorem unsome_eq : ∀ {fs : List (Option D)} {ds : List D}, unsome fs = some ds → fs = ds.map some
  | [], ds, e => by cases e; rfl
  | some d :: r, ds, e => by
    unfold unsome at e
    cases e1 : unsome r with
    | none => rw [e1] at e; cases e
    | some ds' => rw [e1] at e; cases e; rw [unsome_eq e1]; rfl
  | none :: _, ds, e => by cases e
/-- how __init__ begins: me is where the new instance stands -/
def enterI (me : Addr) (N c nf : Nat) (ds st : List D) : PS := ⟨.self me c (List.replicate nf none) :: (ds.map Slot.sh ++ List.replicate (N - (ds.length + 1)) .no), st⟩
def leaveI (me : Addr) : Option SR → Option FR
  | some (.next p) => match (p.env[0]? : Option Slot) with
    | some (Slot.self me' c fs) => if me' = me then (unsome fs).map fun ds => .ret (.fr (.obj c ds)) p.st else none
    | _ => none
  | some (.exc x st) => some (.exc x st)
  | _ => none
def initAt (me : Addr) (N c nf : Nat) (m : SM) : Fn := fun ds st => leaveI me (m (enterI me N c nf ds st))
open Classical in
noncomputable def runInit (N c nf : Nat) (m : SM) : Fn := fun ds st => if h : ∃ r, ∀ me, initAt me N c nf m ds st = some r then some (Classical.choose h) else none
theorem runInit_eq {N c nf : Nat} {m : SM} {ds st : List D} {r : FR} (h : ∀ me, initAt me N c nf m ds st = some r) : runInit N c nf m ds st = some r := by
  have hx : ∃ r, ∀ me, initAt me N c nf m ds st = some r := ⟨r, h⟩
  unfold runInit
  rw [dif_pos hx, ← Classical.choose_spec hx 0, h 0]
theorem runInit_at {N c nf : Nat} {m : SM} {ds st : List D} {r : FR} (h : runInit N c nf m ds st = some r) (me : Addr) : initAt me N c nf m ds st = some r := by
  unfold runInit at h
  split at h
  · rename_i hx
    cases h
    exact Classical.choose_spec hx me
  · cases h
theorem leaveI_fr {me : Addr} {r : Option SR} {q : RV} {st : List D} (h : leaveI me r = some (.ret q st)) : ∃ c ds, q = .fr (.obj c ds) := by
  unfold leaveI at h
  split at h
  · split at h
    · split at h
      · rename_i p me' c fs _ _
        cases e : unsome fs with
        | none => rw [e] at h; cases h
        | some ds => rw [e] at h; cases h; exact ⟨_, _, rfl⟩
      · cases h
    · cases h
  · cases h
  · cases h

/-! ### the fields -/
theorem full {W : Wd} {ρ : List Addr} {H : Hp} : ∀ {ds : List D} {vs : List (Option V)}, vs.length ≤ ds.length → (∀ (i : Nat) (d : D), ds[i]? = some d → ∃ v, vs[i]? = some (some v) ∧ Rep W ρ H d v) → ∃ ws, vs = ws.map some ∧ Reps W ρ H ds ws
  | [], vs, l, _ => by
    cases vs with
    | nil => exact ⟨[], rfl, .nil⟩
    | cons v vs => simp at l
  | d :: ds, vs, l, h => by
    obtain ⟨v, e, r⟩ := h 0 d rfl
    cases vs with
    | nil => cases e
    | cons v' vs =>
      cases e
      obtain ⟨ws, e2, rs⟩ := full (ds := ds) (vs := vs) (by simpa using l) fun i d' e' => h (i + 1) d' (by simpa using e')
      exact ⟨v :: ws, by rw [e2]; rfl, .cons r rs⟩
theorem fullF {W : Wd} {ρ : List Addr} {H : Hp} {ys : List (Str × V)} : ∀ {ds : List D} {fl : List Str}, ds.length = fl.length → (∀ (i : Nat) (d : D), ds[i]? = some d → ∃ f v, fl[i]? = some f ∧ ys.lookup f = some v ∧ Rep W ρ H d v) → ∃ ws, Reps W ρ H ds ws ∧ ∀ (i : Nat) (f : Str), fl[i]? = some f → ys.lookup f = ws[i]?
  | [], fl, l, _ => by
    cases fl with
    | nil => exact ⟨[], .nil, fun i f e => by simp at e⟩
    | cons f fl => simp at l
  | d :: ds, fl, l, h => by
    obtain ⟨f, v, e, e1, r⟩ := h 0 d rfl
    cases fl with
    | nil => cases e
    | cons f' fl =>
      cases e
      obtain ⟨ws, rs, e2⟩ := fullF (ds := ds) (fl := fl) (by simpa using l) fun i d' e' => h (i + 1) d' (by simpa using e')
      refine ⟨v :: ws, .cons r rs, fun i f e => ?_⟩
      cases i with
      | zero => cases e; exact e1
      | succ i => exact (e2 i f (by simpa using e)).trans (by simp)
theorem SelfAt.done {W : Wd} {ρ : List Addr} {H : Hp} {c : Nat} {fs : List (Option D)} {ds : List D} {a : Addr} (h : SelfAt W ρ H c fs a) (e : unsome fs = some ds) : Own W ρ H (.obj c ds) a := by
  obtain rfl := unsome_eq e
  obtain ⟨l0, h⟩ := h
  rw [List.length_map] at l0
  have lift : ∀ {i : Nat} {d : D}, ds[i]? = some d → (ds.map some)[i]? = some (some d) := fun {i d} e => by rw [List.getElem?_map, e]; rfl
  rcases h with ⟨s, dx, vs, ne, h, hx, l, r⟩ | ⟨s, dx, ys, h, no, l, r⟩
  · obtain ⟨ws, e, rs⟩ := full (ds := ds) (vs := vs) (by simpa using l) fun i d e => r i d (lift e)
    subst e
    exact .sob s h hx rs
  · obtain ⟨ws, rs, e⟩ := fullF (ds := ds) (fl := W.fld c) (ys := ys) l0 fun i d e => r i d (lift e)
    exact .pob s h ⟨e, no, by rw [← l0, rs.len]⟩ rs

/-! ### a def __init__ -/
def IPost (W : Wd) (ρ : List Addr) (H1 : Hp) (x : Addr) (Q : VK) (E : XK) : Option FR → Prop
  | some (.ret (.fr d) st) => ∀ H' ρ', Later ρ ρ' H1 H' → Cells W ρ' H' st → Own W ρ' H' d x → x ∉ ρ' → Q .non H'
  | some (.exc e st) => ExcAt ⟨W, H1, ρ, E⟩ e st
  | _ => False
def initSp (W : Wd) (c n : Nat) (f : Fn) : Sp := fun vs H Q E => ∃ ρ ds st x dx H1 vs', vs = .ref x :: vs' ∧ H = upd (upd H1 dx (.own x)) x (.ins (W.cC c) dx []) ∧ H1 x = none ∧ H1 dx = none ∧ dx ≠ x ∧
  Cells W ρ H1 st ∧ Reps W ρ H1 ds vs' ∧ ds.length = n ∧ IPost W ρ H1 x Q E (f ds st)
theorem Cells.notIn {W : Wd} {ρ : List Addr} {H : Hp} {st : List D} (c : Cells W ρ H st) {a : Addr} (h : H a = none) : a ∉ ρ := fun m => by
  obtain ⟨u, e, _⟩ := c.mut m
  rw [h] at e
  cases e
theorem rel_startI {W : Wd} {ρ : List Addr} {H1 Hs : Hp} {ds st : List D} {vs : List V} {E : XK} {x : Addr} {c nf : Nat} (N : List Str) (k : Cells W ρ H1 st) (r : Reps W ρ H1 ds vs) (hl : ds.length + 1 ≤ N.length) (hx : H1 x = none) (s : Same H1 Hs) (sa : SelfAt W ρ Hs c (List.replicate nf none) x) :
    Rel ⟨W, H1, ρ, E⟩ ⟨ρ, []⟩ (L2.start N (.ref x :: vs)) Hs (enterI x N.length c nf ds st) := by
  have at_ : ∀ {i : Nat} {s : Slot}, (enterI x N.length c nf ds st).env[i]? = some s → (i = 0 ∧ s = .self x c (List.replicate nf none)) ∨ s = .no ∨ ∃ d v, s = .sh d ∧ (L2.start N (.ref x :: vs))[i]? = some (some v) ∧ Rep W ρ Hs d v := fun {i s'} e => by
    cases i with
    | zero => cases e; exact .inl ⟨rfl, rfl⟩
    | succ i =>
      have r' : Reps W ρ H1 (.non :: ds) (.non :: vs) := .cons .non r
      have e' : (enter N.length (.non :: ds) st).env[i + 1]? = some s' := e
      rcases reps_at r' N e' with z | ⟨d, v, z, e2, rr⟩
      · exact .inr (.inl z)
      · exact .inr (.inr ⟨d, v, z, e2, rr.mono (.of s) (List.prefix_refl _)⟩)
  have own : ∀ {a : Addr} {i : Nat}, OwnAt (enterI x N.length c nf ds st) (L2.start N (.ref x :: vs)) a i → i = 0 ∧ a = x := by
    rintro a i ⟨s', e, o, l⟩
    rcases at_ e with ⟨rfl, rfl⟩ | rfl | ⟨d, v, rfl, _⟩
    · cases l
      exact ⟨rfl, rfl⟩
    · cases o
    · cases o
  refine ⟨fun i s' e => ?_, fun i j a p q => (own p).1.trans (own q).1.symm, fun i a p => ?_, fun n d e => ?_, k.len, k.nd, List.prefix_refl _, fun n a e le => ?_, fun x h => (nomatch h), List.nodup_nil, fun b o e _ => s _ _ e, ?_⟩
  · rcases at_ e with ⟨rfl, rfl⟩ | rfl | ⟨d, v, rfl, e2, rr⟩
    · exact ⟨x, rfl, sa, rfl⟩
    · trivial
    · exact ⟨v, e2, rr⟩
  · obtain ⟨_, rfl⟩ := own p
    exact ⟨k.notIn hx, fun u h => (nomatch h), hx⟩
  · obtain ⟨a, e1, e2⟩ := k.at_ n d e
    exact ⟨a, e1, e2.mono (.of s) (List.prefix_refl _) fun u h => s _ _ h⟩
  · have hn : n < ρ.length := (List.getElem?_eq_some_iff.mp e).1
    have le' : ρ.length ≤ n := le
    omega
  · unfold enterI L2.start
    simp only [List.length_append, List.length_map, List.length_replicate, List.length_cons]
    have := r.len
    omega
theorem post_leaveI {W : Wd} {ρ : List Addr} {H1 Hs : Hp} {Q : VK} {E : XK} {x : Addr} {r : Option SR} {σ : L2.St} (h : IPost W ρ H1 x Q E (leaveI x r)) : PostS ⟨W, H1, ρ, E⟩ ⟨ρ, []⟩ σ Hs { nx := fun _ H' => Q .non H', rt := Q } r := by
  have later : ∀ {σ' : L2.St} {H' : Hp} {ρ' : List Addr} {p : PS}, Rel ⟨W, H1, ρ, E⟩ ⟨ρ', []⟩ σ' H' p → Later ρ ρ' H1 H' := fun R => ⟨R.pre, fun n a e le => R.cnw n a e le, fun b o e n => R.keep b o e n⟩
  cases r with
  | none => exact h.elim
  | some r =>
    cases r with
    | next p =>
      intro σ' H' ρ' R _ _
      unfold leaveI at h
      cases e : p.env[0]? with
      | none => simp only [e] at h; exact h.elim
      | some s =>
        cases s with
        | self me c fs =>
          simp only [e] at h
          by_cases z : me = x
          · subst z
            rw [if_pos rfl] at h
            cases e2 : unsome fs with
            | none => rw [e2] at h; exact h.elim
            | some ds =>
              rw [e2] at h
              obtain ⟨a, e3, sa, rfl⟩ := R.slot 0 _ e
              exact h H' ρ' (later R) R.cells (sa.done e2) (R.new 0 a ⟨_, e, rfl, e3⟩).1
          · rw [if_neg z] at h
            exact h.elim
        | _ => simp only [e] at h; exact h.elim
    | brk p => exact h.elim
    | cont p => exact h.elim
    | exc x st => exact h
    | ret r p => exact h.elim
end Mi

/-! ## The mirror: __init__ as a promise, C(..), calls by keyword -/
namespace Mi
open PySem PySem.Spec PyProof.Rows L2 Lamp SlX Gd

/-- a new instance with slots is looked at as one whose own dict is empty -/
theorem pss_slot {X : Cx} {body : List Stmt} {t : TS} (h : PSs X body t) : PSs X body (fun D σ H => ∃ a C dx, Slt H a C dx [] ∧ t D σ (slH H a C dx [])) := by
  refine ⟨fun pins s σ H D I q => ?_⟩
  obtain ⟨a, C, dx, hs, q⟩ := q
  obtain ⟨_, sl, mA, e0, _, _, _⟩ := slt_at I hs
  have I2 : Inv X pins σ (slH H a C dx []) { s with heap := s.heap, toks := s.toks } := inv_slot I hs (fun _ _ _ _ e => e) (fun _ z => z) e0 (SlR.nil sl)
  exact h.run pins s σ _ D I2 q
section
variable {P : Program} {w : World} {W : Wd} {mg : Str → Option Value} {base : Heap} {k : Nat} {f : Addr} {fd : FuncData} {ps : List Str} {self : Str}
abbrev FnI (P : Program) (w : World) (W : Wd) (mg : Str → Option Value) (base : Heap) (k : Nat) (f : Addr) (fd : FuncData) (self : Str) (ps : List Str) (c : Nat) (fn : Fn) : Prop :=
  FnG P w W.K mg base (L2.CX P w) k f fd (self :: ps) (initSp W c ps.length fn)
theorem okI {x qual : Str} {st : Stmt} {N : List Str} {m : SM} {c nf : Nat} (F : Fun W.K x qual st f fd) (S : FnScope N (self :: ps) (defScope st)) (hN : ps.length + 1 ≤ N.length) (hnf : (W.fld c).length = nf) (h100 : nf ≤ 100)
    (hbody : ∀ (cdv : Value) (A : Around) (outer : List Env) (s : Shared) (H H1 : Hp) (E : XK) (ρ : List Addr), A.guards = some [] → Room k (A.deeper (envOfC qual (defScope st) s.heap.objs.size f cdv)) →
      PSs (cxOf (L2.CX P w) P w W.K mg base N qual (defScope st) f cdv A outer s H E) (defBody st) (rdS ⟨W, H1, ρ, E⟩ m)) :
    FnI P w W mg base (k + 1) f fd self ps c (runInit N.length c nf m) := by
  refine okG F S (fun vs H Q E h => ?_) fun cdv A outer s H vs Q E hg hr h => ?_
  · obtain ⟨ρ, ds, st', x, dx, H1, vs', rfl, _, _, _, _, _, r, l, _⟩ := h
    rw [List.length_cons, List.length_cons, ← r.len, l]
  · obtain ⟨ρ, ds, st', x, dx, H1, vs', rfl, rfl, hx, hd, ne, kc, r, l, ip⟩ := h
    have lk : ∀ n : Nat, lack (List.replicate n none) = n := fun n => by simp [lack]
    have nn : ∀ (i : Nat) (d : D), (List.replicate nf (none : Option D))[i]? = some (some d) → False := fun i d e => by
      have := List.mem_of_getElem? e
      have := (List.mem_replicate.mp this).2
      cases this
    have hp : IPost W ρ H1 x Q E (leaveI x (m (enterI x N.length c nf ds st'))) := by
      cases e : runInit N.length c nf m ds st' with
      | none => rw [e] at ip; exact ip.elim
      | some r =>
        rw [e] at ip
        have e2 := runInit_at e x
        unfold initAt at e2
        rw [e2]
        exact ip
    have new : ∀ {b : Addr} {u : HO}, H1 b = some u → b ≠ x ∧ b ≠ dx := fun {b u} e => ⟨fun z => (by rw [z, hx] at e; cases e), fun z => (by rw [z, hd] at e; cases e)⟩
    cases hs : W.slots c with
    | true =>
      refine ⟨_, pss_slot (hbody cdv A outer s _ H1 E ρ hg hr), x, W.cC c, dx, .inl ⟨upd_same, rfl⟩, ⟨ρ, []⟩, _, rel_startI N kc r (by omega) hx (fun b u e => ?_) ?_, post_leaveI hp⟩
      · obtain ⟨n1, n2⟩ := new e
        rw [slH_ne n1 n2, upd_ne n1, upd_ne n2]
        exact e
      · refine ⟨by rw [List.length_replicate, hnf], .inl ⟨hs, dx, [], ne, upd_same, ?_, Nat.zero_le _, fun i d e => (nn i d e).elim⟩⟩
        show slH _ x (W.cC c) dx [] dx = _
        unfold slH
        rw [upd_ne ne, upd_same]
    | false =>
      refine ⟨_, hbody cdv A outer s _ H1 E ρ hg hr, ⟨ρ, []⟩, _, rel_startI N kc r (by omega) hx (fun b u e => ?_) ?_, post_leaveI hp⟩
      · obtain ⟨n1, n2⟩ := new e
        rw [upd_ne n1, upd_ne n2]
        exact e
      · refine ⟨by rw [List.length_replicate, hnf], .inr ⟨hs, dx, [], upd_same, fun _ _ => rfl, ?_, fun i d e => (nn i d e).elim⟩⟩
        rw [lk]
        show 0 + nf ≤ 100
        omega
end

/-! ### self.f = e -/
def sSelf (j : Nat) (m : EM) : SM := bindS m fun r p => match r with
  | .sh d => match (p.env[0]? : Option Slot) with
    | some (Slot.self me c fs) => match fs[j]? with
      | some none => some (.next { p with env := p.env.set 0 (.self me c (fs.set j (some d))) })
      | _ => none
    | _ => none
  | _ => none
theorem putS_len {i : Nat} {v : V} {vs : List (Option V)} {n : Nat} (h : vs.length ≤ n) (hi : i < n) : (putS i v vs).length ≤ n := by
  unfold putS
  rw [List.length_set, List.length_append, List.length_replicate]
  omega
theorem lack_set : ∀ {fs : List (Option D)} {j : Nat} {d : D}, fs[j]? = some none → lack (fs.set j (some d)) + 1 = lack fs
  | [], j, d, e => by simp at e
  | f :: fs, 0, d, e => by
    cases e
    simp [lack]
  | f :: fs, j + 1, d, e => by
    have ih := lack_set (fs := fs) (j := j) (d := d) (by simpa using e)
    unfold lack at ih ⊢
    cases f with
    | none => simp at ih ⊢; omega
    | some x => simp at ih ⊢; omega
section
variable {X : Cx} {B : Bd} {value : Expr} {f : Str} {x : Str} {pos pos' npos : Pos} {mv : EM}
/-- self.f = e, f at place j of class c -/
def sSelfC (c j : Nat) (mv : EM) : SM := bindS mv fun r p => match (p.env[0]? : Option Slot) with
  | some (Slot.self _ c' _) => if c' = c then sSelf j (fun p => some (.val r p)) p else none
  | _ => none
theorem sims_self (c j : Nat) (hK : X.K = B.W.K) (hx : X.N[0]? = some x) (hv : Vis X.env.scope x) (hf : (B.W.fld c)[j]? = some f) (hnd : (B.W.fld c).Nodup)
    (hc : (B.W.slots c = true ∧ SCls B.W.K (B.W.cC c) ∧ ∃ p, Slot1 B.W.K (B.W.cC c) f p j) ∨ (B.W.slots c = false ∧ Cls B.W.K (B.W.cC c) ∧ NoAttr B.W.K (B.W.cC c) f))
    (hm : PE X value (rdE B mv)) (hs : swapsWith value (some (.Attribute (.Name x npos) f pos')) pos.line X.env = pure false := by rfl) (hd : (x == ("__debug__" : Str)) = false := by decide) (hcd : (x == ("__classdict__" : Str)) = false := by decide) :
    L2.PS X (.Assign [.Attribute (.Name x npos) f pos'] value pos) (rdS B (sSelfC c j mv)) := by
  have hvar := pe_var (X := X) (i := 0) (pos := npos) hx hv hd hcd
  have core : ∀ {N : Ends} {σ : L2.St} {H : Hp} {g : Gh} {p : PS} {r : RV} {v : V}, Rel B g σ H p → RepR B g σ H p r v → PostS B g σ H N (match (p.env[0]? : Option Slot) with
      | some (Slot.self _ c' _) => if c' = c then sSelf j (fun p => some (.val r p)) p else none
      | _ => none) → ∃ me fs d p', p.env[0]? = some (Slot.self me c fs) ∧ fs[j]? = some none ∧ r = .sh d ∧ p' = { p with env := p.env.set 0 (.self me c (fs.set j (some d))) } ∧ σ[0]? = some (some (.ref me)) ∧ SelfAt B.W g.ρ H c fs me ∧ Rep B.W g.ρ H d v ∧ PostS B g σ H N (some (.next p')) := by
    intro N σ H g p r v R a k
    cases e : p.env[0]? with
    | none => simp only [e] at k; exact k.elim
    | some s =>
      cases s with
      | self me c' fs =>
        simp only [e] at k
        by_cases z : c' = c
        · subst z
          rw [if_pos rfl] at k
          unfold sSelf bindS at k
          cases r with
          | sh d =>
            simp only [e] at k
            cases e2 : fs[j]? with
            | none => simp only [e2] at k; exact k.elim
            | some o =>
              cases o with
              | some _ => simp only [e2] at k; exact k.elim
              | none =>
                simp only [e2] at k
                obtain ⟨a', e3, sa, rfl⟩ := R.slot 0 _ e
                exact ⟨a', fs, d, _, rfl, e2, rfl, rfl, e3, sa, a, k⟩
          | _ => exact k.elim
        · rw [if_neg z] at k
          exact k.elim
      | _ => simp only [e] at k; exact k.elim
  have stored : ∀ {N : Ends} {σ : L2.St} {H : Hp} {g : Gh} {p : PS} {me : Addr} {fs : List (Option D)} {d : D} {o : HO}, Rel B g σ H p → p.env[0]? = some (Slot.self me c fs) → σ[0]? = some (some (.ref me)) → SelfAt B.W g.ρ H c fs me → SelfAt B.W g.ρ (upd H me o) c (fs.set j (some d)) me →
      PostS B g σ H N (some (.next { p with env := p.env.set 0 (.self me c (fs.set j (some d))) })) → N.nx σ (upd H me o) := by
    intro N σ H g p me fs d o R e e3 sa sa' k
    obtain ⟨u, hu, mu⟩ := sa.at_
    have np : ∀ w, H me = some w → ¬ Per w := fun w z => by rw [hu] at z; cases z; exact Mut.per mu
    exact k σ _ g.ρ (R.put e rfl e3 np ⟨me, e3, sa', rfl⟩) (List.prefix_refl _) (Frz.upd np)
  have sets : ∀ {fs : List (Option D)} {d d' : D} {i : Nat}, (fs.set j (some d))[i]? = some (some d') → (i = j ∧ d' = d) ∨ (i ≠ j ∧ fs[i]? = some (some d')) := fun {fs d d' i} e => by
    rcases set_get e with ⟨rfl, z, _⟩ | ⟨n, z⟩
    · cases z; exact .inl ⟨rfl, rfl⟩
    · exact .inr ⟨fun y => n y.symm, z⟩
  have hj : j < (B.W.fld c).length := (List.getElem?_eq_some_iff.mp hf).1
  rcases hc with ⟨hsl, sc, pp, s1⟩ | ⟨hsl, cl, na⟩
  · refine (ps_sl (o := .Name x npos) hvar hm hs).imp fun N σ H h => bindS_rd (N := N) h fun g p r v H1 R a k => ?_
    obtain ⟨me, fs, d, p', e, e2, rfl, rfl, e3, sa, rr, k⟩ := core R a k
    refine ⟨.ref me, e3, ?_⟩
    obtain ⟨l0, sa0⟩ := sa
    rcases sa0 with ⟨_, dx, vs, ne, h1, hx1, l, ra⟩ | ⟨z, _⟩
    · have sa : SelfAt B.W g.ρ H1 c fs me := ⟨l0, .inl ⟨hsl, dx, vs, ne, h1, hx1, l, ra⟩⟩
      refine ⟨me, B.W.cC c, dx, pp, vs, j, rfl, .inr ⟨h1, hx1⟩, by rw [hK]; exact sc, by rw [hK]; exact s1, ?_⟩
      have eH : slH H1 me (B.W.cC c) dx (putS j v vs) = upd H1 me (SlO me (B.W.cC c) dx (putS j v vs)) := by
        unfold slH
        rw [upd_id hx1]
      rw [eH]
      obtain ⟨u, hu, mu⟩ := sa.at_
      have np : ∀ w, H1 me = some w → ¬ Per w := fun w z => by rw [hu] at z; cases z; exact Mut.per mu
      have F := Frz.upd (o := SlO me (B.W.cC c) dx (putS j v vs)) np
      refine stored R e e3 sa ⟨by rw [List.length_set]; exact l0, .inl ⟨hsl, dx, putS j v vs, ne, upd_same, F _ _ hx1 trivial, ?_, fun i d' e => ?_⟩⟩ k
      · rw [List.length_set]
        exact putS_len l (by rw [l0]; exact hj)
      · rcases sets e with ⟨rfl, rfl⟩ | ⟨n, e⟩
        · exact ⟨v, putS_get _ _ _, rr.mono F (List.prefix_refl _)⟩
        · obtain ⟨v', e4, r4⟩ := ra i d' e
          exact ⟨v', (putS_ne n).mpr e4, r4.mono F (List.prefix_refl _)⟩
    · rw [hsl] at z; cases z
  · refine (ps_fld (o := .Name x npos) hvar hm hs).imp fun N σ H h => bindS_rd (N := N) h fun g p r v H1 R a k => ?_
    obtain ⟨me, fs, d, p', e, e2, rfl, rfl, e3, sa, rr, k⟩ := core R a k
    refine ⟨.ref me, e3, ?_⟩
    obtain ⟨l0, sa0⟩ := sa
    rcases sa0 with ⟨z, _⟩ | ⟨_, dx, ys, h1, no, l, ra⟩
    · rw [hsl] at z; cases z
    · have sa : SelfAt B.W g.ρ H1 c fs me := ⟨l0, .inr ⟨hsl, dx, ys, h1, no, l, ra⟩⟩
      refine ⟨me, B.W.cC c, dx, ys, rfl, h1, by rw [hK]; exact cl, by rw [hK]; exact na, by omega, ?_⟩
      obtain ⟨u, hu, mu⟩ := sa.at_
      have np : ∀ w, H1 me = some w → ¬ Per w := fun w z => by rw [hu] at z; cases z; exact Mut.per mu
      have F := Frz.upd (o := .ins (B.W.cC c) dx (putF f v ys)) np
      refine stored R e e3 sa ⟨by rw [List.length_set]; exact l0, .inr ⟨hsl, dx, putF f v ys, upd_same, fun f' nf => ?_, ?_, fun i d' e => ?_⟩⟩ k
      · rw [lookup_putF, if_neg fun z => nf (by rw [z]; exact List.mem_of_getElem? hf)]
        exact no f' nf
      · have h1 := length_putF f v ys
        have h2 := lack_set (fs := fs) (j := j) (d := d) e2
        omega
      · rcases sets e with ⟨rfl, rfl⟩ | ⟨n, e⟩
        · exact ⟨f, v, hf, by rw [lookup_putF, if_pos rfl], rr.mono F (List.prefix_refl _)⟩
        · obtain ⟨f', v', e4, e5, r4⟩ := ra i d' e
          refine ⟨f', v', e4, ?_, r4.mono F (List.prefix_refl _)⟩
          rw [lookup_putF, if_neg fun z => n ?_]
          · exact e5
          · subst z
            have hi := (List.getElem?_eq_some_iff.mp e4).1
            exact (List.getElem?_inj hi hnd).mp (e4.trans hf.symm)
end
end Mi

/-! ## The mirror: C(..), calls by keyword, class methods, a changeable thing is begun -/
namespace Mi
open PySem PySem.Spec PyProof.Rows L2 Lamp SlX Gd

theorem make_guards {A : Around} {C : Addr} {us : List Value} {kw : List (Str × Value)} : (A.under (.builtin "type.__call__" ⟨.ref C :: us, kw⟩)).guards = A.guards := by
  first | rfl | simp [Around.under, Code.weight, Code.isCreation, Code.isGuard, Code.isCaller, Code.frames, Code.isFrame, guardIds]
def permL {α : Type} (ix : List Nat) (l : List α) : List α := ix.filterMap (l[·]?)
/-- how keywords bind, behind n positional values -/
structure KB (K : PySem.W.Frag) (fd : FuncData) (ps : List Str) (n : Nat) (ks : List Str) (ix : List Nat) : Prop where
  to : ∀ (s : Shared) (us ws : List Value), K.In s.heap → us.length = n → ws.length = ks.length → BindsTo s fd ⟨us, ks.zip ws⟩ (ps.zip (us ++ permL ix ws))
theorem vals_get {vs : List V} {us : List Value} (h : Vals vs us) (i : Nat) : (∃ v u, vs[i]? = some v ∧ us[i]? = some u ∧ RelV v u) ∨ (vs[i]? = none ∧ us[i]? = none) := by
  induction h generalizing i with
  | nil => right; simp
  | cons r t ih =>
    cases i with
    | zero => left; exact ⟨_, _, rfl, rfl, r⟩
    | succ i => simpa using ih i
theorem vals_perm {ix : List Nat} {vs : List V} {us : List Value} (h : Vals vs us) : Vals (permL ix vs) (permL ix us) := by
  induction ix with
  | nil => exact .nil
  | cons i ix ih =>
    unfold permL at ih ⊢
    rw [List.filterMap_cons, List.filterMap_cons]
    rcases vals_get h i with ⟨v, u, e1, e2, r⟩ | ⟨e1, e2⟩
    · rw [e1, e2]; exact .cons r ih
    · rw [e1, e2]; exact ih
section
variable {B : Bd} {g : Gh} {σ : L2.St} {H : Hp} {p : PS}
theorem RepRs.get : ∀ {rs : List RV} {vs : List V}, RepRs B g σ H p rs vs → ∀ i : Nat, (∃ r v, rs[i]? = some r ∧ vs[i]? = some v ∧ (∀ d, r ≠ .fr d) ∧ RepR B g σ H p r v) ∨ (rs[i]? = none ∧ vs[i]? = none)
  | _, _, .nil, i => by right; simp
  | _, _, .cons n h t, 0 => .inl ⟨_, _, rfl, rfl, n, h⟩
  | _, _, .cons n h t, i + 1 => by simpa using t.get i
theorem RepRs.perm {ix : List Nat} {rs : List RV} {vs : List V} (h : RepRs B g σ H p rs vs) : RepRs B g σ H p (permL ix rs) (permL ix vs) := by
  induction ix with
  | nil => exact .nil
  | cons i ix ih =>
    unfold permL at ih ⊢
    rw [List.filterMap_cons, List.filterMap_cons]
    rcases h.get i with ⟨r, v, e1, e2, n, a⟩ | ⟨e1, e2⟩
    · rw [e1, e2]; exact .cons n a ih
    · rw [e1, e2]; exact ih
theorem RepRs.app : ∀ {rs rs' : List RV} {vs vs' : List V}, RepRs B g σ H p rs vs → RepRs B g σ H p rs' vs' → RepRs B g σ H p (rs ++ rs') (vs ++ vs')
  | _, _, _, _, .nil, h => h
  | _, _, _, _, .cons n a t, h => .cons n a (t.app h)
theorem RepRs.len : ∀ {rs : List RV} {vs : List V}, RepRs B g σ H p rs vs → rs.length = vs.length
  | _, _, .nil => rfl
  | _, _, .cons _ _ t => congrArg (· + 1) t.len
end
/-- the values in the order of the parameters -/
def mCallK (ix : List Nat) (fn : Fn) (ms : List EM) : EM := bindA ms fun rs p => callF fn p (permL ix rs)
theorem rdA_nil {B : Bd} {σ : L2.St} {H : Hp} {Q : List V → Hp → Prop} (h : rdA B [] σ H Q) : tNil σ H Q := by
  obtain ⟨g, p, R, k⟩ := h
  exact k [] H g.ρ R (List.prefix_refl _) (Frz.refl _) .nil
section
variable {X : Cx} {B : Bd} {e : Expr} {kws : List Keyword} {m : EM} {ms : List EM} {nm : Option Str} {kpos : Pos}
theorem _root_.L2.PK.imp {X : Cx} {e : List Keyword} {t t' : TA} (h : PK X e t) (i : ∀ σ H Q, t' σ H Q → t σ H Q) : PK X e t' := ⟨fun pos pins s σ H Q I q => h.run pos pins s σ H Q I (i σ H Q q)⟩
theorem simk_nil : PK X [] (rdA B []) := pk_nil.imp fun σ H Q h => rdA_nil h
theorem simk_cons (ha : PE X e (rdE B m)) (hr : PK X kws (rdA B ms)) : PK X (⟨nm, e, kpos⟩ :: kws) (rdA B (m :: ms)) :=
  (pk_cons ha hr).imp fun σ H Q h => args_cons h
end

section
variable {X : Cx} {B : Bd} {k : Nat} {f C : Addr} {fd : FuncData} {ps ks : List Str} {fn : Fn} {x self : Str} {p pos : Pos} {e : Expr} {es : List Expr} {ms : List EM} {ix : List Nat} {kws : List Keyword}
theorem callK_rd {n : Nat} {σ : L2.St} {H : Hp} {Q : VK} (hn : (permL ix ms).length = n) (hl : ∀ {rs : List RV}, rs.length = ms.length → (permL ix rs).length = n) (h : rdE B (mCallK ix fn ms) σ H Q) : rdA B ms σ H fun vs H1 => vs.length = ms.length ∧ fnSp B.W n fn (permL ix vs) H1 Q B.E := by
  obtain ⟨g, p, R, hp⟩ := h
  refine ⟨g, p, R, ?_⟩
  unfold mCallK bindA at hp
  cases e : args ms p with
  | none => rw [e] at hp; exact hp
  | some r =>
    rw [e] at hp
    cases r with
    | vals rs p' => exact fun v H' ρ' R' q f rr => ⟨by rw [← rr.len, args_len e], call_sp (g := ⟨ρ', g.hid⟩) (hl (args_len e)) R' rr.perm (Post.later q f hp)⟩
    | exc x st => exact hp
theorem perm_len {α β : Type} {ix : List Nat} : ∀ {l : List α} {l' : List β}, l.length = l'.length → (permL ix l).length = (permL ix l').length := by
  intro l l' h
  unfold permL
  induction ix with
  | nil => rfl
  | cons i ix ih =>
    rw [List.filterMap_cons, List.filterMap_cons]
    by_cases c : i < l.length
    · rw [List.getElem?_eq_getElem c, List.getElem?_eq_getElem (h ▸ c)]
      simp only [List.length_cons, ih]
    · rw [List.getElem?_eq_none (by omega), List.getElem?_eq_none (by omega)]
      exact ih
/-- f(k = e, ..) -/
theorem sim_callK (F : FnM X.prog X.w B.W X.mg X.base k f fd ps fn) (hK : X.K = B.W.K) (hn : (permL ix ms).length = ps.length) (hgd : X.A.guards = some []) (hr : Room k X.A) (hm : X.mg x = some (.ref f)) (hk : PySem.W.keepIn B.W.K (.ref f) = true) (hb : KB B.W.K fd ps 0 ks ix) (hx : Passes (L2.CX X.prog X.w) X B.E) (hg : Gl X x)
    (hkw : PK X kws (rdA B ms)) (hlk : ms.length = ks.length) (hdb : (x == ("__debug__" : Str)) = false := by decide) (hall : (backToKw pos (keywordEach kws X.env)).all (·.1.isSome) = true := by rfl) (hks : (backToKw pos (keywordEach kws X.env)).filterMap (·.1) = ks := by rfl)
    (hpl : ((backTo pos (starEach [] X.env)).any (·.1) || (backToKw pos (keywordEach kws X.env)).any (·.1.isNone)) = false := by rfl) :
    PE X (.Call (.Name x p) [] kws pos) (rdE B (mCallK ix fn ms)) := by
  refine ⟨fun pins s σ H Q I h => ?_⟩
  have F' : FnM X.prog X.w B.W X.mg X.base k f fd ps fn := F
  unfold FnM at F'
  rw [← hK] at F' hk hb
  refine wpAny_Call_Name_kw (ld_glob I hg hm ?_ hdb)
  refine PySem.W.callWith_KW0 (h₀ := X.base) I.ok.mod.kin hk hall ?_ hpl
  refine thn (hkw.run pos pins s σ H _ I (callK_rd hn (fun l => (perm_len l).trans hn) h)) fun ws s2 ⟨zs, H2, I2, rz, l2, q2⟩ => ⟨I2.kIn, ?_⟩
  rw [hks]
  refine wpAny_call (runAt (vs := permL ix zs) (ws := permL ix ws) F' hgd hr I2.env0 ?_ hx I2 (vals_perm rz) q2)
  exact hb.to s2 [] ws I2.kIn rfl (by rw [← rz.length, l2, hlk])

/-! ### C(..) -/
theorem run_makeG {pins : List (Addr × Obj)} {σ : L2.St} {H : Hp} {s : Shared} {Q : VK} {E : XK} {us ws : List Value} {vs : List V} {kw : List (Str × Value)} {sp : Sp} (M : Mk X.K C f) (F : FnG X.prog X.w X.K X.mg X.base (L2.CX X.prog X.w) k f fd ps sp) (hgd : X.A.guards = some []) (hr : Room (k + 1) X.A)
    (hx : Passes (L2.CX X.prog X.w) X E) (I : Inv X pins σ H s) (hb : ∀ (s' : Shared) (y : Addr), X.K.In s'.heap → BindsTo s' fd ⟨.ref y :: us, kw⟩ (ps.zip (.ref y :: ws))) (r : Vals vs ws)
    (h : ∀ x dx, H x = none → H dx = none → dx ≠ x → sp (V.ref x :: vs) (upd (upd H dx (.own x)) x (.ins C dx [])) (fun v H2 => v = .non ∧ Q (.ref x) H2) E) :
    wpAny (model X.prog X.w) X.A (call (.ref C) us kw) (EP X pins σ Q) X.xe s := by
  have hq := h (s.heap.objs.size + 1) s.heap.objs.size (I.hok.fresh (Nat.le_succ _)) (I.hok.fresh (Nat.le_refl _)) (Nat.ne_of_lt (Nat.lt_succ_self _))
  have I2 := Inv.made (C := C) I
  have r2 : Vals (V.ref (s.heap.objs.size + 1) :: vs) (Value.ref (s.heap.objs.size + 1) :: ws) := .cons rfl r
  refine wpAny_call (make_map (f := f) I.kIn M.makes M.init (beq_iff_eq.mp M.fn) (codeAny_mono (F.goes _ X.stack _ _ ⟨Value.ref (s.heap.objs.size + 1) :: us, kw⟩ (Value.ref (s.heap.objs.size + 1) :: ws) _ _ E (by rw [make_guards]; exact hgd) (hr.make C us kw) (I2.env0.make C us kw) (hb _ _ I2.kIn) r2 hq) fun r s' hq' => ?_))
  cases r with
  | error e => exact hx pins σ _ _ e s' I2 hq'
  | ok fl =>
    cases fl with
    | ret u =>
      obtain ⟨v, H', I3, rv, ev, q3⟩ := I2.after hq'
      subst ev
      exact ⟨rv, ⟨V.ref (s.heap.objs.size + 1), H', I3, rfl, q3⟩⟩
    | next => exact False.elim hq'
    | brk => exact False.elim hq'
    | cont => exact False.elim hq'
/-- a def that only hands out new instances -/
def Makes (c : Nat) (fn : Fn) : Prop := ∀ ds st q st', fn ds st = some (.ret q st') → ∃ d, q = .fr d
theorem makes_init {N c nf : Nat} {m : SM} : Makes c (runInit N c nf m) := fun ds st q st' h => by
  have := runInit_at h 0
  obtain ⟨c, ds, e⟩ := leaveI_fr this
  exact ⟨_, e⟩
theorem new_sp {g : Gh} {σ : L2.St} {H : Hp} {p : PS} {Q : VK} {c n : Nat} {rs : List RV} {vs : List V} (mk : Makes c fn) (hn : rs.length = n) (R : Rel B g σ H p) (a : RepRs B g σ H p rs vs) (k : Post B g σ H Q (callF fn p rs)) :
    ∀ x dx, H x = none → H dx = none → dx ≠ x → initSp B.W c n fn (V.ref x :: vs) (upd (upd H dx (.own x)) x (.ins (B.W.cC c) dx [])) (fun v H2 => v = .non ∧ Q (.ref x) H2) B.E := by
  intro x dx hx hd ne
  unfold callF at k
  cases e : shs rs with
  | none => rw [e] at k; exact k.elim
  | some ds =>
    rw [e] at k
    have er := shs_eq e
    refine ⟨g.ρ, ds, p.st, x, dx, H, vs, rfl, rfl, hx, hd, ne, R.cells, a.reps er, by rw [← hn, er, List.length_map], ?_⟩
    simp only at k
    cases e2 : fn ds p.st with
    | none => rw [e2] at k; exact k
    | some r =>
      rw [e2] at k
      cases r with
      | exc x st => exact ExcAt.into R k
      | ret r st =>
        obtain ⟨d, rfl⟩ := mk _ _ _ _ e2
        intro H' ρ' l c o nr
        have f := R.free hx
        exact ⟨rfl, k (.ref x) H' ρ' (R.called l c) l.pre (l.frz R.cells) ⟨x, rfl, o, fun i z => f.own i z, nr, f.hid, f.new⟩⟩
theorem new_rd {c n : Nat} {σ : L2.St} {H : Hp} {Q : VK} (mk : Makes c fn) (hn : ms.length = n) (h : rdE B (mCall fn ms) σ H Q) : rdA B ms σ H fun vs H1 => vs.length = n ∧ ∀ x dx, H1 x = none → H1 dx = none → dx ≠ x → initSp B.W c n fn (V.ref x :: vs) (upd (upd H1 dx (.own x)) x (.ins (B.W.cC c) dx [])) (fun v H2 => v = .non ∧ Q (.ref x) H2) B.E := by
  obtain ⟨g, p, R, hp⟩ := h
  refine ⟨g, p, R, ?_⟩
  unfold mCall bindA at hp
  cases e : args ms p with
  | none => rw [e] at hp; exact hp
  | some r =>
    rw [e] at hp
    cases r with
    | vals rs p' => exact fun v H' ρ' R' q f rr => ⟨by rw [← rr.len, args_len e, hn], new_sp (g := ⟨ρ', g.hid⟩) mk (by rw [args_len e, hn]) R' rr (Post.later q f hp)⟩
    | exc x st => exact hp
theorem newK_rd {c n : Nat} {σ : L2.St} {H : Hp} {Q : VK} (mk : Makes c fn) (hl : ∀ {rs : List RV}, rs.length = ms.length → (permL ix rs).length = n) (h : rdE B (mCallK ix fn ms) σ H Q) :
    rdA B ms σ H fun vs H1 => vs.length = ms.length ∧ ∀ x dx, H1 x = none → H1 dx = none → dx ≠ x → initSp B.W c n fn (V.ref x :: permL ix vs) (upd (upd H1 dx (.own x)) x (.ins (B.W.cC c) dx [])) (fun v H2 => v = .non ∧ Q (.ref x) H2) B.E := by
  obtain ⟨g, p, R, hp⟩ := h
  refine ⟨g, p, R, ?_⟩
  unfold mCallK bindA at hp
  cases e : args ms p with
  | none => rw [e] at hp; exact hp
  | some r =>
    rw [e] at hp
    cases r with
    | vals rs p' => exact fun v H' ρ' R' q f rr => ⟨by rw [← rr.len, args_len e], new_sp (g := ⟨ρ', g.hid⟩) mk (hl (args_len e)) R' rr.perm (Post.later q f hp)⟩
    | exc x st => exact hp
theorem sim_new {c : Nat} (F : FnI X.prog X.w B.W X.mg X.base k f fd self ps c fn) (mk : Makes c fn) (M : Mk B.W.K (B.W.cC c) f) (hK : X.K = B.W.K) (hn : ms.length = ps.length) (hgd : X.A.guards = some []) (hr : Room (k + 1) X.A) (hm : X.mg x = some (.ref (B.W.cC c))) (hb : Binds B.W.K fd (self :: ps) []) (hx : Passes (L2.CX X.prog X.w) X B.E) (hg : Gl X x)
    (ha : PA X (e :: es) (rdA B ms)) (hdb : (x == ("__debug__" : Str)) = false := by decide) (he : starEach (e :: es) X.env = (false, eval e X.env) :: starEach es X.env := by rfl) (hpl : (backTo pos (starEach es X.env)).any (·.1) = false := by rfl) :
    PE X (.Call (.Name x p) (e :: es) [] pos) (rdE B (mCall fn ms)) := by
  refine ⟨fun pins s σ H Q I h => ?_⟩
  have F' : FnI X.prog X.w B.W X.mg X.base k f fd self ps c fn := F
  unfold FnI at F'
  rw [← hK] at F' hb M
  refine wpAny_Call_Name_kw (ld_glob I hg hm ?_ hdb)
  refine PySem.W.callWith_K (h₀ := X.base) I.ok.mod.kin M.kp (thn (ha.run pos pins s σ H _ I (new_rd mk hn h)) fun us s1 ⟨vs, H1, I1, r, l, q⟩ => ⟨I1.kIn, ?_⟩) he hpl
  refine run_makeG M F' hgd hr hx I1 (fun s' y ki => ?_) r q
  have bt := hb s' (.ref y :: us) ki (by rw [List.append_nil, List.length_cons, List.length_cons, ← r.length, l])
  rw [List.append_nil] at bt
  exact bt
theorem sim_new0 {c : Nat} (F : FnI X.prog X.w B.W X.mg X.base k f fd self [] c fn) (mk : Makes c fn) (M : Mk B.W.K (B.W.cC c) f) (hK : X.K = B.W.K) (hgd : X.A.guards = some []) (hr : Room (k + 1) X.A) (hm : X.mg x = some (.ref (B.W.cC c))) (hb : Binds B.W.K fd [self] []) (hx : Passes (L2.CX X.prog X.w) X B.E) (hg : Gl X x)
    (hdb : (x == ("__debug__" : Str)) = false := by decide) : PE X (.Call (.Name x p) [] [] pos) (rdE B (mCall fn [])) := by
  refine ⟨fun pins s σ H Q I h => ?_⟩
  have F' : FnI X.prog X.w B.W X.mg X.base k f fd self [] c fn := F
  unfold FnI at F'
  rw [← hK] at F' hb M
  refine wpAny_Call_Name_kw (ld_glob I hg hm ?_ hdb)
  obtain ⟨g0, p0, R0, k0⟩ := new_rd (ms := []) mk rfl h
  obtain ⟨_, q⟩ := k0 [] H g0.ρ R0 (List.prefix_refl _) (Frz.refl _) .nil
  exact PySem.W.callWith_K0 I.kIn M.kp (run_makeG (us := []) (ws := []) (vs := []) M F' hgd hr hx I (fun s' y ki => hb s' [.ref y] ki rfl) .nil q)
theorem sim_newK {c : Nat} (F : FnI X.prog X.w B.W X.mg X.base k f fd self ps c fn) (mk : Makes c fn) (M : Mk B.W.K (B.W.cC c) f) (hK : X.K = B.W.K) (hn : (permL ix ms).length = ps.length) (hgd : X.A.guards = some []) (hr : Room (k + 1) X.A) (hm : X.mg x = some (.ref (B.W.cC c))) (hb : KB B.W.K fd (self :: ps) 1 ks ix) (hx : Passes (L2.CX X.prog X.w) X B.E) (hg : Gl X x)
    (hkw : PK X kws (rdA B ms)) (hlk : ms.length = ks.length) (hdb : (x == ("__debug__" : Str)) = false := by decide) (hall : (backToKw pos (keywordEach kws X.env)).all (·.1.isSome) = true := by rfl) (hks : (backToKw pos (keywordEach kws X.env)).filterMap (·.1) = ks := by rfl)
    (hpl : ((backTo pos (starEach [] X.env)).any (·.1) || (backToKw pos (keywordEach kws X.env)).any (·.1.isNone)) = false := by rfl) :
    PE X (.Call (.Name x p) [] kws pos) (rdE B (mCallK ix fn ms)) := by
  refine ⟨fun pins s σ H Q I h => ?_⟩
  have F' : FnI X.prog X.w B.W X.mg X.base k f fd self ps c fn := F
  unfold FnI at F'
  rw [← hK] at F' hb M
  refine wpAny_Call_Name_kw (ld_glob I hg hm ?_ hdb)
  refine PySem.W.callWith_KW0 (h₀ := X.base) I.ok.mod.kin M.kp hall ?_ hpl
  refine thn (hkw.run pos pins s σ H _ I (newK_rd mk (fun l => (perm_len l).trans hn) h)) fun ws s2 ⟨zs, H2, I2, rz, l2, q2⟩ => ⟨I2.kIn, ?_⟩
  rw [hks]
  refine run_makeG (us := []) M F' hgd hr hx I2 (fun s' y ki => ?_) (vals_perm rz) q2
  exact hb.to s' [.ref y] ws ki rfl (by rw [← rz.length, l2, hlk])
end

/-! ### a fresh thing becomes one that may be changed -/
def mCell (m : EM) : EM := bindE m fun r p => match r with
  | .fr d => some (.val (.sh (.cel p.st.length)) { p with st := p.st ++ [d] })
  | _ => none
theorem Rel.begin {B : Bd} {g : Gh} {σ : L2.St} {H : Hp} {p : PS} (R : Rel B g σ H p) {a : Addr} {d : D} (o : Own B.W g.ρ H d a) (f : Free B g σ p a) : Rel B ⟨g.ρ ++ [a], g.hid⟩ σ H { p with st := p.st ++ [d] } := by
  have pf : g.ρ <+: g.ρ ++ [a] := List.prefix_append _ _
  have nin : ∀ {b : Addr}, b ∉ g.ρ → b ≠ a → b ∉ g.ρ ++ [a] := fun h n m => by
    rcases List.mem_append.mp m with m | m
    · exact h m
    · exact n (List.mem_singleton.mp m)
  refine ⟨fun i t e => (R.slot i t e).mono (Frz.refl _) pf fun _ _ _ _ h => h, R.dis, fun i b x => ?_, fun n d' e => ?_, ?_, ?_, R.pre.trans pf, fun n b e le => ?_, fun x h => ?_, R.hnd, R.keep, R.len⟩
  · obtain ⟨n1, n2, n3⟩ := R.new i b x
    exact ⟨nin n1 fun z => f.own i (by rw [← z]; exact x), n2, n3⟩
  · have e' : (p.st ++ [d])[n]? = some d' := e
    rcases Nat.lt_or_ge n p.st.length with c | c
    · rw [List.getElem?_append_left c] at e'
      obtain ⟨b, e1, e2⟩ := R.cel n d' e'
      exact ⟨b, pre_get pf e1, e2.mono (Frz.refl _) pf fun _ h => h⟩
    · rw [List.getElem?_append_right c] at e'
      have hz : n - p.st.length = 0 := by
        rcases Nat.eq_zero_or_pos (n - p.st.length) with z | z
        · exact z
        · rw [List.getElem?_eq_none (show [d].length ≤ n - p.st.length from Nat.succ_le_of_lt z)] at e'
          cases e'
      rw [hz] at e'
      cases e'
      have hn : n = g.ρ.length := by rw [← R.cln]; omega
      refine ⟨a, ?_, o.mono (Frz.refl _) pf fun _ h => h⟩
      show (g.ρ ++ [a])[n]? = some a
      rw [hn, List.getElem?_append_right (Nat.le_refl _)]
      simp
  · show (p.st ++ [d]).length = (g.ρ ++ [a]).length
    rw [List.length_append, List.length_append, R.cln]
    rfl
  · show (g.ρ ++ [a]).Nodup
    rw [List.nodup_append]
    refine ⟨R.cnd, by simp, fun x hx y hy => ?_⟩
    rw [List.mem_singleton.mp hy]
    exact fun z => f.cel (by rw [← z]; exact hx)
  · have e' : (g.ρ ++ [a])[n]? = some b := e
    rcases Nat.lt_or_ge n g.ρ.length with c | c
    · rw [List.getElem?_append_left c] at e'
      exact R.cnw n b e' le
    · rw [List.getElem?_append_right c] at e'
      have m := List.mem_of_getElem? e'
      rw [List.mem_singleton.mp m]
      exact f.new
  · obtain ⟨h1, h2, h3, h4⟩ := R.hid x h
    exact ⟨h1, h2, nin h3 fun z => f.hid x.2 (by rw [← z]; exact h), h4⟩
theorem sim_cell {X : Cx} {B : Bd} {e : Expr} {m : EM} (h : PE X e (rdE B m)) : PE X e (rdE B (mCell m)) :=
  h.imp fun σ H Q h => by
    obtain ⟨g, p, R, k⟩ := h
    refine ⟨g, p, R, ?_⟩
    unfold mCell bindE at k
    cases e : m p with
    | none => rw [e] at k; exact k
    | some w =>
      rw [e] at k
      cases w with
      | exc x st => exact k
      | val r p1 =>
        cases r with
        | sh d => exact k.elim
        | pl i => exact k.elim
        | fr d =>
          intro v H1 ρ1 R1 q1 f1 a
          obtain ⟨ad, rfl, o, n1, n2, n3, n4⟩ := a
          have R2 := R1.begin o ⟨n1, n2, n3, n4⟩
          refine k (.ref ad) H1 (ρ1 ++ [ad]) R2 (q1.trans (List.prefix_append _ _)) f1 ?_
          refine .cel ?_
          show (ρ1 ++ [ad])[p1.st.length]? = some ad
          have hl : p1.st.length = ρ1.length := R1.cln
          rw [hl, List.getElem?_append_right (Nat.le_refl _)]
          simp
end Mi

/-! ## The mirror: what is never reached, class methods, isinstance, constants, chains, sorted items -/
namespace Mi
open PySem PySem.Spec PyProof.Rows L2 Lamp SlX Gd

/-- never reached -/
def sStuck : SM := fun _ => none
def eStuck : EM := fun _ => none
theorem sims_stuck {X : Cx} {B : Bd} {st : Stmt} : L2.PS X st (rdS B sStuck) := ⟨fun pins s σ H N I q => by
  obtain ⟨g, p, _, k⟩ := q
  exact k.elim⟩
theorem sim_stuck {X : Cx} {B : Bd} {e : Expr} : PE X e (rdE B eStuck) := ⟨fun pins s σ H N I q => by
  obtain ⟨g, p, _, k⟩ := q
  exact k.elim⟩
theorem sim_g {X : Cx} {B : Bd} {x : Str} {d : D} {v : V} {u : Value} {pos : Pos} (hm : X.mg x = some u) (k : ∀ ρ H, Rep B.W ρ H d v) (r : RelV v u) (hg : Gl X x) (hd : (x == ("__debug__" : Str)) = false := by decide) : PE X (.Name x pos) (rdE B (eC d)) := sim_c (pe_glob hg hm r hd) k

/-! ### class methods -/
def enterC (N : Nat) (ds st : List D) : PS := ⟨.no :: (ds.map Slot.sh ++ List.replicate (N - (ds.length + 1)) .no), st⟩
def runFnC (N : Nat) (m : SM) : Fn := fun ds st => leave (m (enterC N ds st))
def clsSp (W : Wd) (C : Addr) (n : Nat) (f : Fn) : Sp := fun vs H Q E => ∃ ρ ds st vs', vs = .ref C :: vs' ∧ Cells W ρ H st ∧ Reps W ρ H ds vs' ∧ ds.length = n ∧ FPost W ρ H Q E (f ds st)
section
variable {P : Program} {w : World} {W : Wd} {mg : Str → Option Value} {base : Heap} {k : Nat} {f C : Addr} {fd : FuncData} {ps : List Str} {self : Str}
abbrev FnC (P : Program) (w : World) (W : Wd) (mg : Str → Option Value) (base : Heap) (k : Nat) (f : Addr) (fd : FuncData) (self : Str) (ps : List Str) (C : Addr) (fn : Fn) : Prop :=
  FnG P w W.K mg base (L2.CX P w) k f fd (self :: ps) (clsSp W C ps.length fn)
theorem okC {x qual : Str} {st : Stmt} {N : List Str} {m : SM} (F : Fun W.K x qual st f fd) (S : FnScope N (self :: ps) (defScope st)) (hN : ps.length + 1 ≤ N.length)
    (hbody : ∀ (cdv : Value) (A : Around) (outer : List Env) (s : Shared) (H : Hp) (E : XK) (ρ : List Addr), A.guards = some [] → Room k (A.deeper (envOfC qual (defScope st) s.heap.objs.size f cdv)) →
      PSs (cxOf (L2.CX P w) P w W.K mg base N qual (defScope st) f cdv A outer s H E) (defBody st) (rdS ⟨W, H, ρ, E⟩ m)) :
    FnC P w W mg base (k + 1) f fd self ps C (runFnC N.length m) := by
  refine okG F S (fun vs H Q E h => ?_) fun cdv A outer s H vs Q E hg hr h => ?_
  · obtain ⟨ρ, ds, st', vs', rfl, _, r, l, _⟩ := h
    rw [List.length_cons, List.length_cons, ← r.len, l]
  · obtain ⟨ρ, ds, st', vs', rfl, c, r, l, q⟩ := h
    have R := rel_start (E := E) (ds := .non :: ds) (vs := .non :: vs') N c (.cons .non r) (by rw [List.length_cons]; omega)
    have R2 := R.store (i := 0) (v := .ref C) (s := .no) rfl fun _ => trivial
    exact ⟨_, hbody cdv A outer s H E ρ hg hr, ⟨ρ, []⟩, _, R2, post_leave q⟩
end
section
variable {X : Cx} {B : Bd} {k : Nat} {C pp g : Addr} {mc : Value} {fd : FuncData} {ps ks : List Str} {fn : Fn} {self m : Str} {pos apos : Pos} {o e : Expr} {es : List Expr} {ms : List EM} {ix : List Nat} {kws : List Keyword} {pl : Sem Bool}
theorem cls_rd {n : Nat} {σ : L2.St} {H : Hp} {Q : VK} (hn : ms.length = n) (h : rdE B (mCall fn ms) σ H Q) : rdA B ms σ H fun vs H1 => vs.length = n ∧ clsSp B.W C n fn (.ref C :: vs) H1 Q B.E := by
  obtain ⟨g, p, R, k⟩ := call_rd hn h
  refine ⟨g, p, R, ?_⟩
  cases e : args ms p with
  | none => rw [e] at k; exact k
  | some r =>
    rw [e] at k
    cases r with
    | exc x st => exact k
    | vals rs p' =>
      intro vs H' ρ' R' q f rr
      obtain ⟨ρ, ds, st, c, r, l, z⟩ := k vs H' ρ' R' q f rr
      exact ⟨by rw [← r.len, l], ρ, ds, st, vs, rfl, c, r, l, z⟩
theorem clsK_rd {n : Nat} {σ : L2.St} {H : Hp} {Q : VK} (hn : (permL ix ms).length = n) (h : rdE B (mCallK ix fn ms) σ H Q) : rdA B ms σ H fun vs H1 => vs.length = ms.length ∧ clsSp B.W C n fn (.ref C :: permL ix vs) H1 Q B.E := by
  obtain ⟨g, p, R, k⟩ := callK_rd hn (fun l => (perm_len l).trans hn) h
  refine ⟨g, p, R, ?_⟩
  cases e : args ms p with
  | none => rw [e] at k; exact k
  | some r =>
    rw [e] at k
    cases r with
    | exc x st => exact k
    | vals rs p' =>
      intro vs H' ρ' R' q f rr
      obtain ⟨l2, ρ, ds, st, c, r, l, z⟩ := k vs H' ρ' R' q f rr
      exact ⟨l2, ρ, ds, st, _, rfl, c, r, l, z⟩
theorem sim_cls (ho : PE X o (tC (.ref C))) (r : ClX.CRead B.W.K C mc) (c : ClX.CMet B.W.K C mc m pp g) (hK : X.K = B.W.K) (F : FnC X.prog X.w B.W X.mg X.base k g fd self ps C fn) (hn : ms.length = ps.length) (hgd : X.A.guards = some []) (hr : Room k X.A) (hb : Binds B.W.K fd (self :: ps) []) (hx : Passes (L2.CX X.prog X.w) X B.E)
    (ha : PA X (e :: es) (rdA B ms)) (hst : starEach (e :: es) X.env = (false, eval e X.env) :: starEach es X.env := by rfl) (hpl : (backTo pos (starEach es X.env)).any (·.1) = false := by rfl)
    (ht : eval (.Call (.Attribute o m apos) (e :: es) [] pos) X.env = (do
      let ov ← eval o X.env
      standAt apos.atName
      let (f, first) ← holding [ov] (getMethod ov m pl)
      callWith pos f first (backTo pos (starEach (e :: es) X.env)) (backToKw pos (keywordEach [] X.env))) := by rfl) :
    PE X (.Call (.Attribute o m apos) (e :: es) [] pos) (rdE B (mCall fn ms)) := by
  refine ⟨fun pins s σ H Q I h => ?_⟩
  have F' : FnC X.prog X.w B.W X.mg X.base k g fd self ps C fn := F
  unfold FnC at F'
  rw [← hK] at F' r c hb
  refine PySem.W.methodCall_KW (pl := pl) (thn (ho.run pins s σ H (fun v H' => v = .ref C ∧ H' = H) I ⟨rfl, rfl⟩) fun u s1 ⟨x, H1, I1, rx, ex, eh⟩ => ?_) ht
  subst ex eh
  obtain rfl : u = Value.ref C := rx
  refine ClX.getmethcm_ok I1 r c fun s2 I2 => ?_
  refine ClX.callwith_cm I2 (ClX.base_none I1 (Nat.le_refl _)) c.fi (thn (ha.run pos _ s2 σ H1 _ I2 (cls_rd (C := C) hn h)) fun us s3 ⟨vs, H2, I3, rv, l, q2⟩ => ⟨⟨ClX.pin_at I3, I3.kIn⟩, ?_⟩) hst hpl
  have bt := hb s3 (.ref C :: us) I3.kIn (by rw [List.append_nil, List.length_cons, List.length_cons, ← rv.length, l])
  rw [List.append_nil] at bt
  exact thn (wpAny_call (PySem.W.method_call (ClX.pin_at I3) (runAt (vs := V.ref C :: vs) (ws := Value.ref C :: us) F' hgd hr I3.env0 bt hx I3 (.cons rfl rv) q2))) fun _ _ y => ClX.unpinE y
theorem sim_clsK (ho : PE X o (tC (.ref C))) (r : ClX.CRead B.W.K C mc) (c : ClX.CMet B.W.K C mc m pp g) (hK : X.K = B.W.K) (F : FnC X.prog X.w B.W X.mg X.base k g fd self ps C fn) (hn : (permL ix ms).length = ps.length) (hgd : X.A.guards = some []) (hr : Room k X.A) (hb : KB B.W.K fd (self :: ps) 1 ks ix) (hx : Passes (L2.CX X.prog X.w) X B.E)
    (hkw : PK X kws (rdA B ms)) (hlk : ms.length = ks.length) (hall : (backToKw pos (keywordEach kws X.env)).all (·.1.isSome) = true := by rfl) (hks : (backToKw pos (keywordEach kws X.env)).filterMap (·.1) = ks := by rfl)
    (hpl : ((backTo pos (starEach [] X.env)).any (·.1) || (backToKw pos (keywordEach kws X.env)).any (·.1.isNone)) = false := by rfl)
    (ht : eval (.Call (.Attribute o m apos) [] kws pos) X.env = (do
      let ov ← eval o X.env
      standAt apos.atName
      let (f, first) ← holding [ov] (getMethod ov m pl)
      callWith pos f first (backTo pos (starEach [] X.env)) (backToKw pos (keywordEach kws X.env))) := by rfl) :
    PE X (.Call (.Attribute o m apos) [] kws pos) (rdE B (mCallK ix fn ms)) := by
  refine ⟨fun pins s σ H Q I h => ?_⟩
  have F' : FnC X.prog X.w B.W X.mg X.base k g fd self ps C fn := F
  unfold FnC at F'
  rw [← hK] at F' r c hb
  refine PySem.W.methodCall_KW (pl := pl) (thn (ho.run pins s σ H (fun v H' => v = .ref C ∧ H' = H) I ⟨rfl, rfl⟩) fun u s1 ⟨x, H1, I1, rx, ex, eh⟩ => ?_) ht
  subst ex eh
  obtain rfl : u = Value.ref C := rx
  refine ClX.getmethcm_ok I1 r c fun s2 I2 => ?_
  refine PySem.W.callWith_of hpl (PySem.W.keeps_M (K := X.K) (self := .ref C) c.fi) (evalArgs_kw2_nil hall ?_)
  refine thn (hkw.run pos _ s2 σ H1 _ I2 (clsK_rd (C := C) hn h)) fun ws s3 ⟨zs, H2, I3, rz, l2, q2⟩ => ⟨⟨ClX.pin_at I3, I3.kIn⟩, ?_⟩
  rw [hks]
  have bt := hb.to s3 [.ref C] ws I3.kIn rfl (by rw [← rz.length, l2, hlk])
  exact thn (wpAny_call (PySem.W.method_call (ClX.pin_at I3) (runAt (vs := .ref C :: permL ix zs) (ws := .ref C :: permL ix ws) F' hgd hr I3.env0 bt hx I3 (.cons rfl (vals_perm rz)) q2))) fun _ _ y => ClX.unpinE y
end

/-! ### isinstance -/
structure ClsI (W : Wd) (c : Nat) : Prop where
  ic : PySem.W.isClsIn W.K (W.cC c) = true
  pg : PySem.W.plainGet W.K (W.cC c) Str.empty = true
  si : SIsi W.K (W.cC c)
def tyD : D → Option String
  | .non => some "NoneType" | .bl _ => some "bool" | .int _ => some "int" | .str _ => some "str" | .tup _ => some "tuple" | .pr _ => some "tuple"
  | .lst _ => some "list" | .scr _ => some "list" | .dic _ => some "dict" | _ => none
/-- isinstance(x, T), T a built-in type -/
def isiT (T : String) : D → Option RV
  | .obj _ _ => some (.sh (.bl false))
  | d => match tyD d with
    | some a => some (.sh (.bl (a == T || (a == "bool" && T == "int"))))
    | none => none
/-- .. a class of the text (there are n of these) -/
def isiC (n c : Nat) : D → Option RV
  | .obj c' _ => if c' < n then some (.sh (.bl (c' == c))) else none
  | d => match tyD d with
    | some _ => some (.sh (.bl false))
    | none => none
theorem TupAt.tyx {K : PySem.W.Frag} {H : Hp} {a : Addr} {ds : List D} {xs : List V} (h : TupAt H a ds xs) : TyX K H (.ref a) (.type "tuple") := by
  unfold TupAt at h
  split at h
  · exact .base (.tup h)
  · obtain ⟨its, h⟩ := h; exact .fTuple h
section
variable {X : Cx} {W : Wd}
theorem kit_d {pins : List (Addr × Obj)} {σ : L2.St} {H : Hp} {s : Shared} {ρ : List Addr} {d : D} {x : V} {u : Value} {a : String} (hK : X.K = W.K) (I : Inv X pins σ H s) (rx : RelV x u) (h : RepB W ρ H d x) (e : tyD d = some a) :
    ∃ P : Heap → Prop, PySem.W.KitX X.K u (.type a) P ∧ P s.heap ∧ u ≠ .builtin "__main__.__loader__#opaque" := by
  have dk : ∀ {b : Addr} {kys : List (Key × V)}, Rd H b (.dK kys) → u = .ref b → ∃ P : Heap → Prop, PySem.W.KitX X.K u (.type "dict") P ∧ P s.heap ∧ u ≠ .builtin "__main__.__loader__#opaque" := fun {b kys} rd eu => by
    subst eu
    obtain ⟨_, _, vs, _, o, es, ep, h1, h2, _⟩ := (show ObjOk X.prog X.w H s.heap b (.dK kys) from rd.ok I.hok)
    exact ⟨_, PySem.W.kitx_dict, ⟨o, h1, h2.1⟩, fun z => nomatch z⟩
  have dt : ∀ {b : Addr} {kys : List (List Key × V)}, Rd H b (.dT kys) → u = .ref b → ∃ P : Heap → Prop, PySem.W.KitX X.K u (.type "dict") P ∧ P s.heap ∧ u ≠ .builtin "__main__.__loader__#opaque" := fun {b kys} rd eu => by
    subst eu
    obtain ⟨_, _, xs, _, o, es, ep, h1, h2, _⟩ := (show ObjOk X.prog X.w H s.heap b (.dT kys) from rd.ok I.hok)
    exact ⟨_, PySem.W.kitx_dict, ⟨o, h1, h2.1⟩, fun z => nomatch z⟩
  rcases h with h | ⟨b, rfl, h⟩
  · cases h with
    | non => cases e; exact kit_of I rx (.base .non)
    | bl b => cases e; exact kit_of I rx (.base (.bl b))
    | int i => cases e; exact kit_of I rx (.base (.int i))
    | str y => cases e; exact kit_of I rx (.base (.str y))
    | tup h r => cases e; exact kit_of I rx h.tyx
    | lst h r => cases e; exact kit_of I rx (.base (.frz h))
    | scr h =>
      cases e
      rcases h with ⟨o, h⟩ | ⟨o, its, n, h1, h2, h3, h4, h5⟩
      · exact kit_of I rx (.base (.frz h))
      · rw [← hK] at h1; exact kit_of I rx (.kList h1 h2)
    | pr h r => cases e; exact kit_of I rx (.base (.tup h))
    | dic h r => cases e; exact dk (.inr ⟨_, h⟩) rx
    | dit h n r => cases e; exact dt (.inr ⟨_, h⟩) rx
    | _ => cases e
  · cases h with
    | lst h r => cases e; exact kit_of I rx (.base (.lst h))
    | dic h r => cases e; exact dk (.inl h) rx
    | dit h n r => cases e; exact dt (.inl h) rx
    | _ => cases e
theorem kitB_all : ∀ a ∈ ["NoneType", "bool", "int", "str", "tuple", "list", "dict"], ∀ T ∈ ["bool", "int", "str", "tuple", "list", "dict"], kitB a T = some (a == T || (a == "bool" && T == "int")) := by decide +kernel
theorem tyD_mem {d : D} {a : String} (e : tyD d = some a) : a ∈ ["NoneType", "bool", "int", "str", "tuple", "list", "dict"] := by
  cases d <;> first | (cases e; decide) | cases e
/-- what isinstance of a thing with the class given as the value c answers -/
def rIsiD (W : Wd) (c : V) (pr : D → Option RV) : V → Hp → VK → Prop := fun x H Q => ∃ ρ d, RepB W ρ H d x ∧ PPost W ρ H Q (pr d)
theorem isi_call {c : V} {u : Value} {pr : D → Option RV} (hK : X.K = W.K) (hcl : ∀ c, ClsI W c) (k : ClsV c u)
    (hb : ∀ d a, tyD d = some a → ∃ b, PySem.W.kitOne W.K (.type a) u = some b ∧ pr d = some (.sh (.bl b)))
    (ho : ∀ c' fs, pr (.obj c' fs) = none ∨ ∃ b, PySem.W.kitOne W.K (.ref (W.cC c')) u = some b ∧ pr (.obj c' fs) = some (.sh (.bl b)))
    (hn : ∀ d, tyD d = none → (∀ c fs, d ≠ .obj c fs) → pr d = none) : CallR X (.builtin "isinstance") (fun xs H Q => ∃ x, xs = [x, c] ∧ rIsiD W c pr x H Q) := by
  intro pins s σ H xs us Q I r h
  obtain ⟨x, rfl, ρ, d, rb, q⟩ := h
  obtain ⟨u1, u2, rfl, r1, r2⟩ := vals2 r
  have e2 := k.eq r2
  subst e2
  cases e : tyD d with
  | some a =>
    obtain ⟨b, hk, ep⟩ := hb d a e
    rw [ep] at q
    rw [← hK] at hk
    obtain ⟨P, Z, p, hx⟩ := kit_d hK I r1 rb e
    exact PySem.W.kia_one Z I.kIn p hk hx fun tk => ⟨.bl b, H, I.tok tk, rfl, q.bl⟩
  | none =>
    by_cases z : ∃ c fs, d = .obj c fs
    · obtain ⟨c', fs, rfl⟩ := z
      rcases ho c' fs with e3 | ⟨b, hk, ep⟩
      · rw [e3] at q; exact q.elim
      · rw [ep] at q
        obtain ⟨ad, ox, od, rfl, J, _⟩ := obj_inst I rb
        cases (show u1 = Value.ref ad from r1)
        have ci := hcl c'
        have ki := I.kIn
        rw [hK] at ki
        exact PySem.W.kia_one (OwX.kitx_slt ci.ic ci.pg ci.si.ca ci.si.cn ci.si.ct ci.si.cm) ki J hk (fun z => nomatch z) fun tk => ⟨.bl b, H, I.tok tk, rfl, q.bl⟩
    · rw [hn d e fun c fs y => z ⟨c, fs, y⟩] at q
      exact q.elim
theorem isi_np {T : String} (d : D) : noPl (isiT T d) := by
  cases d <;> first | trivial | (unfold isiT tyD; trivial)
theorem isiC_np {n c : Nat} (d : D) : noPl (isiC n c d) := by
  cases d <;> first | trivial | (show noPl (if _ then _ else _); split <;> trivial)
section
variable {B : Bd} {e : Expr} {ma : EM} {pos p1 p2 : Pos} {x : Str}
theorem isi_rd {pr : D → Option RV} {c : V} (np : ∀ d, noPl (pr d)) {tb : TE} {σ : L2.St} {H : Hp} {Q : VK} (hb : tb = tC c) (h : rdE B (mUn pr ma) σ H Q) : tCB (fun xs H Q => ∃ x, xs = [x, c] ∧ rIsiD B.W c pr x H Q) (tCons (rdE B ma) (tCons tb tNil)) σ H Q := by
  subst hb
  refine bind_rd h fun g p1 r1 v1 H1 R1 a1 h1 => ?_
  refine ⟨v1, rfl, ?_⟩
  unfold op1 at h1
  cases e : get p1 r1 with
  | none => rw [e] at h1; exact h1.elim
  | some d =>
    rw [e] at h1
    exact ⟨g.ρ, d, get_rep R1 a1 e, PPost.of' R1 (np d) h1⟩
theorem sim_isiT {T : String} (hK : X.K = B.W.K) (hcl : ∀ c, ClsI B.W c) (hT : T ∈ ["bool", "int", "str", "tuple", "list", "dict"]) (ho : ∀ c, PySem.W.kitOne B.W.K (.ref (B.W.cC c)) (.type T) = some false)
    (hi : X.mg "isinstance" = none) (hm : X.mg x = none) (hv : bootBuiltins x = some (.type T)) (hg : Gl X x) (hgi : Gl X "isinstance") (ha : PE X e (rdE B ma)) (hn : x ≠ "__name__" := by decide) (hd : (x == ("__debug__" : Str)) = false := by decide)
    (s1 : starEach [e, .Name x p2] X.env = (false, eval e X.env) :: starEach [.Name x p2] X.env := by rfl) (hpl : (backTo pos (starEach [.Name x p2] X.env)).any (·.1) = false := by rfl) :
    PE X (.Call (.Name "isinstance" p1) [e, .Name x p2] [] pos) (rdE B (mUn (isiT T) ma)) := by
  have hb : PE X (.Name x p2) (tC (.ty T)) := pe_bltn hg hm hv rfl hn hd
  refine (pe_callB (isi_call (pr := isiT T) hK hcl (.ty T) (fun d a e => ?_) (fun c fs => .inr ⟨false, ho c, rfl⟩) fun d e z => ?_) hgi hi rfl (pa_cons ha (pa_cons hb pa_nil) s1) (by decide) (by decide) s1 hpl).imp fun σ H Q h => isi_rd isi_np rfl h
  · refine ⟨_, kit_ty (kitB_all a (tyD_mem e) T hT), ?_⟩
    cases d <;> first | (cases e; rfl) | cases e
  · cases d <;> first | exact (z _ _ rfl).elim | rfl | cases e
theorem sim_isiC {n c : Nat} (hK : X.K = B.W.K) (hcl : ∀ c, ClsI B.W c) (hb0 : ∀ a ∈ ["NoneType", "bool", "int", "str", "tuple", "list", "dict"], PySem.W.kitOne B.W.K (.type a) (.ref (B.W.cC c)) = some false) (ho : ∀ c', c' < n → PySem.W.kitOne B.W.K (.ref (B.W.cC c')) (.ref (B.W.cC c)) = some (c' == c))
    (hi : X.mg "isinstance" = none) (hm : X.mg x = some (.ref (B.W.cC c))) (hg : Gl X x) (hgi : Gl X "isinstance") (ha : PE X e (rdE B ma)) (hd : (x == ("__debug__" : Str)) = false := by decide)
    (s1 : starEach [e, .Name x p2] X.env = (false, eval e X.env) :: starEach [.Name x p2] X.env := by rfl) (hpl : (backTo pos (starEach [.Name x p2] X.env)).any (·.1) = false := by rfl) :
    PE X (.Call (.Name "isinstance" p1) [e, .Name x p2] [] pos) (rdE B (mUn (isiC n c) ma)) := by
  have hb : PE X (.Name x p2) (tC (.ref (B.W.cC c))) := pe_glob hg hm rfl hd
  refine (pe_callB (isi_call (pr := isiC n c) hK hcl (.own _) (fun d a e => ?_) (fun c' fs => ?_) fun d e z => ?_) hgi hi rfl (pa_cons ha (pa_cons hb pa_nil) s1) (by decide) (by decide) s1 hpl).imp fun σ H Q h => isi_rd isiC_np rfl h
  · refine ⟨_, hb0 a (tyD_mem e), ?_⟩
    cases d <;> first | (cases e; rfl) | cases e
  · by_cases l : c' < n
    · exact .inr ⟨_, ho c' l, if_pos l⟩
    · exact .inl (if_neg l)
  · cases d <;> first | exact (z _ _ rfl).elim | rfl | cases e

/-! ### x in T, T a tuple of ints that stands in the text -/
def inK (cs : List D) (d : D) : Option RV := if d.scal then some (.sh (.bl (cs.any fun y => eqF y d))) else none
theorem inK_rd {a : Addr} {ns : List Int} (hK : X.K = B.W.K) (hw : ∀ H, SqT B.W.K H a (ns.map V.int)) {σ : L2.St} {H : Hp} {Q : VK} (h : rdE B (mUn (inK (ns.map .int)) ma) σ H Q) : tOp (rIn X.K false) (rdE B ma) (tC (.ref a)) σ H Q := by
  refine bind_rd h fun g p1 r1 v1 H1 R1 a1 h1 => ?_
  unfold op1 at h1
  cases e : get p1 r1 with
  | none => rw [e] at h1; exact h1.elim
  | some d =>
    rw [e] at h1
    have rb := get_rep R1 a1 e
    have q := PPost.of' R1 (r := inK (ns.map .int) d) (by unfold inK; split <;> trivial) h1
    unfold inK at q
    by_cases c : d.scal = true
    · rw [if_pos c] at q
      refine ⟨a, ns.map V.int, rfl, .inr (by rw [hK]; exact hw H1), scal_flat rb c, by simp [flatV], ?_⟩
      rw [if_neg (by decide), any_eqF (ρ := g.ρ) (H := H1) rb c (Reps.ints ns) (by simp [D.scal])]
      exact q.bl
    · rw [if_neg c] at q
      exact q.elim
theorem sim_inK {a : Addr} {ns : List Int} {b : Expr} (hK : X.K = B.W.K) (hw : ∀ H, SqT B.W.K H a (ns.map V.int)) (ha : PE X e (rdE B ma)) (hb : PE X b (tC (.ref a))) (hm : behindInMarks .In b = false) : PE X (.Compare e [.In] [b] pos) (rdE B (mUn (inK (ns.map .int)) ma)) :=
  (pe_cmpR op_in_seq ha hb hm).imp fun σ H Q h => inK_rd hK hw h
theorem simt_inK {a : Addr} {ns : List Int} {b : Expr} (hK : X.K = B.W.K) (hw : ∀ H, SqT B.W.K H a (ns.map V.int)) (ha : PE X e (rdE B ma)) (hb : PE X b (tC (.ref a))) (hm : behindInMarks .In b = false) : PT X (.Compare e [.In] [b] pos) (rdT B (mUn (inK (ns.map .int)) ma)) :=
  (pt_cmpR op_in_seq ha hb hm).imp fun σ H Q h => inK_rd hK hw h
end
end
end Mi

/-! ## The mirror: a < b < c; sorted(d.items()) -/
namespace Mi
open PySem PySem.Spec PyProof.Rows L2 Lamp SlX Gd

def mChain (pr pr' : D → D → Option RV) (ma mb mc : EM) : EM := bindE ma fun r1 => bindE mb fun r2 p => match op2 pr p r1 r2 with
  | some (.val (.sh (.bl true)) p2) => bindE mc (fun r3 p3 => op2 pr' p3 r2 r3) p2
  | some (.val (.sh (.bl false)) p2) => some (.val (.sh (.bl false)) p2)
  | _ => none
theorem op2_val {pr : D → D → Option RV} {p p2 : PS} {r1 r2 r : RV} (h : op2 pr p r1 r2 = some (.val r p2)) : p2 = p := by
  unfold op2 at h
  split at h
  · unfold ret at h
    split at h
    · cases h
    · cases h; rfl
  · cases h
theorem get_nofr {p : PS} {r : RV} {d : D} (h : get p r = some d) : ∀ d', r ≠ .fr d' := fun d' e => by subst e; cases h
theorem op2_gets {pr : D → D → Option RV} {p : PS} {r1 r2 : RV} {w : ER} (h : op2 pr p r1 r2 = some w) : (∀ d, r1 ≠ .fr d) ∧ ∀ d, r2 ≠ .fr d := by
  unfold op2 at h
  split at h
  · rename_i e1 e2; exact ⟨get_nofr e1, get_nofr e2⟩
  · cases h
section
variable {B : Bd} {pr pr' : D → D → Option RV} {ma mb mc : EM} {r r' : R2}
theorem chain_rd (hp : P2 B.W r pr) (hp' : P2 B.W r' pr') {σ : L2.St} {H : Hp} {Q : VK} (h : rdE B (mChain pr pr' ma mb mc) σ H Q) : tChain r r' (rdE B ma) (rdE B mb) (rdE B mc) σ H Q := by
  refine bind_rd h fun g p1 r1 v1 H1 R1 a1 h1 => ?_
  refine ⟨g, p1, R1, ?_⟩
  unfold bindE at h1
  cases e : mb p1 with
  | none => rw [e] at h1; exact h1
  | some w =>
    rw [e] at h1
    cases w with
    | exc x st => exact h1
    | val r2 p2 =>
      intro v2 H2 ρ2 R2 q2 f2 a2
      have h2 := Post.later q2 f2 h1
      cases e2 : op2 pr p2 r1 r2 with
      | none => simp only [e2] at h2; exact h2.elim
      | some w2 =>
        simp only [e2] at h2
        obtain ⟨n1, n2⟩ := op2_gets e2
        have a1' : RepR B ⟨ρ2, g.hid⟩ σ H2 p2 r1 v1 := RepR.on (g := g) (p' := p2) n1 f2 q2 a1
        cases w2 with
        | exc x st => exact h2.elim
        | val r3 p3 =>
          obtain rfl := op2_val e2
          cases r3 with
          | fr d => exact h2.elim
          | pl i => exact h2.elim
          | sh d =>
            cases d with
            | bl b =>
              refine op2_ok (Q := fun z H3 => ∃ k, z = .bl k ∧ (if k = true then rdE B mc σ H3 (fun w' H4 => r' v2 w' H4 Q) else Q (.bl false) H3)) hp R2 a1' a2 ?_
              rw [e2]
              intro v3 H3 ρ3 R3 q3 f3 a3
              cases (show Rep _ _ _ _ _ from a3)
              refine ⟨b, rfl, ?_⟩
              have h3 := Post.later (g := ⟨ρ2, g.hid⟩) (ρ' := ρ3) q3 f3 h2
              cases b with
              | false => exact h3 (.bl false) H3 ρ3 R3 (List.prefix_refl _) (Frz.refl _) (.bl false)
              | true =>
                rw [if_pos rfl]
                refine ⟨⟨ρ3, g.hid⟩, p3, R3, ?_⟩
                simp only at h3
                try unfold bindE at h3
                cases e4 : mc p3 with
                | none => rw [e4] at h3; exact h3
                | some w4 =>
                  rw [e4] at h3
                  cases w4 with
                  | exc x st => exact h3
                  | val r4 p4 =>
                    intro v4 H4 ρ4 R4 q4 f4 a4
                    have a2' : RepR B ⟨ρ4, g.hid⟩ σ H4 p4 r2 v2 := RepR.on (g := ⟨ρ2, g.hid⟩) (p' := p4) n2 (f3.trans f4) (q3.trans q4) a2
                    exact op2_ok hp' R4 a2' a4 (Post.later (g := ⟨ρ3, g.hid⟩) (ρ' := ρ4) q4 f4 h3)
            | _ => exact h2.elim
end
section
variable {X : Cx} {B : Bd} {a b c : Expr} {pr pr' : D → D → Option RV} {ma mb mc : EM} {op op' : CmpOp} {pos : Pos}
theorem sim_chain (ho : O2 X B.W (compareOp op) pr) (ho' : O2 X B.W (compareOp op') pr') (ha : PE X a (rdE B ma)) (hb : PE X b (rdE B mb)) (hc : PE X c (rdE B mc)) (hm : lastMarks [op, op'] [b, c] = false := by with_unfolding_all rfl) : PE X (.Compare a [op, op'] [b, c] pos) (rdE B (mChain pr pr' ma mb mc)) := by
  obtain ⟨r, h1, k1⟩ := ho
  obtain ⟨r', h2, k2⟩ := ho'
  exact (pe_chain h1 h2 ha hb hc hm).imp fun σ H Q h => chain_rd k1 k2 h
theorem simt_chain (ho : O2 X B.W (compareOp op) pr) (ho' : O2 X B.W (compareOp op') pr') (ha : PE X a (rdE B ma)) (hb : PE X b (rdE B mb)) (hc : PE X c (rdE B mc)) (hm : lastMarks [op, op'] [b, c] = false := by with_unfolding_all rfl) : PT X (.Compare a [op, op'] [b, c] pos) (rdT B (mChain pr pr' ma mb mc)) := by
  obtain ⟨r, h1, k1⟩ := ho
  obtain ⟨r', h2, k2⟩ := ho'
  exact (pt_chain h1 h2 ha hb hc hm).imp fun σ H Q h => chain_rd k1 k2 h
end

/-! ### sorted(d.items()), ints -/
def asTab : List (D × D) → Option (List (Int × Int))
  | [] => some []
  | (.int a, .int b) :: r => (asTab r).map ((a, b) :: ·)
  | _ => none
def sortT (t : List (Int × Int)) : List (Int × Int) := t.mergeSort fun a b => decide (a.1 ≤ b.1)
def ofTab (t : List (Int × Int)) : List D := t.map fun ab => .tup [.int ab.1, .int ab.2]
def dItemsS : D → Option RV
  | .dic kvs => match asTab kvs with
    | some t => if decide (keysOf t).Nodup then some (.fr (.lst (ofTab (sortT t)))) else none
    | none => none
  | _ => none
theorem sortT_uniq {t l : List (Int × Int)} (n : (keysOf t).Nodup) (h1 : l.Perm t) (h2 : (keysOf l).Pairwise (· < ·)) : l = sortT t := by
  have p1 : (sortT t).Perm t := List.mergeSort_perm _ _
  have s1 : (sortT t).Pairwise (fun a b => decide (a.1 ≤ b.1) = true) := List.pairwise_mergeSort (fun a b c h1 h2 => by simp at *; omega) (fun a b => by simp; omega) t
  have h2' : l.Pairwise fun a b => a.1 ≤ b.1 := by
    unfold keysOf at h2
    rw [List.pairwise_map] at h2
    exact h2.imp fun h => Int.le_of_lt h
  refine List.Perm.eq_of_pairwise (le := fun a b : Int × Int => a.1 ≤ b.1) (fun a b ha hb x y => ?_) h2' (s1.imp fun h => of_decide_eq_true h) (h1.trans p1.symm)
  have e : a.1 = b.1 := Int.le_antisymm x y
  have ma := h1.mem_iff.mp ha
  have mb := p1.mem_iff.mp hb
  unfold keysOf at n
  obtain ⟨i, hi, ei⟩ := List.mem_iff_getElem.mp ma
  obtain ⟨j, hj, ej⟩ := List.mem_iff_getElem.mp mb
  have k : i = j := (List.getElem_inj (xs := t.map (·.1)) (h₀ := by simpa using hi) (h₁ := by simpa using hj) n).mp (by simp [ei, ej, e])
  subst k
  exact ei.symm.trans ej
theorem RepK.tab {W : Wd} {ρ : List Addr} {H : Hp} : ∀ {kvs : List (D × D)} {kys : List (Key × V)} {t : List (Int × Int)}, RepK W ρ H kvs kys → asTab kvs = some t → kys = dI t
  | _, _, t, .nil, e => by cases e; rfl
  | _, _, t, .cons (kd := kd) (d := d) (k := k) (r := r) e h q, e2 => by
    cases kd with
    | int a =>
      cases d with
      | int b =>
        unfold asTab at e2
        cases e3 : asTab r with
        | none => rw [e3] at e2; cases e2
        | some t' =>
          rw [e3] at e2
          cases e2
          cases k with
          | inl i =>
            cases e
            cases h
            rw [q.tab e3]
            rfl
          | inr s => cases e
      | _ => cases e2
    | _ => cases e2
theorem asTab_keys : ∀ {kvs : List (D × D)} {t : List (Int × Int)}, asTab kvs = some t → kvs.all (fun kv => match kv.1 with | .tup _ => false | _ => true) = true
  | [], t, e => rfl
  | (kd, d) :: r, t, e => by
    cases kd with
    | int a =>
      cases d with
      | int b =>
        unfold asTab at e
        cases e3 : asTab r with
        | none => rw [e3] at e; cases e
        | some t' => rw [List.all_cons, asTab_keys e3]; rfl
      | _ => cases e
    | _ => cases e
theorem pairs_rep {W : Wd} {ρ : List Addr} {H : Hp} {ls : List (Int × Int)} {ps : List V} (h : Paired (At2 H) ps ls) : Reps W ρ H (ofTab ls) ps := by
  induction h with
  | nil => exact .nil
  | cons r t ih =>
    rename_i p ab ps ls
    obtain ⟨b, rfl, e⟩ := r
    exact .cons (.tup (by unfold TupAt; rw [if_pos (show flat [D.int ab.1, D.int ab.2] = true from rfl)]; exact e) (.cons (.int _) (.cons (.int _) .nil))) ih
theorem itemsS_ok {W : Wd} {ρ : List Addr} {H : Hp} {d : D} {v : V} {Q : VK} (r : RepB W ρ H d v) (h : PPost W ρ H Q (dItemsS d)) : tyName d = "dict" ∧ rItemsK v [] H fun v' H' => rSortII [v'] H' Q := by
  cases d with
  | dic kvs =>
    have h : PPost W ρ H Q (match asTab kvs with
      | some t => if decide (keysOf t).Nodup then some (.fr (.lst (ofTab (sortT t)))) else none
      | none => none) := h
    cases e : asTab kvs with
    | none => rw [e] at h; exact h.elim
    | some t =>
      rw [e] at h
      by_cases n : (keysOf t).Nodup
      · simp only [n, decide_true, if_true] at h
        obtain ⟨a, kys, rfl, rd, rr⟩ := r.dicK (asTab_keys e)
        have ek := rr.tab e
        subst ek
        refine ⟨rfl, a, _, rfl, rfl, rd, fun p hp => ⟨p, a, t, rfl, upd_same, ?_, n, fun l ps ls H' hl pm pw hls pa sm => ?_⟩⟩
        · have ne : a ≠ p := fun z => by
            subst z
            rcases rd with z | ⟨o, z⟩ <;> (rw [hp] at z; cases z)
          rcases rd with z | ⟨o, z⟩
          · exact .inl (by rw [upd_ne ne]; exact z)
          · exact .inr ⟨o, by rw [upd_ne ne]; exact z⟩
        · obtain rfl := sortT_uniq n pm pw
          have s0 : Same H (upd H p (L2.DX.itemsO p a)) := Same.new hp
          have hl' : H l = none := by
            cases e5 : H l with
            | none => rfl
            | some u => rw [s0 _ _ e5] at hl; cases hl
          exact h l H' (fun b u z => sm _ _ (s0 _ _ z)) hl' (.lst hls (pairs_rep pa))
      · simp only [n, decide_false] at h
        exact h.elim
  | _ => exact h.elim
theorem itemsS_np (d : D) : noPl (dItemsS d) := by
  cases d with
  | dic kvs =>
    show noPl (match asTab kvs with
      | some t => if decide (keysOf t).Nodup then some (.fr (.lst (ofTab (sortT t)))) else none
      | none => none)
    split
    · split <;> trivial
    · trivial
  | _ => trivial
theorem sim_sortedItems {X : Cx} {B : Bd} {e : Expr} {ma : EM} {p pos apos cpos : Pos} (hc : X.calm = true) (hm : X.mg "sorted" = none) (hg : Gl X "sorted") (ha : PE X e (rdE B ma))
    (hbase : attributeBase e "items" X.env (eval e X.env) = eval e X.env := by rfl) (hline : (apos.endLine == cpos.line) = true := by rfl)
    (he : starEach [.Call (.Attribute e "items" apos) [] [] cpos] X.env = (false, eval (.Call (.Attribute e "items" apos) [] [] cpos) X.env) :: starEach [] X.env := by rfl) :
    PE X (.Call (.Name "sorted" p) [.Call (.Attribute e "items" apos) [] [] cpos] [] pos) (rdE B (mUn dItemsS ma)) := by
  have key : PE X (.Call (.Attribute e "items" apos) [] [] cpos) (fun σ H Q => rdE B ma σ H fun x H1 => (∃ W ρ d, RepB W ρ H1 d x ∧ tyName d = "dict") ∧ rItemsK x [] H1 Q) := by
    refine ⟨fun pins s σ H Q I k => ?_⟩
    refine wpAny_Call_method0_late hbase hline (thn (ha.run pins s σ H _ I k) fun v s1 ⟨x, H1, I1, r1, ⟨W, ρ, d, rb, e1⟩, q⟩ => ?_)
    obtain ⟨h1, h2⟩ := tyB_is I1 r1 rb e1 (by decide)
    exact ⟨"dict", _, PySem.F.plainAttrs_dict, PySem.F.slot_dict_items, PySem.F.type_dict_items, h1, h2, Calls.callWith_builtin rfl (PySem.evalArgs_none (mt_itemsK pins s1 σ H1 x [] v [] Q I1 r1 .nil q))⟩
  refine (pe_callB (cr_sortedItemsI hc) hg hm rfl (pa_cons key pa_nil he) (by decide) (by decide) he rfl).imp fun σ H Q h => ?_
  refine bind_rd (k := fun r p => op1 dItemsS p r) h fun g p1 r1 v1 H1 R1 a1 h1 => ?_
  unfold op1 at h1
  cases e1 : get p1 r1 with
  | none => rw [e1] at h1; exact h1.elim
  | some d =>
    rw [e1] at h1
    have rb := get_rep R1 a1 e1
    obtain ⟨t, z⟩ := itemsS_ok rb (PPost.of' R1 (itemsS_np d) h1)
    exact ⟨⟨_, _, d, rb, t⟩, z⟩
end Mi

/-! ## The mirror: what the programs that print derivations use -/
namespace Mi
open PySem PySem.Spec PyProof.Rows L2 Lamp SlX Gd

theorem passM {P : Program} {w : World} {K : PySem.W.Frag} {mg : Str → Option Value} {base : Heap} {N : List Str} {qual : Str} {scope : Scope} {f : Addr} {cd : Value} {A : Around} {outer : List Env} {s : Shared} {H : Hp} {E : XK} :
    Passes (L2.CX P w) (cxOf (L2.CX P w) P w K mg base N qual scope f cd A outer s H E) E := passes_call (takes_of rfl rfl rfl rfl) fun _ _ _ _ h => h
theorem passE {X : Cx} : Passes (L2.CX X.prog X.w) X (fun _ _ _ => False) := fun _ _ _ _ _ _ _ h => by
  obtain ⟨_, _, _, _, _, _, _, _, _, _, _, _, z⟩ := h
  exact z.elim
theorem _root_.L2.PI.mixM {X : Cx} {B : Bd} {tg e : Expr} {m m1 m2 : IM} (h1 : PI X tg e (rdI B m1)) (h2 : PI X tg e (rdI B m2)) (c : ∀ p, m p = m1 p ∨ m p = m2 p) : PI X tg e (rdI B m) := by
  refine ⟨fun pins s σ H R I q => ?_⟩
  obtain ⟨g, p, R0, k⟩ := q
  rcases c p with e | e
  · exact h1.run pins s σ H R I ⟨g, p, R0, by rw [← e]; exact k⟩
  · exact h2.run pins s σ H R I ⟨g, p, R0, by rw [← e]; exact k⟩
def enumA : List D → Option (List D)
  | [.tup ds] => some (enumL ds)
  | ds => enum1 ds
theorem enumA_or (ds : List D) : enumA ds = enum1 ds ∨ enumA ds = enumT ds := by
  unfold enumA
  split
  · exact .inr rfl
  · exact .inl rfl
theorem srcA_or {f f1 f2 : List D → Option (List D)} {ms : List EM} (h : ∀ ds, f ds = f1 ds ∨ f ds = f2 ds) (p : PS) : srcA f ms p = srcA f1 ms p ∨ srcA f ms p = srcA f2 ms p := by
  unfold srcA
  cases args ms p with
  | none => exact .inl rfl
  | some r =>
    cases r with
    | exc x st => exact .inl rfl
    | vals rs p' =>
      simp only
      cases e : shs rs with
      | none => simp
      | some ds =>
        simp only
        rcases h ds with z | z
        · left; rw [z]
        · right; rw [z]
def mDic0 : EM := fun p => some (.val (.fr (.dic [])) p)
theorem fnM_none {P : Program} {w : World} {W : Wd} {mg : Str → Option Value} {base : Heap} {k : Nat} {f : Addr} {fd : FuncData} {ps : List Str} : FnM P w W mg base k f fd ps (fun _ _ => none) := by
  have no : ∀ {vs H Q E}, fnSp W ps.length (fun _ _ => none) vs H Q E → False := fun h => by
    obtain ⟨_, _, _, _, _, _, z⟩ := h
    exact z
  exact ⟨fun vs H Q E h => (no h).elim, fun A o s H a us vs Q E _ _ _ _ _ h => (no h).elim⟩
end Mi

/-! ## The mirror: the end -/
namespace Mi
open PySem PySem.Spec PyProof.Rows L2 Lamp SlX Gd

def lawSp (K : PySem.W.Frag) : Sp := fun vs H Q _ => ∃ (a : Addr) (ns : List Int), vs = [.ref a] ∧ LstK K H a (ns.map V.int) ∧ ns.length ≤ 63 ∧ (∀ z ∈ ns, Builtin.Int.intBits z ≤ 1048576) ∧ ∀ H', Q (.bl true) H'
theorem law_end {P : Program} {w : World} {W : Wd} {mg : Str → Option Value} {base : Heap} {k : Nat} {fa : Addr} {fd : FuncData} {x : Str} {fn : Fn} (F : FnM P w W mg base k fa fd [x] fn)
    (hl : ∀ ns : List Int, ns.length ≤ 63 → (∀ z ∈ ns, Builtin.Int.intBits z ≤ 1048576) → ∃ st, fn [.scr ns] [] = some (.ret (.sh (.bl true)) st)) : FnG P w W.K mg base CX0 k fa fd [x] (lawSp W.K) := by
  refine ⟨fun vs H Q E h => ?_, fun A outer s H args us vs Q E hg hr e0 bt r h => ?_⟩
  · obtain ⟨a, ns, rfl, _⟩ := h
    rfl
  · obtain ⟨a, ns, rfl, hS, hn, hb, q⟩ := h
    obtain ⟨st, e⟩ := hl ns hn hb
    have q1 : fnSp W 1 fn [.ref a] H Q (fun _ _ _ => False) := by
      refine ⟨[], [.scr ns], [], ⟨fun n d e => by simp at e, rfl, List.nodup_nil⟩, .cons (.scr hS) .nil, rfl, ?_⟩
      rw [e]
      intro v H' ρ' l c rr
      cases rr
      exact q H'
    refine codeAny_mono (F.goes A outer s H args us [.ref a] Q (fun _ _ _ => False) hg hr e0 bt r q1) fun r s' hq => ?_
    cases r with
    | error e => obtain ⟨_, _, _, _, _, _, _, _, _, _, _, _, z⟩ := hq; exact z.elim
    | ok fl => cases fl <;> exact hq
end Mi

/-! ## The mirror: isinstance's answers from what the head gives -/
namespace Mi
open PySem PySem.Spec PyProof.Rows L2 Lamp SlX Gd

def onlyTypes (l : List Value) : Bool := l.all fun v => match v with | .type _ => true | _ => false
theorem bmro_types : ∀ a ∈ ["NoneType", "bool", "int", "str", "tuple", "list", "dict"], ((PySem.fastBuiltinMro a).map onlyTypes) = some true := by decide +kernel
theorem kitMeta_all : ∀ T ∈ ["bool", "int", "str", "tuple", "list", "dict"], PySem.W.kitMeta T = true := by decide +kernel
theorem onlyTypes_no {l : List Value} {C : Addr} (h : onlyTypes l = true) : l.contains (.ref C) = false := by
  induction l with
  | nil => rfl
  | cons v l ih =>
    unfold onlyTypes at h ih
    rw [List.all_cons, Bool.and_eq_true] at h
    rw [List.contains_cons, ih h.2]
    cases v with
    | type T => rfl
    | _ => cases h.1
section
variable {K : PySem.W.Frag} {C D : Addr}
theorem kb_own (ic : PySem.W.isClsIn K C = true) (ty : PySem.W.typeIn K (.ref C) = some (.type "type")) : ∀ a ∈ ["NoneType", "bool", "int", "str", "tuple", "list", "dict"], PySem.W.kitOne K (.type a) (.ref C) = some false := fun a ha => by
  have h := bmro_types a ha
  cases e : PySem.fastBuiltinMro a with
  | none => rw [e] at h; cases h
  | some l =>
    rw [e] at h
    have ho : onlyTypes l = true := by simpa using h
    have ic' : (PySem.W.clsIn K C).isSome = true := ic
    unfold PySem.W.kitOne
    rw [if_neg (by intro z; cases z)]
    show (if ((PySem.W.clsIn K C).isSome && PySem.W.typeIn K (.ref C) == some (.type "type")) = true then PySem.W.subIn K (.type a) (.ref C) else none) = some false
    rw [ic', ty]
    simp only [Bool.true_and, beq_self_eq_true, if_true]
    show (PySem.fastBuiltinMro a).map (·.contains (Value.ref C)) = some false
    rw [e]
    show some (l.contains (Value.ref C)) = some false
    rw [onlyTypes_no ho]
theorem ko_ty {T : String} (hT : T ∈ ["bool", "int", "str", "tuple", "list", "dict"]) (m : PySem.W.mroIn K C (.type T) = some false) : PySem.W.kitOne K (.ref C) (.type T) = some false := by
  unfold PySem.W.kitOne
  rw [if_neg (by intro z; cases z)]
  show (if PySem.W.kitMeta T = true then PySem.W.subIn K (.ref C) (.type T) else none) = some false
  rw [if_pos (kitMeta_all T hT)]
  exact m
theorem ko_own {b : Bool} (ic : PySem.W.isClsIn K D = true) (ty : PySem.W.typeIn K (.ref D) = some (.type "type")) (self : PySem.W.mroIn K D (.ref D) = some true) (m : PySem.W.mroIn K C (.ref D) = some b) : PySem.W.kitOne K (.ref C) (.ref D) = some b := by
  have ic' : (PySem.W.clsIn K D).isSome = true := ic
  unfold PySem.W.kitOne
  by_cases e : C = D
  · subst e
    rw [m] at self
    rw [if_pos (by simp)]
    exact self.symm
  · rw [if_neg (by simpa using e)]
    show (if ((PySem.W.clsIn K D).isSome && PySem.W.typeIn K (.ref D) == some (.type "type")) = true then PySem.W.subIn K (.ref C) (.ref D) else none) = some b
    rw [ic', ty]
    simp only [Bool.true_and, beq_self_eq_true, if_true]
    exact m
end
end Mi

/-! ## The mirror: evaluation -/
namespace Mi
open PySem PySem.Spec PyProof.Rows L2 Lamp SlX Gd

section
variable {α : Type}
@[simp] theorem atI_0 (l : List α) : atI l 0 = l[0]? := by
  cases l with
  | nil => rfl
  | cons a l => simp [atI, ixN]
@[simp] theorem atI_1 (l : List α) : atI l 1 = l[1]? := by
  unfold atI ixN
  by_cases h : 1 < l.length
  · have h' : (1 : Int) < (l.length : Int) := by omega
    simp [h, h']
  · rw [List.getElem?_eq_none (by omega)]
    simp; omega
@[simp] theorem atI_2 (l : List α) : atI l 2 = l[2]? := by
  unfold atI ixN
  by_cases h : 2 < l.length
  · have h' : (2 : Int) < (l.length : Int) := by omega
    simp [h, h']
  · rw [List.getElem?_eq_none (by omega)]
    simp; omega
end
end Mi

/-! ## The mirror: starred items, [::-1] -/
namespace Mi
open PySem PySem.Spec PyProof.Rows L2 Lamp SlX Gd

theorem star_seq {X : Cx} {pins : List (Addr × Obj)} {σ : L2.St} {H : Hp} {s : Shared} {a : Addr} {xs : List V} {E : Value → Shared → Prop} {Q : List Value → Shared → Prop} (I : Inv X pins σ H s) (h : SqT X.K H a xs ∨ SqL X.K H a xs) (hQ : ∀ us s', Inv X pins σ H s' → Vals xs us → Q us s') :
    PySem.W.StarOf (model X.prog X.w) X.A E (.ref a) Q s := by
  rcases h with h | h
  · exact star_tup I h hQ
  · obtain ⟨its, r, ho, hz⟩ := I.list h
    have hl := r.length
    obtain ⟨o, ho, hc, n, hd⟩ := ho.isList
    have hT : s.TypeIs (.ref a) "list" := ⟨o, ho, hc⟩
    have z : wpAny (model X.prog X.w) X.A (collect (.ref a)) Q E s := by
      refine wpAny_collect_seq a (.inl rfl) ho hc hd (fun h' hk => ?_) (by rw [List.size_toArray]; omega)
      have e : its.toArray.toList = its := by simp
      rw [e]
      exact hQ its _ (I.kept (t' := s.toks) hk) r
    unfold PySem.W.StarOf notIterableAtAll
    exact wpAny_bind (wpAny_specialOf hT PySem.F.slot_list_iter.lookup (wpAny_pure ⟨rfl, z⟩))
theorem paired_app {α β : Type} {F : α → β → Prop} : ∀ {l₁ : List α} {l₂ : List β} {m₁ : List α} {m₂ : List β}, Paired F l₁ l₂ → Paired F m₁ m₂ → Paired F (l₁ ++ m₁) (l₂ ++ m₂)
  | _, _, _, _, .nil, h => h
  | _, _, _, _, .cons a b, h => .cons a (paired_app b h)
theorem pa_star {X : Cx} {e : Expr} {es : List Expr} {te : TE} {t : TA} {p : Pos} (he : PE X e te) (hr : PA X es t) : PA X (.Starred e p :: es) (fun σ H Q => te σ H fun x H1 => ∃ a xs, x = .ref a ∧ (SqT X.K H1 a xs ∨ SqL X.K H1 a xs) ∧ t σ H1 fun ys H2 => Q (xs ++ ys) H2) := by
  refine ⟨fun pos pins s σ H Q I h => ?_⟩
  have e0 : backTo pos (starEach (.Starred e p :: es) X.env) = (true, (do let v ← eval e X.env; standAt pos; pure v)) :: backTo pos (starEach es X.env) := rfl
  rw [e0]
  refine PySem.W.ks_spliced (thn (he.run pins s σ H _ I h) fun u s1 ⟨x, H1, I1, r1, a, xs, ex, hs, q⟩ => ?_)
  subst ex
  obtain rfl : u = Value.ref a := r1
  refine star_seq I1 hs fun us s2 I2 rv => ?_
  exact thn (hr.run pos pins s2 σ H1 _ I2 q) fun vs s3 ⟨ys, H2, I3, r2, q2⟩ => ⟨xs ++ ys, H2, I3, paired_app rv r2, q2⟩
/-- several values, some of them starred -/
def starOf (p : PS) (r : RV) : Option (List D) := match get p r with
  | some (.tup ds) => some ds
  | some (.lst ds) => some ds
  | _ => none
def pick (b : Bool) (p : PS) (r : RV) : Option (List RV) := if b then (starOf p r).map (·.map RV.sh) else match r with
  | .fr _ => none
  | r => some [r]
def argsS : List (Bool × EM) → PS → Option AR
  | [], p => some (.vals [] p)
  | (b, m) :: ms, p => match m p with
    | none => none
    | some (.exc x st) => some (.exc x st)
    | some (.val r p1) => match pick b p1 r with
      | none => none
      | some rs0 => match argsS ms p1 with
        | none => none
        | some (.exc x st) => some (.exc x st)
        | some (.vals rs p2) => some (.vals (rs0 ++ rs) p2)
def rdAS (B : Bd) (ms : List (Bool × EM)) : TA := fun σ H Q => ∃ g p, Rel B g σ H p ∧ PostA B g σ H Q (argsS ms p)
section
variable {B : Bd} {g : Gh} {σ : L2.St} {H H' : Hp} {p p' : PS} {ρ' : List Addr}
theorem repRs_app : ∀ {rs rs' : List RV} {vs vs' : List V}, RepRs B g σ H p rs vs → RepRs B g σ H p rs' vs' → RepRs B g σ H p (rs ++ rs') (vs ++ vs')
  | _, _, _, _, .nil, h => h
  | _, _, _, _, .cons n h t, h' => .cons n h (repRs_app t h')
theorem repRs_on : ∀ {rs : List RV} {vs : List V}, RepRs B g σ H p rs vs → Frz H H' → g.ρ <+: ρ' → RepRs B ⟨ρ', g.hid⟩ σ H' p' rs vs
  | _, _, .nil, _, _ => .nil
  | _, _, .cons n h t, f, q => .cons n (RepR.on n f q h) (repRs_on t f q)
theorem repRs_sh : ∀ {ds : List D} {vs : List V}, Reps B.W g.ρ H ds vs → RepRs B g σ H p (ds.map RV.sh) vs
  | _, _, .nil => .nil
  | _, _, .cons h t => .cons (fun d z => by cases z) h (repRs_sh t)
theorem argsS_one {m : EM} {ms : List (Bool × EM)} {Q : List V → Hp → Prop} (h : rdAS B ((false, m) :: ms) σ H Q) : rdE B m σ H fun x H1 => rdAS B ms σ H1 fun xs H2 => Q (x :: xs) H2 := by
  obtain ⟨g, p, R, k⟩ := h
  refine ⟨g, p, R, ?_⟩
  unfold argsS at k
  cases e : m p with
  | none => rw [e] at k; exact k
  | some r =>
    rw [e] at k
    cases r with
    | exc x st => exact k
    | val r p1 =>
      intro v H1 ρ1 R1 q1 f1 a1
      refine ⟨⟨ρ1, g.hid⟩, p1, R1, ?_⟩
      by_cases n : ∃ d, r = .fr d
      · obtain ⟨d, rfl⟩ := n
        exact (show False from k).elim
      have n' : ∀ d, r ≠ .fr d := fun d z => n ⟨d, z⟩
      have pk : pick false p1 r = some [r] := by
        cases r with
        | sh d => rfl
        | fr d => exact (n' d rfl).elim
        | pl i => rfl
      simp only [pk] at k
      cases e2 : argsS ms p1 with
      | none => rw [e2] at k; exact k
      | some w =>
        rw [e2] at k
        cases w with
        | exc x st => exact k
        | vals rs p2 => exact fun vs H2 ρ2 R2 q2 f2 a2 => k (v :: vs) H2 ρ2 R2 (q1.trans q2) (f1.trans f2) (.cons n' (RepR.on (g := ⟨ρ1, g.hid⟩) (ρ' := ρ2) n' f2 q2 a1) a2)
theorem argsS_star {X : Cx} (hK : X.K = B.W.K) {m : EM} {ms : List (Bool × EM)} {Q : List V → Hp → Prop} (h : rdAS B ((true, m) :: ms) σ H Q) :
    rdE B m σ H fun x H1 => ∃ a xs, x = .ref a ∧ (SqT X.K H1 a xs ∨ SqL X.K H1 a xs) ∧ rdAS B ms σ H1 fun ys H2 => Q (xs ++ ys) H2 := by
  obtain ⟨g, p, R, k⟩ := h
  refine ⟨g, p, R, ?_⟩
  unfold argsS at k
  cases e : m p with
  | none => rw [e] at k; exact k
  | some r =>
    rw [e] at k
    cases r with
    | exc x st => exact k
    | val r p1 =>
      intro v H1 ρ1 R1 q1 f1 a1
      have core : ∀ {ds : List D} {a : Addr} {xs : List V}, starOf p1 r = some ds → v = .ref a → (SqT X.K H1 a xs ∨ SqL X.K H1 a xs) → Reps B.W ρ1 H1 ds xs → ∃ a xs, v = .ref a ∧ (SqT X.K H1 a xs ∨ SqL X.K H1 a xs) ∧ rdAS B ms σ H1 fun ys H2 => Q (xs ++ ys) H2 := by
        intro ds a xs es ev sq rr
        refine ⟨a, xs, ev, sq, ⟨ρ1, g.hid⟩, p1, R1, ?_⟩
        have pk : pick true p1 r = some (ds.map RV.sh) := by
          unfold pick
          rw [if_pos rfl, es]
          rfl
        simp only [pk] at k
        cases e2 : argsS ms p1 with
        | none => rw [e2] at k; exact k
        | some w =>
          rw [e2] at k
          cases w with
          | exc x st => exact k
          | vals rs p2 =>
            intro vs H2 ρ2 R2 q2 f2 a2
            exact k (xs ++ vs) H2 ρ2 R2 (q1.trans q2) (f1.trans f2) (repRs_app (repRs_on (g := ⟨ρ1, g.hid⟩) (p := p1) (repRs_sh rr) f2 q2) a2)
      have gone : ∀ {Z : Prop}, starOf p1 r = none → Z := by
        intro Z z
        have pk : pick true p1 r = none := by
          unfold pick
          rw [if_pos rfl, z]
          rfl
        simp only [pk] at k
        exact k.elim
      cases eg : get p1 r with
      | none => exact gone (by unfold starOf; rw [eg])
      | some d =>
        have rb := get_rep R1 a1 eg
        cases d with
        | tup ds =>
          obtain ⟨a, xs, ev, sq, rr⟩ := rb.tup
          exact core (by unfold starOf; rw [eg]) ev (.inl (by rw [hK]; exact sq)) rr
        | lst ds =>
          obtain ⟨a, xs, ev, sq, rr⟩ := rb.lst
          exact core (by unfold starOf; rw [eg]) ev (.inr (by rw [hK]; exact sq)) rr
        | _ => exact gone (by unfold starOf; rw [eg])
end
section
variable {X : Cx} {B : Bd} {e : Expr} {es : List Expr} {m : EM} {ms : List (Bool × EM)} {p pos : Pos}
theorem simS_nil : PA X [] (rdAS B []) := pa_nil.imp fun σ H Q h => by
  obtain ⟨g, p, R, k⟩ := h
  exact k [] H g.ρ R (List.prefix_refl _) (Frz.refl H) .nil
theorem simS_cons (ha : PE X e (rdE B m)) (hr : PA X es (rdAS B ms)) (hs : starEach (e :: es) X.env = (false, eval e X.env) :: starEach es X.env := by rfl) : PA X (e :: es) (rdAS B ((false, m) :: ms)) :=
  (pa_cons ha hr hs).imp fun σ H Q h => argsS_one h
theorem simS_star (hK : X.K = B.W.K) (ha : PE X e (rdE B m)) (hr : PA X es (rdAS B ms)) : PA X (.Starred e p :: es) (rdAS B ((true, m) :: ms)) :=
  (pa_star ha hr).imp fun σ H Q h => argsS_star hK h
def bindAS (ms : List (Bool × EM)) (k : List RV → PS → Option ER) : EM := fun p => match argsS ms p with
  | none => none
  | some (.exc x st) => some (.exc x st)
  | some (.vals rs p') => k rs p'
theorem bindAS_rd {k : List RV → PS → Option ER} {σ : L2.St} {H : Hp} {Q : VK} (h : rdE B (bindAS ms k) σ H Q) {Q' : List V → Hp → Prop} (i : ∀ g p' rs vs H', Rel B g σ H' p' → RepRs B g σ H' p' rs vs → Post B g σ H' Q (k rs p') → Q' vs H') : rdAS B ms σ H Q' := by
  obtain ⟨g, p, R, hp⟩ := h
  refine ⟨g, p, R, ?_⟩
  unfold bindAS at hp
  cases e : argsS ms p with
  | none => rw [e] at hp; exact hp
  | some r =>
    rw [e] at hp
    cases r with
    | vals rs p' => exact fun vs H' ρ' R' q f rr => i ⟨ρ', g.hid⟩ p' rs vs H' R' rr (Post.later q f hp)
    | exc x st => exact hp
def mTupS (ms : List (Bool × EM)) : EM := bindAS ms fun rs p => match shs rs with
  | some ds => if ds.length ≤ sizeLine then some (.val (.sh (.tup ds)) p) else none
  | none => none
def mLstS (ms : List (Bool × EM)) : EM := bindAS ms fun rs p => match shs rs with
  | some ds => if ds.length ≤ sizeLine then some (.val (.fr (.lst ds)) p) else none
  | none => none
theorem sim_tupS {x1 : Nat} (h : PA X es (rdAS B ms)) : PE X (.Tuple es x1 pos) (rdE B (mTupS ms)) :=
  (pe_tupA h).imp fun σ H Q k => bindAS_rd k fun g p rs vs H1 R a k => by
    cases e : shs rs with
    | none => simp only [e] at k; exact k.elim
    | some ds =>
      simp only [e] at k
      have rr := a.reps (shs_eq e)
      by_cases c : ds.length ≤ sizeLine
      · simp only [c, if_true] at k
        exact ⟨by rw [← rr.len]; exact c, newT_rep rr (PPost.of' (r := some (.sh (.tup ds))) R trivial k)⟩
      · simp only [c, if_false] at k; exact k.elim
theorem sim_lstS (h : PA X es (rdAS B ms)) : PE X (.List es pos) (rdE B (mLstS ms)) :=
  (pe_lst h).imp fun σ H Q k => bindAS_rd k fun g p rs vs H1 R a k => by
    cases e : shs rs with
    | none => simp only [e] at k; exact k.elim
    | some ds =>
      simp only [e] at k
      have rr := a.reps (shs_eq e)
      by_cases c : ds.length ≤ sizeLine
      · simp only [c, if_true] at k
        have pp := PPost.of' (r := some (.fr (.lst ds))) R trivial k
        exact ⟨by rw [← rr.len]; exact c, fun q n => pp.new rr n⟩
      · simp only [c, if_false] at k; exact k.elim
/-- a list the other way round -/
def dRev : D → Option RV
  | .lst ds => some (.fr (.lst ds.reverse))
  | _ => none
theorem Reps.rev {W : Wd} {ρ : List Addr} {H : Hp} {ds : List D} {xs : List V} (r : Reps W ρ H ds xs) : Reps W ρ H ds.reverse xs.reverse := by
  have gen : ∀ {ds : List D} {xs : List V}, Reps W ρ H ds xs → Reps W ρ H ds.reverse xs.reverse := by
    intro ds
    induction ds with
    | nil => intro xs r; cases r; exact .nil
    | cons d ds ih =>
      intro xs r
      cases r with
      | cons h t =>
        rw [List.reverse_cons, List.reverse_cons]
        exact Reps.snoc (ih t) h
  exact gen r
theorem sim_rev {k : Nat} {p1 p2 p3 : Pos} (hK : X.K = B.W.K) (he : PE X e (rdE B m)) : PE X (.Subscript e (.Slice none none (some (.UnaryOp .USub (.Constant (.int 1) k p1) p2)) p3) pos) (rdE B (mUn dRev m)) :=
  (pe_revL he).imp fun σ H Q h => bind_rd h fun g p r v H1 R a k => by
    unfold op1 at k
    cases eg : get p r with
    | none => rw [eg] at k; exact k.elim
    | some d =>
      rw [eg] at k
      cases d with
      | lst ds =>
        obtain ⟨a', xs, ev, sq, rr⟩ := (get_rep R a eg).lst
        have pp := PPost.of' (r := some (.fr (.lst ds.reverse))) R trivial k
        exact ⟨a', xs, ev, by rw [hK]; exact sq, fun q n => pp.new rr.rev n⟩
      | _ => exact k.elim
end
end Mi

/-! ## The mirror: sorted(d), d.get with any default, max/min of a dict's keys -/
namespace Mi
open PySem PySem.Spec PyProof.Rows L2 Lamp SlX Gd

theorem call_sortedKI {X : Cx} (hcalm : X.calm = true) : CallR X (.builtin "sorted") (fun xs H Q => ∃ (a : Addr) (kvs : List (Key × V)) (ks : List Int), xs = [.ref a] ∧ Rd H a (.dK kvs) ∧ kvs.map (·.1) = ks.map Sum.inl ∧
    ∀ (ys : List Int) (p : Addr), ys.Perm ks → ys.Pairwise (· ≤ ·) → H p = none → Q (.ref p) (upd H p (.lst (ys.map V.int)))) := by
  intro pins s σ H xs us Q I r q
  obtain ⟨a, kvs, ks, ex, hd, hks, q⟩ := q
  subst ex
  obtain ⟨u, eu, rx⟩ := vals1 r
  subst eu
  cases rx
  obtain ⟨z, lo, vs, rel, dd⟩ := dk_rd I.hok hd
  obtain ⟨ep, hat⟩ := dd.dictAt
  have hkeys : vs.map (·.1) = ks.map Sum.inl := rel.keys.symm.trans hks
  have hl : vs.length = ks.length := by
    have e := congrArg List.length hkeys
    rw [List.length_map, List.length_map] at e
    exact e
  have h16 : vs.length ≤ sizeLine := by rw [← rel.length]; exact z
  refine Calls.call_function_entry PyProof.Rows.kind_sorted PyProof.Rows.plain_sorted PyProof.Rows.entry_sorted (PyProof.Rows.args_sorted1 _) ?_
  unfold Builtin.«sorted»
  refine wpAny_bind (m := checkCount "sorted" 1 1 _) (wpAny_pure ?_)
  refine wpAny_bind (PySem.W.kdu_collect (A := X.A.in1) (PySem.W.kdl_dict (knd := mixKind X.prog X.w) (kvs := vs) (ep := ep) lo) (I.ok.hd hcalm) hat h16 fun h' tk acc hk hacc => ?_)
  have hal : acc.toList.length = ks.length := by rw [Array.length_toList, hacc.1, hl]
  have hS : IntsAre acc.toList ks := ints_each hal fun j v e => by
    obtain ⟨k, x, e1, e2⟩ := hacc.2 j v (by rw [← Array.getElem?_toList]; exact e)
    have e3 : (vs.map (·.1))[j]? = some k := by rw [List.getElem?_map, e1]; rfl
    rw [hkeys, List.getElem?_map] at e3
    cases e4 : ks[j]? with
    | none => rw [e4] at e3; cases e3
    | some y =>
      rw [e4] at e3
      have e5 : Sum.inl y = k := Option.some.inj e3
      subst e5
      rcases keyIs_shape (show keyIs (Sum.inl y) v = true from e2) with ⟨i, t, ek, ev⟩ | ⟨z, t, ek, ev⟩
      · cases ek
        exact ⟨y, t, rfl, ev⟩
      · cases ek
  have I1 : Inv X pins σ H { s with heap := h', toks := tk } := I.kept hk
  refine wpAny_bind (wpAny_newList ?_ (by rw [hal, ← hl]; exact h16))
  have hoL : (h'.push (seqObj "list" acc.toList.toArray 0)).get? h'.objs.size = some (seqObj "list" acc.toList.toArray 0) := Heap.get?_push_size _ rfl
  show wpAny _ _ _ _ _ { s with heap := h'.push (seqObj "list" acc.toList.toArray 0), toks := tk }
  refine wpAny_bind (wpAny_holding (wpAny_call_entry PyProof.Rows.slot_list_sort ⟨_, hoL, rfl⟩ PyProof.Rows.entry_list_sort
    (SrtO.list_sort_ord (s := { s with heap := h'.push (seqObj "list" acc.toList.toArray 0), toks := tk }) SrtO.swo_int hoL (by rw [hal, ← hl]; exact h16) (fun h2 => SrtO.ints_sortable hS h2) fun out h1 h2 => ⟨.none, rfl, ?_⟩) (PyProof.Rows.args_list_sort _)))
  obtain ⟨g1, g2, g3⟩ := SrtO.ints_out hS h1 h2
  obtain ⟨e', he'⟩ := PyProof.Rows.sortedHeap_at (vs := acc.toList) (out := out.toArray) hoL
  have hlen : ((out.map SrtO.iv).map V.int).length ≤ sizeLine := by
    rw [List.length_map, g2.length_eq, ← hl]
    exact h16
  refine wpAny_pure ⟨_, rfl, .ref h'.objs.size, upd H h'.objs.size (.lst ((out.map SrtO.iv).map V.int)), I1.laid (t' := tk) (fun b u e => ?_) (Nat.le_refl _)
    (show ObjOk X.prog X.w _ _ _ (.lst ((out.map SrtO.iv).map V.int)) from ⟨hlen, out, e', vals_of_ints g1, he'⟩), rfl, q _ _ g2 g3 (I1.hok.fresh (Nat.le_refl _))⟩
  have hb : b < h'.objs.size := Heap.lt_size e
  rw [PyProof.Rows.sortedHeap_old (Nat.ne_of_lt hb) (by rw [size_push']; exact Nat.lt_succ_of_lt hb)]
  exact Heap.get?_push_of_some _ e
/-- the keys, if they are ints -/
def intKeys : List (D × D) → Option (List Int)
  | [] => some []
  | (.int i, _) :: r => (intKeys r).map (i :: ·)
  | _ => none
theorem intKeys_rep {W : Wd} {ρ : List Addr} {H : Hp} : ∀ {kvs : List (D × D)} {kys : List (Key × V)} {ks : List Int}, RepK W ρ H kvs kys → intKeys kvs = some ks → kys.map (·.1) = ks.map Sum.inl
  | _, _, ks, .nil, e => by cases e; rfl
  | _, _, ks, .cons (k := k) (kd := kd) e h t, z => by
    subst e
    cases k with
    | inl i =>
      have z' : (intKeys _).map (i :: ·) = some ks := z
      cases e2 : intKeys _ with
      | none => rw [e2] at z'; cases z'
      | some r =>
        rw [e2] at z'
        cases z'
        rw [List.map_cons, List.map_cons, intKeys_rep t e2]
    | inr y => cases z
theorem intKeys_all {kvs : List (D × D)} {ks : List Int} (e : intKeys kvs = some ks) : kvs.all (fun kv => match kv.1 with | .tup _ => false | _ => true) = true := by
  induction kvs generalizing ks with
  | nil => rfl
  | cons kv r ih =>
    obtain ⟨k, v⟩ := kv
    cases k with
    | int i =>
      have z' : (intKeys r).map (i :: ·) = some ks := e
      cases e2 : intKeys r with
      | none => rw [e2] at z'; cases z'
      | some q => exact (by rw [List.all_cons, ih e2]; rfl)
    | _ => cases e
def dSortedK : List D → Option RV
  | [.dic kvs] => (intKeys kvs).map fun ks => .fr (.lst ((sortI ks).map .int))
  | _ => none
def dSortedA : List D → Option RV
  | [.dic kvs] => dSortedK [.dic kvs]
  | ds => dSorted ds
theorem dSortedA_or (ds : List D) : dSortedA ds = dSorted ds ∨ dSortedA ds = dSortedK ds := by
  unfold dSortedA
  split
  · exact .inr rfl
  · exact .inl rfl
section
variable {X : Cx} {W : Wd}
theorem k_sortedK (hc : X.calm = true) : C1 X W (.builtin "sorted") dSortedK := ⟨_, call_sortedKI hc, fun ρ H ds vs Q a h => by
    unfold dSortedK at h
    split at h
    · rename_i kvs
      obtain ⟨v, rfl, r⟩ := repBs1 a
      cases e : intKeys kvs with
      | none => rw [e] at h; exact h.elim
      | some ks =>
        rw [e] at h
        obtain ⟨p, kys, rfl, rd, rk⟩ := r.dicK (intKeys_all e)
        exact ⟨p, kys, ks, rfl, rd, intKeys_rep rk e, fun ys q h1 h2 n => by rw [sortI_uniq h1 h2]; exact PPost.new h (Reps.ints _) n⟩
    · exact h.elim, fun ds => by
      unfold dSortedK
      split
      · cases intKeys _ <;> trivial
      · trivial⟩
theorem k_sortedA (hK : X.K = W.K) (hc : X.calm = true) : C1 X W (.builtin "sorted") dSortedA := .mix (k_sorted hK) (k_sortedK hc) dSortedA_or
end
end Mi

/-! ## The mirror: == and != of instances by their own __eq__ -/
namespace Mi
open PySem PySem.Spec PyProof.Rows L2 Lamp SlX Gd
section
variable {prog : Program} {w : World} {A : Around} {E : Value → Shared → Prop} {s : Shared} {K : PySem.W.Frag} {x C f : Addr} {ox : Obj} {od : Option Obj} {b tb : Value}
theorem eq_own {Q : Value → Shared → Prop} (hu0 : A.units < cLine) (X : K.In s.heap) (I : PySem.W.InstAt s.heap x ox C od) (hb : PySem.W.Looks (model prog w) s.heap (typeOf b) tb) (hn : PySem.W.notFirst K C tb = true)
    (he : PySem.W.findIn K (.ref C) "__eq__" = some (some (.ref f))) (hf : PySem.W.isFn K (.ref f) = true)
    (go : wpAny (model prog w) A (call (.ref f) [.ref x, b]) (fun v s' => ∃ c, v = .bool c ∧ Q (.bool c) s') E s) : wpAny (model prog w) A (richCompare .Eq (.ref x) b) Q E s := by
  have one : wpAny (model prog w) A (tryCompare (.ref x) (cmpInfo .Eq).2.1 b) (fun r s' => ∃ v, r = some v ∧ Q v s') E s := by
    unfold tryCompare
    refine wpAny_bind (PySem.W.ifBound_K X I he hf (wpAny_mono go ?_ fun _ _ y => y))
    rintro v s' ⟨c, rfl, q⟩
    exact wpAny_pure ⟨_, rfl, q⟩
  have two : ∀ {R : Value → Shared → Prop} {g : Option Value → Sem Value}, (∀ v s', Q v s' → wpAny (model prog w) A (g (some v)) R E s') → wpAny (model prog w) A (tryCompare (.ref x) (cmpInfo .Eq).2.1 b >>= g) R E s := by
    intro R g hg
    refine wpAny_bind (wpAny_mono one ?_ fun _ _ y => y)
    rintro r s' ⟨v, rfl, q⟩
    exact hg v s' q
  unfold richCompare
  simp only [oneThing_ref]
  refine wpAny_holding ?_
  refine wpAny_bind (wpAny_cRoomFor hu0 ?_)
  refine wpAny_bind (I.type.here ?_)
  refine wpAny_bind (hb.here ?_)
  by_cases q : (Value.ref C != tb) = true
  · have e : PySem.W.subIn K tb (.ref C) = some false := by
      rcases Bool.or_eq_true_iff.mp hn with e | e
      · rw [beq_iff_eq.mp e] at q
        simp at q
      · exact beq_iff_eq.mp e
    rw [if_pos q]
    refine wpAny_bind ((PySem.W.looks_subIn X e).here ?_)
    simp only [Bool.false_eq_true, if_false]
    exact two fun v s' z => wpAny_pure z
  · rw [if_neg q]
    refine wpAny_bind (wpAny_pure ?_)
    simp only [Bool.false_eq_true, if_false]
    exact two fun v s' z => wpAny_pure z
end
/-- what a class with an own __eq__ gives -/
structure EqC (W : Wd) (c : Nat) (fa : Addr) : Prop where
  eq : PySem.W.findIn W.K (.ref (W.cC c)) "__eq__" = some (some (.ref fa))
  fn : PySem.W.isFn W.K (.ref fa) = true
  ne : PySem.W.findIn W.K (.ref (W.cC c)) "__ne__" = some (some (.builtin "object.__ne__"))
  ob : PySem.W.mroIn W.K (W.cC c) (.type "object") = some true
def rOwnEq (neg : Bool) (W : Wd) (c : Nat) (fn : Fn) (E : XK) : R2 := fun x y H Q => ∃ ρ fs gs, RepB W ρ H (.obj c fs) x ∧ RepB W ρ H (.obj c gs) y ∧ fnSp W 2 fn [x, y] H (fun z H' => ∃ b, z = .bl b ∧ Q (.bl (if neg then !b else b)) H') E
section
variable {X : Cx} {W : Wd} {B : Bd} {c k : Nat} {fa : Addr} {fd : FuncData} {ps : List Str} {fn : Fn} {E : XK} {x0 x1 : Str}
theorem op_eqOwnL (hK : X.K = W.K) (ec : EqC W c fa) (F : FnM X.prog X.w W X.mg X.base k fa fd [x0, x1] fn) (hgd : X.A.guards = some []) (hr : Room (k + 1) X.A) (hb : Binds W.K fd [x0, x1] []) (hx : Passes (L2.CX X.prog X.w) X E) : OpR X (compareOp .Eq) (rOwnEq false W c fn E) := by
  intro pins s σ H x y v u Q I rx ry h
  obtain ⟨ρ, fs, gs, rb1, rb2, q⟩ := h
  obtain ⟨a, ox, od, rfl, J, _⟩ := obj_inst I rb1
  obtain ⟨b, ox', od', rfl, J', _⟩ := obj_inst I rb2
  cases (show v = Value.ref a from rx)
  cases (show u = Value.ref b from ry)
  have F' : FnM X.prog X.w W X.mg X.base k fa fd [x0, x1] fn := F
  unfold FnM at F'
  have ki := I.kIn
  rw [hK] at ki
  have bt := hb s [.ref a, .ref b] ki rfl
  rw [← hK] at F'
  unfold compareOp
  refine eq_own hr.units0 ki J J'.type (notFirst_self _) ec.eq ec.fn (wpAny_mono (wpAny_call (runAt F' hgd (hr.mono (Nat.le_succ k)) I.env0 bt hx I (show Vals [V.ref a, V.ref b] [Value.ref a, Value.ref b] from .cons rfl (.cons rfl .nil)) q)) ?_ fun _ _ y => y)
  rintro v s' ⟨z, H', I', rz, c, ez, qz⟩
  subst ez
  exact ⟨c, rz, .bl c, H', I', rfl, qz⟩
theorem op_neOwnL (hK : X.K = W.K) (ec : EqC W c fa) (F : FnM X.prog X.w W X.mg X.base k fa fd [x0, x1] fn) (hgd : X.A.guards = some []) (hr : Room (k + 1) X.A) (hb : Binds W.K fd [x0, x1] []) (hx : Passes (L2.CX X.prog X.w) X E) : OpR X (compareOp .NotEq) (rOwnEq true W c fn E) := by
  intro pins s σ H x y v u Q I rx ry h
  obtain ⟨ρ, fs, gs, rb1, rb2, q⟩ := h
  obtain ⟨a, ox, od, rfl, J, _⟩ := obj_inst I rb1
  obtain ⟨b, ox', od', rfl, J', _⟩ := obj_inst I rb2
  cases (show v = Value.ref a from rx)
  cases (show u = Value.ref b from ry)
  have F' : FnM X.prog X.w W X.mg X.base k fa fd [x0, x1] fn := F
  unfold FnM at F'
  have ki := I.kIn
  rw [hK] at ki
  have bt := hb s [.ref a, .ref b] ki rfl
  rw [← hK] at F'
  have r1 : Room k X.A.in1 := hr.in1
  unfold compareOp
  refine ne_own hr.units0 r1.units0 ki J J'.type (notFirst_self _) ec.ob ec.ne ec.eq ec.fn (wpAny_mono (wpAny_call (runAt (A := X.A.in1) F' hgd r1 I.env0.in1 bt hx I (show Vals [V.ref a, V.ref b] [Value.ref a, Value.ref b] from .cons rfl (.cons rfl .nil)) q)) ?_ fun _ _ y => y)
  rintro v s' ⟨z, H', I', rz, c, ez, qz⟩
  subst ez
  exact ⟨c, rz, .bl (!c), H', I', rfl, qz⟩
/-- a == b, a != b: of two instances of class c by its own __eq__, else of data -/
def backB (neg : Bool) : Option ER → Option ER
  | some (.val (.sh (.bl b)) p) => some (.val (.sh (.bl (if neg then !b else b))) p)
  | _ => none
def mEqO (neg : Bool) (c : Nat) (fn : Fn) (ma mb : EM) : EM := bindE ma fun r1 => bindE mb fun r2 p =>
  if (isC c p r1 && isC c p r2) = true then backB neg (callF fn p [r1, r2]) else op2 (eqP neg) p r1 r2
theorem mEqO_rd {neg : Bool} {r : R2} {ma mb : EM} (hp : P2 B.W r (eqP neg)) {σ : L2.St} {H : Hp} {Q : VK} (h : rdE B (mEqO neg c fn ma mb) σ H Q) : tOp (fun x y H Q => rOwnEq neg B.W c fn B.E x y H Q ∨ r x y H Q) (rdE B ma) (rdE B mb) σ H Q := by
  refine bind_rd h fun g p1 r1 v1 H1 R1 a1 h1 => ?_
  refine ⟨g, p1, R1, ?_⟩
  unfold bindE at h1
  cases e : mb p1 with
  | none => rw [e] at h1; exact h1
  | some w =>
    rw [e] at h1
    cases w with
    | exc x st => exact h1
    | val r2 p2 =>
      intro v2 H2 ρ2 R2 q2 f2 a2
      have h2 : Post B ⟨ρ2, g.hid⟩ σ H2 Q (if (isC c p2 r1 && isC c p2 r2) = true then backB neg (callF fn p2 [r1, r2]) else op2 (eqP neg) p2 r1 r2) := Post.later q2 f2 h1
      by_cases n : ∃ d, r1 = .fr d
      · obtain ⟨d, rfl⟩ := n
        exact (show False from h2).elim
      have a1' := a1.on (p' := p2) (ρ' := ρ2) (fun d e => n ⟨d, e⟩) f2 q2
      by_cases z : (isC c p2 r1 && isC c p2 r2) = true
      · rw [if_pos z] at h2
        rw [Bool.and_eq_true] at z
        obtain ⟨⟨d1, e1, _⟩, fs, rb1⟩ := isC_rep R2 a1' z.1
        obtain ⟨⟨d2, e2, _⟩, gs, rb2⟩ := isC_rep R2 a2 z.2
        refine .inl ⟨ρ2, fs, gs, rb1, rb2, ?_⟩
        have k : Post B ⟨ρ2, g.hid⟩ σ H2 (fun z H' => ∃ b, z = .bl b ∧ Q (.bl (if neg then !b else b)) H') (callF fn p2 [r1, r2]) := by
          cases ec : callF fn p2 [r1, r2] with
          | none => rw [ec] at h2; exact h2.elim
          | some w =>
            rw [ec] at h2
            cases w with
            | exc x st => exact h2.elim
            | val r p =>
              cases r with
              | sh d =>
                cases d with
                | bl b =>
                  intro v H' ρ' R' q' f' a'
                  cases (show Rep _ _ _ _ _ from a')
                  exact ⟨b, rfl, h2 (.bl (if neg then !b else b)) H' ρ' R' q' f' (.bl _)⟩
                | _ => exact h2.elim
              | fr d => exact h2.elim
              | pl i => exact h2.elim
        exact call_sp (n := 2) rfl R2 (.cons (fun d' z => by rw [e1] at z; cases z) a1' (.cons (fun d' z => by rw [e2] at z; cases z) a2 .nil)) k
      · rw [if_neg z] at h2
        exact .inr (op2_ok hp R2 a1' a2 h2)
end
theorem opR_or {X : Cx} {f : Value → Value → Sem Value} {r r' : R2} (h : OpR X f r) (h' : OpR X f r') : OpR X f (fun x y H Q => r x y H Q ∨ r' x y H Q) := by
  intro pins s σ H x y v u Q I rx ry z
  rcases z with z | z
  · exact h pins s σ H x y v u Q I rx ry z
  · exact h' pins s σ H x y v u Q I rx ry z
section
variable {X : Cx} {B : Bd} {c k : Nat} {fa : Addr} {fd : FuncData} {fn : Fn} {x0 x1 : Str} {a b : Expr} {ma mb : EM} {pos : Pos}
theorem sim_eqO (hK : X.K = B.W.K) (ec : EqC B.W c fa) (F : FnM X.prog X.w B.W X.mg X.base k fa fd [x0, x1] fn) (hgd : X.A.guards = some []) (hr : Room (k + 1) X.A) (hb : Binds B.W.K fd [x0, x1] []) (hx : Passes (L2.CX X.prog X.w) X B.E) (h : O2 X B.W (compareOp .Eq) (eqP false)) (ha : PE X a (rdE B ma)) (hbb : PE X b (rdE B mb)) (hm : behindInMarks .Eq b = false) :
    PE X (.Compare a [.Eq] [b] pos) (rdE B (mEqO false c fn ma mb)) := by
  obtain ⟨r, ho, hp⟩ := h
  exact (pe_cmpR (opR_or (op_eqOwnL hK ec F hgd hr hb hx) ho) ha hbb hm).imp fun _ _ _ h => mEqO_rd hp h
theorem sim_neO (hK : X.K = B.W.K) (ec : EqC B.W c fa) (F : FnM X.prog X.w B.W X.mg X.base k fa fd [x0, x1] fn) (hgd : X.A.guards = some []) (hr : Room (k + 1) X.A) (hb : Binds B.W.K fd [x0, x1] []) (hx : Passes (L2.CX X.prog X.w) X B.E) (h : O2 X B.W (compareOp .NotEq) (eqP true)) (ha : PE X a (rdE B ma)) (hbb : PE X b (rdE B mb)) (hm : behindInMarks .NotEq b = false) :
    PE X (.Compare a [.NotEq] [b] pos) (rdE B (mEqO true c fn ma mb)) := by
  obtain ⟨r, ho, hp⟩ := h
  exact (pe_cmpR (opR_or (op_neOwnL hK ec F hgd hr hb hx) ho) ha hbb hm).imp fun _ _ _ h => mEqO_rd hp h
theorem simt_eqO (hK : X.K = B.W.K) (ec : EqC B.W c fa) (F : FnM X.prog X.w B.W X.mg X.base k fa fd [x0, x1] fn) (hgd : X.A.guards = some []) (hr : Room (k + 1) X.A) (hb : Binds B.W.K fd [x0, x1] []) (hx : Passes (L2.CX X.prog X.w) X B.E) (h : O2 X B.W (compareOp .Eq) (eqP false)) (ha : PE X a (rdE B ma)) (hbb : PE X b (rdE B mb)) (hm : behindInMarks .Eq b = false) :
    PT X (.Compare a [.Eq] [b] pos) (rdT B (mEqO false c fn ma mb)) := by
  obtain ⟨r, ho, hp⟩ := h
  exact (pt_cmpR (opR_or (op_eqOwnL hK ec F hgd hr hb hx) ho) ha hbb hm).imp fun _ _ _ h => mEqO_rd hp h
theorem simt_neO (hK : X.K = B.W.K) (ec : EqC B.W c fa) (F : FnM X.prog X.w B.W X.mg X.base k fa fd [x0, x1] fn) (hgd : X.A.guards = some []) (hr : Room (k + 1) X.A) (hb : Binds B.W.K fd [x0, x1] []) (hx : Passes (L2.CX X.prog X.w) X B.E) (h : O2 X B.W (compareOp .NotEq) (eqP true)) (ha : PE X a (rdE B ma)) (hbb : PE X b (rdE B mb)) (hm : behindInMarks .NotEq b = false) :
    PT X (.Compare a [.NotEq] [b] pos) (rdT B (mEqO true c fn ma mb)) := by
  obtain ⟨r, ho, hp⟩ := h
  exact (pt_cmpR (opR_or (op_neOwnL hK ec F hgd hr hb hx) ho) ha hbb hm).imp fun _ _ _ h => mEqO_rd hp h
end
end Mi

/-! ## The mirror: len, str, repr, bool of instances by their own defs -/
namespace Mi
open PySem PySem.Spec PyProof.Rows L2 Lamp SlX Gd
def rOwn1 (W : Wd) (c : Nat) (fn : Fn) (okV : V → Prop) (E : XK) : List V → Hp → VK → Prop := fun xs H Q => ∃ x ρ fs, xs = [x] ∧ RepB W ρ H (.obj c fs) x ∧ fnSp W 1 fn [x] H (fun z H' => okV z ∧ Q z H') E
/-- a class's own special method -/
structure OwnM (W : Wd) (c : Nat) (nm : Str) (fa : Addr) : Prop where
  at_ : PySem.W.findIn W.K (.ref (W.cC c)) nm = some (some (.ref fa))
  fn : PySem.W.isFn W.K (.ref fa) = true
/-- sealed: the kernel shall not reckon 2^63 -/
noncomputable def okLen : D → Bool
  | .int i => @decide (0 ≤ i ∧ i < 2 ^ 63) (Classical.propDecidable _)
  | _ => false
def okStr : D → Bool
  | .str _ => true
  | _ => false
def okBl : D → Bool
  | .bl _ => true
  | _ => false
def vLen (v : V) : Prop := ∃ i : Int, v = .int i ∧ 0 ≤ i ∧ i < 2 ^ 63
def vStr (v : V) : Prop := ∃ y : Str, v = .str y
def vBl (v : V) : Prop := ∃ b : Bool, v = .bl b
section
variable {X : Cx} {W : Wd} {c k : Nat} {fa : Addr} {fd : FuncData} {fn : Fn} {E : XK} {x0 : Str}
theorem own1_run {okV : V → Prop} (hK : X.K = W.K) {A : Around} {Q : VK} {x : V} {a : Addr} (F : FnM X.prog X.w W X.mg X.base k fa fd [x0] fn) (hgd : A.guards = some []) (hr : Room k A) (hb : Binds W.K fd [x0] []) (hx : Passes (L2.CX X.prog X.w) X E)
    {pins : List (Addr × Obj)} {σ : L2.St} {H : Hp} {s : Shared} (I : Inv X pins σ H s) (e0 : Env0 X.prog X.w X.K X.mg X.base A X.stack s H) (q : fnSp W 1 fn [.ref a] H (fun z H' => okV z ∧ Q z H') E) :
    wpAny (model X.prog X.w) A (call (.ref fa) [.ref a]) (EP X pins σ (fun z H' => okV z ∧ Q z H')) X.xe s := by
  have F' : FnM X.prog X.w W X.mg X.base k fa fd [x0] fn := F
  unfold FnM at F'
  have ki := I.kIn
  rw [hK] at ki
  have bt := hb s [.ref a] ki rfl
  rw [← hK] at F'
  exact wpAny_call (runAt (A := A) F' hgd hr e0 bt hx I (show Vals [V.ref a] [Value.ref a] from .cons rfl .nil) q)
theorem call_lenL (hK : X.K = W.K) (o : OwnM W c "__len__" fa) (F : FnM X.prog X.w W X.mg X.base k fa fd [x0] fn) (hgd : X.A.guards = some []) (hr : Room (k + 1) X.A) (hb : Binds W.K fd [x0] []) (hx : Passes (L2.CX X.prog X.w) X E) : CallR X (.builtin "len") (rOwn1 W c fn vLen E) := by
  intro pins s σ H xs us Q I r h
  obtain ⟨x, ρ, fs, rfl, rb, q⟩ := h
  obtain ⟨u, rfl, ru⟩ := vals1 r
  obtain ⟨a, ox, od, rfl, J, _⟩ := obj_inst I rb
  obtain rfl : u = Value.ref a := ru
  have ki := I.kIn
  rw [hK] at ki
  refine len_call ki J o.at_ o.fn (wpAny_mono (own1_run (A := X.A.in1) (x := .ref a) hK F hgd hr.in1 hb hx I I.env0.in1 q) ?_ fun _ _ y => y)
  rintro v s' ⟨z, H', I', rz, ⟨i, ei, i0, i1⟩, qz⟩
  subst ei
  obtain ⟨t, e⟩ := (show ∃ t, v = Value.int i t from rz)
  exact ⟨i, t, e, i0, i1, .int i, H', I'.tok (s'.toks + 1), ⟨_, rfl⟩, qz⟩
theorem call_reprL (hK : X.K = W.K) (o : OwnM W c "__repr__" fa) (F : FnM X.prog X.w W X.mg X.base k fa fd [x0] fn) (hgd : X.A.guards = some []) (hr : Room (k + 1) X.A) (hb : Binds W.K fd [x0] []) (hx : Passes (L2.CX X.prog X.w) X E) : CallR X (.builtin "repr") (rOwn1 W c fn vStr E) := by
  intro pins s σ H xs us Q I r h
  obtain ⟨x, ρ, fs, rfl, rb, q⟩ := h
  obtain ⟨u, rfl, ru⟩ := vals1 r
  obtain ⟨a, ox, od, rfl, J, _⟩ := obj_inst I rb
  obtain rfl : u = Value.ref a := ru
  have ki := I.kIn
  rw [hK] at ki
  refine repr_call hr.in1.units0 ki J o.at_ o.fn (wpAny_mono (own1_run (A := X.A.in1) (x := .ref a) hK F hgd hr.in1 hb hx I I.env0.in1 q) ?_ fun _ _ y => y)
  rintro v s' ⟨z, H', I', rz, ⟨i, ei⟩, qz⟩
  subst ei
  obtain ⟨t, e⟩ := (show ∃ t, v = Value.str i t from rz)
  exact ⟨i, t, e, .str i, H', I', ⟨_, rfl⟩, qz⟩
theorem call_strL (hK : X.K = W.K) (o : OwnM W c "__str__" fa) (F : FnM X.prog X.w W X.mg X.base k fa fd [x0] fn) (hgd : X.A.guards = some []) (hr : Room (k + 2) X.A) (hb : Binds W.K fd [x0] []) (hx : Passes (L2.CX X.prog X.w) X E) : CallR X (.type "str") (rOwn1 W c fn vStr E) := by
  intro pins s σ H xs us Q I r h
  obtain ⟨x, ρ, fs, rfl, rb, q⟩ := h
  obtain ⟨u, rfl, ru⟩ := vals1 r
  obtain ⟨a, ox, od, rfl, J, _⟩ := obj_inst I rb
  obtain rfl : u = Value.ref a := ru
  have ki := I.kIn
  rw [hK] at ki
  have r1 : Room (k + 1) X.A.in1 := Room.in1 hr
  have r2 : Room k X.A.in1.in1 := Room.in1 r1
  refine PySem.W.kso_call r2.units0 ki J o.at_ o.fn (wpAny_mono (own1_run (A := X.A.in1.in1) (x := .ref a) hK F hgd r2 hb hx I I.env0.in1.in1 q) ?_ fun _ _ y => y)
  rintro v s' ⟨z, H', I', rz, ⟨i, ei⟩, qz⟩
  subst ei
  obtain ⟨t, e⟩ := (show ∃ t, v = Value.str i t from rz)
  exact strback e ⟨.str i, H', I', ⟨t, e⟩, qz⟩
theorem call_boolL (hK : X.K = W.K) (o : OwnM W c "__bool__" fa) (F : FnM X.prog X.w W X.mg X.base k fa fd [x0] fn) (hgd : X.A.guards = some []) (hr : Room (k + 2) X.A) (hb : Binds W.K fd [x0] []) (hx : Passes (L2.CX X.prog X.w) X E) : CallR X (.type "bool") (rOwn1 W c fn vBl E) := by
  intro pins s σ H xs us Q I r h
  obtain ⟨x, ρ, fs, rfl, rb, q⟩ := h
  obtain ⟨u, rfl, ru⟩ := vals1 r
  obtain ⟨a, ox, od, rfl, J, _⟩ := obj_inst I rb
  obtain rfl : u = Value.ref a := ru
  have ki := I.kIn
  rw [hK] at ki
  have r1 : Room (k + 1) X.A.in1 := Room.in1 hr
  have r2 : Room k X.A.in1.in1 := Room.in1 r1
  refine bool_call ki J o.at_ o.fn (wpAny_mono (own1_run (A := X.A.in1.in1) (x := .ref a) hK F hgd r2 hb hx I I.env0.in1.in1 q) ?_ fun _ _ y => y)
  rintro v s' ⟨z, H', I', rz, ⟨i, ei⟩, qz⟩
  subst ei
  exact ⟨i, rz, .bl i, H', I', rfl, qz⟩
end
/-- f(e): of an instance of class c by its own def, else of data -/
def chkO (ok : D → Bool) : Option ER → Option ER
  | some (.val (.sh d) p) => if ok d then some (.val (.sh d) p) else none
  | _ => none
def mOwn1 (ok : D → Bool) (c : Nat) (fn : Fn) (pr : List D → Option RV) (m : EM) : EM := bindE m fun r p => if isC c p r = true then chkO ok (callF fn p [r]) else if isFr r = true then none else opN pr p [r]
section
variable {X : Cx} {B : Bd} {c k : Nat} {fn : Fn} {e : Expr} {m : EM} {x : Str} {p pos : Pos} {id T : String} {pr : List D → Option RV} {ok : D → Bool} {okV : V → Prop}
theorem mOwn1_rd (lk : ∀ ρ H d v, ok d = true → Rep B.W ρ H d v → okV v) {r : List V → Hp → VK → Prop} (hp : PN B.W r pr) {σ : L2.St} {H : Hp} {Q : VK} (h : rdE B (mOwn1 ok c fn pr m) σ H Q) : rdE B m σ H fun v H1 => rOwn1 B.W c fn okV B.E [v] H1 Q ∨ r [v] H1 Q := by
  refine bind_rd h fun g p1 r1 v1 H1 R1 a1 h1 => ?_
  by_cases z : isC c p1 r1 = true
  · rw [if_pos z] at h1
    obtain ⟨⟨d1, e1, _⟩, fs, rb1⟩ := isC_rep R1 a1 z
    refine .inl ⟨v1, g.ρ, fs, rfl, rb1, ?_⟩
    have kk : Post B g σ H1 (fun z H' => okV z ∧ Q z H') (callF fn p1 [r1]) := by
      cases ec : callF fn p1 [r1] with
      | none => rw [ec] at h1; exact h1.elim
      | some w =>
        rw [ec] at h1
        cases w with
        | exc x st => exact h1.elim
        | val r p =>
          cases r with
          | sh d =>
            have h2 : Post B g σ H1 Q (if ok d then some (.val (.sh d) p) else none) := h1
            by_cases c : ok d = true
            · rw [if_pos c] at h2
              exact fun v H' ρ' R' q' f' a' => ⟨lk _ _ _ _ c a', h2 v H' ρ' R' q' f' a'⟩
            · rw [if_neg c] at h2
              exact h2.elim
          | fr d => exact h1.elim
          | pl i => exact h1.elim
    exact call_sp (n := 1) rfl R1 (.cons (fun d' z => by rw [e1] at z; cases z) a1 .nil) kk
  · rw [if_neg z] at h1
    by_cases f : isFr r1 = true
    · rw [if_pos f] at h1
      exact h1.elim
    · rw [if_neg f] at h1
      refine .inr (opN_ok hp R1 (.cons (fun d' z => f (by rw [z]; rfl)) a1 .nil) h1)
theorem callR_or {f : Value} {r r' : List V → Hp → VK → Prop} (h : CallR X f r) (h' : CallR X f r') : CallR X f (fun xs H Q => r xs H Q ∨ r' xs H Q) := by
  intro pins s σ H xs us Q I rx z
  rcases z with z | z
  · exact h pins s σ H xs us Q I rx z
  · exact h' pins s σ H xs us Q I rx z
theorem sim_own1B (lk : ∀ ρ H d v, ok d = true → Rep B.W ρ H d v → okV v) (ho : CallR X (.builtin id) (rOwn1 B.W c fn okV B.E)) (h : C1 X B.W (.builtin id) pr) (hm : X.mg x = none) (hg : Gl X x) (hv : bootBuiltins x = some (.builtin id)) (ha : PE X e (rdE B m)) (hn : x ≠ "__name__" := by decide) (hdb : (x == ("__debug__" : Str)) = false := by decide)
    (hs : starEach [e] X.env = (false, eval e X.env) :: starEach [] X.env := by rfl) : PE X (.Call (.Name x p) [e] [] pos) (rdE B (mOwn1 ok c fn pr m)) := by
  obtain ⟨r, hc, hp⟩ := h
  exact (pe_callB (callR_or ho hc) hg hm hv (pa_cons ha pa_nil hs) hn hdb hs rfl).imp fun σ H Q k => mOwn1_rd lk hp k
theorem sim_own1T (lk : ∀ ρ H d v, ok d = true → Rep B.W ρ H d v → okV v) (ho : CallR X (.type T) (rOwn1 B.W c fn okV B.E)) (h : C1 X B.W (.type T) pr) (hm : X.mg x = none) (hg : Gl X x) (hv : bootBuiltins x = some (.type T)) (ha : PE X e (rdE B m)) (hn : x ≠ "__name__" := by decide) (hdb : (x == ("__debug__" : Str)) = false := by decide)
    (hs : starEach [e] X.env = (false, eval e X.env) :: starEach [] X.env := by rfl) : PE X (.Call (.Name x p) [e] [] pos) (rdE B (mOwn1 ok c fn pr m)) := by
  obtain ⟨r, hc, hp⟩ := h
  exact (pe_callTy (callR_or ho hc) hg hm hv (pa_cons ha pa_nil hs) hn hdb hs rfl).imp fun σ H Q k => mOwn1_rd lk hp k
end
theorem lk_len {W : Wd} : ∀ (ρ : List Addr) (H : Hp) (d : D) (v : V), okLen d = true → Rep W ρ H d v → vLen v := fun ρ H d v h r => by
  cases d with
  | int i =>
    cases r
    have h' : 0 ≤ i ∧ i < 2 ^ 63 := @of_decide_eq_true _ (Classical.propDecidable _) h
    exact ⟨i, rfl, h'.1, h'.2⟩
  | _ => cases h
theorem lk_str {W : Wd} : ∀ (ρ : List Addr) (H : Hp) (d : D) (v : V), okStr d = true → Rep W ρ H d v → vStr v := fun ρ H d v h r => by
  cases d with
  | str i => cases r; exact ⟨i, rfl⟩
  | _ => cases h
theorem lk_bl {W : Wd} : ∀ (ρ : List Addr) (H : Hp) (d : D) (v : V), okBl d = true → Rep W ρ H d v → vBl v := fun ρ H d v h r => by
  cases d with
  | bl i => cases r; exact ⟨i, rfl⟩
  | _ => cases h
end Mi

/-! ## The mirror: min(d) of a dict's int keys -/
namespace Mi
open PySem PySem.Spec PyProof.Rows L2 Lamp SlX Gd
theorem call_minKI {X : Cx} (hc : X.calm = true) : CallR X (.builtin "min") (fun xs H Q => ∃ (a : Addr) (kvs : List (Key × V)) (is : List Int), xs = [.ref a] ∧ Rd H a (.dK kvs) ∧ kvs.map (·.1) = is.map Sum.inl ∧ is ≠ [] ∧ ∀ m, m ∈ is → (∀ j ∈ is, m ≤ j) → Q (.int m) H) := by
  intro pins s σ H xs us Q I r h
  obtain ⟨a, kvs, is, ex, hd, hv, hne, q⟩ := h
  subst ex
  obtain ⟨u, eu, rx⟩ := vals1 r
  subst eu
  cases rx
  obtain ⟨z, lo, vs, rel, dd⟩ := dk_rd I.hok hd
  obtain ⟨ep, dat⟩ := dd.dictAt
  obtain ⟨ob, es, ho, hex, hdat, hko, hpr, hnd⟩ := id dat
  have hlt : a < s.heap.objs.size := Heap.lt_size ho
  have hkeys : vs.map (·.1) = is.map Sum.inl := rel.keys.symm.trans hv
  have hlv : vs.length = is.length := by
    have e1 := congrArg List.length hkeys
    rw [List.length_map, List.length_map] at e1
    exact e1
  have hlen : 0 < vs.length := by
    rw [hlv]
    exact List.length_pos_iff.mpr hne
  have hval : ∀ (i : Nat) (v : Value), (∃ k x, vs[i]? = some (k, x) ∧ (mixKind X.prog X.w).is k v = true) → ∃ t, v = Value.int (is.getD i 0) t := fun i v ⟨k, x, hk, hkey⟩ => by
    have e1 : (vs.map (·.1))[i]? = some k := by rw [List.getElem?_map, hk] <;> rfl
    rw [hkeys, List.getElem?_map] at e1
    obtain ⟨j, hj, e2⟩ := Option.map_eq_some_iff.mp e1
    subst e2
    have hi : Value.isInt j v = true := hkey
    obtain ⟨t, e3⟩ := Value.isInt_shape (k := j) (v := v) hi
    refine ⟨t, ?_⟩
    rw [e3, List.getD_eq_getElem?_getD, hj] <;> rfl
  refine call_min_walk (wpAny_pyIter_dict (knd := mixKind X.prog X.w) lo dat ?_)
  refine ⟨_, _, _, _, _, _, _, rfl, Walks.dictKeys (knd := mixKind X.prog X.w) (A := X.A.in1) (I.ok.hd hc) s.heap.objs.size a (Nat.ne_of_lt hlt) vs ep,
    ⟨⟨_, Heap.get?_push_size _ rfl, rfl, rfl⟩, dat.keep fun b u e => Heap.get?_push_of_some _ e⟩, fun b hb => ?_, hlen, CmpOf.ints_lt (fun i => is.getD i 0) hval, fun v h' tk hP hk => ?_⟩
  · show b < (s.heap.push _).objs.size
    rw [Heap.size_push]
    rcases List.mem_cons.mp hb with e | hb
    · rw [e]
      exact Nat.lt_succ_self _
    · rw [List.mem_singleton.mp hb]
      exact Nat.lt_succ_of_lt hlt
  · obtain ⟨t, rfl⟩ := hval _ v hP
    obtain ⟨b1, b2⟩ := argBest_lt (fun i => is.getD i 0) (vs.length - 1)
    refine ⟨.int _, H, I.kept (t' := tk) fun b u e => hk b u (fun hmem => ?_) (Heap.get?_push_of_some _ e), ⟨t, rfl⟩, q _ ?_ fun j hj => ?_⟩
    · have e1 : b = s.heap.objs.size := List.mem_singleton.mp hmem
      have e2 := Heap.lt_size e
      rw [e1] at e2
      exact absurd e2 (Nat.lt_irrefl _)
    · have hb : argBest (fun i j => decide (is.getD i 0 < is.getD j 0)) (vs.length - 1) < is.length := by omega
      rw [List.getD_eq_getElem?_getD, List.getElem?_eq_getElem hb]
      exact List.getElem_mem hb
    · obtain ⟨i, hi, e⟩ := List.mem_iff_getElem.mp hj
      have e2 : is.getD i 0 = j := by rw [List.getD_eq_getElem?_getD, List.getElem?_eq_getElem hi, ← e] <;> rfl
      rw [← e2]
      exact b2 i (by omega)
def dMinK : List D → Option RV
  | [.dic kvs] => match intKeys kvs with
    | some ks => if 0 < ks.length then some (.sh (.int (minL ks))) else none
    | none => none
  | _ => none
def dMinA : List D → Option RV
  | [.dic kvs] => dMinK [.dic kvs]
  | ds => dMin ds
theorem dMinA_or (ds : List D) : dMinA ds = dMin ds ∨ dMinA ds = dMinK ds := by
  unfold dMinA
  split
  · exact .inr rfl
  · exact .inl rfl
section
variable {X : Cx} {W : Wd}
theorem k_minK (hc : X.calm = true) : C1 X W (.builtin "min") dMinK := ⟨_, call_minKI hc, fun ρ H ds vs Q a h => by
    unfold dMinK at h
    split at h
    · rename_i kvs
      obtain ⟨v, rfl, r⟩ := repBs1 a
      cases e : intKeys kvs with
      | none => rw [e] at h; exact h.elim
      | some ks =>
        rw [e] at h
        simp only at h
        split at h
        · rename_i c
          obtain ⟨p, kys, rfl, rd, rk⟩ := r.dicK (intKeys_all e)
          exact ⟨p, kys, ks, rfl, rd, intKeys_rep rk e, List.length_pos_iff.mp c, fun m h1 h2 => by rw [min_uniq h1 h2 (minL_spec c).1 (minL_spec c).2]; exact h.int⟩
        · exact h.elim
    · exact h.elim, fun ds => by unfold dMinK; split <;> first | trivial | (split <;> first | trivial | (split <;> trivial))⟩
theorem k_minA (hK : X.K = W.K) (hc : X.calm = true) : C1 X W (.builtin "min") dMinA := .mix (k_min hK hc) (k_minK hc) dMinA_or
end
end Mi

/-! ## The mirror: == of tables; of pairs of a table and a number -/
namespace Mi
open PySem PySem.Spec PyProof.Rows L2 Lamp SlX Gd
def tabEq (t u : List (Int × Int)) : Bool := t.length == u.length && t.all fun ab => match tget u ab.1 with
  | some v => ab.2 == v
  | none => false
theorem tabEq_self {t : List (Int × Int)} (n : (keysOf t).Nodup) : tabEq t t = true := by
  unfold tabEq
  rw [Bool.and_eq_true, beq_iff_eq, List.all_eq_true]
  refine ⟨rfl, fun ab m => ?_⟩
  obtain ⟨v, hv⟩ := tget_of_key (t := t) (k := ab.1) (List.mem_map.mpr ⟨_, m, rfl⟩)
  rw [hv]
  have h1 := lv_of_mem n m
  unfold lv at h1
  rw [hv] at h1
  have : v = ab.2 := h1
  rw [this]
  exact beq_self_eq_true _
theorem int_inj : ∀ {t u : List (Int × Int)}, dI t = dI u → t = u
  | [], [], _ => rfl
  | [], b :: u, h => by cases h
  | a :: t, [], h => by cases h
  | (a1, a2) :: t, (b1, b2) :: u, h => by
    have h' : (Sum.inl a1, V.int a2) :: dI t = (Sum.inl b1, V.int b2) :: dI u := h
    injection h' with h1 h2
    injection h1 with h3 h4
    injection h3 with h5
    injection h4 with h6
    rw [h5, h6, int_inj h2]
theorem rd_dK {H : Hp} {a : Addr} {x y : List (Key × V)} (h1 : Rd H a (.dK x)) (h2 : Rd H a (.dK y)) : x = y := by
  rcases h1 with h1 | ⟨o1, h1⟩ <;> rcases h2 with h2 | ⟨o2, h2⟩ <;> (rw [h1] at h2; cases h2) <;> rfl
theorem hits_tab {P : Program} {w : World} {A : Around} {s : Shared} {u : List (Int × Int)} {vb : List (Key × Value)} (rb : KV (dI u) vb) : ∀ {t : List (Int × Int)} {va : List (Key × Value)}, KV (dI t) va → PySem.W.KeqHitsP P w A s vb va (t.all fun ab => match tget u ab.1 with
  | some v => ab.2 == v
  | none => false)
  | [], va, ra => by
    unfold KV at ra
    cases ra
    exact .nil
  | ab :: t, va, ra => by
    have ra' : Paired _ ((Sum.inl ab.1, V.int ab.2) :: dI t) va := ra
    cases ra' with
    | @cons _ q _ qs h tl =>
      obtain ⟨h1, h2⟩ := h
      obtain ⟨key, v⟩ := q
      have h1' : (Sum.inl ab.1 : Key) = key := h1
      subst h1'
      have rr : RelO ((tget u ab.1).map V.int) (valueAt vb (Sum.inl ab.1)) := by
        rw [← dI_get]
        exact rb.val _
      rw [List.all_cons]
      cases e : tget u ab.1 with
      | none =>
        rw [e] at rr
        have z : valueAt vb (Sum.inl ab.1) = none := by
          cases e2 : valueAt vb (Sum.inl ab.1) with
          | none => rfl
          | some y => rw [e2] at rr; cases rr
        exact .miss z
      | some x =>
        rw [e] at rr
        obtain ⟨y, hy, ry⟩ := rr.some_of
        obtain ⟨tk, rfl⟩ : ∃ tk, v = Value.int ab.2 tk := h2
        obtain ⟨tk2, rfl⟩ : ∃ tk, y = Value.int x tk := ry
        exact .hit hy (SeqAt.EqAt.int_int _ _ _ _).eqP (hits_tab rb tl)
section
variable {X : Cx} {pins : List (Addr × Obj)} {σ : L2.St} {H : Hp} {s : Shared}
theorem dicts_run (I : Inv X pins σ H s) {A : Around} (hu : A.units < cLine) {a b : Addr} {t u : List (Int × Int)} (ha : Rd H a (.dK (dI t))) (hb : Rd H b (.dK (dI u))) (E Q : Value → Shared → Prop) (q : Q (.bool (tabEq t u)) s) :
    wpAny (model X.prog X.w) A (richCompare .Eq (.ref a) (.ref b)) Q E s := by
  obtain ⟨_, ya, va, ra, da⟩ := dk_rd I.hok ha
  obtain ⟨_, yb, vb, rb, db⟩ := dk_rd I.hok hb
  refine PySem.W.rcP_dicts (knd := mixKind X.prog X.w) ya yb da db hu (fun _ => hits_tab rb ra) E Q ?_
  have l1 : va.length = t.length := by rw [← ra.length]; simp [dI]
  have l2 : vb.length = u.length := by rw [← rb.length]; simp [dI]
  rw [l1, l2]
  exact q
def rEqT (K : PySem.W.Frag) : R2 := fun x y H Q => ∃ t u, ((∃ a b, x = .ref a ∧ y = .ref b ∧ Rd H a (.dK (dI t)) ∧ Rd H b (.dK (dI u)) ∧ Q (.bl (tabEq t u)) H) ∨
  ∃ a b a' b' i j, x = .ref a ∧ y = .ref b ∧ SqT K H a [.ref a', .int i] ∧ SqT K H b [.ref b', .int j] ∧ Rd H a' (.dK (dI t)) ∧ Rd H b' (.dK (dI u)) ∧ (keysOf t).Nodup ∧ Q (.bl (tabEq t u && i == j)) H)
theorem op_eqT (hu : X.A.units + 64 < cLine) : OpR X (compareOp .Eq) (rEqT X.K) := by
  intro pins s σ H x y v u Q I rx ry h
  obtain ⟨t, u', h⟩ := h
  rcases h with ⟨a, b, rfl, rfl, ha, hb, q⟩ | ⟨a, b, a', b', i, j, rfl, rfl, ha, hb, ha', hb', nd, q⟩
  · cases (show v = Value.ref a from rx)
    cases (show u = Value.ref b from ry)
    exact dicts_run I (A := X.A) (by omega) ha hb _ _ ⟨.bl _, H, I, rfl, q⟩
  · cases (show v = Value.ref a from rx)
    cases (show u = Value.ref b from ry)
    obtain ⟨us, r1, p1, _⟩ := I.tuple ha
    obtain ⟨ws, r2, p2, _⟩ := I.tuple hb
    obtain ⟨u1, u2, rfl, x1, x2⟩ : ∃ u1 u2, us = [u1, u2] ∧ RelV (.ref a') u1 ∧ RelV (.int i) u2 := by
      cases r1 with
      | cons x1 r1 =>
        cases r1 with
        | cons x2 r1 =>
          cases r1
          exact ⟨_, _, rfl, x1, x2⟩
    obtain ⟨w1, w2, rfl, y1, y2⟩ : ∃ u1 u2, ws = [u1, u2] ∧ RelV (.ref b') u1 ∧ RelV (.int j) u2 := by
      cases r2 with
      | cons x1 r1 =>
        cases r1 with
        | cons x2 r1 =>
          cases r1
          exact ⟨_, _, rfl, x1, x2⟩
    cases (show u1 = Value.ref a' from x1)
    cases (show w1 = Value.ref b' from y1)
    obtain ⟨t1, rfl⟩ : ∃ tk, u2 = Value.int i tk := x2
    obtain ⟨t2, rfl⟩ : ∃ tk, w2 = Value.int j tk := y2
    have first : SeqAt.EqIn X.prog X.w X.A.in1 s (Value.ref a') (Value.ref b') (tabEq t u') := by
      by_cases e : a' = b'
      · subst e
        have : t = u' := int_inj (rd_dK ha' hb')
        subst this
        rw [tabEq_self nd]
        exact (SeqAt.EqAt.same _).eqP
      · exact SeqAt.eqP_refs e fun E Q q => dicts_run I (A := X.A.in1) (by show X.A.units + 1 < cLine; omega) ha' hb' E Q q
    refine SeqAt.rcIn_tuples (e := fun k => if k = 0 then tabEq t u' else i == j) p1 p2 (by omega) (fun k h1 h2 => ?_) ?_
    · have : k = 0 ∨ k = 1 := by simp at h1; omega
      rcases this with rfl | rfl
      · exact first
      · exact (SeqAt.EqAt.int_int _ _ _ _).eqP
    · have e : ((List.range (min [Value.ref a', Value.int i t1].toArray.size [Value.ref b', Value.int j t2].toArray.size)).all (fun k => if k = 0 then tabEq t u' else i == j) && [Value.ref a', Value.int i t1].toArray.size == [Value.ref b', Value.int j t2].toArray.size) = (tabEq t u' && i == j) := by
        simp [List.range, List.range.loop]
      rw [e]
      exact ⟨.bl _, H, I, rfl, q⟩
end
/-- pairs of a table and a number; tables -/
noncomputable def eqT : D → D → Option RV
  | .dic ka, .dic kb => match asTab ka, asTab kb with
    | some t, some u => some (.sh (.bl (tabEq t u)))
    | _, _ => none
  | .tup [.dic ka, .int i], .tup [.dic kb, .int j] => match asTab ka, asTab kb with
    | some t, some u => @ite _ (keysOf t).Nodup (Classical.propDecidable _) (some (.sh (.bl (tabEq t u && i == j)))) none
    | _, _ => none
  | _, _ => none
noncomputable def eqA : D → D → Option RV
  | .dic ka, b => eqT (.dic ka) b
  | .tup [.dic ka, x], b => eqT (.tup [.dic ka, x]) b
  | a, b => eqP false a b
theorem eqA_or (a b : D) : eqA a b = eqP false a b ∨ eqA a b = eqT a b := by
  unfold eqA
  split
  · exact .inr rfl
  · exact .inr rfl
  · exact .inl rfl
@[simp] theorem eqA_int (i : Int) (b : D) : eqA (.int i) b = eqP false (.int i) b := rfl
@[simp] theorem eqA_str (i : Str) (b : D) : eqA (.str i) b = eqP false (.str i) b := rfl
@[simp] theorem eqA_bl (i : Bool) (b : D) : eqA (.bl i) b = eqP false (.bl i) b := rfl
@[simp] theorem eqA_non (b : D) : eqA .non b = eqP false .non b := rfl
@[simp] theorem eqA_nil (b : D) : eqA (.tup []) b = eqP false (.tup []) b := rfl
theorem eqT_np (a b : D) : noPl (eqT a b) := by
  unfold eqT
  split <;> (try trivial) <;> split <;> (try trivial) <;> split <;> trivial
section
variable {X : Cx} {W : Wd}
theorem c_eqT (hK : X.K = W.K) (hu : X.A.units + 64 < cLine) : O2 X W (compareOp .Eq) eqT := ⟨_, op_eqT hu, fun ρ H d1 d2 v1 v2 Q a1 a2 h => by
    unfold eqT at h
    split at h
    · split at h
      · rename_i t u e1 e2
        obtain ⟨a, kys, rfl, rd, rk⟩ := a1.dicK (asTab_keys e1)
        obtain ⟨b, kys', rfl, rd', rk'⟩ := a2.dicK (asTab_keys e2)
        have z1 := rk.tab e1
        have z2 := rk'.tab e2
        subst z1
        subst z2
        exact ⟨t, u, .inl ⟨a, b, rfl, rfl, rd, rd', h.bl⟩⟩
      · exact h.elim
    · split at h
      · rename_i t u e1 e2
        split at h
        · rename_i nd
          obtain ⟨a, xs, rfl, s1, r1⟩ := a1.tup
          obtain ⟨b, ys, rfl, s2, r2⟩ := a2.tup
          cases r1 with
          | cons q1 r1 =>
            cases r1 with
            | cons q2 r1 =>
              cases r1
              cases r2 with
              | cons q3 r2 =>
                cases r2 with
                | cons q4 r2 =>
                  cases r2
                  obtain ⟨a', kys, rfl, rd, rk⟩ := RepB.dicK (.inl q1) (asTab_keys e1)
                  obtain ⟨b', kys', rfl, rd', rk'⟩ := RepB.dicK (.inl q3) (asTab_keys e2)
                  have z1 := rk.tab e1
                  have z2 := rk'.tab e2
                  subst z1
                  subst z2
                  cases q2
                  cases q4
                  exact ⟨t, u, .inr ⟨a, b, a', b', _, _, rfl, rfl, by rw [hK]; exact s1, by rw [hK]; exact s2, rd, rd', nd, h.bl⟩⟩
        · exact h.elim
      · exact h.elim
    · exact h.elim, eqT_np⟩
theorem c_eqA (hK : X.K = W.K) (hu : X.A.units + 64 < cLine) : O2 X W (compareOp .Eq) eqA := .mix (c_eq hK hu) (c_eqT hK hu) eqA_or
end
end Mi

/-! ## The mirror: sorted of a list of pairs of ints -/
namespace Mi
open PySem PySem.Spec PyProof.Rows L2 Lamp SlX Gd
def asPrI : List D → Option (List (Int × Int))
  | [] => some []
  | .tup [.int i, .int j] :: r => (asPrI r).map ((i, j) :: ·)
  | _ => none
theorem asPrI_tab : ∀ t : List (Int × Int), asPrI (ofTab t) = some t
  | [] => rfl
  | ab :: r => by
    show (asPrI (ofTab r)).map ((ab.1, ab.2) :: ·) = _
    rw [asPrI_tab r]
    rfl
def kOf (H : Hp) : V → Int × Int
  | .ref t => match H t with
    | some (.tup [.int i, .int j]) => (i, j)
    | _ => (0, 0)
  | _ => (0, 0)
theorem prI_rep {W : Wd} {ρ : List Addr} {H : Hp} : ∀ {ds : List D} {xs : List V} {t : List (Int × Int)}, Reps W ρ H ds xs → asPrI ds = some t → xs.map (kOf H) = t ∧ ∀ x ∈ xs, ∃ b, x = V.ref b ∧ H b = some (.tup [.int (kOf H x).1, .int (kOf H x).2])
  | [], _, t, .nil, e => by
    cases e
    exact ⟨rfl, fun _ m => by cases m⟩
  | d :: ds, x :: xs, t, .cons r rs, e => by
    unfold asPrI at e
    split at e
    · rename_i h
      cases h
    · rename_i i j r' h
      cases h
      cases e2 : asPrI ds with
      | none => rw [e2] at e; cases e
      | some t' =>
        rw [e2] at e
        cases e
        obtain ⟨h1, h2⟩ := prI_rep rs e2
        cases r with
        | tup ht rr =>
          unfold TupAt at ht
          rw [if_pos (show flat [D.int i, D.int j] = true from rfl)] at ht
          cases rr with
          | cons q1 rr =>
            cases rr with
            | cons q2 rr =>
              cases rr
              cases q1
              cases q2
              have kx : ∀ b, H b = some (.tup [.int i, .int j]) → kOf H (.ref b) = (i, j) := fun b z => by
                unfold kOf
                simp only [z]
              refine ⟨by rw [List.map_cons, h1, kx _ ht], fun y m => ?_⟩
              rcases List.mem_cons.mp m with rfl | m
              · exact ⟨_, rfl, by rw [kx _ ht]; exact ht⟩
              · exact h2 y m
    · cases e
noncomputable def dSortedP : List D → Option RV
  | [.lst ds] => match asPrI ds with
    | some t => @ite _ (keysOf t).Nodup (Classical.propDecidable _) (some (.fr (.lst (ofTab (sortT t))))) none
    | none => none
  | _ => none
theorem paired_at {H : Hp} {k : V → Int × Int} : ∀ {ys : List V}, (∀ x ∈ ys, ∃ b, x = V.ref b ∧ H b = some (.tup [.int (k x).1, .int (k x).2])) → Paired (At2 H) ys (ys.map k)
  | [], _ => .nil
  | y :: ys, h => .cons (h y List.mem_cons_self) (paired_at fun x m => h x (List.mem_cons_of_mem _ m))
section
variable {X : Cx} {W : Wd}
theorem k_sortedP (hK : X.K = W.K) : C1 X W (.builtin "sorted") dSortedP := ⟨_, cr_sortedPO, fun ρ H ds vs Q a h => by
    unfold dSortedP at h
    split at h
    · obtain ⟨v, rfl, r⟩ := repBs1 a
      split at h
      · rename_i t e
        split at h
        · rename_i nd
          obtain ⟨p, xs, rfl, s, rs⟩ := r.lst
          obtain ⟨h1, h2⟩ := prI_rep rs e
          refine ⟨p, xs, kOf H, rfl, by rw [hK]; exact s, h2, fun ys q z1 z2 n => ?_⟩
          have pm : ys.Perm xs := z2.perm
          have pt : (ys.map (kOf H)).Perm t := by rw [← h1]; exact pm.map _
          have ndy : (keysOf (ys.map (kOf H))).Nodup := (pt.map _).nodup_iff.mpr nd
          have asc : (keysOf (ys.map (kOf H))).Pairwise (· < ·) := by
            unfold keysOf at ndy ⊢
            rw [List.map_map] at ndy ⊢
            rw [List.pairwise_map]
            rw [List.Nodup, List.pairwise_map] at ndy
            refine (z1.and ndy).imp fun {x y} ⟨a1, a2⟩ => ?_
            have a3 := SrtO.lexB_no.mp a1
            have a4 : ¬ (kOf H x).1 = (kOf H y).1 := a2
            show (kOf H x).1 < (kOf H y).1
            omega
          rw [← sortT_uniq nd pt asc] at h
          exact PPost.new h (pairs_rep (paired_at fun x m => h2 x (pm.mem_iff.mp m))) n
        · exact h.elim
      · exact h.elim
    · exact h.elim, fun ds => by unfold dSortedP; split <;> (try trivial) <;> split <;> (try trivial) <;> split <;> trivial⟩
end
end Mi

namespace Mi
open PySem PySem.Spec PyProof.Rows L2 Lamp SlX Gd
def topS (i : Nat) : Stmt := PySem.Challenge.pw_lamprounds_k21_whole_rounds_that_commute.main.body.getD i (.Pass ⟨0, 0, 0, 0⟩)
abbrev s_InvalidText_init : Stmt := (inClass (topS 2) 0)
abbrev s_InvalidLevels_init : Stmt := (inClass (topS 3) 0)
abbrev s_InvalidNumber_init : Stmt := (inClass (topS 4) 0)
abbrev s_NotRound_init : Stmt := (inClass (topS 5) 0)
abbrev s_InvalidLamps_init : Stmt := (inClass (topS 6) 0)
abbrev s_OtherLevels_init : Stmt := (inClass (topS 8) 0)
abbrev s_is_integer : Stmt := (topS 13)
abbrev s_written_integer : Stmt := (topS 14)
abbrev s_bent_lamp : Stmt := (topS 16)
abbrev s_wrong_lamp : Stmt := (topS 17)
abbrev s_are_levels : Stmt := (topS 18)
abbrev s_added : Stmt := (topS 19)
abbrev s_Round_init : Stmt := (inClass (topS 21) 1)
abbrev s_Round_read : Stmt := (inClass (topS 21) 2)
abbrev s_Round_levels : Stmt := (inClass (topS 21) 3)
abbrev s_Round_lamps : Stmt := (inClass (topS 21) 4)
abbrev s_Round_end : Stmt := (inClass (topS 21) 5)
abbrev s_Round_text : Stmt := (inClass (topS 21) 6)
abbrev s_Round_len : Stmt := (inClass (topS 21) 7)
abbrev s_Round_bool : Stmt := (inClass (topS 21) 8)
abbrev s_Round_eq : Stmt := (inClass (topS 21) 9)
abbrev s_Round_str : Stmt := (inClass (topS 21) 10)
abbrev s_Round_repr : Stmt := (inClass (topS 21) 11)
abbrev s_table : Stmt := (topS 22)
abbrev s_text_lamp : Stmt := (topS 23)
abbrev s_text_round : Stmt := (topS 24)
abbrev s_check_levels : Stmt := (topS 25)
abbrev s_check_number : Stmt := (topS 26)
abbrev s_check_round : Stmt := (topS 27)
abbrev s_check_pair : Stmt := (topS 28)
abbrev s_commute : Stmt := (topS 30)
abbrev s_law_well : Stmt := (topS 32)
abbrev s_law_draw : Stmt := (topS 33)
abbrev s_law_pick : Stmt := (topS 34)
abbrev s_law_great : Stmt := (topS 35)
abbrev s_law_added : Stmt := (topS 36)
abbrev s_law_lamps : Stmt := (topS 37)
abbrev s_law_behind : Stmt := (topS 38)
abbrev s_law_back : Stmt := (topS 39)
abbrev s_law_times : Stmt := (topS 40)
abbrev s_law_text : Stmt := (topS 41)
abbrev s_law_drawn : Stmt := (topS 42)
abbrev s_law_pair : Stmt := (topS 43)
abbrev s_law_right : Stmt := (topS 44)
abbrev s_law : Stmt := (topS 45)
theorem sc_InvalidText_init : FnScope ["self", "given"] ["self", "given"] (defScope s_InvalidText_init) := ⟨rfl, rfl, rfl, by decide +kernel, rfl, by decide +kernel, by decide +kernel⟩
theorem sc_InvalidLevels_init : FnScope ["self", "given"] ["self", "given"] (defScope s_InvalidLevels_init) := ⟨rfl, rfl, rfl, by decide +kernel, rfl, by decide +kernel, by decide +kernel⟩
theorem sc_InvalidNumber_init : FnScope ["self", "given"] ["self", "given"] (defScope s_InvalidNumber_init) := ⟨rfl, rfl, rfl, by decide +kernel, rfl, by decide +kernel, by decide +kernel⟩
theorem sc_NotRound_init : FnScope ["self", "given"] ["self", "given"] (defScope s_NotRound_init) := ⟨rfl, rfl, rfl, by decide +kernel, rfl, by decide +kernel, by decide +kernel⟩
theorem sc_InvalidLamps_init : FnScope ["self", "index"] ["self", "index"] (defScope s_InvalidLamps_init) := ⟨rfl, rfl, rfl, by decide +kernel, rfl, by decide +kernel, by decide +kernel⟩
theorem sc_OtherLevels_init : FnScope ["self", "given"] ["self", "given"] (defScope s_OtherLevels_init) := ⟨rfl, rfl, rfl, by decide +kernel, rfl, by decide +kernel, by decide +kernel⟩
theorem sc_is_integer : FnScope ["value"] ["value"] (defScope s_is_integer) := ⟨rfl, rfl, rfl, by decide +kernel, rfl, by decide +kernel, by decide +kernel⟩
theorem sc_written_integer : FnScope ["word", "digits", "sign"] ["word"] (defScope s_written_integer) := ⟨rfl, rfl, rfl, by decide +kernel, rfl, by decide +kernel, by decide +kernel⟩
theorem sc_bent_lamp : FnScope ["levels", "value", "at", "lamp"] ["levels", "value"] (defScope s_bent_lamp) := ⟨rfl, rfl, rfl, by decide +kernel, rfl, by decide +kernel, by decide +kernel⟩
theorem sc_wrong_lamp : FnScope ["levels", "value", "at"] ["levels", "value"] (defScope s_wrong_lamp) := ⟨rfl, rfl, rfl, by decide +kernel, rfl, by decide +kernel, by decide +kernel⟩
theorem sc_are_levels : FnScope ["value"] ["value"] (defScope s_are_levels) := ⟨rfl, rfl, rfl, by decide +kernel, rfl, by decide +kernel, by decide +kernel⟩
theorem sc_added : FnScope ["levels", "one", "other", "move", "by", "found", "place", "level", "sum_here"] ["levels", "one", "other", "move", "by"] (defScope s_added) := ⟨rfl, rfl, rfl, by decide +kernel, rfl, by decide +kernel, by decide +kernel⟩
theorem sc_Round_init : FnScope ["self", "levels", "lamps", "end", "at"] ["self", "levels", "lamps", "end"] (defScope s_Round_init) := ⟨rfl, rfl, rfl, by decide +kernel, rfl, by decide +kernel, by decide +kernel⟩
theorem sc_Round_read : FnScope ["cls", "text", "found"] ["cls", "text"] (defScope s_Round_read) := ⟨rfl, rfl, rfl, by decide +kernel, rfl, by decide +kernel, by decide +kernel⟩
theorem sc_Round_levels : FnScope ["self"] ["self"] (defScope s_Round_levels) := ⟨rfl, rfl, rfl, by decide +kernel, rfl, by decide +kernel, by decide +kernel⟩
theorem sc_Round_lamps : FnScope ["self"] ["self"] (defScope s_Round_lamps) := ⟨rfl, rfl, rfl, by decide +kernel, rfl, by decide +kernel, by decide +kernel⟩
theorem sc_Round_end : FnScope ["self"] ["self"] (defScope s_Round_end) := ⟨rfl, rfl, rfl, by decide +kernel, rfl, by decide +kernel, by decide +kernel⟩
theorem sc_Round_text : FnScope ["self"] ["self"] (defScope s_Round_text) := ⟨rfl, rfl, rfl, by decide +kernel, rfl, by decide +kernel, by decide +kernel⟩
theorem sc_Round_len : FnScope ["self"] ["self"] (defScope s_Round_len) := ⟨rfl, rfl, rfl, by decide +kernel, rfl, by decide +kernel, by decide +kernel⟩
theorem sc_Round_bool : FnScope ["self"] ["self"] (defScope s_Round_bool) := ⟨rfl, rfl, rfl, by decide +kernel, rfl, by decide +kernel, by decide +kernel⟩
theorem sc_Round_eq : FnScope ["self", "other", "mine"] ["self", "other"] (defScope s_Round_eq) := ⟨rfl, rfl, rfl, by decide +kernel, rfl, by decide +kernel, by decide +kernel⟩
theorem sc_Round_str : FnScope ["self", "words", "place", "level"] ["self"] (defScope s_Round_str) := ⟨rfl, rfl, rfl, by decide +kernel, rfl, by decide +kernel, by decide +kernel⟩
theorem sc_Round_repr : FnScope ["self"] ["self"] (defScope s_Round_repr) := ⟨rfl, rfl, rfl, by decide +kernel, rfl, by decide +kernel, by decide +kernel⟩
theorem sc_table : FnScope ["trip"] ["trip"] (defScope s_table) := ⟨rfl, rfl, rfl, by decide +kernel, rfl, by decide +kernel, by decide +kernel⟩
theorem sc_text_lamp : FnScope ["word", "parts", "part"] ["word"] (defScope s_text_lamp) := ⟨rfl, rfl, rfl, by decide +kernel, rfl, by decide +kernel, by decide +kernel⟩
theorem sc_text_round : FnScope ["value", "words", "levels", "end", "lamps", "word"] ["value"] (defScope s_text_round) := ⟨rfl, rfl, rfl, by decide +kernel, rfl, by decide +kernel, by decide +kernel⟩
theorem sc_check_levels : FnScope ["value"] ["value"] (defScope s_check_levels) := ⟨rfl, rfl, rfl, by decide +kernel, rfl, by decide +kernel, by decide +kernel⟩
theorem sc_check_number : FnScope ["value"] ["value"] (defScope s_check_number) := ⟨rfl, rfl, rfl, by decide +kernel, rfl, by decide +kernel, by decide +kernel⟩
theorem sc_check_round : FnScope ["value"] ["value"] (defScope s_check_round) := ⟨rfl, rfl, rfl, by decide +kernel, rfl, by decide +kernel, by decide +kernel⟩
theorem sc_check_pair : FnScope ["one", "other"] ["one", "other"] (defScope s_check_pair) := ⟨rfl, rfl, rfl, by decide +kernel, rfl, by decide +kernel, by decide +kernel⟩
theorem sc_commute : FnScope ["trip", "second", "one", "other", "here"] ["trip", "second"] (defScope s_commute) := ⟨rfl, rfl, rfl, by decide +kernel, rfl, by decide +kernel, by decide +kernel⟩
theorem sc_law_well : FnScope ["_law_script", "_law_spot", "_law_state", "_law_cell", "_law_own"] ["_law_script", "_law_spot"] (defScope s_law_well) := ⟨rfl, rfl, rfl, by decide +kernel, rfl, by decide +kernel, by decide +kernel⟩
theorem sc_law_draw : FnScope ["_law_well_here", "_law_many", "_law_digit", "_law_seed"] ["_law_well_here", "_law_many"] (defScope s_law_draw) := ⟨rfl, rfl, rfl, by decide +kernel, rfl, by decide +kernel, by decide +kernel⟩
theorem sc_law_pick : FnScope ["_law_well_here", "_law_choices"] ["_law_well_here", "_law_choices"] (defScope s_law_pick) := ⟨rfl, rfl, rfl, by decide +kernel, rfl, by decide +kernel, by decide +kernel⟩
theorem sc_law_great : FnScope ["_law_well_here", "_law_found", "_law_turn"] ["_law_well_here"] (defScope s_law_great) := ⟨rfl, rfl, rfl, by decide +kernel, rfl, by decide +kernel, by decide +kernel⟩
theorem sc_law_added : FnScope ["_law_levels", "_law_one_here", "_law_other", "_law_move", "_law_by", "_law_found", "_law_place_here", "_law_level"] ["_law_levels", "_law_one_here", "_law_other", "_law_move", "_law_by"] (defScope s_law_added) := ⟨rfl, rfl, rfl, by decide +kernel, rfl, by decide +kernel, by decide +kernel⟩
theorem sc_law_lamps : FnScope ["_law_found", "_law_place_here"] ["_law_found"] (defScope s_law_lamps) := ⟨rfl, rfl, rfl, by decide +kernel, rfl, by decide +kernel, by decide +kernel⟩
theorem sc_law_behind : FnScope ["_law_levels", "_law_one_here", "_law_two"] ["_law_levels", "_law_one_here", "_law_two"] (defScope s_law_behind) := ⟨rfl, rfl, rfl, by decide +kernel, rfl, by decide +kernel, by decide +kernel⟩
theorem sc_law_back : FnScope ["_law_levels", "_law_one_here"] ["_law_levels", "_law_one_here"] (defScope s_law_back) := ⟨rfl, rfl, rfl, by decide +kernel, rfl, by decide +kernel, by decide +kernel⟩
theorem sc_law_times : FnScope ["_law_levels", "_law_one_here", "_law_many", "_law_found", "_law_turn"] ["_law_levels", "_law_one_here", "_law_many"] (defScope s_law_times) := ⟨rfl, rfl, rfl, by decide +kernel, rfl, by decide +kernel, by decide +kernel⟩
theorem sc_law_text : FnScope ["_law_levels", "_law_one_here", "_law_head", "_law_lamps_here", "_law_place_here", "_law_level"] ["_law_levels", "_law_one_here"] (defScope s_law_text) := ⟨rfl, rfl, rfl, by decide +kernel, rfl, by decide +kernel, by decide +kernel⟩
theorem sc_law_drawn : FnScope ["_law_well_here", "_law_levels", "_law_wide", "_law_ends", "_law_most", "_law_found", "_law_k"] ["_law_well_here", "_law_levels", "_law_wide", "_law_ends", "_law_most"] (defScope s_law_drawn) := ⟨rfl, rfl, rfl, by decide +kernel, rfl, by decide +kernel, by decide +kernel⟩
theorem sc_law_pair : FnScope ["_law_well_here", "_law_levels", "_law_one_here", "_law_two", "_law_way", "_law_far"] ["_law_well_here", "_law_levels"] (defScope s_law_pair) := ⟨rfl, rfl, rfl, by decide +kernel, rfl, by decide +kernel, by decide +kernel⟩
theorem sc_law_right : FnScope ["_law_well_here", "_law_turn", "_law_levels", "_law_one_here", "_law_two", "_law_due", "_law_mine", "_law_mate"] ["_law_well_here"] (defScope s_law_right) := ⟨rfl, rfl, rfl, by decide +kernel, rfl, by decide +kernel, by decide +kernel⟩
theorem sc_law : FnScope ["_law_script", "_law_spot"] ["_law_script"] (defScope s_law) := ⟨rfl, rfl, rfl, by decide +kernel, rfl, by decide +kernel, by decide +kernel⟩
structure Tx (K : PySem.W.Frag) (mg : Str → Option Value) where
  C_Round : Addr
  g_Round : mg "Round" = some (.ref C_Round)
  si_Round : SlX.SIsi K C_Round
  pg_Round : PySem.W.plainGet K C_Round Str.empty = true
  ic_Round : PySem.W.isClsIn K C_Round = true
  sc_Round : SlX.SCls K C_Round
  p_Round_own_end : Addr
  sl_Round_own_end : SlX.Slot1 K C_Round "own_end" p_Round_own_end 0
  p_Round_own_lamps : Addr
  sl_Round_own_lamps : SlX.Slot1 K C_Round "own_lamps" p_Round_own_lamps 1
  p_Round_own_levels : Addr
  sl_Round_own_levels : SlX.Slot1 K C_Round "own_levels" p_Round_own_levels 2
  ne_Round : PySem.W.findIn K (.ref C_Round) "__ne__" = some (some (.builtin "object.__ne__"))
  ob_Round : PySem.W.mroIn K C_Round (.type "object") = some true
  cr_Round : ClX.CRead K C_Round (.type "type")
  ki_Round_int : PySem.W.kitOne K (.ref C_Round) (.type "int") = some false
  ki_Round_tuple : PySem.W.kitOne K (.ref C_Round) (.type "tuple") = some false
  ki_Round_str : PySem.W.kitOne K (.ref C_Round) (.type "str") = some false
  ki_Round_bool : PySem.W.kitOne K (.ref C_Round) (.type "bool") = some false
  kb_Round : ∀ a ∈ ["NoneType", "bool", "int", "str", "tuple", "list", "dict"], PySem.W.kitOne K (.type a) (.ref C_Round) = some false
  ki_Round_Round : PySem.W.kitOne K (.ref C_Round) (.ref C_Round) = some true
  a_is_integer : Addr
  d_is_integer : FuncData
  F_is_integer : Fun K "is_integer" "is_integer" s_is_integer a_is_integer d_is_integer
  b_is_integer : Binds K d_is_integer ["value"] []
  g_is_integer : mg "is_integer" = some (.ref a_is_integer)
  a_written_integer : Addr
  d_written_integer : FuncData
  F_written_integer : Fun K "written_integer" "written_integer" s_written_integer a_written_integer d_written_integer
  b_written_integer : Binds K d_written_integer ["word"] []
  g_written_integer : mg "written_integer" = some (.ref a_written_integer)
  a_bent_lamp : Addr
  d_bent_lamp : FuncData
  F_bent_lamp : Fun K "bent_lamp" "bent_lamp" s_bent_lamp a_bent_lamp d_bent_lamp
  b_bent_lamp : Binds K d_bent_lamp ["levels", "value"] []
  g_bent_lamp : mg "bent_lamp" = some (.ref a_bent_lamp)
  a_wrong_lamp : Addr
  d_wrong_lamp : FuncData
  F_wrong_lamp : Fun K "wrong_lamp" "wrong_lamp" s_wrong_lamp a_wrong_lamp d_wrong_lamp
  b_wrong_lamp : Binds K d_wrong_lamp ["levels", "value"] []
  g_wrong_lamp : mg "wrong_lamp" = some (.ref a_wrong_lamp)
  a_are_levels : Addr
  d_are_levels : FuncData
  F_are_levels : Fun K "are_levels" "are_levels" s_are_levels a_are_levels d_are_levels
  b_are_levels : Binds K d_are_levels ["value"] []
  g_are_levels : mg "are_levels" = some (.ref a_are_levels)
  a_added : Addr
  d_added : FuncData
  F_added : Fun K "added" "added" s_added a_added d_added
  b_added : Binds K d_added ["levels", "one", "other", "move", "by"] []
  g_added : mg "added" = some (.ref a_added)
  a_Round_init : Addr
  d_Round_init : FuncData
  F_Round_init : Fun K "__init__" "Round.__init__" s_Round_init a_Round_init d_Round_init
  b_Round_init : Binds K d_Round_init ["self", "levels", "lamps", "end"] []
  mk_Round : Mk K C_Round a_Round_init
  p_Round_read : Addr
  a_Round_read : Addr
  d_Round_read : FuncData
  F_Round_read : Fun K "read" "Round.read" s_Round_read a_Round_read d_Round_read
  b_Round_read : Binds K d_Round_read ["cls", "text"] []
  cm_Round_read : ClX.CMet K C_Round (.type "type") "read" p_Round_read a_Round_read
  p_Round_levels : Addr
  a_Round_levels : Addr
  d_Round_levels : FuncData
  F_Round_levels : Fun K "levels" "Round.levels" s_Round_levels a_Round_levels d_Round_levels
  b_Round_levels : Binds K d_Round_levels ["self"] []
  pf_Round_levels : PropOf K C_Round "levels" p_Round_levels a_Round_levels
  p_Round_lamps : Addr
  a_Round_lamps : Addr
  d_Round_lamps : FuncData
  F_Round_lamps : Fun K "lamps" "Round.lamps" s_Round_lamps a_Round_lamps d_Round_lamps
  b_Round_lamps : Binds K d_Round_lamps ["self"] []
  pf_Round_lamps : PropOf K C_Round "lamps" p_Round_lamps a_Round_lamps
  p_Round_end : Addr
  a_Round_end : Addr
  d_Round_end : FuncData
  F_Round_end : Fun K "end" "Round.end" s_Round_end a_Round_end d_Round_end
  b_Round_end : Binds K d_Round_end ["self"] []
  pf_Round_end : PropOf K C_Round "end" p_Round_end a_Round_end
  p_Round_text : Addr
  a_Round_text : Addr
  d_Round_text : FuncData
  F_Round_text : Fun K "text" "Round.text" s_Round_text a_Round_text d_Round_text
  b_Round_text : Binds K d_Round_text ["self"] []
  pf_Round_text : PropOf K C_Round "text" p_Round_text a_Round_text
  a_Round_len : Addr
  d_Round_len : FuncData
  F_Round_len : Fun K "__len__" "Round.__len__" s_Round_len a_Round_len d_Round_len
  b_Round_len : Binds K d_Round_len ["self"] []
  mt_Round_len : Meth K C_Round "__len__" a_Round_len
  a_Round_bool : Addr
  d_Round_bool : FuncData
  F_Round_bool : Fun K "__bool__" "Round.__bool__" s_Round_bool a_Round_bool d_Round_bool
  b_Round_bool : Binds K d_Round_bool ["self"] []
  mt_Round_bool : Meth K C_Round "__bool__" a_Round_bool
  a_Round_eq : Addr
  d_Round_eq : FuncData
  F_Round_eq : Fun K "__eq__" "Round.__eq__" s_Round_eq a_Round_eq d_Round_eq
  b_Round_eq : Binds K d_Round_eq ["self", "other"] []
  mt_Round_eq : Meth K C_Round "__eq__" a_Round_eq
  a_Round_str : Addr
  d_Round_str : FuncData
  F_Round_str : Fun K "__str__" "Round.__str__" s_Round_str a_Round_str d_Round_str
  b_Round_str : Binds K d_Round_str ["self"] []
  mt_Round_str : Meth K C_Round "__str__" a_Round_str
  a_Round_repr : Addr
  d_Round_repr : FuncData
  F_Round_repr : Fun K "__repr__" "Round.__repr__" s_Round_repr a_Round_repr d_Round_repr
  b_Round_repr : Binds K d_Round_repr ["self"] []
  mt_Round_repr : Meth K C_Round "__repr__" a_Round_repr
  a_table : Addr
  d_table : FuncData
  F_table : Fun K "table" "table" s_table a_table d_table
  b_table : Binds K d_table ["trip"] []
  g_table : mg "table" = some (.ref a_table)
  a_text_lamp : Addr
  d_text_lamp : FuncData
  F_text_lamp : Fun K "text_lamp" "text_lamp" s_text_lamp a_text_lamp d_text_lamp
  b_text_lamp : Binds K d_text_lamp ["word"] []
  g_text_lamp : mg "text_lamp" = some (.ref a_text_lamp)
  a_text_round : Addr
  d_text_round : FuncData
  F_text_round : Fun K "text_round" "text_round" s_text_round a_text_round d_text_round
  b_text_round : Binds K d_text_round ["value"] []
  g_text_round : mg "text_round" = some (.ref a_text_round)
  a_check_levels : Addr
  d_check_levels : FuncData
  F_check_levels : Fun K "check_levels" "check_levels" s_check_levels a_check_levels d_check_levels
  b_check_levels : Binds K d_check_levels ["value"] []
  g_check_levels : mg "check_levels" = some (.ref a_check_levels)
  a_check_number : Addr
  d_check_number : FuncData
  F_check_number : Fun K "check_number" "check_number" s_check_number a_check_number d_check_number
  b_check_number : Binds K d_check_number ["value"] []
  g_check_number : mg "check_number" = some (.ref a_check_number)
  a_check_round : Addr
  d_check_round : FuncData
  F_check_round : Fun K "check_round" "check_round" s_check_round a_check_round d_check_round
  b_check_round : Binds K d_check_round ["value"] []
  g_check_round : mg "check_round" = some (.ref a_check_round)
  a_check_pair : Addr
  d_check_pair : FuncData
  F_check_pair : Fun K "check_pair" "check_pair" s_check_pair a_check_pair d_check_pair
  b_check_pair : Binds K d_check_pair ["one", "other"] []
  g_check_pair : mg "check_pair" = some (.ref a_check_pair)
  a_commute : Addr
  d_commute : FuncData
  F_commute : Fun K "commute" "commute" s_commute a_commute d_commute
  b_commute : Binds K d_commute ["trip", "second"] []
  kb_commute_second_trip : Mi.KB K d_commute ["trip", "second"] 0 ["second", "trip"] [1, 0]
  g_commute : mg "commute" = some (.ref a_commute)
  a_law_well : Addr
  d_law_well : FuncData
  F_law_well : Fun K "_law_well" "_law_well" s_law_well a_law_well d_law_well
  b_law_well : Binds K d_law_well ["_law_script", "_law_spot"] []
  g_law_well : mg "_law_well" = some (.ref a_law_well)
  a_law_draw : Addr
  d_law_draw : FuncData
  F_law_draw : Fun K "_law_draw" "_law_draw" s_law_draw a_law_draw d_law_draw
  b_law_draw : Binds K d_law_draw ["_law_well_here", "_law_many"] []
  g_law_draw : mg "_law_draw" = some (.ref a_law_draw)
  a_law_pick : Addr
  d_law_pick : FuncData
  F_law_pick : Fun K "_law_pick" "_law_pick" s_law_pick a_law_pick d_law_pick
  b_law_pick : Binds K d_law_pick ["_law_well_here", "_law_choices"] []
  g_law_pick : mg "_law_pick" = some (.ref a_law_pick)
  a_law_great : Addr
  d_law_great : FuncData
  F_law_great : Fun K "_law_great" "_law_great" s_law_great a_law_great d_law_great
  b_law_great : Binds K d_law_great ["_law_well_here"] []
  g_law_great : mg "_law_great" = some (.ref a_law_great)
  a_law_added : Addr
  d_law_added : FuncData
  F_law_added : Fun K "_law_added" "_law_added" s_law_added a_law_added d_law_added
  b_law_added : Binds K d_law_added ["_law_levels", "_law_one_here", "_law_other", "_law_move", "_law_by"] []
  g_law_added : mg "_law_added" = some (.ref a_law_added)
  a_law_lamps : Addr
  d_law_lamps : FuncData
  F_law_lamps : Fun K "_law_lamps" "_law_lamps" s_law_lamps a_law_lamps d_law_lamps
  b_law_lamps : Binds K d_law_lamps ["_law_found"] []
  g_law_lamps : mg "_law_lamps" = some (.ref a_law_lamps)
  a_law_behind : Addr
  d_law_behind : FuncData
  F_law_behind : Fun K "_law_behind" "_law_behind" s_law_behind a_law_behind d_law_behind
  b_law_behind : Binds K d_law_behind ["_law_levels", "_law_one_here", "_law_two"] []
  g_law_behind : mg "_law_behind" = some (.ref a_law_behind)
  a_law_back : Addr
  d_law_back : FuncData
  F_law_back : Fun K "_law_back" "_law_back" s_law_back a_law_back d_law_back
  b_law_back : Binds K d_law_back ["_law_levels", "_law_one_here"] []
  g_law_back : mg "_law_back" = some (.ref a_law_back)
  a_law_times : Addr
  d_law_times : FuncData
  F_law_times : Fun K "_law_times" "_law_times" s_law_times a_law_times d_law_times
  b_law_times : Binds K d_law_times ["_law_levels", "_law_one_here", "_law_many"] []
  g_law_times : mg "_law_times" = some (.ref a_law_times)
  a_law_text : Addr
  d_law_text : FuncData
  F_law_text : Fun K "_law_text" "_law_text" s_law_text a_law_text d_law_text
  b_law_text : Binds K d_law_text ["_law_levels", "_law_one_here"] []
  g_law_text : mg "_law_text" = some (.ref a_law_text)
  a_law_drawn : Addr
  d_law_drawn : FuncData
  F_law_drawn : Fun K "_law_drawn" "_law_drawn" s_law_drawn a_law_drawn d_law_drawn
  b_law_drawn : Binds K d_law_drawn ["_law_well_here", "_law_levels", "_law_wide", "_law_ends", "_law_most"] []
  g_law_drawn : mg "_law_drawn" = some (.ref a_law_drawn)
  a_law_pair : Addr
  d_law_pair : FuncData
  F_law_pair : Fun K "_law_pair" "_law_pair" s_law_pair a_law_pair d_law_pair
  b_law_pair : Binds K d_law_pair ["_law_well_here", "_law_levels"] []
  g_law_pair : mg "_law_pair" = some (.ref a_law_pair)
  a_law_right : Addr
  d_law_right : FuncData
  F_law_right : Fun K "_law_right" "_law_right" s_law_right a_law_right d_law_right
  b_law_right : Binds K d_law_right ["_law_well_here"] []
  g_law_right : mg "_law_right" = some (.ref a_law_right)
  a_law : Addr
  d_law : FuncData
  F_law : Fun K "law" "law" s_law a_law d_law
  b_law : Binds K d_law ["_law_script"] []
  bt_law : ∀ (s : Shared) (v : Value), BindsTo s d_law ⟨[v], []⟩ [("_law_script", v)]
  g_law : mg "law" = some (.ref a_law)
  n_abs : mg "abs" = none
  n_all : mg "all" = none
  n_bool : mg "bool" = none
  n_dict : mg "dict" = none
  n_divmod : mg "divmod" = none
  n_enumerate : mg "enumerate" = none
  n_int : mg "int" = none
  n_isinstance : mg "isinstance" = none
  n_len : mg "len" = none
  n_list : mg "list" = none
  n_max : mg "max" = none
  n_min : mg "min" = none
  n_range : mg "range" = none
  n_repr : mg "repr" = none
  n_sorted : mg "sorted" = none
  n_str : mg "str" = none
  n_tuple : mg "tuple" = none
  x_LEVELS : Addr
  g_LEVELS : mg "LEVELS" = some (.ref x_LEVELS)
  w_LEVELS : ∀ H : Hp, SqT K H x_LEVELS [.int 2, .int 3, .int 5, .int 7]
  g_MOST_LAMPS : ∃ t, mg "MOST_LAMPS" = some (.int 400 t)
  g_DIGITS : ∃ t, mg "DIGITS" = some (.str "0123456789" t)
theorem mkTx {K : PySem.W.Frag} {h : Heap} {mg : Str → Option Value} {fa : Addr} (X : K.In h) (G : h.Ns mainGlobals mg) (hfa : mg "law" = some (.ref fa))
    {C_Round : Addr}
    {p_Round_own_end : Addr}
    {p_Round_own_lamps : Addr}
    {p_Round_own_levels : Addr}
    {a_is_integer : Addr} {od_is_integer an_is_integer : Option Addr} {sl_is_integer : Array (Option Value)} {oc_is_integer kv_is_integer dc_is_integer pm_is_integer cd_is_integer ct_is_integer : Value}
    {a_written_integer : Addr} {od_written_integer an_written_integer : Option Addr} {sl_written_integer : Array (Option Value)} {oc_written_integer kv_written_integer dc_written_integer pm_written_integer cd_written_integer ct_written_integer : Value}
    {a_bent_lamp : Addr} {od_bent_lamp an_bent_lamp : Option Addr} {sl_bent_lamp : Array (Option Value)} {oc_bent_lamp kv_bent_lamp dc_bent_lamp pm_bent_lamp cd_bent_lamp ct_bent_lamp : Value}
    {a_wrong_lamp : Addr} {od_wrong_lamp an_wrong_lamp : Option Addr} {sl_wrong_lamp : Array (Option Value)} {oc_wrong_lamp kv_wrong_lamp dc_wrong_lamp pm_wrong_lamp cd_wrong_lamp ct_wrong_lamp : Value}
    {a_are_levels : Addr} {od_are_levels an_are_levels : Option Addr} {sl_are_levels : Array (Option Value)} {oc_are_levels kv_are_levels dc_are_levels pm_are_levels cd_are_levels ct_are_levels : Value}
    {a_added : Addr} {od_added an_added : Option Addr} {sl_added : Array (Option Value)} {oc_added kv_added dc_added pm_added cd_added ct_added : Value}
    {a_Round_init : Addr} {od_Round_init an_Round_init : Option Addr} {sl_Round_init : Array (Option Value)} {oc_Round_init kv_Round_init dc_Round_init pm_Round_init cd_Round_init ct_Round_init : Value}
    {a_Round_read : Addr} {od_Round_read an_Round_read : Option Addr} {sl_Round_read : Array (Option Value)} {oc_Round_read kv_Round_read dc_Round_read pm_Round_read cd_Round_read ct_Round_read : Value}
    {p_Round_read : Addr} {r_Round_read : List Value}
    {a_Round_levels : Addr} {od_Round_levels an_Round_levels : Option Addr} {sl_Round_levels : Array (Option Value)} {oc_Round_levels kv_Round_levels dc_Round_levels pm_Round_levels cd_Round_levels ct_Round_levels : Value}
    {p_Round_levels : Addr} {r_Round_levels : List Value}
    {a_Round_lamps : Addr} {od_Round_lamps an_Round_lamps : Option Addr} {sl_Round_lamps : Array (Option Value)} {oc_Round_lamps kv_Round_lamps dc_Round_lamps pm_Round_lamps cd_Round_lamps ct_Round_lamps : Value}
    {p_Round_lamps : Addr} {r_Round_lamps : List Value}
    {a_Round_end : Addr} {od_Round_end an_Round_end : Option Addr} {sl_Round_end : Array (Option Value)} {oc_Round_end kv_Round_end dc_Round_end pm_Round_end cd_Round_end ct_Round_end : Value}
    {p_Round_end : Addr} {r_Round_end : List Value}
    {a_Round_text : Addr} {od_Round_text an_Round_text : Option Addr} {sl_Round_text : Array (Option Value)} {oc_Round_text kv_Round_text dc_Round_text pm_Round_text cd_Round_text ct_Round_text : Value}
    {p_Round_text : Addr} {r_Round_text : List Value}
    {a_Round_len : Addr} {od_Round_len an_Round_len : Option Addr} {sl_Round_len : Array (Option Value)} {oc_Round_len kv_Round_len dc_Round_len pm_Round_len cd_Round_len ct_Round_len : Value}
    {a_Round_bool : Addr} {od_Round_bool an_Round_bool : Option Addr} {sl_Round_bool : Array (Option Value)} {oc_Round_bool kv_Round_bool dc_Round_bool pm_Round_bool cd_Round_bool ct_Round_bool : Value}
    {a_Round_eq : Addr} {od_Round_eq an_Round_eq : Option Addr} {sl_Round_eq : Array (Option Value)} {oc_Round_eq kv_Round_eq dc_Round_eq pm_Round_eq cd_Round_eq ct_Round_eq : Value}
    {a_Round_str : Addr} {od_Round_str an_Round_str : Option Addr} {sl_Round_str : Array (Option Value)} {oc_Round_str kv_Round_str dc_Round_str pm_Round_str cd_Round_str ct_Round_str : Value}
    {a_Round_repr : Addr} {od_Round_repr an_Round_repr : Option Addr} {sl_Round_repr : Array (Option Value)} {oc_Round_repr kv_Round_repr dc_Round_repr pm_Round_repr cd_Round_repr ct_Round_repr : Value}
    {a_table : Addr} {od_table an_table : Option Addr} {sl_table : Array (Option Value)} {oc_table kv_table dc_table pm_table cd_table ct_table : Value}
    {a_text_lamp : Addr} {od_text_lamp an_text_lamp : Option Addr} {sl_text_lamp : Array (Option Value)} {oc_text_lamp kv_text_lamp dc_text_lamp pm_text_lamp cd_text_lamp ct_text_lamp : Value}
    {a_text_round : Addr} {od_text_round an_text_round : Option Addr} {sl_text_round : Array (Option Value)} {oc_text_round kv_text_round dc_text_round pm_text_round cd_text_round ct_text_round : Value}
    {a_check_levels : Addr} {od_check_levels an_check_levels : Option Addr} {sl_check_levels : Array (Option Value)} {oc_check_levels kv_check_levels dc_check_levels pm_check_levels cd_check_levels ct_check_levels : Value}
    {a_check_number : Addr} {od_check_number an_check_number : Option Addr} {sl_check_number : Array (Option Value)} {oc_check_number kv_check_number dc_check_number pm_check_number cd_check_number ct_check_number : Value}
    {a_check_round : Addr} {od_check_round an_check_round : Option Addr} {sl_check_round : Array (Option Value)} {oc_check_round kv_check_round dc_check_round pm_check_round cd_check_round ct_check_round : Value}
    {a_check_pair : Addr} {od_check_pair an_check_pair : Option Addr} {sl_check_pair : Array (Option Value)} {oc_check_pair kv_check_pair dc_check_pair pm_check_pair cd_check_pair ct_check_pair : Value}
    {a_commute : Addr} {od_commute an_commute : Option Addr} {sl_commute : Array (Option Value)} {oc_commute kv_commute dc_commute pm_commute cd_commute ct_commute : Value}
    {a_law_well : Addr} {od_law_well an_law_well : Option Addr} {sl_law_well : Array (Option Value)} {oc_law_well kv_law_well dc_law_well pm_law_well cd_law_well ct_law_well : Value}
    {a_law_draw : Addr} {od_law_draw an_law_draw : Option Addr} {sl_law_draw : Array (Option Value)} {oc_law_draw kv_law_draw dc_law_draw pm_law_draw cd_law_draw ct_law_draw : Value}
    {a_law_pick : Addr} {od_law_pick an_law_pick : Option Addr} {sl_law_pick : Array (Option Value)} {oc_law_pick kv_law_pick dc_law_pick pm_law_pick cd_law_pick ct_law_pick : Value}
    {a_law_great : Addr} {od_law_great an_law_great : Option Addr} {sl_law_great : Array (Option Value)} {oc_law_great kv_law_great dc_law_great pm_law_great cd_law_great ct_law_great : Value}
    {a_law_added : Addr} {od_law_added an_law_added : Option Addr} {sl_law_added : Array (Option Value)} {oc_law_added kv_law_added dc_law_added pm_law_added cd_law_added ct_law_added : Value}
    {a_law_lamps : Addr} {od_law_lamps an_law_lamps : Option Addr} {sl_law_lamps : Array (Option Value)} {oc_law_lamps kv_law_lamps dc_law_lamps pm_law_lamps cd_law_lamps ct_law_lamps : Value}
    {a_law_behind : Addr} {od_law_behind an_law_behind : Option Addr} {sl_law_behind : Array (Option Value)} {oc_law_behind kv_law_behind dc_law_behind pm_law_behind cd_law_behind ct_law_behind : Value}
    {a_law_back : Addr} {od_law_back an_law_back : Option Addr} {sl_law_back : Array (Option Value)} {oc_law_back kv_law_back dc_law_back pm_law_back cd_law_back ct_law_back : Value}
    {a_law_times : Addr} {od_law_times an_law_times : Option Addr} {sl_law_times : Array (Option Value)} {oc_law_times kv_law_times dc_law_times pm_law_times cd_law_times ct_law_times : Value}
    {a_law_text : Addr} {od_law_text an_law_text : Option Addr} {sl_law_text : Array (Option Value)} {oc_law_text kv_law_text dc_law_text pm_law_text cd_law_text ct_law_text : Value}
    {a_law_drawn : Addr} {od_law_drawn an_law_drawn : Option Addr} {sl_law_drawn : Array (Option Value)} {oc_law_drawn kv_law_drawn dc_law_drawn pm_law_drawn cd_law_drawn ct_law_drawn : Value}
    {a_law_pair : Addr} {od_law_pair an_law_pair : Option Addr} {sl_law_pair : Array (Option Value)} {oc_law_pair kv_law_pair dc_law_pair pm_law_pair cd_law_pair ct_law_pair : Value}
    {a_law_right : Addr} {od_law_right an_law_right : Option Addr} {sl_law_right : Array (Option Value)} {oc_law_right kv_law_right dc_law_right pm_law_right cd_law_right ct_law_right : Value}
    {a_law : Addr} {od_law an_law : Option Addr} {sl_law : Array (Option Value)} {oc_law kv_law dc_law pm_law cd_law ct_law : Value}
    {x_LEVELS : Addr} {o_LEVELS : Option Addr} {m_LEVELS : Nat} {z_LEVELS : Array (Option Value)} {t0_LEVELS t1_LEVELS t2_LEVELS t3_LEVELS : Tok}
    {t_MOST_LAMPS : Tok}
    {t_DIGITS : Tok}
    (e_Round : PySem.W.nsIn K mainGlobals "Round" = some (some (.ref C_Round)))
    (q1_Round : PySem.W.plainGet K C_Round Str.empty = true)
    (q2_Round : PySem.W.isClsIn K C_Round = true)
    (q3_Round : PySem.W.plainOver K C_Round = true)
    (q4_Round : PySem.W.findIn K (.ref C_Round) "__setattr__" = some (some (.builtin "object.__setattr__")))
    (q5_Round : PySem.W.findIn K (.ref C_Round) "__class__" = some (some (.builtin "object.__class__")))
    (q8_Round : PySem.W.mroIn K C_Round (.type "object") = some true)
    (q9_Round : PySem.W.makesIn K C_Round = true)
    (qa_Round : PySem.W.keepIn K (.ref C_Round) = true)
    (q6_Round : PySem.W.specialIn K (.builtin "object.__class__") "__get__" = some (some (.builtin "getset_descriptor.__get__")))
    (q7_Round : PySem.W.takesIn K (.builtin "object.__class__") = some true)
    (s1_Round_own_end : PySem.W.findIn K (.ref C_Round) "own_end" = some (some (.ref p_Round_own_end)))
    (s2_Round_own_end : PySem.W.specialIn K (.ref p_Round_own_end) "__get__" = some (some (.builtin "member_descriptor.__get__")))
    (s3_Round_own_end : PySem.W.takesIn K (.ref p_Round_own_end) = some true)
    (s4_Round_own_end : PySem.W.typeIn K (.ref p_Round_own_end) = some (.type "member_descriptor"))
    (s5_Round_own_end : PySem.W.slotIn K p_Round_own_end C_Round = some 0)
    (s1_Round_own_lamps : PySem.W.findIn K (.ref C_Round) "own_lamps" = some (some (.ref p_Round_own_lamps)))
    (s2_Round_own_lamps : PySem.W.specialIn K (.ref p_Round_own_lamps) "__get__" = some (some (.builtin "member_descriptor.__get__")))
    (s3_Round_own_lamps : PySem.W.takesIn K (.ref p_Round_own_lamps) = some true)
    (s4_Round_own_lamps : PySem.W.typeIn K (.ref p_Round_own_lamps) = some (.type "member_descriptor"))
    (s5_Round_own_lamps : PySem.W.slotIn K p_Round_own_lamps C_Round = some 1)
    (s1_Round_own_levels : PySem.W.findIn K (.ref C_Round) "own_levels" = some (some (.ref p_Round_own_levels)))
    (s2_Round_own_levels : PySem.W.specialIn K (.ref p_Round_own_levels) "__get__" = some (some (.builtin "member_descriptor.__get__")))
    (s3_Round_own_levels : PySem.W.takesIn K (.ref p_Round_own_levels) = some true)
    (s4_Round_own_levels : PySem.W.typeIn K (.ref p_Round_own_levels) = some (.type "member_descriptor"))
    (s5_Round_own_levels : PySem.W.slotIn K p_Round_own_levels C_Round = some 2)
    (qn_Round : PySem.W.findIn K (.ref C_Round) "__ne__" = some (some (.builtin "object.__ne__")))
    (qb_Round : PySem.W.readsIn K C_Round (.type "type") = true)
    (qc_Round : PySem.W.specialIn K (.ref C_Round) "__getattribute__" = some (some (.builtin "type.__getattribute__")))
    (km_Round_int : PySem.W.mroIn K C_Round (.type "int") = some false)
    (km_Round_tuple : PySem.W.mroIn K C_Round (.type "tuple") = some false)
    (km_Round_str : PySem.W.mroIn K C_Round (.type "str") = some false)
    (km_Round_Round : PySem.W.mroIn K C_Round (.ref C_Round) = some true)
    (km_Round_bool : PySem.W.mroIn K C_Round (.type "bool") = some false)
    (kt_Round : PySem.W.typeIn K (.ref C_Round) = some (.type "type"))
    (e_is_integer : PySem.W.nsIn K mainGlobals "is_integer" = some (some (.ref a_is_integer)))
    (l_is_integer : K.lookup a_is_integer = some ⟨oc_is_integer, od_is_integer, .func (PySem.W.fnOf "is_integer" "is_integer" (defArgs s_is_integer) (defBody s_is_integer) (defScope s_is_integer) .none kv_is_integer dc_is_integer pm_is_integer an_is_integer cd_is_integer ct_is_integer), sl_is_integer⟩)
    (c_is_integer : PySem.W.codeIn K cd_is_integer "is_integer" = true)
    (k_is_integer : PySem.W.keepIn K (.ref a_is_integer) = true)
    (e_written_integer : PySem.W.nsIn K mainGlobals "written_integer" = some (some (.ref a_written_integer)))
    (l_written_integer : K.lookup a_written_integer = some ⟨oc_written_integer, od_written_integer, .func (PySem.W.fnOf "written_integer" "written_integer" (defArgs s_written_integer) (defBody s_written_integer) (defScope s_written_integer) .none kv_written_integer dc_written_integer pm_written_integer an_written_integer cd_written_integer ct_written_integer), sl_written_integer⟩)
    (c_written_integer : PySem.W.codeIn K cd_written_integer "written_integer" = true)
    (k_written_integer : PySem.W.keepIn K (.ref a_written_integer) = true)
    (e_bent_lamp : PySem.W.nsIn K mainGlobals "bent_lamp" = some (some (.ref a_bent_lamp)))
    (l_bent_lamp : K.lookup a_bent_lamp = some ⟨oc_bent_lamp, od_bent_lamp, .func (PySem.W.fnOf "bent_lamp" "bent_lamp" (defArgs s_bent_lamp) (defBody s_bent_lamp) (defScope s_bent_lamp) .none kv_bent_lamp dc_bent_lamp pm_bent_lamp an_bent_lamp cd_bent_lamp ct_bent_lamp), sl_bent_lamp⟩)
    (c_bent_lamp : PySem.W.codeIn K cd_bent_lamp "bent_lamp" = true)
    (k_bent_lamp : PySem.W.keepIn K (.ref a_bent_lamp) = true)
    (e_wrong_lamp : PySem.W.nsIn K mainGlobals "wrong_lamp" = some (some (.ref a_wrong_lamp)))
    (l_wrong_lamp : K.lookup a_wrong_lamp = some ⟨oc_wrong_lamp, od_wrong_lamp, .func (PySem.W.fnOf "wrong_lamp" "wrong_lamp" (defArgs s_wrong_lamp) (defBody s_wrong_lamp) (defScope s_wrong_lamp) .none kv_wrong_lamp dc_wrong_lamp pm_wrong_lamp an_wrong_lamp cd_wrong_lamp ct_wrong_lamp), sl_wrong_lamp⟩)
    (c_wrong_lamp : PySem.W.codeIn K cd_wrong_lamp "wrong_lamp" = true)
    (k_wrong_lamp : PySem.W.keepIn K (.ref a_wrong_lamp) = true)
    (e_are_levels : PySem.W.nsIn K mainGlobals "are_levels" = some (some (.ref a_are_levels)))
    (l_are_levels : K.lookup a_are_levels = some ⟨oc_are_levels, od_are_levels, .func (PySem.W.fnOf "are_levels" "are_levels" (defArgs s_are_levels) (defBody s_are_levels) (defScope s_are_levels) .none kv_are_levels dc_are_levels pm_are_levels an_are_levels cd_are_levels ct_are_levels), sl_are_levels⟩)
    (c_are_levels : PySem.W.codeIn K cd_are_levels "are_levels" = true)
    (k_are_levels : PySem.W.keepIn K (.ref a_are_levels) = true)
    (e_added : PySem.W.nsIn K mainGlobals "added" = some (some (.ref a_added)))
    (l_added : K.lookup a_added = some ⟨oc_added, od_added, .func (PySem.W.fnOf "added" "added" (defArgs s_added) (defBody s_added) (defScope s_added) .none kv_added dc_added pm_added an_added cd_added ct_added), sl_added⟩)
    (c_added : PySem.W.codeIn K cd_added "added" = true)
    (k_added : PySem.W.keepIn K (.ref a_added) = true)
    (fi_Round_init : PySem.W.findIn K (.ref C_Round) "__init__" = some (some (.ref a_Round_init)))
    (is_Round_init : PySem.W.isFn K (.ref a_Round_init) = true)
    (l_Round_init : K.lookup a_Round_init = some ⟨oc_Round_init, od_Round_init, .func (PySem.W.fnOf "__init__" "Round.__init__" (defArgs s_Round_init) (defBody s_Round_init) (defScope s_Round_init) .none kv_Round_init dc_Round_init pm_Round_init an_Round_init cd_Round_init ct_Round_init), sl_Round_init⟩)
    (c_Round_init : PySem.W.codeIn K cd_Round_init "Round.__init__" = true)
    (k_Round_init : PySem.W.keepIn K (.ref a_Round_init) = true)
    (pa_Round_read : PySem.W.findCls K (.ref C_Round) (.type "type") "read" = some (.get (.builtin "classmethod.__get__") (.ref p_Round_read) .none (.ref C_Round)))
    (pr_Round_read : PySem.W.recIn K p_Round_read "classmethod" = some (.ref a_Round_read :: r_Round_read))
    (pf_Round_read : PySem.W.fnIn K a_Round_read = true)
    (l_Round_read : K.lookup a_Round_read = some ⟨oc_Round_read, od_Round_read, .func (PySem.W.fnOf "read" "Round.read" (defArgs s_Round_read) (defBody s_Round_read) (defScope s_Round_read) .none kv_Round_read dc_Round_read pm_Round_read an_Round_read cd_Round_read ct_Round_read), sl_Round_read⟩)
    (c_Round_read : PySem.W.codeIn K cd_Round_read "Round.read" = true)
    (k_Round_read : PySem.W.keepIn K (.ref a_Round_read) = true)
    (pa_Round_levels : PySem.W.findIn K (.ref C_Round) "levels" = some (some (.ref p_Round_levels)))
    (pg_Round_levels : PySem.W.specialIn K (.ref p_Round_levels) "__get__" = some (some (.builtin "property.__get__")))
    (pt_Round_levels : PySem.W.takesIn K (.ref p_Round_levels) = some true)
    (pr_Round_levels : PySem.W.recIn K p_Round_levels "property" = some (.ref a_Round_levels :: r_Round_levels))
    (l_Round_levels : K.lookup a_Round_levels = some ⟨oc_Round_levels, od_Round_levels, .func (PySem.W.fnOf "levels" "Round.levels" (defArgs s_Round_levels) (defBody s_Round_levels) (defScope s_Round_levels) .none kv_Round_levels dc_Round_levels pm_Round_levels an_Round_levels cd_Round_levels ct_Round_levels), sl_Round_levels⟩)
    (c_Round_levels : PySem.W.codeIn K cd_Round_levels "Round.levels" = true)
    (k_Round_levels : PySem.W.keepIn K (.ref a_Round_levels) = true)
    (pa_Round_lamps : PySem.W.findIn K (.ref C_Round) "lamps" = some (some (.ref p_Round_lamps)))
    (pg_Round_lamps : PySem.W.specialIn K (.ref p_Round_lamps) "__get__" = some (some (.builtin "property.__get__")))
    (pt_Round_lamps : PySem.W.takesIn K (.ref p_Round_lamps) = some true)
    (pr_Round_lamps : PySem.W.recIn K p_Round_lamps "property" = some (.ref a_Round_lamps :: r_Round_lamps))
    (l_Round_lamps : K.lookup a_Round_lamps = some ⟨oc_Round_lamps, od_Round_lamps, .func (PySem.W.fnOf "lamps" "Round.lamps" (defArgs s_Round_lamps) (defBody s_Round_lamps) (defScope s_Round_lamps) .none kv_Round_lamps dc_Round_lamps pm_Round_lamps an_Round_lamps cd_Round_lamps ct_Round_lamps), sl_Round_lamps⟩)
    (c_Round_lamps : PySem.W.codeIn K cd_Round_lamps "Round.lamps" = true)
    (k_Round_lamps : PySem.W.keepIn K (.ref a_Round_lamps) = true)
    (pa_Round_end : PySem.W.findIn K (.ref C_Round) "end" = some (some (.ref p_Round_end)))
    (pg_Round_end : PySem.W.specialIn K (.ref p_Round_end) "__get__" = some (some (.builtin "property.__get__")))
    (pt_Round_end : PySem.W.takesIn K (.ref p_Round_end) = some true)
    (pr_Round_end : PySem.W.recIn K p_Round_end "property" = some (.ref a_Round_end :: r_Round_end))
    (l_Round_end : K.lookup a_Round_end = some ⟨oc_Round_end, od_Round_end, .func (PySem.W.fnOf "end" "Round.end" (defArgs s_Round_end) (defBody s_Round_end) (defScope s_Round_end) .none kv_Round_end dc_Round_end pm_Round_end an_Round_end cd_Round_end ct_Round_end), sl_Round_end⟩)
    (c_Round_end : PySem.W.codeIn K cd_Round_end "Round.end" = true)
    (k_Round_end : PySem.W.keepIn K (.ref a_Round_end) = true)
    (pa_Round_text : PySem.W.findIn K (.ref C_Round) "text" = some (some (.ref p_Round_text)))
    (pg_Round_text : PySem.W.specialIn K (.ref p_Round_text) "__get__" = some (some (.builtin "property.__get__")))
    (pt_Round_text : PySem.W.takesIn K (.ref p_Round_text) = some true)
    (pr_Round_text : PySem.W.recIn K p_Round_text "property" = some (.ref a_Round_text :: r_Round_text))
    (l_Round_text : K.lookup a_Round_text = some ⟨oc_Round_text, od_Round_text, .func (PySem.W.fnOf "text" "Round.text" (defArgs s_Round_text) (defBody s_Round_text) (defScope s_Round_text) .none kv_Round_text dc_Round_text pm_Round_text an_Round_text cd_Round_text ct_Round_text), sl_Round_text⟩)
    (c_Round_text : PySem.W.codeIn K cd_Round_text "Round.text" = true)
    (k_Round_text : PySem.W.keepIn K (.ref a_Round_text) = true)
    (fi_Round_len : PySem.W.findIn K (.ref C_Round) "__len__" = some (some (.ref a_Round_len)))
    (is_Round_len : PySem.W.isFn K (.ref a_Round_len) = true)
    (l_Round_len : K.lookup a_Round_len = some ⟨oc_Round_len, od_Round_len, .func (PySem.W.fnOf "__len__" "Round.__len__" (defArgs s_Round_len) (defBody s_Round_len) (defScope s_Round_len) .none kv_Round_len dc_Round_len pm_Round_len an_Round_len cd_Round_len ct_Round_len), sl_Round_len⟩)
    (c_Round_len : PySem.W.codeIn K cd_Round_len "Round.__len__" = true)
    (k_Round_len : PySem.W.keepIn K (.ref a_Round_len) = true)
    (fi_Round_bool : PySem.W.findIn K (.ref C_Round) "__bool__" = some (some (.ref a_Round_bool)))
    (is_Round_bool : PySem.W.isFn K (.ref a_Round_bool) = true)
    (l_Round_bool : K.lookup a_Round_bool = some ⟨oc_Round_bool, od_Round_bool, .func (PySem.W.fnOf "__bool__" "Round.__bool__" (defArgs s_Round_bool) (defBody s_Round_bool) (defScope s_Round_bool) .none kv_Round_bool dc_Round_bool pm_Round_bool an_Round_bool cd_Round_bool ct_Round_bool), sl_Round_bool⟩)
    (c_Round_bool : PySem.W.codeIn K cd_Round_bool "Round.__bool__" = true)
    (k_Round_bool : PySem.W.keepIn K (.ref a_Round_bool) = true)
    (fi_Round_eq : PySem.W.findIn K (.ref C_Round) "__eq__" = some (some (.ref a_Round_eq)))
    (is_Round_eq : PySem.W.isFn K (.ref a_Round_eq) = true)
    (l_Round_eq : K.lookup a_Round_eq = some ⟨oc_Round_eq, od_Round_eq, .func (PySem.W.fnOf "__eq__" "Round.__eq__" (defArgs s_Round_eq) (defBody s_Round_eq) (defScope s_Round_eq) .none kv_Round_eq dc_Round_eq pm_Round_eq an_Round_eq cd_Round_eq ct_Round_eq), sl_Round_eq⟩)
    (c_Round_eq : PySem.W.codeIn K cd_Round_eq "Round.__eq__" = true)
    (k_Round_eq : PySem.W.keepIn K (.ref a_Round_eq) = true)
    (fi_Round_str : PySem.W.findIn K (.ref C_Round) "__str__" = some (some (.ref a_Round_str)))
    (is_Round_str : PySem.W.isFn K (.ref a_Round_str) = true)
    (l_Round_str : K.lookup a_Round_str = some ⟨oc_Round_str, od_Round_str, .func (PySem.W.fnOf "__str__" "Round.__str__" (defArgs s_Round_str) (defBody s_Round_str) (defScope s_Round_str) .none kv_Round_str dc_Round_str pm_Round_str an_Round_str cd_Round_str ct_Round_str), sl_Round_str⟩)
    (c_Round_str : PySem.W.codeIn K cd_Round_str "Round.__str__" = true)
    (k_Round_str : PySem.W.keepIn K (.ref a_Round_str) = true)
    (fi_Round_repr : PySem.W.findIn K (.ref C_Round) "__repr__" = some (some (.ref a_Round_repr)))
    (is_Round_repr : PySem.W.isFn K (.ref a_Round_repr) = true)
    (l_Round_repr : K.lookup a_Round_repr = some ⟨oc_Round_repr, od_Round_repr, .func (PySem.W.fnOf "__repr__" "Round.__repr__" (defArgs s_Round_repr) (defBody s_Round_repr) (defScope s_Round_repr) .none kv_Round_repr dc_Round_repr pm_Round_repr an_Round_repr cd_Round_repr ct_Round_repr), sl_Round_repr⟩)
    (c_Round_repr : PySem.W.codeIn K cd_Round_repr "Round.__repr__" = true)
    (k_Round_repr : PySem.W.keepIn K (.ref a_Round_repr) = true)
    (e_table : PySem.W.nsIn K mainGlobals "table" = some (some (.ref a_table)))
    (l_table : K.lookup a_table = some ⟨oc_table, od_table, .func (PySem.W.fnOf "table" "table" (defArgs s_table) (defBody s_table) (defScope s_table) .none kv_table dc_table pm_table an_table cd_table ct_table), sl_table⟩)
    (c_table : PySem.W.codeIn K cd_table "table" = true)
    (k_table : PySem.W.keepIn K (.ref a_table) = true)
    (e_text_lamp : PySem.W.nsIn K mainGlobals "text_lamp" = some (some (.ref a_text_lamp)))
    (l_text_lamp : K.lookup a_text_lamp = some ⟨oc_text_lamp, od_text_lamp, .func (PySem.W.fnOf "text_lamp" "text_lamp" (defArgs s_text_lamp) (defBody s_text_lamp) (defScope s_text_lamp) .none kv_text_lamp dc_text_lamp pm_text_lamp an_text_lamp cd_text_lamp ct_text_lamp), sl_text_lamp⟩)
    (c_text_lamp : PySem.W.codeIn K cd_text_lamp "text_lamp" = true)
    (k_text_lamp : PySem.W.keepIn K (.ref a_text_lamp) = true)
    (e_text_round : PySem.W.nsIn K mainGlobals "text_round" = some (some (.ref a_text_round)))
    (l_text_round : K.lookup a_text_round = some ⟨oc_text_round, od_text_round, .func (PySem.W.fnOf "text_round" "text_round" (defArgs s_text_round) (defBody s_text_round) (defScope s_text_round) .none kv_text_round dc_text_round pm_text_round an_text_round cd_text_round ct_text_round), sl_text_round⟩)
    (c_text_round : PySem.W.codeIn K cd_text_round "text_round" = true)
    (k_text_round : PySem.W.keepIn K (.ref a_text_round) = true)
    (e_check_levels : PySem.W.nsIn K mainGlobals "check_levels" = some (some (.ref a_check_levels)))
    (l_check_levels : K.lookup a_check_levels = some ⟨oc_check_levels, od_check_levels, .func (PySem.W.fnOf "check_levels" "check_levels" (defArgs s_check_levels) (defBody s_check_levels) (defScope s_check_levels) .none kv_check_levels dc_check_levels pm_check_levels an_check_levels cd_check_levels ct_check_levels), sl_check_levels⟩)
    (c_check_levels : PySem.W.codeIn K cd_check_levels "check_levels" = true)
    (k_check_levels : PySem.W.keepIn K (.ref a_check_levels) = true)
    (e_check_number : PySem.W.nsIn K mainGlobals "check_number" = some (some (.ref a_check_number)))
    (l_check_number : K.lookup a_check_number = some ⟨oc_check_number, od_check_number, .func (PySem.W.fnOf "check_number" "check_number" (defArgs s_check_number) (defBody s_check_number) (defScope s_check_number) .none kv_check_number dc_check_number pm_check_number an_check_number cd_check_number ct_check_number), sl_check_number⟩)
    (c_check_number : PySem.W.codeIn K cd_check_number "check_number" = true)
    (k_check_number : PySem.W.keepIn K (.ref a_check_number) = true)
    (e_check_round : PySem.W.nsIn K mainGlobals "check_round" = some (some (.ref a_check_round)))
    (l_check_round : K.lookup a_check_round = some ⟨oc_check_round, od_check_round, .func (PySem.W.fnOf "check_round" "check_round" (defArgs s_check_round) (defBody s_check_round) (defScope s_check_round) .none kv_check_round dc_check_round pm_check_round an_check_round cd_check_round ct_check_round), sl_check_round⟩)
    (c_check_round : PySem.W.codeIn K cd_check_round "check_round" = true)
    (k_check_round : PySem.W.keepIn K (.ref a_check_round) = true)
    (e_check_pair : PySem.W.nsIn K mainGlobals "check_pair" = some (some (.ref a_check_pair)))
    (l_check_pair : K.lookup a_check_pair = some ⟨oc_check_pair, od_check_pair, .func (PySem.W.fnOf "check_pair" "check_pair" (defArgs s_check_pair) (defBody s_check_pair) (defScope s_check_pair) .none kv_check_pair dc_check_pair pm_check_pair an_check_pair cd_check_pair ct_check_pair), sl_check_pair⟩)
    (c_check_pair : PySem.W.codeIn K cd_check_pair "check_pair" = true)
    (k_check_pair : PySem.W.keepIn K (.ref a_check_pair) = true)
    (e_commute : PySem.W.nsIn K mainGlobals "commute" = some (some (.ref a_commute)))
    (l_commute : K.lookup a_commute = some ⟨oc_commute, od_commute, .func (PySem.W.fnOf "commute" "commute" (defArgs s_commute) (defBody s_commute) (defScope s_commute) .none kv_commute dc_commute pm_commute an_commute cd_commute ct_commute), sl_commute⟩)
    (c_commute : PySem.W.codeIn K cd_commute "commute" = true)
    (k_commute : PySem.W.keepIn K (.ref a_commute) = true)
    (e_law_well : PySem.W.nsIn K mainGlobals "_law_well" = some (some (.ref a_law_well)))
    (l_law_well : K.lookup a_law_well = some ⟨oc_law_well, od_law_well, .func (PySem.W.fnOf "_law_well" "_law_well" (defArgs s_law_well) (defBody s_law_well) (defScope s_law_well) .none kv_law_well dc_law_well pm_law_well an_law_well cd_law_well ct_law_well), sl_law_well⟩)
    (c_law_well : PySem.W.codeIn K cd_law_well "_law_well" = true)
    (k_law_well : PySem.W.keepIn K (.ref a_law_well) = true)
    (e_law_draw : PySem.W.nsIn K mainGlobals "_law_draw" = some (some (.ref a_law_draw)))
    (l_law_draw : K.lookup a_law_draw = some ⟨oc_law_draw, od_law_draw, .func (PySem.W.fnOf "_law_draw" "_law_draw" (defArgs s_law_draw) (defBody s_law_draw) (defScope s_law_draw) .none kv_law_draw dc_law_draw pm_law_draw an_law_draw cd_law_draw ct_law_draw), sl_law_draw⟩)
    (c_law_draw : PySem.W.codeIn K cd_law_draw "_law_draw" = true)
    (k_law_draw : PySem.W.keepIn K (.ref a_law_draw) = true)
    (e_law_pick : PySem.W.nsIn K mainGlobals "_law_pick" = some (some (.ref a_law_pick)))
    (l_law_pick : K.lookup a_law_pick = some ⟨oc_law_pick, od_law_pick, .func (PySem.W.fnOf "_law_pick" "_law_pick" (defArgs s_law_pick) (defBody s_law_pick) (defScope s_law_pick) .none kv_law_pick dc_law_pick pm_law_pick an_law_pick cd_law_pick ct_law_pick), sl_law_pick⟩)
    (c_law_pick : PySem.W.codeIn K cd_law_pick "_law_pick" = true)
    (k_law_pick : PySem.W.keepIn K (.ref a_law_pick) = true)
    (e_law_great : PySem.W.nsIn K mainGlobals "_law_great" = some (some (.ref a_law_great)))
    (l_law_great : K.lookup a_law_great = some ⟨oc_law_great, od_law_great, .func (PySem.W.fnOf "_law_great" "_law_great" (defArgs s_law_great) (defBody s_law_great) (defScope s_law_great) .none kv_law_great dc_law_great pm_law_great an_law_great cd_law_great ct_law_great), sl_law_great⟩)
    (c_law_great : PySem.W.codeIn K cd_law_great "_law_great" = true)
    (k_law_great : PySem.W.keepIn K (.ref a_law_great) = true)
    (e_law_added : PySem.W.nsIn K mainGlobals "_law_added" = some (some (.ref a_law_added)))
    (l_law_added : K.lookup a_law_added = some ⟨oc_law_added, od_law_added, .func (PySem.W.fnOf "_law_added" "_law_added" (defArgs s_law_added) (defBody s_law_added) (defScope s_law_added) .none kv_law_added dc_law_added pm_law_added an_law_added cd_law_added ct_law_added), sl_law_added⟩)
    (c_law_added : PySem.W.codeIn K cd_law_added "_law_added" = true)
    (k_law_added : PySem.W.keepIn K (.ref a_law_added) = true)
    (e_law_lamps : PySem.W.nsIn K mainGlobals "_law_lamps" = some (some (.ref a_law_lamps)))
    (l_law_lamps : K.lookup a_law_lamps = some ⟨oc_law_lamps, od_law_lamps, .func (PySem.W.fnOf "_law_lamps" "_law_lamps" (defArgs s_law_lamps) (defBody s_law_lamps) (defScope s_law_lamps) .none kv_law_lamps dc_law_lamps pm_law_lamps an_law_lamps cd_law_lamps ct_law_lamps), sl_law_lamps⟩)
    (c_law_lamps : PySem.W.codeIn K cd_law_lamps "_law_lamps" = true)
    (k_law_lamps : PySem.W.keepIn K (.ref a_law_lamps) = true)
    (e_law_behind : PySem.W.nsIn K mainGlobals "_law_behind" = some (some (.ref a_law_behind)))
    (l_law_behind : K.lookup a_law_behind = some ⟨oc_law_behind, od_law_behind, .func (PySem.W.fnOf "_law_behind" "_law_behind" (defArgs s_law_behind) (defBody s_law_behind) (defScope s_law_behind) .none kv_law_behind dc_law_behind pm_law_behind an_law_behind cd_law_behind ct_law_behind), sl_law_behind⟩)
    (c_law_behind : PySem.W.codeIn K cd_law_behind "_law_behind" = true)
    (k_law_behind : PySem.W.keepIn K (.ref a_law_behind) = true)
    (e_law_back : PySem.W.nsIn K mainGlobals "_law_back" = some (some (.ref a_law_back)))
    (l_law_back : K.lookup a_law_back = some ⟨oc_law_back, od_law_back, .func (PySem.W.fnOf "_law_back" "_law_back" (defArgs s_law_back) (defBody s_law_back) (defScope s_law_back) .none kv_law_back dc_law_back pm_law_back an_law_back cd_law_back ct_law_back), sl_law_back⟩)
    (c_law_back : PySem.W.codeIn K cd_law_back "_law_back" = true)
    (k_law_back : PySem.W.keepIn K (.ref a_law_back) = true)
    (e_law_times : PySem.W.nsIn K mainGlobals "_law_times" = some (some (.ref a_law_times)))
    (l_law_times : K.lookup a_law_times = some ⟨oc_law_times, od_law_times, .func (PySem.W.fnOf "_law_times" "_law_times" (defArgs s_law_times) (defBody s_law_times) (defScope s_law_times) .none kv_law_times dc_law_times pm_law_times an_law_times cd_law_times ct_law_times), sl_law_times⟩)
    (c_law_times : PySem.W.codeIn K cd_law_times "_law_times" = true)
    (k_law_times : PySem.W.keepIn K (.ref a_law_times) = true)
    (e_law_text : PySem.W.nsIn K mainGlobals "_law_text" = some (some (.ref a_law_text)))
    (l_law_text : K.lookup a_law_text = some ⟨oc_law_text, od_law_text, .func (PySem.W.fnOf "_law_text" "_law_text" (defArgs s_law_text) (defBody s_law_text) (defScope s_law_text) .none kv_law_text dc_law_text pm_law_text an_law_text cd_law_text ct_law_text), sl_law_text⟩)
    (c_law_text : PySem.W.codeIn K cd_law_text "_law_text" = true)
    (k_law_text : PySem.W.keepIn K (.ref a_law_text) = true)
    (e_law_drawn : PySem.W.nsIn K mainGlobals "_law_drawn" = some (some (.ref a_law_drawn)))
    (l_law_drawn : K.lookup a_law_drawn = some ⟨oc_law_drawn, od_law_drawn, .func (PySem.W.fnOf "_law_drawn" "_law_drawn" (defArgs s_law_drawn) (defBody s_law_drawn) (defScope s_law_drawn) .none kv_law_drawn dc_law_drawn pm_law_drawn an_law_drawn cd_law_drawn ct_law_drawn), sl_law_drawn⟩)
    (c_law_drawn : PySem.W.codeIn K cd_law_drawn "_law_drawn" = true)
    (k_law_drawn : PySem.W.keepIn K (.ref a_law_drawn) = true)
    (e_law_pair : PySem.W.nsIn K mainGlobals "_law_pair" = some (some (.ref a_law_pair)))
    (l_law_pair : K.lookup a_law_pair = some ⟨oc_law_pair, od_law_pair, .func (PySem.W.fnOf "_law_pair" "_law_pair" (defArgs s_law_pair) (defBody s_law_pair) (defScope s_law_pair) .none kv_law_pair dc_law_pair pm_law_pair an_law_pair cd_law_pair ct_law_pair), sl_law_pair⟩)
    (c_law_pair : PySem.W.codeIn K cd_law_pair "_law_pair" = true)
    (k_law_pair : PySem.W.keepIn K (.ref a_law_pair) = true)
    (e_law_right : PySem.W.nsIn K mainGlobals "_law_right" = some (some (.ref a_law_right)))
    (l_law_right : K.lookup a_law_right = some ⟨oc_law_right, od_law_right, .func (PySem.W.fnOf "_law_right" "_law_right" (defArgs s_law_right) (defBody s_law_right) (defScope s_law_right) .none kv_law_right dc_law_right pm_law_right an_law_right cd_law_right ct_law_right), sl_law_right⟩)
    (c_law_right : PySem.W.codeIn K cd_law_right "_law_right" = true)
    (k_law_right : PySem.W.keepIn K (.ref a_law_right) = true)
    (e_law : PySem.W.nsIn K mainGlobals "law" = some (some (.ref a_law)))
    (l_law : K.lookup a_law = some ⟨oc_law, od_law, .func (PySem.W.fnOf "law" "law" (defArgs s_law) (defBody s_law) (defScope s_law) .none kv_law dc_law pm_law an_law cd_law ct_law), sl_law⟩)
    (c_law : PySem.W.codeIn K cd_law "law" = true)
    (k_law : PySem.W.keepIn K (.ref a_law) = true)
    (n_abs : PySem.W.nsIn K mainGlobals "abs" = some none)
    (n_all : PySem.W.nsIn K mainGlobals "all" = some none)
    (n_bool : PySem.W.nsIn K mainGlobals "bool" = some none)
    (n_dict : PySem.W.nsIn K mainGlobals "dict" = some none)
    (n_divmod : PySem.W.nsIn K mainGlobals "divmod" = some none)
    (n_enumerate : PySem.W.nsIn K mainGlobals "enumerate" = some none)
    (n_int : PySem.W.nsIn K mainGlobals "int" = some none)
    (n_isinstance : PySem.W.nsIn K mainGlobals "isinstance" = some none)
    (n_len : PySem.W.nsIn K mainGlobals "len" = some none)
    (n_list : PySem.W.nsIn K mainGlobals "list" = some none)
    (n_max : PySem.W.nsIn K mainGlobals "max" = some none)
    (n_min : PySem.W.nsIn K mainGlobals "min" = some none)
    (n_range : PySem.W.nsIn K mainGlobals "range" = some none)
    (n_repr : PySem.W.nsIn K mainGlobals "repr" = some none)
    (n_sorted : PySem.W.nsIn K mainGlobals "sorted" = some none)
    (n_str : PySem.W.nsIn K mainGlobals "str" = some none)
    (n_tuple : PySem.W.nsIn K mainGlobals "tuple" = some none)
    (e_LEVELS : PySem.W.nsIn K mainGlobals "LEVELS" = some (some (.ref x_LEVELS)))
    (y_LEVELS : K.lookup x_LEVELS = some ⟨.type "tuple", o_LEVELS, .seq #[.int 2 t0_LEVELS, .int 3 t1_LEVELS, .int 5 t2_LEVELS, .int 7 t3_LEVELS] m_LEVELS, z_LEVELS⟩)
    (e_MOST_LAMPS : PySem.W.nsIn K mainGlobals "MOST_LAMPS" = some (some (.int 400 t_MOST_LAMPS)))
    (e_DIGITS : PySem.W.nsIn K mainGlobals "DIGITS" = some (some (.str "0123456789" t_DIGITS))) : ∃ T : Tx K mg, T.a_law = fa := by
  have e := hfa.symm.trans (PySem.W.mg_of X G e_law)
  cases e
  exact ⟨{
      C_Round := C_Round
      g_Round := (PySem.W.mg_of X G e_Round)
      si_Round := (⟨q5_Round, q6_Round, q7_Round, q8_Round⟩)
      pg_Round := q1_Round
      ic_Round := q2_Round
      sc_Round := (⟨q1_Round, q2_Round, q3_Round, q4_Round⟩)
      p_Round_own_end := p_Round_own_end
      sl_Round_own_end := (⟨s1_Round_own_end, s2_Round_own_end, s3_Round_own_end, s4_Round_own_end, s5_Round_own_end, by decide⟩)
      p_Round_own_lamps := p_Round_own_lamps
      sl_Round_own_lamps := (⟨s1_Round_own_lamps, s2_Round_own_lamps, s3_Round_own_lamps, s4_Round_own_lamps, s5_Round_own_lamps, by decide⟩)
      p_Round_own_levels := p_Round_own_levels
      sl_Round_own_levels := (⟨s1_Round_own_levels, s2_Round_own_levels, s3_Round_own_levels, s4_Round_own_levels, s5_Round_own_levels, by decide⟩)
      ne_Round := qn_Round
      ob_Round := q8_Round
      cr_Round := (⟨qb_Round, qc_Round⟩)
      ki_Round_int := (Mi.ko_ty (by decide) km_Round_int)
      ki_Round_tuple := (Mi.ko_ty (by decide) km_Round_tuple)
      ki_Round_str := (Mi.ko_ty (by decide) km_Round_str)
      ki_Round_bool := (Mi.ko_ty (by decide) km_Round_bool)
      kb_Round := (Mi.kb_own q2_Round kt_Round)
      ki_Round_Round := (Mi.ko_own q2_Round kt_Round km_Round_Round km_Round_Round)
      a_is_integer := a_is_integer
      d_is_integer := _
      F_is_integer := (fun_mk (st := s_is_integer) l_is_integer c_is_integer k_is_integer)
      b_is_integer := ((fun_mk (st := s_is_integer) l_is_integer c_is_integer k_is_integer).binds (ps := ["value"]) fun _ _ _ _ _ _ us hl => match us, hl with | [_], _ => rfl)
      g_is_integer := (PySem.W.mg_of X G e_is_integer)
      a_written_integer := a_written_integer
      d_written_integer := _
      F_written_integer := (fun_mk (st := s_written_integer) l_written_integer c_written_integer k_written_integer)
      b_written_integer := ((fun_mk (st := s_written_integer) l_written_integer c_written_integer k_written_integer).binds (ps := ["word"]) fun _ _ _ _ _ _ us hl => match us, hl with | [_], _ => rfl)
      g_written_integer := (PySem.W.mg_of X G e_written_integer)
      a_bent_lamp := a_bent_lamp
      d_bent_lamp := _
      F_bent_lamp := (fun_mk (st := s_bent_lamp) l_bent_lamp c_bent_lamp k_bent_lamp)
      b_bent_lamp := ((fun_mk (st := s_bent_lamp) l_bent_lamp c_bent_lamp k_bent_lamp).binds (ps := ["levels", "value"]) fun _ _ _ _ _ _ us hl => match us, hl with | [_, _], _ => rfl)
      g_bent_lamp := (PySem.W.mg_of X G e_bent_lamp)
      a_wrong_lamp := a_wrong_lamp
      d_wrong_lamp := _
      F_wrong_lamp := (fun_mk (st := s_wrong_lamp) l_wrong_lamp c_wrong_lamp k_wrong_lamp)
      b_wrong_lamp := ((fun_mk (st := s_wrong_lamp) l_wrong_lamp c_wrong_lamp k_wrong_lamp).binds (ps := ["levels", "value"]) fun _ _ _ _ _ _ us hl => match us, hl with | [_, _], _ => rfl)
      g_wrong_lamp := (PySem.W.mg_of X G e_wrong_lamp)
      a_are_levels := a_are_levels
      d_are_levels := _
      F_are_levels := (fun_mk (st := s_are_levels) l_are_levels c_are_levels k_are_levels)
      b_are_levels := ((fun_mk (st := s_are_levels) l_are_levels c_are_levels k_are_levels).binds (ps := ["value"]) fun _ _ _ _ _ _ us hl => match us, hl with | [_], _ => rfl)
      g_are_levels := (PySem.W.mg_of X G e_are_levels)
      a_added := a_added
      d_added := _
      F_added := (fun_mk (st := s_added) l_added c_added k_added)
      b_added := ((fun_mk (st := s_added) l_added c_added k_added).binds (ps := ["levels", "one", "other", "move", "by"]) fun _ _ _ _ _ _ us hl => match us, hl with | [_, _, _, _, _], _ => rfl)
      g_added := (PySem.W.mg_of X G e_added)
      a_Round_init := a_Round_init
      d_Round_init := _
      F_Round_init := (fun_mk (st := s_Round_init) l_Round_init c_Round_init k_Round_init)
      b_Round_init := ((fun_mk (st := s_Round_init) l_Round_init c_Round_init k_Round_init).binds (ps := ["self", "levels", "lamps", "end"]) fun _ _ _ _ _ _ us hl => match us, hl with | [_, _, _, _], _ => rfl)
      mk_Round := (⟨q9_Round, fi_Round_init, is_Round_init, qa_Round⟩)
      p_Round_read := p_Round_read
      a_Round_read := a_Round_read
      d_Round_read := _
      F_Round_read := (fun_mk (st := s_Round_read) l_Round_read c_Round_read k_Round_read)
      b_Round_read := ((fun_mk (st := s_Round_read) l_Round_read c_Round_read k_Round_read).binds (ps := ["cls", "text"]) fun _ _ _ _ _ _ us hl => match us, hl with | [_, _], _ => rfl)
      cm_Round_read := (⟨pa_Round_read, ⟨_, pr_Round_read⟩, pf_Round_read⟩)
      p_Round_levels := p_Round_levels
      a_Round_levels := a_Round_levels
      d_Round_levels := _
      F_Round_levels := (fun_mk (st := s_Round_levels) l_Round_levels c_Round_levels k_Round_levels)
      b_Round_levels := ((fun_mk (st := s_Round_levels) l_Round_levels c_Round_levels k_Round_levels).binds (ps := ["self"]) fun _ _ _ _ _ _ us hl => match us, hl with | [_], _ => rfl)
      pf_Round_levels := (⟨pa_Round_levels, pg_Round_levels, pt_Round_levels, ⟨_, pr_Round_levels⟩⟩)
      p_Round_lamps := p_Round_lamps
      a_Round_lamps := a_Round_lamps
      d_Round_lamps := _
      F_Round_lamps := (fun_mk (st := s_Round_lamps) l_Round_lamps c_Round_lamps k_Round_lamps)
      b_Round_lamps := ((fun_mk (st := s_Round_lamps) l_Round_lamps c_Round_lamps k_Round_lamps).binds (ps := ["self"]) fun _ _ _ _ _ _ us hl => match us, hl with | [_], _ => rfl)
      pf_Round_lamps := (⟨pa_Round_lamps, pg_Round_lamps, pt_Round_lamps, ⟨_, pr_Round_lamps⟩⟩)
      p_Round_end := p_Round_end
      a_Round_end := a_Round_end
      d_Round_end := _
      F_Round_end := (fun_mk (st := s_Round_end) l_Round_end c_Round_end k_Round_end)
      b_Round_end := ((fun_mk (st := s_Round_end) l_Round_end c_Round_end k_Round_end).binds (ps := ["self"]) fun _ _ _ _ _ _ us hl => match us, hl with | [_], _ => rfl)
      pf_Round_end := (⟨pa_Round_end, pg_Round_end, pt_Round_end, ⟨_, pr_Round_end⟩⟩)
      p_Round_text := p_Round_text
      a_Round_text := a_Round_text
      d_Round_text := _
      F_Round_text := (fun_mk (st := s_Round_text) l_Round_text c_Round_text k_Round_text)
      b_Round_text := ((fun_mk (st := s_Round_text) l_Round_text c_Round_text k_Round_text).binds (ps := ["self"]) fun _ _ _ _ _ _ us hl => match us, hl with | [_], _ => rfl)
      pf_Round_text := (⟨pa_Round_text, pg_Round_text, pt_Round_text, ⟨_, pr_Round_text⟩⟩)
      a_Round_len := a_Round_len
      d_Round_len := _
      F_Round_len := (fun_mk (st := s_Round_len) l_Round_len c_Round_len k_Round_len)
      b_Round_len := ((fun_mk (st := s_Round_len) l_Round_len c_Round_len k_Round_len).binds (ps := ["self"]) fun _ _ _ _ _ _ us hl => match us, hl with | [_], _ => rfl)
      mt_Round_len := (⟨fi_Round_len, is_Round_len, k_Round_len⟩)
      a_Round_bool := a_Round_bool
      d_Round_bool := _
      F_Round_bool := (fun_mk (st := s_Round_bool) l_Round_bool c_Round_bool k_Round_bool)
      b_Round_bool := ((fun_mk (st := s_Round_bool) l_Round_bool c_Round_bool k_Round_bool).binds (ps := ["self"]) fun _ _ _ _ _ _ us hl => match us, hl with | [_], _ => rfl)
      mt_Round_bool := (⟨fi_Round_bool, is_Round_bool, k_Round_bool⟩)
      a_Round_eq := a_Round_eq
      d_Round_eq := _
      F_Round_eq := (fun_mk (st := s_Round_eq) l_Round_eq c_Round_eq k_Round_eq)
      b_Round_eq := ((fun_mk (st := s_Round_eq) l_Round_eq c_Round_eq k_Round_eq).binds (ps := ["self", "other"]) fun _ _ _ _ _ _ us hl => match us, hl with | [_, _], _ => rfl)
      mt_Round_eq := (⟨fi_Round_eq, is_Round_eq, k_Round_eq⟩)
      a_Round_str := a_Round_str
      d_Round_str := _
      F_Round_str := (fun_mk (st := s_Round_str) l_Round_str c_Round_str k_Round_str)
      b_Round_str := ((fun_mk (st := s_Round_str) l_Round_str c_Round_str k_Round_str).binds (ps := ["self"]) fun _ _ _ _ _ _ us hl => match us, hl with | [_], _ => rfl)
      mt_Round_str := (⟨fi_Round_str, is_Round_str, k_Round_str⟩)
      a_Round_repr := a_Round_repr
      d_Round_repr := _
      F_Round_repr := (fun_mk (st := s_Round_repr) l_Round_repr c_Round_repr k_Round_repr)
      b_Round_repr := ((fun_mk (st := s_Round_repr) l_Round_repr c_Round_repr k_Round_repr).binds (ps := ["self"]) fun _ _ _ _ _ _ us hl => match us, hl with | [_], _ => rfl)
      mt_Round_repr := (⟨fi_Round_repr, is_Round_repr, k_Round_repr⟩)
      a_table := a_table
      d_table := _
      F_table := (fun_mk (st := s_table) l_table c_table k_table)
      b_table := ((fun_mk (st := s_table) l_table c_table k_table).binds (ps := ["trip"]) fun _ _ _ _ _ _ us hl => match us, hl with | [_], _ => rfl)
      g_table := (PySem.W.mg_of X G e_table)
      a_text_lamp := a_text_lamp
      d_text_lamp := _
      F_text_lamp := (fun_mk (st := s_text_lamp) l_text_lamp c_text_lamp k_text_lamp)
      b_text_lamp := ((fun_mk (st := s_text_lamp) l_text_lamp c_text_lamp k_text_lamp).binds (ps := ["word"]) fun _ _ _ _ _ _ us hl => match us, hl with | [_], _ => rfl)
      g_text_lamp := (PySem.W.mg_of X G e_text_lamp)
      a_text_round := a_text_round
      d_text_round := _
      F_text_round := (fun_mk (st := s_text_round) l_text_round c_text_round k_text_round)
      b_text_round := ((fun_mk (st := s_text_round) l_text_round c_text_round k_text_round).binds (ps := ["value"]) fun _ _ _ _ _ _ us hl => match us, hl with | [_], _ => rfl)
      g_text_round := (PySem.W.mg_of X G e_text_round)
      a_check_levels := a_check_levels
      d_check_levels := _
      F_check_levels := (fun_mk (st := s_check_levels) l_check_levels c_check_levels k_check_levels)
      b_check_levels := ((fun_mk (st := s_check_levels) l_check_levels c_check_levels k_check_levels).binds (ps := ["value"]) fun _ _ _ _ _ _ us hl => match us, hl with | [_], _ => rfl)
      g_check_levels := (PySem.W.mg_of X G e_check_levels)
      a_check_number := a_check_number
      d_check_number := _
      F_check_number := (fun_mk (st := s_check_number) l_check_number c_check_number k_check_number)
      b_check_number := ((fun_mk (st := s_check_number) l_check_number c_check_number k_check_number).binds (ps := ["value"]) fun _ _ _ _ _ _ us hl => match us, hl with | [_], _ => rfl)
      g_check_number := (PySem.W.mg_of X G e_check_number)
      a_check_round := a_check_round
      d_check_round := _
      F_check_round := (fun_mk (st := s_check_round) l_check_round c_check_round k_check_round)
      b_check_round := ((fun_mk (st := s_check_round) l_check_round c_check_round k_check_round).binds (ps := ["value"]) fun _ _ _ _ _ _ us hl => match us, hl with | [_], _ => rfl)
      g_check_round := (PySem.W.mg_of X G e_check_round)
      a_check_pair := a_check_pair
      d_check_pair := _
      F_check_pair := (fun_mk (st := s_check_pair) l_check_pair c_check_pair k_check_pair)
      b_check_pair := ((fun_mk (st := s_check_pair) l_check_pair c_check_pair k_check_pair).binds (ps := ["one", "other"]) fun _ _ _ _ _ _ us hl => match us, hl with | [_, _], _ => rfl)
      g_check_pair := (PySem.W.mg_of X G e_check_pair)
      a_commute := a_commute
      d_commute := _
      F_commute := (fun_mk (st := s_commute) l_commute c_commute k_commute)
      b_commute := ((fun_mk (st := s_commute) l_commute c_commute k_commute).binds (ps := ["trip", "second"]) fun _ _ _ _ _ _ us hl => match us, hl with | [_, _], _ => rfl)
      kb_commute_second_trip := (⟨fun s us ws _ l1 l2 => match us, ws, l1, l2 with | [], [_, _], _, _ => .of_eq rfl⟩)
      g_commute := (PySem.W.mg_of X G e_commute)
      a_law_well := a_law_well
      d_law_well := _
      F_law_well := (fun_mk (st := s_law_well) l_law_well c_law_well k_law_well)
      b_law_well := ((fun_mk (st := s_law_well) l_law_well c_law_well k_law_well).binds (ps := ["_law_script", "_law_spot"]) fun _ _ _ _ _ _ us hl => match us, hl with | [_, _], _ => rfl)
      g_law_well := (PySem.W.mg_of X G e_law_well)
      a_law_draw := a_law_draw
      d_law_draw := _
      F_law_draw := (fun_mk (st := s_law_draw) l_law_draw c_law_draw k_law_draw)
      b_law_draw := ((fun_mk (st := s_law_draw) l_law_draw c_law_draw k_law_draw).binds (ps := ["_law_well_here", "_law_many"]) fun _ _ _ _ _ _ us hl => match us, hl with | [_, _], _ => rfl)
      g_law_draw := (PySem.W.mg_of X G e_law_draw)
      a_law_pick := a_law_pick
      d_law_pick := _
      F_law_pick := (fun_mk (st := s_law_pick) l_law_pick c_law_pick k_law_pick)
      b_law_pick := ((fun_mk (st := s_law_pick) l_law_pick c_law_pick k_law_pick).binds (ps := ["_law_well_here", "_law_choices"]) fun _ _ _ _ _ _ us hl => match us, hl with | [_, _], _ => rfl)
      g_law_pick := (PySem.W.mg_of X G e_law_pick)
      a_law_great := a_law_great
      d_law_great := _
      F_law_great := (fun_mk (st := s_law_great) l_law_great c_law_great k_law_great)
      b_law_great := ((fun_mk (st := s_law_great) l_law_great c_law_great k_law_great).binds (ps := ["_law_well_here"]) fun _ _ _ _ _ _ us hl => match us, hl with | [_], _ => rfl)
      g_law_great := (PySem.W.mg_of X G e_law_great)
      a_law_added := a_law_added
      d_law_added := _
      F_law_added := (fun_mk (st := s_law_added) l_law_added c_law_added k_law_added)
      b_law_added := ((fun_mk (st := s_law_added) l_law_added c_law_added k_law_added).binds (ps := ["_law_levels", "_law_one_here", "_law_other", "_law_move", "_law_by"]) fun _ _ _ _ _ _ us hl => match us, hl with | [_, _, _, _, _], _ => rfl)
      g_law_added := (PySem.W.mg_of X G e_law_added)
      a_law_lamps := a_law_lamps
      d_law_lamps := _
      F_law_lamps := (fun_mk (st := s_law_lamps) l_law_lamps c_law_lamps k_law_lamps)
      b_law_lamps := ((fun_mk (st := s_law_lamps) l_law_lamps c_law_lamps k_law_lamps).binds (ps := ["_law_found"]) fun _ _ _ _ _ _ us hl => match us, hl with | [_], _ => rfl)
      g_law_lamps := (PySem.W.mg_of X G e_law_lamps)
      a_law_behind := a_law_behind
      d_law_behind := _
      F_law_behind := (fun_mk (st := s_law_behind) l_law_behind c_law_behind k_law_behind)
      b_law_behind := ((fun_mk (st := s_law_behind) l_law_behind c_law_behind k_law_behind).binds (ps := ["_law_levels", "_law_one_here", "_law_two"]) fun _ _ _ _ _ _ us hl => match us, hl with | [_, _, _], _ => rfl)
      g_law_behind := (PySem.W.mg_of X G e_law_behind)
      a_law_back := a_law_back
      d_law_back := _
      F_law_back := (fun_mk (st := s_law_back) l_law_back c_law_back k_law_back)
      b_law_back := ((fun_mk (st := s_law_back) l_law_back c_law_back k_law_back).binds (ps := ["_law_levels", "_law_one_here"]) fun _ _ _ _ _ _ us hl => match us, hl with | [_, _], _ => rfl)
      g_law_back := (PySem.W.mg_of X G e_law_back)
      a_law_times := a_law_times
      d_law_times := _
      F_law_times := (fun_mk (st := s_law_times) l_law_times c_law_times k_law_times)
      b_law_times := ((fun_mk (st := s_law_times) l_law_times c_law_times k_law_times).binds (ps := ["_law_levels", "_law_one_here", "_law_many"]) fun _ _ _ _ _ _ us hl => match us, hl with | [_, _, _], _ => rfl)
      g_law_times := (PySem.W.mg_of X G e_law_times)
      a_law_text := a_law_text
      d_law_text := _
      F_law_text := (fun_mk (st := s_law_text) l_law_text c_law_text k_law_text)
      b_law_text := ((fun_mk (st := s_law_text) l_law_text c_law_text k_law_text).binds (ps := ["_law_levels", "_law_one_here"]) fun _ _ _ _ _ _ us hl => match us, hl with | [_, _], _ => rfl)
      g_law_text := (PySem.W.mg_of X G e_law_text)
      a_law_drawn := a_law_drawn
      d_law_drawn := _
      F_law_drawn := (fun_mk (st := s_law_drawn) l_law_drawn c_law_drawn k_law_drawn)
      b_law_drawn := ((fun_mk (st := s_law_drawn) l_law_drawn c_law_drawn k_law_drawn).binds (ps := ["_law_well_here", "_law_levels", "_law_wide", "_law_ends", "_law_most"]) fun _ _ _ _ _ _ us hl => match us, hl with | [_, _, _, _, _], _ => rfl)
      g_law_drawn := (PySem.W.mg_of X G e_law_drawn)
      a_law_pair := a_law_pair
      d_law_pair := _
      F_law_pair := (fun_mk (st := s_law_pair) l_law_pair c_law_pair k_law_pair)
      b_law_pair := ((fun_mk (st := s_law_pair) l_law_pair c_law_pair k_law_pair).binds (ps := ["_law_well_here", "_law_levels"]) fun _ _ _ _ _ _ us hl => match us, hl with | [_, _], _ => rfl)
      g_law_pair := (PySem.W.mg_of X G e_law_pair)
      a_law_right := a_law_right
      d_law_right := _
      F_law_right := (fun_mk (st := s_law_right) l_law_right c_law_right k_law_right)
      b_law_right := ((fun_mk (st := s_law_right) l_law_right c_law_right k_law_right).binds (ps := ["_law_well_here"]) fun _ _ _ _ _ _ us hl => match us, hl with | [_], _ => rfl)
      g_law_right := (PySem.W.mg_of X G e_law_right)
      a_law := fa
      d_law := _
      F_law := (fun_mk (st := s_law) l_law c_law k_law)
      b_law := ((fun_mk (st := s_law) l_law c_law k_law).binds (ps := ["_law_script"]) fun _ _ _ _ _ _ us hl => match us, hl with | [_], _ => rfl)
      bt_law := (fun s v => .of_eq rfl)
      g_law := (PySem.W.mg_of X G e_law)
      n_abs := (PySem.W.mg_none_of X G n_abs)
      n_all := (PySem.W.mg_none_of X G n_all)
      n_bool := (PySem.W.mg_none_of X G n_bool)
      n_dict := (PySem.W.mg_none_of X G n_dict)
      n_divmod := (PySem.W.mg_none_of X G n_divmod)
      n_enumerate := (PySem.W.mg_none_of X G n_enumerate)
      n_int := (PySem.W.mg_none_of X G n_int)
      n_isinstance := (PySem.W.mg_none_of X G n_isinstance)
      n_len := (PySem.W.mg_none_of X G n_len)
      n_list := (PySem.W.mg_none_of X G n_list)
      n_max := (PySem.W.mg_none_of X G n_max)
      n_min := (PySem.W.mg_none_of X G n_min)
      n_range := (PySem.W.mg_none_of X G n_range)
      n_repr := (PySem.W.mg_none_of X G n_repr)
      n_sorted := (PySem.W.mg_none_of X G n_sorted)
      n_str := (PySem.W.mg_none_of X G n_str)
      n_tuple := (PySem.W.mg_none_of X G n_tuple)
      x_LEVELS := x_LEVELS
      g_LEVELS := (PySem.W.mg_of X G e_LEVELS)
      w_LEVELS := (fun _ => Or.inr ⟨_, _, _, y_LEVELS, rfl, rfl, (by show 4 ≤ sizeLine; decide), Paired.cons ⟨t0_LEVELS, rfl⟩ (Paired.cons ⟨t1_LEVELS, rfl⟩ (Paired.cons ⟨t2_LEVELS, rfl⟩ (Paired.cons ⟨t3_LEVELS, rfl⟩ (Paired.nil))))⟩)
      g_MOST_LAMPS := (⟨_, PySem.W.mg_of X G e_MOST_LAMPS⟩)
      g_DIGITS := (⟨_, PySem.W.mg_of X G e_DIGITS⟩)
    }, rfl⟩
abbrev wd {K : PySem.W.Frag} {mg : Str → Option Value} (T : Tx K mg) : Wd := ⟨K, fun c => match c with | 0 => T.C_Round | _ => T.C_Round, fun c => match c with | 0 => true | _ => true, fun c => match c with | 0 => ["own_end", "own_lamps", "own_levels"] | _ => ["own_end", "own_lamps", "own_levels"]⟩
section
variable {K : PySem.W.Frag} {mg : Str → Option Value}
theorem clM (T : Tx K mg) : ∀ c, ClM (wd T) c
  | 0 => ⟨T.pg_Round, T.ic_Round, (fun e => nomatch e)⟩
  | _ + 1 => ⟨T.pg_Round, T.ic_Round, (fun e => nomatch e)⟩
theorem clsI (T : Tx K mg) : ∀ c, ClsI (wd T) c
  | 0 => ⟨T.ic_Round, T.pg_Round, T.si_Round⟩
  | _ + 1 => ⟨T.ic_Round, T.pg_Round, T.si_Round⟩
theorem eqC_Round (T : Tx K mg) : EqC (wd T) 0 T.a_Round_eq := ⟨T.mt_Round_eq.at_, T.mt_Round_eq.fn, T.ne_Round, T.ob_Round⟩
theorem kit_int (T : Tx K mg) : ∀ c, PySem.W.kitOne K (.ref ((wd T).cC c)) (.type "int") = some false
  | 0 => T.ki_Round_int
  | _ + 1 => T.ki_Round_int
theorem kit_tuple (T : Tx K mg) : ∀ c, PySem.W.kitOne K (.ref ((wd T).cC c)) (.type "tuple") = some false
  | 0 => T.ki_Round_tuple
  | _ + 1 => T.ki_Round_tuple
theorem kit_str (T : Tx K mg) : ∀ c, PySem.W.kitOne K (.ref ((wd T).cC c)) (.type "str") = some false
  | 0 => T.ki_Round_str
  | _ + 1 => T.ki_Round_str
theorem kit_Round (T : Tx K mg) : ∀ c, c < 1 → PySem.W.kitOne K (.ref ((wd T).cC c)) (.ref ((wd T).cC 0)) = some (c == 0)
  | 0, _ => T.ki_Round_Round
  | n + 1, h => absurd h (by omega)
theorem kit_bool (T : Tx K mg) : ∀ c, PySem.W.kitOne K (.ref ((wd T).cC c)) (.type "bool") = some false
  | 0 => T.ki_Round_bool
  | _ + 1 => T.ki_Round_bool
end
end Mi
namespace Mi
open PySem PySem.Spec PyProof.Rows L2 Lamp SlX Gd
noncomputable section
variable {P : Program} {w : World} {K : PySem.W.Frag} {mg : Str → Option Value} {base : Heap}
def m_is_integer : SM := (sRet (mAnd (mUn (isiT "int") (eBor 0)) (mNot (mUn (isiT "bool") (eBor 0)))))
def fn_is_integer : Fn := runFn 1 m_is_integer
theorem ok_is_integer (T : Tx K mg) : FnM P w (wd T) mg base 2 T.a_is_integer T.d_is_integer ["value"] fn_is_integer := okM T.F_is_integer sc_is_integer (by decide) fun cdv A outer s H E ρ hgd hr => (sims_one (sims_ret (sim_and (sim_isiT (T := "int") rfl (clsI T) (by decide) (kit_int T) T.n_isinstance T.n_int (by decide +kernel) rfl rfl (sim_bor 0 rfl (by first | exact .inl rfl | exact .inr (.inl rfl) | exact .inr (.inr rfl)))) (sim_one (sim_not (sim_isiT (T := "bool") rfl (clsI T) (by decide) (kit_bool T) T.n_isinstance T.n_bool (by decide +kernel) rfl rfl (sim_bor 0 rfl (by first | exact .inl rfl | exact .inr (.inl rfl) | exact .inr (.inr rfl)))))))))
def m_are_levels : SM := (sRet (mAnd (mCall fn_is_integer [(eVar 0)]) (mUn (inK ([2, 3, 5, 7].map .int)) (eBor 0))))
def fn_are_levels : Fn := runFn 1 m_are_levels
theorem ok_are_levels (T : Tx K mg) : FnM P w (wd T) mg base 3 T.a_are_levels T.d_are_levels ["value"] fn_are_levels := okM T.F_are_levels sc_are_levels (by decide) fun cdv A outer s H E ρ hgd hr => (sims_one (sims_ret (sim_and (sim_call (ok_is_integer T) rfl hgd (hr.mono (by decide)) T.g_is_integer T.F_is_integer.kp T.b_is_integer passM rfl (sim_cons (sim_var 0 rfl (by first | exact .inl rfl | exact .inr (.inl rfl) | exact .inr (.inr rfl))) sim_nil)) (sim_one (sim_inK (ns := [2, 3, 5, 7]) rfl T.w_LEVELS (sim_bor 0 rfl (by first | exact .inl rfl | exact .inr (.inl rfl) | exact .inr (.inr rfl))) (pe_glob (v := .ref T.x_LEVELS) rfl T.g_LEVELS rfl) rfl)))))
def m_check_levels : SM := (sIf (mNot (mTru (fz (mCall fn_are_levels [(eVar 0)])))) sStuck sNil)
def fn_check_levels : Fn := runFn 1 m_check_levels
theorem ok_check_levels (T : Tx K mg) : FnM P w (wd T) mg base 4 T.a_check_levels T.d_check_levels ["value"] fn_check_levels := okM T.F_check_levels sc_check_levels (by decide) fun cdv A outer s H E ρ hgd hr => (sims_one (sims_if (simt_not (simt_tru rfl (sim_fz (sim_call (ok_are_levels T) rfl hgd (hr.mono (by decide)) T.g_are_levels T.F_are_levels.kp T.b_are_levels passM rfl (sim_cons (sim_var 0 rfl (by first | exact .inl rfl | exact .inr (.inl rfl) | exact .inr (.inr rfl))) sim_nil))))) (sims_one sims_stuck) sims_nil))
def m_Round_len : SM := (sRet (mPrim dLen [(mUn (gFld 0 1) (eBor 0))]))
def fn_Round_len : Fn := runFn 1 m_Round_len
theorem ok_Round_len (T : Tx K mg) : FnM P w (wd T) mg base 2 T.a_Round_len T.d_Round_len ["self"] fn_Round_len := okM T.F_Round_len sc_Round_len (by decide) fun cdv A outer s H E ρ hgd hr => (sims_one (sims_ret (simb (k_len rfl) T.n_len rfl (by decide +kernel) (sim_cons (sim_fld (att_slot (W := wd T) (c := 0) (i := 1) rfl rfl T.sc_Round T.sl_Round_own_lamps) (sim_bor 0 rfl (by first | exact .inl rfl | exact .inr (.inl rfl) | exact .inr (.inr rfl)))) sim_nil))))
noncomputable def b1_bent_lamp : SM := (sSeq (sIf (mOr (mNot (mTru (mUn (isiT "tuple") (eBor 3)))) (mOr (mOp (eqP true) (mPrim dLen [(eBor 3)]) (eC (.int 2))) (mOr (mNot (mTru (fz (mCall fn_is_integer [(mOp dIx (eBor 3) (eC (.int 0)))])))) (mNot (mTru (fz (mCall fn_is_integer [(mOp dIx (eBor 3) (eC (.int 1)))]))))))) (sRet (eVar 2)) sNil)
    (sIf (mOr (mNot (mChain cLtI cLtI (eC (.int 0)) (mOp dIx (eBor 3) (eC (.int 1))) (eBor 0))) (mAnd (mOp cGt (eBor 2) (eC (.int 0))) (mOp cGe (mOp dIx (mOp dIx (eBor 1) (mOp dSub (eBor 2) (eC (.int 1)))) (eC (.int 0))) (mOp dIx (eBor 3) (eC (.int 0)))))) (sRet (eVar 2)) sNil))
def m_bent_lamp : SM := (sSeq (sIf (mNot (mTru (mUn (isiT "tuple") (eBor 1)))) (sRet (mUn dNeg (eC (.int 1)))) sNil)
    (sSeq (sFor (srcA enumA [(eVar 1)]) (gTp [(gNm 2), (gNm 3)]) b1_bent_lamp)
    (sRet (eC .non))))
def fn_bent_lamp : Fn := runFn 4 m_bent_lamp
theorem ok_bent_lamp (T : Tx K mg) : FnM P w (wd T) mg base 3 T.a_bent_lamp T.d_bent_lamp ["levels", "value"] fn_bent_lamp := okM T.F_bent_lamp sc_bent_lamp (by decide) fun cdv A outer s H E ρ hgd hr => (sims_cons (sims_if (simt_not (simt_tru rfl (sim_isiT (T := "tuple") rfl (clsI T) (by decide) (kit_tuple T) T.n_isinstance T.n_tuple (by decide +kernel) rfl rfl (sim_bor 1 rfl (by first | exact .inl rfl | exact .inr (.inl rfl) | exact .inr (.inr rfl)))))) (sims_one (sims_ret (sim_neg sim_int))) sims_nil)
      (sims_cons (sims_for (passes_of rfl) rfl (PI.mixM (simi_enum rfl T.n_enumerate rfl (sim_cons (sim_var 1 rfl (by first | exact .inl rfl | exact .inr (.inl rfl) | exact .inr (.inr rfl))) sim_nil)) (simi_enumT rfl T.n_enumerate rfl (sim_cons (sim_var 1 rfl (by first | exact .inl rfl | exact .inr (.inl rfl) | exact .inr (.inr rfl))) sim_nil)) fun p => srcA_or enumA_or p) (simg_tup rfl rfl (simg_cons (simg_name 2 sc_bent_lamp.nd rfl (by first | exact .inl rfl | exact .inr rfl)) (simg_cons (simg_name 3 sc_bent_lamp.nd rfl (by first | exact .inl rfl | exact .inr rfl)) simg_nil)) rfl) (sims_cons (sims_if (PW.pt (simt_or (simt_not (simt_tru rfl (sim_isiT (T := "tuple") rfl (clsI T) (by decide) (kit_tuple T) T.n_isinstance T.n_tuple (by decide +kernel) rfl rfl (sim_bor 3 rfl (by first | exact .inl rfl | exact .inr (.inl rfl) | exact .inr (.inr rfl)))))) (simt_or (simtc (c_ne rfl hr.units) (simb (k_len rfl) T.n_len rfl (by decide +kernel) (sim_cons (sim_bor 3 rfl (by first | exact .inl rfl | exact .inr (.inl rfl) | exact .inr (.inr rfl))) sim_nil)) sim_int (nomark _)) (simt_or (simt_not (simt_tru rfl (sim_fz (sim_call (ok_is_integer T) rfl hgd (hr.mono (by decide)) T.g_is_integer T.F_is_integer.kp T.b_is_integer passM rfl (sim_cons (simx (x_any rfl (Nat.lt_of_le_of_lt (Nat.add_le_add_left (by decide) _) hr.units)) (sim_bor 3 rfl (by first | exact .inl rfl | exact .inr (.inl rfl) | exact .inr (.inr rfl))) sim_int (fun _ _ => rfl)) sim_nil))))) (simt_or1 (simt_not (simt_tru rfl (sim_fz (sim_call (ok_is_integer T) rfl hgd (hr.mono (by decide)) T.g_is_integer T.F_is_integer.kp T.b_is_integer passM rfl (sim_cons (simx (x_any rfl (Nat.lt_of_le_of_lt (Nat.add_le_add_left (by decide) _) hr.units)) (sim_bor 3 rfl (by first | exact .inl rfl | exact .inr (.inl rfl) | exact .inr (.inr rfl))) sim_int (fun _ _ => rfl)) sim_nil)))))))))) (sims_one (sims_ret (sim_var 2 rfl (by first | exact .inl rfl | exact .inr (.inl rfl) | exact .inr (.inr rfl))))) sims_nil)
      (sims_one (sims_if (PW.pt (simt_or (simt_not (simt_chain c_lt c_lt sim_int (simx (x_any rfl (Nat.lt_of_le_of_lt (Nat.add_le_add_left (by decide) _) hr.units)) (sim_bor 3 rfl (by first | exact .inl rfl | exact .inr (.inl rfl) | exact .inr (.inr rfl))) sim_int (fun _ _ => rfl)) (sim_bor 0 rfl (by first | exact .inl rfl | exact .inr (.inl rfl) | exact .inr (.inr rfl))))) (simt_or1 (PW.pt (simt_and (simtc c_gt (sim_bor 2 rfl (by first | exact .inl rfl | exact .inr (.inl rfl) | exact .inr (.inr rfl))) sim_int (nomark _)) (simt_and1 (simtc c_ge (simx (x_any rfl (Nat.lt_of_le_of_lt (Nat.add_le_add_left (by decide) _) hr.units)) (simx (x_any rfl (Nat.lt_of_le_of_lt (Nat.add_le_add_left (by decide) _) hr.units)) (sim_bor 1 rfl (by first | exact .inl rfl | exact .inr (.inl rfl) | exact .inr (.inr rfl))) (simo o_sub (sim_bor 2 rfl (by first | exact .inl rfl | exact .inr (.inl rfl) | exact .inr (.inr rfl))) sim_int) (fun _ _ => rfl)) sim_int (fun _ _ => rfl)) (simx (x_any rfl (Nat.lt_of_le_of_lt (Nat.add_le_add_left (by decide) _) hr.units)) (sim_bor 3 rfl (by first | exact .inl rfl | exact .inr (.inl rfl) | exact .inr (.inr rfl))) sim_int (fun _ _ => rfl)) (nomark _)))))))) (sims_one (sims_ret (sim_var 2 rfl (by first | exact .inl rfl | exact .inr (.inl rfl) | exact .inr (.inr rfl))))) sims_nil))))
      (sims_one (sims_ret sim_non))))
def m_wrong_lamp : SM := (sSeq (sAsg (mCall fn_bent_lamp [(eVar 0), (eVar 1)]) (gNm 2))
    (sSeq (sIf (mAnd (mTru (mUn (isiT "tuple") (eBor 1))) (mAnd (mOp cGt (mPrim dLen [(eBor 1)]) (eC (.int 400))) (mOr (mOp (isP false) (eBor 2) (eC .non)) (mOp cGt (eBor 2) (eC (.int 400)))))) (sRet (eC (.int 400))) sNil)
    (sRet (eVar 2))))
def fn_wrong_lamp : Fn := runFn 3 m_wrong_lamp
theorem ok_wrong_lamp (T : Tx K mg) : FnM P w (wd T) mg base 4 T.a_wrong_lamp T.d_wrong_lamp ["levels", "value"] fn_wrong_lamp := okM T.F_wrong_lamp sc_wrong_lamp (by decide) fun cdv A outer s H E ρ hgd hr => (sims_cons (sims_set 2 sc_wrong_lamp.nd rfl (by first | exact .inl rfl | exact .inr rfl) (sim_call (ok_bent_lamp T) rfl hgd (hr.mono (by decide)) T.g_bent_lamp T.F_bent_lamp.kp T.b_bent_lamp passM rfl (sim_cons (sim_var 0 rfl (by first | exact .inl rfl | exact .inr (.inl rfl) | exact .inr (.inr rfl))) (sim_cons (sim_var 1 rfl (by first | exact .inl rfl | exact .inr (.inl rfl) | exact .inr (.inr rfl))) sim_nil))))
      (sims_cons (sims_if (PW.pt (simt_and (simt_tru rfl (sim_isiT (T := "tuple") rfl (clsI T) (by decide) (kit_tuple T) T.n_isinstance T.n_tuple (by decide +kernel) rfl rfl (sim_bor 1 rfl (by first | exact .inl rfl | exact .inr (.inl rfl) | exact .inr (.inr rfl))))) (simt_and (simtc c_gt (simb (k_len rfl) T.n_len rfl (by decide +kernel) (sim_cons (sim_bor 1 rfl (by first | exact .inl rfl | exact .inr (.inl rfl) | exact .inr (.inr rfl))) sim_nil)) (sim_g (d := .int 400) (v := .int 400) T.g_MOST_LAMPS.choose_spec (fun _ _ => .int _) ⟨_, rfl⟩ rfl) (nomark _)) (simt_and1 (PW.pt (simt_or (simtc c_is (sim_bor 2 rfl (by first | exact .inl rfl | exact .inr (.inl rfl) | exact .inr (.inr rfl))) sim_non (nomark _)) (simt_or1 (simtc c_gt (sim_bor 2 rfl (by first | exact .inl rfl | exact .inr (.inl rfl) | exact .inr (.inr rfl))) (sim_g (d := .int 400) (v := .int 400) T.g_MOST_LAMPS.choose_spec (fun _ _ => .int _) ⟨_, rfl⟩ rfl) (nomark _))))))))) (sims_one (sims_ret (sim_g (d := .int 400) (v := .int 400) T.g_MOST_LAMPS.choose_spec (fun _ _ => .int _) ⟨_, rfl⟩ rfl))) sims_nil)
      (sims_one (sims_ret (sim_var 2 rfl (by first | exact .inl rfl | exact .inr (.inl rfl) | exact .inr (.inr rfl)))))))
def m_check_number : SM := (sIf (mNot (mTru (fz (mCall fn_is_integer [(eVar 0)])))) sStuck sNil)
def fn_check_number : Fn := runFn 1 m_check_number
theorem ok_check_number (T : Tx K mg) : FnM P w (wd T) mg base 3 T.a_check_number T.d_check_number ["value"] fn_check_number := okM T.F_check_number sc_check_number (by decide) fun cdv A outer s H E ρ hgd hr => (sims_one (sims_if (simt_not (simt_tru rfl (sim_fz (sim_call (ok_is_integer T) rfl hgd (hr.mono (by decide)) T.g_is_integer T.F_is_integer.kp T.b_is_integer passM rfl (sim_cons (sim_var 0 rfl (by first | exact .inl rfl | exact .inr (.inl rfl) | exact .inr (.inr rfl))) sim_nil))))) (sims_one sims_stuck) sims_nil))
def m_Round_init : SM := (sSeq (sExpr (mCall fn_check_levels [(eVar 1)]))
    (sSeq (sAsg (mCall fn_wrong_lamp [(eVar 1), (eVar 2)]) (gNm 4))
    (sSeq (sIf (mOp (isP true) (eBor 4) (eC .non)) sStuck sNil)
    (sSeq (sExpr (mCall fn_check_number [(eVar 3)]))
    (sSeq (sSelfC 0 2 (eVar 1))
    (sSeq (sSelfC 0 1 (eVar 2))
    (sSelfC 0 0 (eVar 3))))))))
def fn_Round_init : Fn := runInit 5 0 3 m_Round_init
theorem ok_Round_init (T : Tx K mg) : FnI P w (wd T) mg base 5 T.a_Round_init T.d_Round_init "self" ["levels", "lamps", "end"] 0 fn_Round_init := okI T.F_Round_init sc_Round_init (by decide) rfl (by decide) fun cdv A outer s H H1 E ρ hgd hr => (sims_cons (sims_expr (sim_call (ok_check_levels T) rfl hgd (hr.mono (by decide)) T.g_check_levels T.F_check_levels.kp T.b_check_levels passM rfl (sim_cons (sim_var 1 rfl (by first | exact .inl rfl | exact .inr (.inl rfl) | exact .inr (.inr rfl))) sim_nil)))
      (sims_cons (sims_set 4 sc_Round_init.nd rfl (by first | exact .inl rfl | exact .inr rfl) (sim_call (ok_wrong_lamp T) rfl hgd (hr.mono (by decide)) T.g_wrong_lamp T.F_wrong_lamp.kp T.b_wrong_lamp passM rfl (sim_cons (sim_var 1 rfl (by first | exact .inl rfl | exact .inr (.inl rfl) | exact .inr (.inr rfl))) (sim_cons (sim_var 2 rfl (by first | exact .inl rfl | exact .inr (.inl rfl) | exact .inr (.inr rfl))) sim_nil))))
      (sims_cons (sims_if (simtc c_isnot (sim_bor 4 rfl (by first | exact .inl rfl | exact .inr (.inl rfl) | exact .inr (.inr rfl))) sim_non (nomark _)) (sims_one sims_stuck) sims_nil)
      (sims_cons (sims_expr (sim_call (ok_check_number T) rfl hgd (hr.mono (by decide)) T.g_check_number T.F_check_number.kp T.b_check_number passM rfl (sim_cons (sim_var 3 rfl (by first | exact .inl rfl | exact .inr (.inl rfl) | exact .inr (.inr rfl))) sim_nil)))
      (sims_cons (sims_self 0 2 rfl rfl (by first | exact .inl rfl | exact .inr (.inl rfl) | exact .inr (.inr rfl)) rfl (show List.Nodup (["own_end", "own_lamps", "own_levels"] : List Str) from by decide) (.inl ⟨rfl, T.sc_Round, _, T.sl_Round_own_levels⟩) (sim_var 1 rfl (by first | exact .inl rfl | exact .inr (.inl rfl) | exact .inr (.inr rfl))))
      (sims_cons (sims_self 0 1 rfl rfl (by first | exact .inl rfl | exact .inr (.inl rfl) | exact .inr (.inr rfl)) rfl (show List.Nodup (["own_end", "own_lamps", "own_levels"] : List Str) from by decide) (.inl ⟨rfl, T.sc_Round, _, T.sl_Round_own_lamps⟩) (sim_var 2 rfl (by first | exact .inl rfl | exact .inr (.inl rfl) | exact .inr (.inr rfl))))
      (sims_one (sims_self 0 0 rfl rfl (by first | exact .inl rfl | exact .inr (.inl rfl) | exact .inr (.inr rfl)) rfl (show List.Nodup (["own_end", "own_lamps", "own_levels"] : List Str) from by decide) (.inl ⟨rfl, T.sc_Round, _, T.sl_Round_own_end⟩) (sim_var 3 rfl (by first | exact .inl rfl | exact .inr (.inl rfl) | exact .inr (.inr rfl)))))))))))
def m_Round_eq : SM := (sSeq (sIf (mNot (mTru (mUn (isiC 1 0) (eBor 1)))) (sRet (eC (.bl false))) sNil)
    (sSeq (sAsg (mTup [(mUn (gFld 0 2) (eBor 0)), (mUn (gFld 0 1) (eBor 0)), (mUn (gFld 0 0) (eBor 0))]) (gNm 2))
    (sRet (mOp (eqP false) (eBor 2) (mTup [(mUn (gFld 0 2) (eBor 1)), (mUn (gFld 0 1) (eBor 1)), (mUn (gFld 0 0) (eBor 1))])))))
def fn_Round_eq : Fn := runFn 3 m_Round_eq
theorem ok_Round_eq (T : Tx K mg) : FnM P w (wd T) mg base 2 T.a_Round_eq T.d_Round_eq ["self", "other"] fn_Round_eq := okM T.F_Round_eq sc_Round_eq (by decide) fun cdv A outer s H E ρ hgd hr => (sims_cons (sims_if (simt_not (simt_tru rfl (sim_isiC (n := 1) (c := 0) rfl (clsI T) T.kb_Round (kit_Round T) T.n_isinstance T.g_Round rfl rfl (sim_bor 1 rfl (by first | exact .inl rfl | exact .inr (.inl rfl) | exact .inr (.inr rfl)))))) (sims_one (sims_ret sim_bl)) sims_nil)
      (sims_cons (sims_set 2 sc_Round_eq.nd rfl (by first | exact .inl rfl | exact .inr rfl) (sim_tup (sim_cons (sim_fld (att_slot (W := wd T) (c := 0) (i := 2) rfl rfl T.sc_Round T.sl_Round_own_levels) (sim_bor 0 rfl (by first | exact .inl rfl | exact .inr (.inl rfl) | exact .inr (.inr rfl)))) (sim_cons (sim_fld (att_slot (W := wd T) (c := 0) (i := 1) rfl rfl T.sc_Round T.sl_Round_own_lamps) (sim_bor 0 rfl (by first | exact .inl rfl | exact .inr (.inl rfl) | exact .inr (.inr rfl)))) (sim_cons (sim_fld (att_slot (W := wd T) (c := 0) (i := 0) rfl rfl T.sc_Round T.sl_Round_own_end) (sim_bor 0 rfl (by first | exact .inl rfl | exact .inr (.inl rfl) | exact .inr (.inr rfl)))) sim_nil)))))
      (sims_one (sims_ret (simc (c_eq rfl hr.units) (sim_bor 2 rfl (by first | exact .inl rfl | exact .inr (.inl rfl) | exact .inr (.inr rfl))) (sim_tup (sim_cons (sim_fld (att_slot (W := wd T) (c := 0) (i := 2) rfl rfl T.sc_Round T.sl_Round_own_levels) (sim_bor 1 rfl (by first | exact .inl rfl | exact .inr (.inl rfl) | exact .inr (.inr rfl)))) (sim_cons (sim_fld (att_slot (W := wd T) (c := 0) (i := 1) rfl rfl T.sc_Round T.sl_Round_own_lamps) (sim_bor 1 rfl (by first | exact .inl rfl | exact .inr (.inl rfl) | exact .inr (.inr rfl)))) (sim_cons (sim_fld (att_slot (W := wd T) (c := 0) (i := 0) rfl rfl T.sc_Round T.sl_Round_own_end) (sim_bor 1 rfl (by first | exact .inl rfl | exact .inr (.inl rfl) | exact .inr (.inr rfl)))) sim_nil)))) (nomark _))))))
def m_law_draw : SM := (sSeq (sIf (mOp cGt (mOp dIx (eBor 0) (eC (.int 2))) (eC (.int 0))) (sSeq (sAsg (mPrim dDivmod [(mOp dIx (eBor 0) (eC (.int 2))), (eBor 1)]) (gTp [(gSubM 0 (eC (.int 2))), (gNm 2)]))
    (sRet (eVar 2))) sNil)
    (sSeq (sAsg (mOp dAdd (mOp dIx (eBor 0) (eC (.int 1))) (eC (.int 1))) (gSubM 0 (eC (.int 1))))
    (sSeq (sAsg (mPrim dInt [(mOp dIx (eBor 0) (eC (.int 0)))]) (gNm 3))
    (sSeq (sAsg (mOp dMod (mPrim dInt [(mOp dAdd (mOp dAdd (mOp dMulI (eBor 3) (eC (.int 40009))) (mOp dMulI (mOp dIx (eBor 0) (eC (.int 1))) (eC (.int 48017)))) (eC (.int 71)))]) (eC (.int 2147483629))) (gSubM 0 (eC (.int 0))))
    (sRet (mOp dMod (mPrim dInt [(mOp dDiv (mOp dIx (eBor 0) (eC (.int 0))) (eC (.int 2048)))]) (eBor 1)))))))
def fn_law_draw : Fn := runFn 4 m_law_draw
theorem ok_law_draw (T : Tx K mg) : FnM P w (wd T) mg base 2 T.a_law_draw T.d_law_draw ["_law_well_here", "_law_many"] fn_law_draw := okM T.F_law_draw sc_law_draw (by decide) fun cdv A outer s H E ρ hgd hr => (sims_cons (sims_if (simtc c_gt (simx (x_any rfl (Nat.lt_of_le_of_lt (Nat.add_le_add_left (by decide) _) hr.units)) (sim_bor 0 rfl (by first | exact .inl rfl | exact .inr (.inl rfl) | exact .inr (.inr rfl))) sim_int (fun _ _ => rfl)) sim_int (nomark _)) (sims_cons (sims_asg (simb k_divmod T.n_divmod rfl (by decide +kernel) (sim_cons (simx (x_any rfl (Nat.lt_of_le_of_lt (Nat.add_le_add_left (by decide) _) hr.units)) (sim_bor 0 rfl (by first | exact .inl rfl | exact .inr (.inl rfl) | exact .inr (.inr rfl))) sim_int (fun _ _ => rfl)) (sim_cons (sim_bor 1 rfl (by first | exact .inl rfl | exact .inr (.inl rfl) | exact .inr (.inr rfl))) sim_nil))) (simg_tup rfl rfl (simg_cons (simg_sub 0 (Nat.lt_of_le_of_lt (Nat.add_le_add_left (by decide) _) hr.units) rfl (by first | exact .inl rfl | exact .inr (.inl rfl) | exact .inr (.inr rfl)) sim_int) (simg_cons (simg_name 2 sc_law_draw.nd rfl (by first | exact .inl rfl | exact .inr rfl)) simg_nil)) rfl))
      (sims_one (sims_ret (sim_var 2 rfl (by first | exact .inl rfl | exact .inr (.inl rfl) | exact .inr (.inr rfl)))))) sims_nil)
      (sims_cons (sims_asg (simo (o_add rfl) (simx (x_any rfl (Nat.lt_of_le_of_lt (Nat.add_le_add_left (by decide) _) hr.units)) (sim_bor 0 rfl (by first | exact .inl rfl | exact .inr (.inl rfl) | exact .inr (.inr rfl))) sim_int (fun _ _ => rfl)) sim_int) (simg_sub 0 (Nat.lt_of_le_of_lt (Nat.add_le_add_left (by decide) _) hr.units) rfl (by first | exact .inl rfl | exact .inr (.inl rfl) | exact .inr (.inr rfl)) sim_int))
      (sims_cons (sims_set 3 sc_law_draw.nd rfl (by first | exact .inl rfl | exact .inr rfl) (simty k_int T.n_int rfl (by decide +kernel) (sim_cons (simx (x_any rfl (Nat.lt_of_le_of_lt (Nat.add_le_add_left (by decide) _) hr.units)) (sim_bor 0 rfl (by first | exact .inl rfl | exact .inr (.inl rfl) | exact .inr (.inr rfl))) sim_int (fun _ _ => rfl)) sim_nil)))
      (sims_cons (sims_asg (simo o_mod (simty k_int T.n_int rfl (by decide +kernel) (sim_cons (simo (o_add rfl) (simo (o_add rfl) (simo o_mulI (sim_bor 3 rfl (by first | exact .inl rfl | exact .inr (.inl rfl) | exact .inr (.inr rfl))) sim_int) (simo o_mulI (simx (x_any rfl (Nat.lt_of_le_of_lt (Nat.add_le_add_left (by decide) _) hr.units)) (sim_bor 0 rfl (by first | exact .inl rfl | exact .inr (.inl rfl) | exact .inr (.inr rfl))) sim_int (fun _ _ => rfl)) sim_int)) sim_int) sim_nil)) sim_int) (simg_sub 0 (Nat.lt_of_le_of_lt (Nat.add_le_add_left (by decide) _) hr.units) rfl (by first | exact .inl rfl | exact .inr (.inl rfl) | exact .inr (.inr rfl)) sim_int))
      (sims_one (sims_ret (simo o_mod (simty k_int T.n_int rfl (by decide +kernel) (sim_cons (simo o_div (simx (x_any rfl (Nat.lt_of_le_of_lt (Nat.add_le_add_left (by decide) _) hr.units)) (sim_bor 0 rfl (by first | exact .inl rfl | exact .inr (.inl rfl) | exact .inr (.inr rfl))) sim_int (fun _ _ => rfl)) sim_int) sim_nil)) (sim_bor 1 rfl (by first | exact .inl rfl | exact .inr (.inl rfl) | exact .inr (.inr rfl))))))))))
def m_law_pick : SM := (sRet (mOp dIx (eBor 1) (fz (mCall fn_law_draw [(eVar 0), (mPrim dLen [(eBor 1)])]))))
def fn_law_pick : Fn := runFn 2 m_law_pick
theorem ok_law_pick (T : Tx K mg) : FnM P w (wd T) mg base 3 T.a_law_pick T.d_law_pick ["_law_well_here", "_law_choices"] fn_law_pick := okM T.F_law_pick sc_law_pick (by decide) fun cdv A outer s H E ρ hgd hr => (sims_one (sims_ret (simx (x_any rfl (Nat.lt_of_le_of_lt (Nat.add_le_add_left (by decide) _) hr.units)) (sim_bor 1 rfl (by first | exact .inl rfl | exact .inr (.inl rfl) | exact .inr (.inr rfl))) (sim_fz (sim_call (ok_law_draw T) rfl hgd (hr.mono (by decide)) T.g_law_draw T.F_law_draw.kp T.b_law_draw passM rfl (sim_cons (sim_var 0 rfl (by first | exact .inl rfl | exact .inr (.inl rfl) | exact .inr (.inr rfl))) (sim_cons (simb (k_len rfl) T.n_len rfl (by decide +kernel) (sim_cons (sim_bor 1 rfl (by first | exact .inl rfl | exact .inr (.inl rfl) | exact .inr (.inr rfl))) sim_nil)) sim_nil)))) (fun _ _ => rfl))))
noncomputable def b1_law_drawn : SM := (sAsg (mOp dAdd (eC (.int 1)) (fz (mCall fn_law_draw [(eVar 0), (mOp dSub (eBor 1) (eC (.int 1)))]))) (gSubM 5 (mOp dSub (fz (mCall fn_law_draw [(eVar 0), (mOp dAdd (mOp dMulI (eC (.int 2)) (eBor 2)) (eC (.int 1)))])) (eBor 2))))
def m_law_drawn : SM := (sSeq (sAsg mDic0 (gNm 5))
    (sSeq (sFor (srcA rng1 [(fz (mCall fn_law_draw [(eVar 0), (mOp dAdd (eBor 4) (eC (.int 1)))]))]) (gNm 6) b1_law_drawn)
    (sRet (mTup [(eVar 5), (mOp dSub (fz (mCall fn_law_draw [(eVar 0), (mOp dAdd (mOp dMulI (eC (.int 2)) (eBor 3)) (eC (.int 1)))])) (eBor 3))]))))
def fn_law_drawn : Fn := runFn 7 m_law_drawn
theorem ok_law_drawn (T : Tx K mg) : FnM P w (wd T) mg base 3 T.a_law_drawn T.d_law_drawn ["_law_well_here", "_law_levels", "_law_wide", "_law_ends", "_law_most"] fn_law_drawn := okM T.F_law_drawn sc_law_drawn (by decide) fun cdv A outer s H E ρ hgd hr => (sims_cons (sims_set 5 sc_law_drawn.nd rfl (by first | exact .inl rfl | exact .inr rfl) sim_dic0)
      (sims_cons (sims_for (passes_of rfl) rfl (simi_range1 T.n_range rfl (sim_cons (sim_fz (sim_call (ok_law_draw T) rfl hgd (hr.mono (by decide)) T.g_law_draw T.F_law_draw.kp T.b_law_draw passM rfl (sim_cons (sim_var 0 rfl (by first | exact .inl rfl | exact .inr (.inl rfl) | exact .inr (.inr rfl))) (sim_cons (simo (o_add rfl) (sim_bor 4 rfl (by first | exact .inl rfl | exact .inr (.inl rfl) | exact .inr (.inr rfl))) sim_int) sim_nil)))) sim_nil)) (simg_name 6 sc_law_drawn.nd rfl (by first | exact .inl rfl | exact .inr rfl)) (sims_one (sims_asg (simo (o_add rfl) sim_int (sim_fz (sim_call (ok_law_draw T) rfl hgd (hr.mono (by decide)) T.g_law_draw T.F_law_draw.kp T.b_law_draw passM rfl (sim_cons (sim_var 0 rfl (by first | exact .inl rfl | exact .inr (.inl rfl) | exact .inr (.inr rfl))) (sim_cons (simo o_sub (sim_bor 1 rfl (by first | exact .inl rfl | exact .inr (.inl rfl) | exact .inr (.inr rfl))) sim_int) sim_nil))))) (simg_sub 5 (Nat.lt_of_le_of_lt (Nat.add_le_add_left (by decide) _) hr.units) rfl (by first | exact .inl rfl | exact .inr (.inl rfl) | exact .inr (.inr rfl)) (simo o_sub (sim_fz (sim_call (ok_law_draw T) rfl hgd (hr.mono (by decide)) T.g_law_draw T.F_law_draw.kp T.b_law_draw passM rfl (sim_cons (sim_var 0 rfl (by first | exact .inl rfl | exact .inr (.inl rfl) | exact .inr (.inr rfl))) (sim_cons (simo (o_add rfl) (simo o_mulI sim_int (sim_bor 2 rfl (by first | exact .inl rfl | exact .inr (.inl rfl) | exact .inr (.inr rfl)))) sim_int) sim_nil)))) (sim_bor 2 rfl (by first | exact .inl rfl | exact .inr (.inl rfl) | exact .inr (.inr rfl))))))))
      (sims_one (sims_ret (sim_tup (sim_cons (sim_var 5 rfl (by first | exact .inl rfl | exact .inr (.inl rfl) | exact .inr (.inr rfl))) (sim_cons (simo o_sub (sim_fz (sim_call (ok_law_draw T) rfl hgd (hr.mono (by decide)) T.g_law_draw T.F_law_draw.kp T.b_law_draw passM rfl (sim_cons (sim_var 0 rfl (by first | exact .inl rfl | exact .inr (.inl rfl) | exact .inr (.inr rfl))) (sim_cons (simo (o_add rfl) (simo o_mulI sim_int (sim_bor 3 rfl (by first | exact .inl rfl | exact .inr (.inl rfl) | exact .inr (.inr rfl)))) sim_int) sim_nil)))) (sim_bor 3 rfl (by first | exact .inl rfl | exact .inr (.inl rfl) | exact .inr (.inr rfl)))) sim_nil)))))))
noncomputable def b1_law_great : SM := (sAsg (mOp dAdd (mOp dMulI (eC (.int 1000)) (eBor 1)) (fz (mCall fn_law_draw [(eVar 0), (eC (.int 1000))]))) (gNm 1))
def m_law_great : SM := (sSeq (sAsg (eC (.int 0)) (gNm 1))
    (sSeq (sFor (srcA rng1 [(mOp dAdd (eC (.int 1)) (fz (mCall fn_law_draw [(eVar 0), (eC (.int 9))])))]) (gNm 2) b1_law_great)
    (sRet (eVar 1))))
def fn_law_great : Fn := runFn 3 m_law_great
theorem ok_law_great (T : Tx K mg) : FnM P w (wd T) mg base 3 T.a_law_great T.d_law_great ["_law_well_here"] fn_law_great := okM T.F_law_great sc_law_great (by decide) fun cdv A outer s H E ρ hgd hr => (sims_cons (sims_set 1 sc_law_great.nd rfl (by first | exact .inl rfl | exact .inr rfl) sim_int)
      (sims_cons (sims_for (passes_of rfl) rfl (simi_range1 T.n_range rfl (sim_cons (simo (o_add rfl) sim_int (sim_fz (sim_call (ok_law_draw T) rfl hgd (hr.mono (by decide)) T.g_law_draw T.F_law_draw.kp T.b_law_draw passM rfl (sim_cons (sim_var 0 rfl (by first | exact .inl rfl | exact .inr (.inl rfl) | exact .inr (.inr rfl))) (sim_cons sim_int sim_nil))))) sim_nil)) (simg_name 2 sc_law_great.nd rfl (by first | exact .inl rfl | exact .inr rfl)) (sims_one (sims_set 1 sc_law_great.nd rfl (by first | exact .inl rfl | exact .inr rfl) (simo (o_add rfl) (simo o_mulI sim_int (sim_bor 1 rfl (by first | exact .inl rfl | exact .inr (.inl rfl) | exact .inr (.inr rfl)))) (sim_fz (sim_call (ok_law_draw T) rfl hgd (hr.mono (by decide)) T.g_law_draw T.F_law_draw.kp T.b_law_draw passM rfl (sim_cons (sim_var 0 rfl (by first | exact .inl rfl | exact .inr (.inl rfl) | exact .inr (.inr rfl))) (sim_cons sim_int sim_nil))))))))
      (sims_one (sims_ret (sim_var 1 rfl (by first | exact .inl rfl | exact .inr (.inl rfl) | exact .inr (.inr rfl)))))))
noncomputable def b1_law_added : SM := (sSeq (sAsg (mOp dMod (mPrim dInt [(fz (mOp dAdd (fz (mMeth "dict" dGetS (eBor 5) [(fz (mOp dAdd (eBor 6) (eBor 3))), (eC (.int 0))])) (fz (mOp dMulI (eBor 4) (mOp dIx (eBor 2) (eBor 6))))))]) (eBor 0)) (gNm 7))
    (sAsg (eVar 7) (gSubM 5 (fz (mOp dAdd (eBor 6) (eBor 3))))))
noncomputable def t1_law_added : EM := (mOp cGt (mOp dIx (eBor 5) (eBor 6)) (eC (.int 0)))
noncomputable def e1_law_added : EM := (mTup [(eVar 6), (mOp dIx (eBor 5) (eBor 6))])
def m_law_added : SM := (sSeq (sAsg (mPrim dDict [(eVar 1)]) (gNm 5))
    (sSeq (sFor (srcE seqOf (fz (mPrim dList [(eVar 2)]))) (gNm 6) b1_law_added)
    (sRet (mPrim dDict [(fz (mLc (srcE seqOf (fz (mPrim dList [(eVar 5)]))) (gNm 6) t1_law_added e1_law_added [6]))]))))
def fn_law_added : Fn := runFn 8 m_law_added
theorem ok_law_added (T : Tx K mg) : FnM P w (wd T) mg base 2 T.a_law_added T.d_law_added ["_law_levels", "_law_one_here", "_law_other", "_law_move", "_law_by"] fn_law_added := okM T.F_law_added sc_law_added (by decide) fun cdv A outer s H E ρ hgd hr => (sims_cons (sims_set 5 sc_law_added.nd rfl (by first | exact .inl rfl | exact .inr rfl) (simty (k_dict rfl rfl) T.n_dict rfl (by decide +kernel) (sim_cons (sim_var 1 rfl (by first | exact .inl rfl | exact .inr (.inl rfl) | exact .inr (.inr rfl))) sim_nil)))
      (sims_cons (sims_for (passes_of rfl) rfl (simi rfl (sim_fz (simty (k_list rfl rfl) T.n_list rfl (by decide +kernel) (sim_cons (sim_var 2 rfl (by first | exact .inl rfl | exact .inr (.inl rfl) | exact .inr (.inr rfl))) sim_nil)))) (simg_name 6 sc_law_added.nd rfl (by first | exact .inl rfl | exact .inr rfl)) (sims_cons (sims_set 7 sc_law_added.nd rfl (by first | exact .inl rfl | exact .inr rfl) (simo o_mod (simty k_int T.n_int rfl (by decide +kernel) (sim_cons (sim_fz (simo (o_add rfl) (sim_fz (simm (m_get (Nat.lt_of_le_of_lt (Nat.add_le_add_left (by decide) _) hr.units)) PySem.F.plainAttrs_dict PySem.F.slot_dict_get PySem.F.type_dict_get (sim_bor 5 rfl (by first | exact .inl rfl | exact .inr (.inl rfl) | exact .inr (.inr rfl))) (sim_cons (sim_fz (simo (o_add rfl) (sim_bor 6 rfl (by first | exact .inl rfl | exact .inr (.inl rfl) | exact .inr (.inr rfl))) (sim_bor 3 rfl (by first | exact .inl rfl | exact .inr (.inl rfl) | exact .inr (.inr rfl))))) (sim_cons sim_int sim_nil)))) (sim_fz (simo o_mulI (sim_bor 4 rfl (by first | exact .inl rfl | exact .inr (.inl rfl) | exact .inr (.inr rfl))) (simx (x_any rfl (Nat.lt_of_le_of_lt (Nat.add_le_add_left (by decide) _) hr.units)) (sim_bor 2 rfl (by first | exact .inl rfl | exact .inr (.inl rfl) | exact .inr (.inr rfl))) (sim_bor 6 rfl (by first | exact .inl rfl | exact .inr (.inl rfl) | exact .inr (.inr rfl))) (fun _ _ => rfl)))))) sim_nil)) (sim_bor 0 rfl (by first | exact .inl rfl | exact .inr (.inl rfl) | exact .inr (.inr rfl)))))
      (sims_one (sims_asg (sim_var 7 rfl (by first | exact .inl rfl | exact .inr (.inl rfl) | exact .inr (.inr rfl))) (simg_sub 5 (Nat.lt_of_le_of_lt (Nat.add_le_add_left (by decide) _) hr.units) rfl (by first | exact .inl rfl | exact .inr (.inl rfl) | exact .inr (.inr rfl)) (sim_fz (simo (o_add rfl) (sim_bor 6 rfl (by first | exact .inl rfl | exact .inr (.inl rfl) | exact .inr (.inr rfl))) (sim_bor 3 rfl (by first | exact .inl rfl | exact .inr (.inl rfl) | exact .inr (.inr rfl))))))))))
      (sims_one (sims_ret (simty (k_dict rfl rfl) T.n_dict rfl (by decide +kernel) (sim_cons (sim_fz (sim_lc (own := [("_law_place_here", 6)]) rfl sc_law_added.nd (simi rfl (sim_fz (simty (k_list rfl rfl) T.n_list rfl (by decide +kernel) (sim_cons (sim_var 5 rfl (by first | exact .inl rfl | exact .inr (.inl rfl) | exact .inr (.inr rfl))) sim_nil)))) (blkOk_by (own := [("_law_place_here", 6)]) (N := ["_law_levels", "_law_one_here", "_law_other", "_law_move", "_law_by", "_law_found", "_law_place_here", "_law_level"]) (sc := defScope s_law_added) (by decide +kernel)) (by decide) (fun _ _ _ _ _ => (simg_name 6 sc_law_added.nd rfl (by first | exact .inl rfl | exact .inr rfl) (Or.inr rfl))) (fun _ _ _ _ _ => (simts_one (simtc c_gt (simx (x_any rfl (Nat.lt_of_le_of_lt (Nat.add_le_add_left (by decide) _) hr.units)) (sim_bor 5 rfl (by first | exact .inl rfl | exact .inr (.inl rfl) | exact .inr (.inr rfl))) (sim_bor 6 rfl (by first | exact .inl rfl | exact .inr (.inl rfl) | exact .inr (.inr rfl))) (fun _ _ => rfl)) sim_int (nomark _)))) (fun _ _ _ _ _ => (sim_tup (sim_cons (sim_var 6 rfl (by first | exact .inl rfl | exact .inr (.inl rfl) | exact .inr (.inr rfl))) (sim_cons (simx (x_any rfl (Nat.lt_of_le_of_lt (Nat.add_le_add_left (by decide) _) hr.units)) (sim_bor 5 rfl (by first | exact .inl rfl | exact .inr (.inl rfl) | exact .inr (.inr rfl))) (sim_bor 6 rfl (by first | exact .inl rfl | exact .inr (.inl rfl) | exact .inr (.inr rfl))) (fun _ _ => rfl)) sim_nil)))))) sim_nil))))))
def m_law_behind : SM := (sRet (mTup [(fz (mCall fn_law_added [(eVar 0), (mOp dIx (eBor 1) (eC (.int 0))), (mOp dIx (eBor 2) (eC (.int 0))), (mOp dIx (eBor 1) (eC (.int 1))), (eC (.int 1))])), (fz (mOp dAdd (mOp dIx (eBor 1) (eC (.int 1))) (mOp dIx (eBor 2) (eC (.int 1)))))]))
def fn_law_behind : Fn := runFn 3 m_law_behind
theorem ok_law_behind (T : Tx K mg) : FnM P w (wd T) mg base 3 T.a_law_behind T.d_law_behind ["_law_levels", "_law_one_here", "_law_two"] fn_law_behind := okM T.F_law_behind sc_law_behind (by decide) fun cdv A outer s H E ρ hgd hr => (sims_one (sims_ret (sim_tup (sim_cons (sim_fz (sim_call (ok_law_added T) rfl hgd (hr.mono (by decide)) T.g_law_added T.F_law_added.kp T.b_law_added passM rfl (sim_cons (sim_var 0 rfl (by first | exact .inl rfl | exact .inr (.inl rfl) | exact .inr (.inr rfl))) (sim_cons (simx (x_any rfl (Nat.lt_of_le_of_lt (Nat.add_le_add_left (by decide) _) hr.units)) (sim_bor 1 rfl (by first | exact .inl rfl | exact .inr (.inl rfl) | exact .inr (.inr rfl))) sim_int (fun _ _ => rfl)) (sim_cons (simx (x_any rfl (Nat.lt_of_le_of_lt (Nat.add_le_add_left (by decide) _) hr.units)) (sim_bor 2 rfl (by first | exact .inl rfl | exact .inr (.inl rfl) | exact .inr (.inr rfl))) sim_int (fun _ _ => rfl)) (sim_cons (simx (x_any rfl (Nat.lt_of_le_of_lt (Nat.add_le_add_left (by decide) _) hr.units)) (sim_bor 1 rfl (by first | exact .inl rfl | exact .inr (.inl rfl) | exact .inr (.inr rfl))) sim_int (fun _ _ => rfl)) (sim_cons sim_int sim_nil))))))) (sim_cons (sim_fz (simo (o_add rfl) (simx (x_any rfl (Nat.lt_of_le_of_lt (Nat.add_le_add_left (by decide) _) hr.units)) (sim_bor 1 rfl (by first | exact .inl rfl | exact .inr (.inl rfl) | exact .inr (.inr rfl))) sim_int (fun _ _ => rfl)) (simx (x_any rfl (Nat.lt_of_le_of_lt (Nat.add_le_add_left (by decide) _) hr.units)) (sim_bor 2 rfl (by first | exact .inl rfl | exact .inr (.inl rfl) | exact .inr (.inr rfl))) sim_int (fun _ _ => rfl)))) sim_nil)))))
def m_law_back : SM := (sRet (mTup [(fz (mCall fn_law_added [(eVar 0), (fz mDic0), (mOp dIx (eBor 1) (eC (.int 0))), (mOp dSub (eC (.int 0)) (mOp dIx (eBor 1) (eC (.int 1)))), (mUn dNeg (eC (.int 1)))])), (mOp dSub (eC (.int 0)) (mOp dIx (eBor 1) (eC (.int 1))))]))
def fn_law_back : Fn := runFn 2 m_law_back
theorem ok_law_back (T : Tx K mg) : FnM P w (wd T) mg base 3 T.a_law_back T.d_law_back ["_law_levels", "_law_one_here"] fn_law_back := okM T.F_law_back sc_law_back (by decide) fun cdv A outer s H E ρ hgd hr => (sims_one (sims_ret (sim_tup (sim_cons (sim_fz (sim_call (ok_law_added T) rfl hgd (hr.mono (by decide)) T.g_law_added T.F_law_added.kp T.b_law_added passM rfl (sim_cons (sim_var 0 rfl (by first | exact .inl rfl | exact .inr (.inl rfl) | exact .inr (.inr rfl))) (sim_cons (sim_fz sim_dic0) (sim_cons (simx (x_any rfl (Nat.lt_of_le_of_lt (Nat.add_le_add_left (by decide) _) hr.units)) (sim_bor 1 rfl (by first | exact .inl rfl | exact .inr (.inl rfl) | exact .inr (.inr rfl))) sim_int (fun _ _ => rfl)) (sim_cons (simo o_sub sim_int (simx (x_any rfl (Nat.lt_of_le_of_lt (Nat.add_le_add_left (by decide) _) hr.units)) (sim_bor 1 rfl (by first | exact .inl rfl | exact .inr (.inl rfl) | exact .inr (.inr rfl))) sim_int (fun _ _ => rfl))) (sim_cons (sim_neg sim_int) sim_nil))))))) (sim_cons (simo o_sub sim_int (simx (x_any rfl (Nat.lt_of_le_of_lt (Nat.add_le_add_left (by decide) _) hr.units)) (sim_bor 1 rfl (by first | exact .inl rfl | exact .inr (.inl rfl) | exact .inr (.inr rfl))) sim_int (fun _ _ => rfl))) sim_nil)))))
noncomputable def b1_law_times : SM := (sAsg (mCall fn_law_behind [(eVar 0), (eVar 3), (eVar 1)]) (gNm 3))
def m_law_times : SM := (sSeq (sIf (mOp cLtI (eBor 2) (eC (.int 0))) (sPar 1 2 (mCall fn_law_back [(eVar 0), (eVar 1)]) (mOp dSub (eC (.int 0)) (eBor 2))) sNil)
    (sSeq (sAsg (mTup [(fz mDic0), (eC (.int 0))]) (gNm 3))
    (sSeq (sFor (srcA rng1 [(eVar 2)]) (gNm 4) b1_law_times)
    (sRet (eVar 3)))))
def fn_law_times : Fn := runFn 5 m_law_times
theorem ok_law_times (T : Tx K mg) : FnM P w (wd T) mg base 4 T.a_law_times T.d_law_times ["_law_levels", "_law_one_here", "_law_many"] fn_law_times := okM T.F_law_times sc_law_times (by decide) fun cdv A outer s H E ρ hgd hr => (sims_cons (sims_if (simtc c_lt (sim_bor 2 rfl (by first | exact .inl rfl | exact .inr (.inl rfl) | exact .inr (.inr rfl))) sim_int (nomark _)) (sims_one (sims_par 1 2 rfl sc_law_times.nd rfl rfl (by decide) rfl rfl (sim_call (ok_law_back T) rfl hgd (hr.mono (by decide)) T.g_law_back T.F_law_back.kp T.b_law_back passM rfl (sim_cons (sim_var 0 rfl (by first | exact .inl rfl | exact .inr (.inl rfl) | exact .inr (.inr rfl))) (sim_cons (sim_var 1 rfl (by first | exact .inl rfl | exact .inr (.inl rfl) | exact .inr (.inr rfl))) sim_nil))) (simo o_sub sim_int (sim_bor 2 rfl (by first | exact .inl rfl | exact .inr (.inl rfl) | exact .inr (.inr rfl)))) rfl)) sims_nil)
      (sims_cons (sims_set 3 sc_law_times.nd rfl (by first | exact .inl rfl | exact .inr rfl) (sim_tup (sim_cons (sim_fz sim_dic0) (sim_cons sim_int sim_nil))))
      (sims_cons (sims_for (passes_of rfl) rfl (simi_range1 T.n_range rfl (sim_cons (sim_var 2 rfl (by first | exact .inl rfl | exact .inr (.inl rfl) | exact .inr (.inr rfl))) sim_nil)) (simg_name 4 sc_law_times.nd rfl (by first | exact .inl rfl | exact .inr rfl)) (sims_one (sims_set 3 sc_law_times.nd rfl (by first | exact .inl rfl | exact .inr rfl) (sim_call (ok_law_behind T) rfl hgd (hr.mono (by decide)) T.g_law_behind T.F_law_behind.kp T.b_law_behind passM rfl (sim_cons (sim_var 0 rfl (by first | exact .inl rfl | exact .inr (.inl rfl) | exact .inr (.inr rfl))) (sim_cons (sim_var 3 rfl (by first | exact .inl rfl | exact .inr (.inl rfl) | exact .inr (.inr rfl))) (sim_cons (sim_var 1 rfl (by first | exact .inl rfl | exact .inr (.inl rfl) | exact .inr (.inr rfl))) sim_nil)))))))
      (sims_one (sims_ret (sim_var 3 rfl (by first | exact .inl rfl | exact .inr (.inl rfl) | exact .inr (.inr rfl))))))))
def m_law_pair : SM := (sSeq (sPar 2 3 (mCall fn_law_drawn [(eVar 0), (eVar 1), (eC (.int 4)), (eC (.int 3)), (eC (.int 4))]) (mCall fn_law_drawn [(eVar 0), (eVar 1), (eC (.int 4)), (eC (.int 3)), (eC (.int 4))]))
    (sSeq (sAsg (mCall fn_law_draw [(eVar 0), (eC (.int 4))]) (gNm 4))
    (sSeq (sIf (mOp (eqP false) (eBor 4) (eC (.int 0))) (sRet (mTup [(fz (mCall fn_law_times [(eVar 1), (eVar 2), (fz (mCall fn_law_draw [(eVar 0), (eC (.int 4))]))])), (fz (mCall fn_law_times [(eVar 1), (eVar 2), (mOp dSub (fz (mCall fn_law_draw [(eVar 0), (eC (.int 7))])) (eC (.int 3)))]))])) sNil)
    (sSeq (sIf (mOp (eqP false) (eBor 4) (eC (.int 1))) (sRet (mTup [(mTup [(mOp dIx (eBor 2) (eC (.int 0))), (eC (.int 0))]), (mTup [(mOp dIx (eBor 3) (eC (.int 0))), (eC (.int 0))])])) sNil)
    (sSeq (sIf (mOp (eqP false) (eBor 4) (eC (.int 2))) (sSeq (sAsg (mCall fn_law_great [(eVar 0)]) (gNm 5))
    (sRet (mTup [(mTup [(fz mDic0), (eVar 5)]), (mTup [(fz mDic0), (mOp dIx (eBor 3) (eC (.int 1)))])]))) sNil)
    (sRet (mTup [(eVar 2), (eVar 3)])))))))
def fn_law_pair : Fn := runFn 6 m_law_pair
theorem ok_law_pair (T : Tx K mg) : FnM P w (wd T) mg base 5 T.a_law_pair T.d_law_pair ["_law_well_here", "_law_levels"] fn_law_pair := okM T.F_law_pair sc_law_pair (by decide) fun cdv A outer s H E ρ hgd hr => (sims_cons (sims_par 2 3 rfl sc_law_pair.nd rfl rfl (by decide) rfl rfl (sim_call (ok_law_drawn T) rfl hgd (hr.mono (by decide)) T.g_law_drawn T.F_law_drawn.kp T.b_law_drawn passM rfl (sim_cons (sim_var 0 rfl (by first | exact .inl rfl | exact .inr (.inl rfl) | exact .inr (.inr rfl))) (sim_cons (sim_var 1 rfl (by first | exact .inl rfl | exact .inr (.inl rfl) | exact .inr (.inr rfl))) (sim_cons sim_int (sim_cons sim_int (sim_cons sim_int sim_nil)))))) (sim_call (ok_law_drawn T) rfl hgd (hr.mono (by decide)) T.g_law_drawn T.F_law_drawn.kp T.b_law_drawn passM rfl (sim_cons (sim_var 0 rfl (by first | exact .inl rfl | exact .inr (.inl rfl) | exact .inr (.inr rfl))) (sim_cons (sim_var 1 rfl (by first | exact .inl rfl | exact .inr (.inl rfl) | exact .inr (.inr rfl))) (sim_cons sim_int (sim_cons sim_int (sim_cons sim_int sim_nil)))))) rfl)
      (sims_cons (sims_set 4 sc_law_pair.nd rfl (by first | exact .inl rfl | exact .inr rfl) (sim_call (ok_law_draw T) rfl hgd (hr.mono (by decide)) T.g_law_draw T.F_law_draw.kp T.b_law_draw passM rfl (sim_cons (sim_var 0 rfl (by first | exact .inl rfl | exact .inr (.inl rfl) | exact .inr (.inr rfl))) (sim_cons sim_int sim_nil))))
      (sims_cons (sims_if (simtc (c_eq rfl hr.units) (sim_bor 4 rfl (by first | exact .inl rfl | exact .inr (.inl rfl) | exact .inr (.inr rfl))) sim_int (nomark _)) (sims_one (sims_ret (sim_tup (sim_cons (sim_fz (sim_call (ok_law_times T) rfl hgd (hr.mono (by decide)) T.g_law_times T.F_law_times.kp T.b_law_times passM rfl (sim_cons (sim_var 1 rfl (by first | exact .inl rfl | exact .inr (.inl rfl) | exact .inr (.inr rfl))) (sim_cons (sim_var 2 rfl (by first | exact .inl rfl | exact .inr (.inl rfl) | exact .inr (.inr rfl))) (sim_cons (sim_fz (sim_call (ok_law_draw T) rfl hgd (hr.mono (by decide)) T.g_law_draw T.F_law_draw.kp T.b_law_draw passM rfl (sim_cons (sim_var 0 rfl (by first | exact .inl rfl | exact .inr (.inl rfl) | exact .inr (.inr rfl))) (sim_cons sim_int sim_nil)))) sim_nil))))) (sim_cons (sim_fz (sim_call (ok_law_times T) rfl hgd (hr.mono (by decide)) T.g_law_times T.F_law_times.kp T.b_law_times passM rfl (sim_cons (sim_var 1 rfl (by first | exact .inl rfl | exact .inr (.inl rfl) | exact .inr (.inr rfl))) (sim_cons (sim_var 2 rfl (by first | exact .inl rfl | exact .inr (.inl rfl) | exact .inr (.inr rfl))) (sim_cons (simo o_sub (sim_fz (sim_call (ok_law_draw T) rfl hgd (hr.mono (by decide)) T.g_law_draw T.F_law_draw.kp T.b_law_draw passM rfl (sim_cons (sim_var 0 rfl (by first | exact .inl rfl | exact .inr (.inl rfl) | exact .inr (.inr rfl))) (sim_cons sim_int sim_nil)))) sim_int) sim_nil))))) sim_nil))))) sims_nil)
      (sims_cons (sims_if (simtc (c_eq rfl hr.units) (sim_bor 4 rfl (by first | exact .inl rfl | exact .inr (.inl rfl) | exact .inr (.inr rfl))) sim_int (nomark _)) (sims_one (sims_ret (sim_tup (sim_cons (sim_tup (sim_cons (simx (x_any rfl (Nat.lt_of_le_of_lt (Nat.add_le_add_left (by decide) _) hr.units)) (sim_bor 2 rfl (by first | exact .inl rfl | exact .inr (.inl rfl) | exact .inr (.inr rfl))) sim_int (fun _ _ => rfl)) (sim_cons sim_int sim_nil))) (sim_cons (sim_tup (sim_cons (simx (x_any rfl (Nat.lt_of_le_of_lt (Nat.add_le_add_left (by decide) _) hr.units)) (sim_bor 3 rfl (by first | exact .inl rfl | exact .inr (.inl rfl) | exact .inr (.inr rfl))) sim_int (fun _ _ => rfl)) (sim_cons sim_int sim_nil))) sim_nil))))) sims_nil)
      (sims_cons (sims_if (simtc (c_eq rfl hr.units) (sim_bor 4 rfl (by first | exact .inl rfl | exact .inr (.inl rfl) | exact .inr (.inr rfl))) sim_int (nomark _)) (sims_cons (sims_set 5 sc_law_pair.nd rfl (by first | exact .inl rfl | exact .inr rfl) (sim_call (ok_law_great T) rfl hgd (hr.mono (by decide)) T.g_law_great T.F_law_great.kp T.b_law_great passM rfl (sim_cons (sim_var 0 rfl (by first | exact .inl rfl | exact .inr (.inl rfl) | exact .inr (.inr rfl))) sim_nil)))
      (sims_one (sims_ret (sim_tup (sim_cons (sim_tup (sim_cons (sim_fz sim_dic0) (sim_cons (sim_var 5 rfl (by first | exact .inl rfl | exact .inr (.inl rfl) | exact .inr (.inr rfl))) sim_nil))) (sim_cons (sim_tup (sim_cons (sim_fz sim_dic0) (sim_cons (simx (x_any rfl (Nat.lt_of_le_of_lt (Nat.add_le_add_left (by decide) _) hr.units)) (sim_bor 3 rfl (by first | exact .inl rfl | exact .inr (.inl rfl) | exact .inr (.inr rfl))) sim_int (fun _ _ => rfl)) sim_nil))) sim_nil)))))) sims_nil)
      (sims_one (sims_ret (sim_tup (sim_cons (sim_var 2 rfl (by first | exact .inl rfl | exact .inr (.inl rfl) | exact .inr (.inr rfl))) (sim_cons (sim_var 3 rfl (by first | exact .inl rfl | exact .inr (.inl rfl) | exact .inr (.inr rfl))) sim_nil))))))))))
noncomputable def e1_written_integer : EM := (mOp cIn (eBor 2) (eC (.str "0123456789")))
def m_written_integer : SM := (sSeq (sAsg (mIf (mOp (eqP false) (fz (mSl dSl (eBor 0) none (some (eC (.int 1))))) (eC (.str "-"))) (mSl dSl (eBor 0) (some (eC (.int 1))) none) (eVar 0)) (gNm 1))
    (sSeq (sIf (mOr (mOp (eqP false) (eBor 1) (eC (.str ""))) (mOr (mOp cGt (mPrim dLen [(eBor 1)]) (eC (.int 4000))) (mNot (mTru (mPrim dAll [(fz (mLc (srcE seqOf (eVar 1)) (gNm 2) (eC (.bl true)) e1_written_integer [2]))]))))) (sRet (eC .non)) sNil)
    (sRet (mIf (mOp (eqP false) (mPrim dStr [(mPrim dInt [(eBor 0)])]) (eBor 0)) (mPrim dInt [(eBor 0)]) (eC .non)))))
def fn_written_integer : Fn := runFn 3 m_written_integer
theorem ok_written_integer (T : Tx K mg) : FnM P w (wd T) mg base 2 T.a_written_integer T.d_written_integer ["word"] fn_written_integer := okM T.F_written_integer sc_written_integer (by decide) fun cdv A outer s H E ρ hgd hr => (sims_cons (sims_set 1 sc_written_integer.nd rfl (by first | exact .inl rfl | exact .inr rfl) (sim_if (simtc (c_eq rfl hr.units) (sim_fz (sim_sl rfl (sim_bor 0 rfl (by first | exact .inl rfl | exact .inr (.inl rfl) | exact .inr (.inr rfl))) so_none (so_some sim_int))) sim_str (nomark _)) (sim_sl rfl (sim_bor 0 rfl (by first | exact .inl rfl | exact .inr (.inl rfl) | exact .inr (.inr rfl))) (so_some sim_int) so_none) (sim_var 0 rfl (by first | exact .inl rfl | exact .inr (.inl rfl) | exact .inr (.inr rfl)))))
      (sims_cons (sims_if (PW.pt (simt_or (simtc (c_eq rfl hr.units) (sim_bor 1 rfl (by first | exact .inl rfl | exact .inr (.inl rfl) | exact .inr (.inr rfl))) sim_str (nomark _)) (simt_or (simtc c_gt (simb (k_len rfl) T.n_len rfl (by decide +kernel) (sim_cons (sim_bor 1 rfl (by first | exact .inl rfl | exact .inr (.inl rfl) | exact .inr (.inr rfl))) sim_nil)) sim_int (nomark _)) (simt_or1 (simt_not (simt_tru rfl (simb (k_all rfl rfl) T.n_all rfl (by decide +kernel) (sim_cons (sim_fz (sim_lc (own := [("sign", 2)]) rfl sc_written_integer.nd (simi rfl (sim_var 1 rfl (by first | exact .inl rfl | exact .inr (.inl rfl) | exact .inr (.inr rfl)))) (blkOk_by (own := [("sign", 2)]) (N := ["word", "digits", "sign"]) (sc := defScope s_written_integer) (by decide +kernel)) (by decide) (fun _ _ _ _ _ => (simg_name 2 sc_written_integer.nd rfl (by first | exact .inl rfl | exact .inr rfl) (Or.inr rfl))) (fun _ _ _ _ _ => simts_nil) (fun _ _ _ _ _ => (simc (c_in rfl (Nat.lt_of_le_of_lt (Nat.add_le_add_left (by decide) _) hr.units)) (sim_bor 2 rfl (by first | exact .inl rfl | exact .inr (.inl rfl) | exact .inr (.inr rfl))) (sim_g (d := .str "0123456789") (v := .str "0123456789") T.g_DIGITS.choose_spec (fun _ _ => .str _) ⟨_, rfl⟩ rfl) rfl)))) sim_nil)))))))) (sims_one (sims_ret sim_non)) sims_nil)
      (sims_one (sims_ret (sim_if (simtc (c_eq rfl hr.units) (simty k_str T.n_str rfl (by decide +kernel) (sim_cons (simty k_int T.n_int rfl (by decide +kernel) (sim_cons (sim_bor 0 rfl (by first | exact .inl rfl | exact .inr (.inl rfl) | exact .inr (.inr rfl))) sim_nil)) sim_nil)) (sim_bor 0 rfl (by first | exact .inl rfl | exact .inr (.inl rfl) | exact .inr (.inr rfl))) (nomark _)) (simty k_int T.n_int rfl (by decide +kernel) (sim_cons (sim_bor 0 rfl (by first | exact .inl rfl | exact .inr (.inl rfl) | exact .inr (.inr rfl))) sim_nil)) sim_non)))))
noncomputable def e1_text_lamp : EM := (fz (mCall fn_written_integer [(eVar 2)]))
def m_text_lamp : SM := (sSeq (sAsg (mLc (srcE seqOf (fz (mMeth "str" mSplit (eBor 0) [(eC (.str ":"))]))) (gNm 2) (eC (.bl true)) e1_text_lamp [2]) (gNm 1))
    (sRet (mIf (mOr (mOp (eqP true) (mPrim dLen [(eBor 1)]) (eC (.int 2))) (mOp cIn (eC .non) (eBor 1))) (mTup []) (mPrim dTuple [(eVar 1)]))))
def fn_text_lamp : Fn := runFn 3 m_text_lamp
theorem ok_text_lamp (T : Tx K mg) : FnM P w (wd T) mg base 3 T.a_text_lamp T.d_text_lamp ["word"] fn_text_lamp := okM T.F_text_lamp sc_text_lamp (by decide) fun cdv A outer s H E ρ hgd hr => (sims_cons (sims_setLc 1 (own := [("part", 2)]) rfl sc_text_lamp.nd rfl rfl (sw_true rfl rfl rfl (by decide +kernel)) (simi rfl (sim_fz (simm m_split PySem.F.plainAttrs_str PySem.F.slot_str_split PySem.F.type_str_split (sim_bor 0 rfl (by first | exact .inl rfl | exact .inr (.inl rfl) | exact .inr (.inr rfl))) (sim_cons sim_str sim_nil)))) (blkOk_by (own := [("part", 2)]) (N := ["word", "parts", "part"]) (sc := defScope s_text_lamp) (by decide +kernel)) (by decide) (fun _ _ _ _ _ => (simg_name 2 sc_text_lamp.nd rfl (by first | exact .inl rfl | exact .inr rfl) (Or.inr rfl))) (fun _ _ _ _ _ => simts_nil) (fun _ _ _ _ _ => (sim_fz (sim_call (ok_written_integer T) rfl hgd (hr.mono (by decide)) T.g_written_integer T.F_written_integer.kp T.b_written_integer passE rfl (sim_cons (sim_var 2 rfl (by first | exact .inl rfl | exact .inr (.inl rfl) | exact .inr (.inr rfl))) sim_nil)))))
      (sims_one (sims_ret (sim_if (PW.pt (simt_or (simtc (c_ne rfl hr.units) (simb (k_len rfl) T.n_len rfl (by decide +kernel) (sim_cons (sim_bor 1 rfl (by first | exact .inl rfl | exact .inr (.inl rfl) | exact .inr (.inr rfl))) sim_nil)) sim_int (nomark _)) (simt_or1 (simtc (c_in rfl (Nat.lt_of_le_of_lt (Nat.add_le_add_left (by decide) _) hr.units)) sim_non (sim_bor 1 rfl (by first | exact .inl rfl | exact .inr (.inl rfl) | exact .inr (.inr rfl))) rfl)))) (sim_tup sim_nil) (simty (k_tuple rfl) T.n_tuple rfl (by decide +kernel) (sim_cons (sim_var 1 rfl (by first | exact .inl rfl | exact .inr (.inl rfl) | exact .inr (.inr rfl))) sim_nil))))))
noncomputable def e1_text_round : EM := (fz (mCall fn_text_lamp [(eVar 5)]))
def m_text_round : SM := (sSeq (sIf (mNot (mTru (mUn (isiT "str") (eBor 0)))) (sRet (eC .non)) sNil)
    (sSeq (sAsg (mMeth "str" mSplit (eBor 0) [(eC (.str " "))]) (gNm 1))
    (sSeq (sIf (mOr (mOp cLtI (mPrim dLen [(eBor 1)]) (eC (.int 5))) (mOr (mOp (eqP true) (mOp dIx (eBor 1) (eC (.int 0))) (eC (.str "levels"))) (mOr (mOp (eqP true) (mOp dIx (eBor 1) (eC (.int 2))) (eC (.str "end"))) (mOp cNotIn (mOp dIx (eBor 1) (eC (.int 4))) (mTup [(eC (.str "dark")), (eC (.str "lamps"))]))))) (sRet (eC .non)) sNil)
    (sSeq (sPar 2 3 (mCall fn_written_integer [(mOp dIx (eBor 1) (eC (.int 1)))]) (mCall fn_written_integer [(mOp dIx (eBor 1) (eC (.int 3)))]))
    (sSeq (sIf (mOr (mNot (mTru (fz (mCall fn_are_levels [(eVar 2)])))) (mOr (mOp (isP false) (eBor 3) (eC .non)) (mOp (eqP true) (mOp (eqP false) (mPrim dLen [(eBor 1)]) (eC (.int 5))) (mOp (eqP false) (mOp dIx (eBor 1) (eC (.int 4))) (eC (.str "dark")))))) (sRet (eC .non)) sNil)
    (sSeq (sAsg (mPrim dTuple [(fz (mLc (srcE seqOf (fz (mSl dSl (eBor 1) (some (eC (.int 5))) none))) (gNm 5) (eC (.bl true)) e1_text_round [5]))]) (gNm 4))
    (sRet (mIf (mOp (isP false) (fz (mCall fn_wrong_lamp [(eVar 2), (eVar 4)])) (eC .non)) (mCall fn_Round_init [(eVar 2), (eVar 4), (eVar 3)]) (eC .non)))))))))
def fn_text_round : Fn := runFn 6 m_text_round
theorem ok_text_round (T : Tx K mg) : FnM P w (wd T) mg base 7 T.a_text_round T.d_text_round ["value"] fn_text_round := okM T.F_text_round sc_text_round (by decide) fun cdv A outer s H E ρ hgd hr => (sims_cons (sims_if (simt_not (simt_tru rfl (sim_isiT (T := "str") rfl (clsI T) (by decide) (kit_str T) T.n_isinstance T.n_str (by decide +kernel) rfl rfl (sim_bor 0 rfl (by first | exact .inl rfl | exact .inr (.inl rfl) | exact .inr (.inr rfl)))))) (sims_one (sims_ret sim_non)) sims_nil)
      (sims_cons (sims_set 1 sc_text_round.nd rfl (by first | exact .inl rfl | exact .inr rfl) (simm m_split PySem.F.plainAttrs_str PySem.F.slot_str_split PySem.F.type_str_split (sim_bor 0 rfl (by first | exact .inl rfl | exact .inr (.inl rfl) | exact .inr (.inr rfl))) (sim_cons sim_str sim_nil)))
      (sims_cons (sims_if (PW.pt (simt_or (simtc c_lt (simb (k_len rfl) T.n_len rfl (by decide +kernel) (sim_cons (sim_bor 1 rfl (by first | exact .inl rfl | exact .inr (.inl rfl) | exact .inr (.inr rfl))) sim_nil)) sim_int (nomark _)) (simt_or (simtc (c_ne rfl hr.units) (simx (x_any rfl (Nat.lt_of_le_of_lt (Nat.add_le_add_left (by decide) _) hr.units)) (sim_bor 1 rfl (by first | exact .inl rfl | exact .inr (.inl rfl) | exact .inr (.inr rfl))) sim_int (fun _ _ => rfl)) sim_str (nomark _)) (simt_or (simtc (c_ne rfl hr.units) (simx (x_any rfl (Nat.lt_of_le_of_lt (Nat.add_le_add_left (by decide) _) hr.units)) (sim_bor 1 rfl (by first | exact .inl rfl | exact .inr (.inl rfl) | exact .inr (.inr rfl))) sim_int (fun _ _ => rfl)) sim_str (nomark _)) (simt_or1 (simtc (c_notin rfl (Nat.lt_of_le_of_lt (Nat.add_le_add_left (by decide) _) hr.units)) (simx (x_any rfl (Nat.lt_of_le_of_lt (Nat.add_le_add_left (by decide) _) hr.units)) (sim_bor 1 rfl (by first | exact .inl rfl | exact .inr (.inl rfl) | exact .inr (.inr rfl))) sim_int (fun _ _ => rfl)) (sim_tup (sim_cons sim_str (sim_cons sim_str sim_nil))) rfl)))))) (sims_one (sims_ret sim_non)) sims_nil)
      (sims_cons (sims_par 2 3 rfl sc_text_round.nd rfl rfl (by decide) rfl rfl (sim_call (ok_written_integer T) rfl hgd (hr.mono (by decide)) T.g_written_integer T.F_written_integer.kp T.b_written_integer passM rfl (sim_cons (simx (x_any rfl (Nat.lt_of_le_of_lt (Nat.add_le_add_left (by decide) _) hr.units)) (sim_bor 1 rfl (by first | exact .inl rfl | exact .inr (.inl rfl) | exact .inr (.inr rfl))) sim_int (fun _ _ => rfl)) sim_nil)) (sim_call (ok_written_integer T) rfl hgd (hr.mono (by decide)) T.g_written_integer T.F_written_integer.kp T.b_written_integer passM rfl (sim_cons (simx (x_any rfl (Nat.lt_of_le_of_lt (Nat.add_le_add_left (by decide) _) hr.units)) (sim_bor 1 rfl (by first | exact .inl rfl | exact .inr (.inl rfl) | exact .inr (.inr rfl))) sim_int (fun _ _ => rfl)) sim_nil)) rfl)
      (sims_cons (sims_if (PW.pt (simt_or (simt_not (simt_tru rfl (sim_fz (sim_call (ok_are_levels T) rfl hgd (hr.mono (by decide)) T.g_are_levels T.F_are_levels.kp T.b_are_levels passM rfl (sim_cons (sim_var 2 rfl (by first | exact .inl rfl | exact .inr (.inl rfl) | exact .inr (.inr rfl))) sim_nil))))) (simt_or (simtc c_is (sim_bor 3 rfl (by first | exact .inl rfl | exact .inr (.inl rfl) | exact .inr (.inr rfl))) sim_non (nomark _)) (simt_or1 (simtc (c_ne rfl hr.units) (simc (c_eq rfl hr.units) (simb (k_len rfl) T.n_len rfl (by decide +kernel) (sim_cons (sim_bor 1 rfl (by first | exact .inl rfl | exact .inr (.inl rfl) | exact .inr (.inr rfl))) sim_nil)) sim_int (nomark _)) (simc (c_eq rfl hr.units) (simx (x_any rfl (Nat.lt_of_le_of_lt (Nat.add_le_add_left (by decide) _) hr.units)) (sim_bor 1 rfl (by first | exact .inl rfl | exact .inr (.inl rfl) | exact .inr (.inr rfl))) sim_int (fun _ _ => rfl)) sim_str (nomark _)) (nomark _)))))) (sims_one (sims_ret sim_non)) sims_nil)
      (sims_cons (sims_set 4 sc_text_round.nd rfl (by first | exact .inl rfl | exact .inr rfl) (simty (k_tuple rfl) T.n_tuple rfl (by decide +kernel) (sim_cons (sim_fz (sim_lc (own := [("word", 5)]) rfl sc_text_round.nd (simi rfl (sim_fz (sim_sl rfl (sim_bor 1 rfl (by first | exact .inl rfl | exact .inr (.inl rfl) | exact .inr (.inr rfl))) (so_some sim_int) so_none))) (blkOk_by (own := [("word", 5)]) (N := ["value", "words", "levels", "end", "lamps", "word"]) (sc := defScope s_text_round) (by decide +kernel)) (by decide) (fun _ _ _ _ _ => (simg_name 5 sc_text_round.nd rfl (by first | exact .inl rfl | exact .inr rfl) (Or.inr rfl))) (fun _ _ _ _ _ => simts_nil) (fun _ _ _ _ _ => (sim_fz (sim_call (ok_text_lamp T) rfl hgd (hr.mono (by decide)) T.g_text_lamp T.F_text_lamp.kp T.b_text_lamp passE rfl (sim_cons (sim_var 5 rfl (by first | exact .inl rfl | exact .inr (.inl rfl) | exact .inr (.inr rfl))) sim_nil)))))) sim_nil)))
      (sims_one (sims_ret (sim_if (simtc c_is (sim_fz (sim_call (ok_wrong_lamp T) rfl hgd (hr.mono (by decide)) T.g_wrong_lamp T.F_wrong_lamp.kp T.b_wrong_lamp passM rfl (sim_cons (sim_var 2 rfl (by first | exact .inl rfl | exact .inr (.inl rfl) | exact .inr (.inr rfl))) (sim_cons (sim_var 4 rfl (by first | exact .inl rfl | exact .inr (.inl rfl) | exact .inr (.inr rfl))) sim_nil)))) sim_non (nomark _)) (sim_new (c := 0) (ok_Round_init T) makes_init T.mk_Round rfl rfl hgd (hr.mono (by decide)) T.g_Round T.b_Round_init passM rfl (sim_cons (sim_var 2 rfl (by first | exact .inl rfl | exact .inr (.inl rfl) | exact .inr (.inr rfl))) (sim_cons (sim_var 4 rfl (by first | exact .inl rfl | exact .inr (.inl rfl) | exact .inr (.inr rfl))) (sim_cons (sim_var 3 rfl (by first | exact .inl rfl | exact .inr (.inl rfl) | exact .inr (.inr rfl))) sim_nil)))) sim_non)))))))))
def m_Round_read : SM := (sSeq (sAsg (mCall fn_text_round [(eVar 1)]) (gNm 2))
    (sSeq (sIf (mOp (isP false) (eBor 2) (eC .non)) sStuck sNil)
    (sRet (eVar 2))))
def fn_Round_read : Fn := runFnC 3 m_Round_read
theorem ok_Round_read (T : Tx K mg) : FnC P w (wd T) mg base 8 T.a_Round_read T.d_Round_read "cls" ["text"] T.C_Round fn_Round_read := okC T.F_Round_read sc_Round_read (by decide) fun cdv A outer s H E ρ hgd hr => (sims_cons (sims_set 2 sc_Round_read.nd rfl (by first | exact .inl rfl | exact .inr rfl) (sim_call (ok_text_round T) rfl hgd (hr.mono (by decide)) T.g_text_round T.F_text_round.kp T.b_text_round passM rfl (sim_cons (sim_var 1 rfl (by first | exact .inl rfl | exact .inr (.inl rfl) | exact .inr (.inr rfl))) sim_nil)))
      (sims_cons (sims_if (simtc c_is (sim_bor 2 rfl (by first | exact .inl rfl | exact .inr (.inl rfl) | exact .inr (.inr rfl))) sim_non (nomark _)) (sims_one sims_stuck) sims_nil)
      (sims_one (sims_ret (sim_var 2 rfl (by first | exact .inl rfl | exact .inr (.inl rfl) | exact .inr (.inr rfl)))))))
noncomputable def e1_law_lamps : EM := (mTup [(eVar 1), (mOp dIx (eBor 0) (eBor 1))])
def m_law_lamps : SM := (sRet (mPrim dTuple [(fz (mPrim dSortedP [(fz (mLc (srcE seqOf (fz (mPrim dList [(eVar 0)]))) (gNm 1) (eC (.bl true)) e1_law_lamps [1]))]))]))
def fn_law_lamps : Fn := runFn 2 m_law_lamps
theorem ok_law_lamps (T : Tx K mg) : FnM P w (wd T) mg base 2 T.a_law_lamps T.d_law_lamps ["_law_found"] fn_law_lamps := okM T.F_law_lamps sc_law_lamps (by decide) fun cdv A outer s H E ρ hgd hr => (sims_one (sims_ret (simty (k_tuple rfl) T.n_tuple rfl (by decide +kernel) (sim_cons (sim_fz (simb (k_sortedP rfl) T.n_sorted rfl (by decide +kernel) (sim_cons (sim_fz (sim_lc (own := [("_law_place_here", 1)]) rfl sc_law_lamps.nd (simi rfl (sim_fz (simty (k_list rfl rfl) T.n_list rfl (by decide +kernel) (sim_cons (sim_var 0 rfl (by first | exact .inl rfl | exact .inr (.inl rfl) | exact .inr (.inr rfl))) sim_nil)))) (blkOk_by (own := [("_law_place_here", 1)]) (N := ["_law_found", "_law_place_here"]) (sc := defScope s_law_lamps) (by decide +kernel)) (by decide) (fun _ _ _ _ _ => (simg_name 1 sc_law_lamps.nd rfl (by first | exact .inl rfl | exact .inr rfl) (Or.inr rfl))) (fun _ _ _ _ _ => simts_nil) (fun _ _ _ _ _ => (sim_tup (sim_cons (sim_var 1 rfl (by first | exact .inl rfl | exact .inr (.inl rfl) | exact .inr (.inr rfl))) (sim_cons (simx (x_any rfl (Nat.lt_of_le_of_lt (Nat.add_le_add_left (by decide) _) hr.units)) (sim_bor 0 rfl (by first | exact .inl rfl | exact .inr (.inl rfl) | exact .inr (.inr rfl))) (sim_bor 1 rfl (by first | exact .inl rfl | exact .inr (.inl rfl) | exact .inr (.inr rfl))) (fun _ _ => rfl)) sim_nil)))))) sim_nil))) sim_nil))))
noncomputable def e1_law_text : EM := (mOp dAdd (mOp dAdd (mPrim dStr [(eBor 4)]) (eC (.str ":"))) (mPrim dStr [(eBor 5)]))
def m_law_text : SM := (sSeq (sAsg (mOp dAdd (mOp dAdd (mOp dAdd (eC (.str "levels ")) (mPrim dStr [(eBor 0)])) (eC (.str " end "))) (mPrim dStr [(mOp dIx (eBor 1) (eC (.int 1)))])) (gNm 2))
    (sSeq (sAsg (mCall fn_law_lamps [(mOp dIx (eBor 1) (eC (.int 0)))]) (gNm 3))
    (sSeq (sIf (mOp (eqP false) (eBor 3) (mTup [])) (sRet (mOp dAdd (eBor 2) (eC (.str " dark")))) sNil)
    (sRet (mOp dAdd (mOp dAdd (eBor 2) (eC (.str " lamps "))) (mMeth "str" mJoin (eC (.str " ")) [(fz (mLc (srcE seqOf (eVar 3)) (gTp [(gNm 4), (gNm 5)]) (eC (.bl true)) e1_law_text [4, 5]))]))))))
def fn_law_text : Fn := runFn 6 m_law_text
theorem ok_law_text (T : Tx K mg) : FnM P w (wd T) mg base 3 T.a_law_text T.d_law_text ["_law_levels", "_law_one_here"] fn_law_text := okM T.F_law_text sc_law_text (by decide) fun cdv A outer s H E ρ hgd hr => (sims_cons (sims_set 2 sc_law_text.nd rfl (by first | exact .inl rfl | exact .inr rfl) (simo (o_add rfl) (simo (o_add rfl) (simo (o_add rfl) sim_str (simty k_str T.n_str rfl (by decide +kernel) (sim_cons (sim_bor 0 rfl (by first | exact .inl rfl | exact .inr (.inl rfl) | exact .inr (.inr rfl))) sim_nil))) sim_str) (simty k_str T.n_str rfl (by decide +kernel) (sim_cons (simx (x_any rfl (Nat.lt_of_le_of_lt (Nat.add_le_add_left (by decide) _) hr.units)) (sim_bor 1 rfl (by first | exact .inl rfl | exact .inr (.inl rfl) | exact .inr (.inr rfl))) sim_int (fun _ _ => rfl)) sim_nil))))
      (sims_cons (sims_set 3 sc_law_text.nd rfl (by first | exact .inl rfl | exact .inr rfl) (sim_call (ok_law_lamps T) rfl hgd (hr.mono (by decide)) T.g_law_lamps T.F_law_lamps.kp T.b_law_lamps passM rfl (sim_cons (simx (x_any rfl (Nat.lt_of_le_of_lt (Nat.add_le_add_left (by decide) _) hr.units)) (sim_bor 1 rfl (by first | exact .inl rfl | exact .inr (.inl rfl) | exact .inr (.inr rfl))) sim_int (fun _ _ => rfl)) sim_nil)))
      (sims_cons (sims_if (simtc (c_eq rfl hr.units) (sim_bor 3 rfl (by first | exact .inl rfl | exact .inr (.inl rfl) | exact .inr (.inr rfl))) (sim_tup sim_nil) (nomark _)) (sims_one (sims_ret (simo (o_add rfl) (sim_bor 2 rfl (by first | exact .inl rfl | exact .inr (.inl rfl) | exact .inr (.inr rfl))) sim_str))) sims_nil)
      (sims_one (sims_ret (simo (o_add rfl) (simo (o_add rfl) (sim_bor 2 rfl (by first | exact .inl rfl | exact .inr (.inl rfl) | exact .inr (.inr rfl))) sim_str) (simm (m_join rfl) PySem.F.plainAttrs_str PySem.F.slot_str_join PySem.F.type_str_join sim_str (sim_cons (sim_fz (sim_lc (own := [("_law_place_here", 4), ("_law_level", 5)]) rfl sc_law_text.nd (simi rfl (sim_var 3 rfl (by first | exact .inl rfl | exact .inr (.inl rfl) | exact .inr (.inr rfl)))) (blkOk_by (own := [("_law_place_here", 4), ("_law_level", 5)]) (N := ["_law_levels", "_law_one_here", "_law_head", "_law_lamps_here", "_law_place_here", "_law_level"]) (sc := defScope s_law_text) (by decide +kernel)) (by decide) (fun _ _ _ _ _ => (simg_tup rfl rfl (simg_cons (simg_name 4 sc_law_text.nd rfl (by first | exact .inl rfl | exact .inr rfl) (Or.inr rfl)) (simg_cons (simg_name 5 sc_law_text.nd rfl (by first | exact .inl rfl | exact .inr rfl) (Or.inr rfl)) simg_nil)) rfl)) (fun _ _ _ _ _ => simts_nil) (fun _ _ _ _ _ => (simo (o_add rfl) (simo (o_add rfl) (simty k_str T.n_str rfl (by decide +kernel) (sim_cons (sim_bor 4 rfl (by first | exact .inl rfl | exact .inr (.inl rfl) | exact .inr (.inr rfl))) sim_nil)) sim_str) (simty k_str T.n_str rfl (by decide +kernel) (sim_cons (sim_bor 5 rfl (by first | exact .inl rfl | exact .inr (.inl rfl) | exact .inr (.inr rfl))) sim_nil)))))) sim_nil))))))))
def m_check_round : SM := (sIf (mNot (mTru (mUn (isiC 1 0) (eBor 0)))) sStuck sNil)
def fn_check_round : Fn := runFn 1 m_check_round
theorem ok_check_round (T : Tx K mg) : FnM P w (wd T) mg base 2 T.a_check_round T.d_check_round ["value"] fn_check_round := okM T.F_check_round sc_check_round (by decide) fun cdv A outer s H E ρ hgd hr => (sims_one (sims_if (simt_not (simt_tru rfl (sim_isiC (n := 1) (c := 0) rfl (clsI T) T.kb_Round (kit_Round T) T.n_isinstance T.g_Round rfl rfl (sim_bor 0 rfl (by first | exact .inl rfl | exact .inr (.inl rfl) | exact .inr (.inr rfl)))))) (sims_one sims_stuck) sims_nil))
def m_Round_levels : SM := (sRet (mUn (gFld 0 2) (eBor 0)))
def fn_Round_levels : Fn := runFn 1 m_Round_levels
theorem ok_Round_levels (T : Tx K mg) : FnM P w (wd T) mg base 2 T.a_Round_levels T.d_Round_levels ["self"] fn_Round_levels := okM T.F_Round_levels sc_Round_levels (by decide) fun cdv A outer s H E ρ hgd hr => (sims_one (sims_ret (sim_fld (att_slot (W := wd T) (c := 0) (i := 2) rfl rfl T.sc_Round T.sl_Round_own_levels) (sim_bor 0 rfl (by first | exact .inl rfl | exact .inr (.inl rfl) | exact .inr (.inr rfl))))))
def m_check_pair : SM := (sSeq (sExpr (mCall fn_check_round [(eVar 0)]))
    (sSeq (sExpr (mCall fn_check_round [(eVar 1)]))
    (sIf (mOp (eqP true) (mProp 0 fn_Round_levels (eVar 0)) (mProp 0 fn_Round_levels (eVar 1))) sStuck sNil)))
def fn_check_pair : Fn := runFn 2 m_check_pair
theorem ok_check_pair (T : Tx K mg) : FnM P w (wd T) mg base 4 T.a_check_pair T.d_check_pair ["one", "other"] fn_check_pair := okM T.F_check_pair sc_check_pair (by decide) fun cdv A outer s H E ρ hgd hr => (sims_cons (sims_expr (sim_call (ok_check_round T) rfl hgd (hr.mono (by decide)) T.g_check_round T.F_check_round.kp T.b_check_round passM rfl (sim_cons (sim_var 0 rfl (by first | exact .inl rfl | exact .inr (.inl rfl) | exact .inr (.inr rfl))) sim_nil)))
      (sims_cons (sims_expr (sim_call (ok_check_round T) rfl hgd (hr.mono (by decide)) T.g_check_round T.F_check_round.kp T.b_check_round passM rfl (sim_cons (sim_var 1 rfl (by first | exact .inl rfl | exact .inr (.inl rfl) | exact .inr (.inr rfl))) sim_nil)))
      (sims_one (sims_if (simtc (c_ne rfl hr.units) (sim_prop (c := 0) (clM T 0) rfl T.pf_Round_levels (ok_Round_levels T) hgd (hr.mono (by decide)) T.b_Round_levels (sim_var 0 rfl (by first | exact .inl rfl | exact .inr (.inl rfl) | exact .inr (.inr rfl)))) (sim_prop (c := 0) (clM T 0) rfl T.pf_Round_levels (ok_Round_levels T) hgd (hr.mono (by decide)) T.b_Round_levels (sim_var 1 rfl (by first | exact .inl rfl | exact .inr (.inl rfl) | exact .inr (.inr rfl)))) (nomark _)) (sims_one sims_stuck) sims_nil))))
noncomputable def b1_added : SM := (sSeq (sAsg (mOp dMod (fz (mOp dAdd (fz (mMeth "dict" dGetS (eBor 5) [(fz (mOp dAdd (eBor 6) (eBor 3))), (eC (.int 0))])) (fz (mOp dMulI (eBor 4) (eBor 7))))) (eBor 0)) (gNm 8))
    (sIf (mOp (eqP false) (eBor 8) (eC (.int 0))) (sExpr (mMut "dict" uPopD 5 [(fz (mOp dAdd (eBor 6) (eBor 3))), (eC .non)])) (sAsg (eVar 8) (gSubM 5 (fz (mOp dAdd (eBor 6) (eBor 3)))))))
def m_added : SM := (sSeq (sAsg (mPrim dDict [(eVar 1)]) (gNm 5))
    (sSeq (sFor (srcE itemsOf (eVar 2)) (gTp [(gNm 6), (gNm 7)]) b1_added)
    (sRet (eVar 5))))
def fn_added : Fn := runFn 9 m_added
theorem ok_added (T : Tx K mg) : FnM P w (wd T) mg base 2 T.a_added T.d_added ["levels", "one", "other", "move", "by"] fn_added := okM T.F_added sc_added (by decide) fun cdv A outer s H E ρ hgd hr => (sims_cons (sims_set 5 sc_added.nd rfl (by first | exact .inl rfl | exact .inr rfl) (simty (k_dict rfl rfl) T.n_dict rfl (by decide +kernel) (sim_cons (sim_var 1 rfl (by first | exact .inl rfl | exact .inr (.inl rfl) | exact .inr (.inr rfl))) sim_nil)))
      (sims_cons (sims_for (passes_of rfl) rfl (simi_items (sim_var 2 rfl (by first | exact .inl rfl | exact .inr (.inl rfl) | exact .inr (.inr rfl)))) (simg_tup rfl rfl (simg_cons (simg_name 6 sc_added.nd rfl (by first | exact .inl rfl | exact .inr rfl)) (simg_cons (simg_name 7 sc_added.nd rfl (by first | exact .inl rfl | exact .inr rfl)) simg_nil)) rfl) (sims_cons (sims_set 8 sc_added.nd rfl (by first | exact .inl rfl | exact .inr rfl) (simo o_mod (sim_fz (simo (o_add rfl) (sim_fz (simm (m_get (Nat.lt_of_le_of_lt (Nat.add_le_add_left (by decide) _) hr.units)) PySem.F.plainAttrs_dict PySem.F.slot_dict_get PySem.F.type_dict_get (sim_bor 5 rfl (by first | exact .inl rfl | exact .inr (.inl rfl) | exact .inr (.inr rfl))) (sim_cons (sim_fz (simo (o_add rfl) (sim_bor 6 rfl (by first | exact .inl rfl | exact .inr (.inl rfl) | exact .inr (.inr rfl))) (sim_bor 3 rfl (by first | exact .inl rfl | exact .inr (.inl rfl) | exact .inr (.inr rfl))))) (sim_cons sim_int sim_nil)))) (sim_fz (simo o_mulI (sim_bor 4 rfl (by first | exact .inl rfl | exact .inr (.inl rfl) | exact .inr (.inr rfl))) (sim_bor 7 rfl (by first | exact .inl rfl | exact .inr (.inl rfl) | exact .inr (.inr rfl))))))) (sim_bor 0 rfl (by first | exact .inl rfl | exact .inr (.inl rfl) | exact .inr (.inr rfl)))))
      (sims_one (sims_if (simtc (c_eq rfl hr.units) (sim_bor 8 rfl (by first | exact .inl rfl | exact .inr (.inl rfl) | exact .inr (.inr rfl))) sim_int (nomark _)) (sims_one (sims_expr (sim_mut 5 u_popD PySem.F.plainAttrs_dict PySem.F.slot_dict_pop PySem.F.type_dict_pop rfl (by first | exact .inl rfl | exact .inr (.inl rfl) | exact .inr (.inr rfl)) (sim_cons (sim_fz (simo (o_add rfl) (sim_bor 6 rfl (by first | exact .inl rfl | exact .inr (.inl rfl) | exact .inr (.inr rfl))) (sim_bor 3 rfl (by first | exact .inl rfl | exact .inr (.inl rfl) | exact .inr (.inr rfl))))) (sim_cons sim_non sim_nil))))) (sims_one (sims_asg (sim_var 8 rfl (by first | exact .inl rfl | exact .inr (.inl rfl) | exact .inr (.inr rfl))) (simg_sub 5 (Nat.lt_of_le_of_lt (Nat.add_le_add_left (by decide) _) hr.units) rfl (by first | exact .inl rfl | exact .inr (.inl rfl) | exact .inr (.inr rfl)) (sim_fz (simo (o_add rfl) (sim_bor 6 rfl (by first | exact .inl rfl | exact .inr (.inl rfl) | exact .inr (.inr rfl))) (sim_bor 3 rfl (by first | exact .inl rfl | exact .inr (.inl rfl) | exact .inr (.inr rfl))))))))))))
      (sims_one (sims_ret (sim_var 5 rfl (by first | exact .inl rfl | exact .inr (.inl rfl) | exact .inr (.inr rfl)))))))
def m_Round_end : SM := (sRet (mUn (gFld 0 0) (eBor 0)))
def fn_Round_end : Fn := runFn 1 m_Round_end
theorem ok_Round_end (T : Tx K mg) : FnM P w (wd T) mg base 2 T.a_Round_end T.d_Round_end ["self"] fn_Round_end := okM T.F_Round_end sc_Round_end (by decide) fun cdv A outer s H E ρ hgd hr => (sims_one (sims_ret (sim_fld (att_slot (W := wd T) (c := 0) (i := 0) rfl rfl T.sc_Round T.sl_Round_own_end) (sim_bor 0 rfl (by first | exact .inl rfl | exact .inr (.inl rfl) | exact .inr (.inr rfl))))))
def m_table : SM := (sRet (mPrim dDict [(mUn (gFld 0 1) (eBor 0))]))
def fn_table : Fn := runFn 1 m_table
theorem ok_table (T : Tx K mg) : FnM P w (wd T) mg base 2 T.a_table T.d_table ["trip"] fn_table := okM T.F_table sc_table (by decide) fun cdv A outer s H E ρ hgd hr => (sims_one (sims_ret (simty (k_dict rfl rfl) T.n_dict rfl (by decide +kernel) (sim_cons (sim_fld (att_slot (W := wd T) (c := 0) (i := 1) rfl rfl T.sc_Round T.sl_Round_own_lamps) (sim_bor 0 rfl (by first | exact .inl rfl | exact .inr (.inl rfl) | exact .inr (.inr rfl)))) sim_nil))))
def m_commute : SM := (sSeq (sExpr (mCall fn_check_pair [(eVar 0), (eVar 1)]))
    (sSeq (sPar 2 3 (mCall fn_table [(eVar 0)]) (mCall fn_table [(eVar 1)]))
    (sSeq (sAsg (mCall fn_added [(mProp 0 fn_Round_levels (eVar 0)), (eVar 2), (eVar 3), (mProp 0 fn_Round_end (eVar 0)), (eC (.int 1))]) (gNm 4))
    (sRet (mOp eqA (eBor 4) (fz (mCall fn_added [(mProp 0 fn_Round_levels (eVar 0)), (eVar 3), (eVar 2), (mProp 0 fn_Round_end (eVar 1)), (eC (.int 1))])))))))
def fn_commute : Fn := runFn 5 m_commute
theorem ok_commute (T : Tx K mg) : FnM P w (wd T) mg base 5 T.a_commute T.d_commute ["trip", "second"] fn_commute := okM T.F_commute sc_commute (by decide) fun cdv A outer s H E ρ hgd hr => (sims_cons (sims_expr (sim_call (ok_check_pair T) rfl hgd (hr.mono (by decide)) T.g_check_pair T.F_check_pair.kp T.b_check_pair passM rfl (sim_cons (sim_var 0 rfl (by first | exact .inl rfl | exact .inr (.inl rfl) | exact .inr (.inr rfl))) (sim_cons (sim_var 1 rfl (by first | exact .inl rfl | exact .inr (.inl rfl) | exact .inr (.inr rfl))) sim_nil))))
      (sims_cons (sims_par 2 3 rfl sc_commute.nd rfl rfl (by decide) rfl rfl (sim_call (ok_table T) rfl hgd (hr.mono (by decide)) T.g_table T.F_table.kp T.b_table passM rfl (sim_cons (sim_var 0 rfl (by first | exact .inl rfl | exact .inr (.inl rfl) | exact .inr (.inr rfl))) sim_nil)) (sim_call (ok_table T) rfl hgd (hr.mono (by decide)) T.g_table T.F_table.kp T.b_table passM rfl (sim_cons (sim_var 1 rfl (by first | exact .inl rfl | exact .inr (.inl rfl) | exact .inr (.inr rfl))) sim_nil)) rfl)
      (sims_cons (sims_set 4 sc_commute.nd rfl (by first | exact .inl rfl | exact .inr rfl) (sim_call (ok_added T) rfl hgd (hr.mono (by decide)) T.g_added T.F_added.kp T.b_added passM rfl (sim_cons (sim_prop (c := 0) (clM T 0) rfl T.pf_Round_levels (ok_Round_levels T) hgd (hr.mono (by decide)) T.b_Round_levels (sim_var 0 rfl (by first | exact .inl rfl | exact .inr (.inl rfl) | exact .inr (.inr rfl)))) (sim_cons (sim_var 2 rfl (by first | exact .inl rfl | exact .inr (.inl rfl) | exact .inr (.inr rfl))) (sim_cons (sim_var 3 rfl (by first | exact .inl rfl | exact .inr (.inl rfl) | exact .inr (.inr rfl))) (sim_cons (sim_prop (c := 0) (clM T 0) rfl T.pf_Round_end (ok_Round_end T) hgd (hr.mono (by decide)) T.b_Round_end (sim_var 0 rfl (by first | exact .inl rfl | exact .inr (.inl rfl) | exact .inr (.inr rfl)))) (sim_cons sim_int sim_nil)))))))
      (sims_one (sims_ret (simc (c_eqA rfl hr.units) (sim_bor 4 rfl (by first | exact .inl rfl | exact .inr (.inl rfl) | exact .inr (.inr rfl))) (sim_fz (sim_call (ok_added T) rfl hgd (hr.mono (by decide)) T.g_added T.F_added.kp T.b_added passM rfl (sim_cons (sim_prop (c := 0) (clM T 0) rfl T.pf_Round_levels (ok_Round_levels T) hgd (hr.mono (by decide)) T.b_Round_levels (sim_var 0 rfl (by first | exact .inl rfl | exact .inr (.inl rfl) | exact .inr (.inr rfl)))) (sim_cons (sim_var 3 rfl (by first | exact .inl rfl | exact .inr (.inl rfl) | exact .inr (.inr rfl))) (sim_cons (sim_var 2 rfl (by first | exact .inl rfl | exact .inr (.inl rfl) | exact .inr (.inr rfl))) (sim_cons (sim_prop (c := 0) (clM T 0) rfl T.pf_Round_end (ok_Round_end T) hgd (hr.mono (by decide)) T.b_Round_end (sim_var 1 rfl (by first | exact .inl rfl | exact .inr (.inl rfl) | exact .inr (.inr rfl)))) (sim_cons sim_int sim_nil))))))) (nomark _)))))))
noncomputable def b1_law_right : SM := (sSeq (sAsg (mCall fn_law_pick [(eVar 0), (fz (mLst [(eC (.int 2)), (eC (.int 3)), (eC (.int 5)), (eC (.int 7))]))]) (gNm 2))
    (sSeq (sAsg (fz (mCall fn_law_pair [(eVar 0), (eVar 2)])) (gTp [(gNm 3), (gNm 4)]))
    (sSeq (sAsg (mOp eqA (fz (mCall fn_law_behind [(eVar 2), (eVar 3), (eVar 4)])) (fz (mCall fn_law_behind [(eVar 2), (eVar 4), (eVar 3)]))) (gNm 5))
    (sSeq (sPar 6 7 (mCall fn_Round_read [(fz (mCall fn_law_text [(eVar 2), (eVar 3)]))]) (mCall fn_Round_init [(eVar 2), (fz (mCall fn_law_lamps [(mOp dIx (eBor 4) (eC (.int 0)))])), (mOp dIx (eBor 4) (eC (.int 1)))]))
    (sIf (mOp (eqP true) (mPrim dRepr [(fz (mLst [(fz (mCall fn_commute [(eVar 6), (eVar 7)])), (fz (mCallK [1, 0] fn_commute [(eVar 7), (eVar 6)]))]))]) (mPrim dRepr [(fz (mLst [(eVar 5), (eVar 5)]))])) (sRet (eC (.bl false))) sNil)))))
def m_law_right : SM := (sSeq (sFor (srcA rng1 [(eC (.int 12))]) (gNm 1) b1_law_right)
    (sRet (eC (.bl true))))
def fn_law_right : Fn := runFn 8 m_law_right
theorem ok_law_right (T : Tx K mg) : FnM P w (wd T) mg base 9 T.a_law_right T.d_law_right ["_law_well_here"] fn_law_right := okM T.F_law_right sc_law_right (by decide) fun cdv A outer s H E ρ hgd hr => (sims_cons (sims_for (passes_of rfl) rfl (simi_range1 T.n_range rfl (sim_cons sim_int sim_nil)) (simg_name 1 sc_law_right.nd rfl (by first | exact .inl rfl | exact .inr rfl)) (sims_cons (sims_set 2 sc_law_right.nd rfl (by first | exact .inl rfl | exact .inr rfl) (sim_call (ok_law_pick T) rfl hgd (hr.mono (by decide)) T.g_law_pick T.F_law_pick.kp T.b_law_pick passM rfl (sim_cons (sim_var 0 rfl (by first | exact .inl rfl | exact .inr (.inl rfl) | exact .inr (.inr rfl))) (sim_cons (sim_fz (sim_lst (sim_cons sim_int (sim_cons sim_int (sim_cons sim_int (sim_cons sim_int sim_nil)))))) sim_nil))))
      (sims_cons (sims_asg (sim_fz (sim_call (ok_law_pair T) rfl hgd (hr.mono (by decide)) T.g_law_pair T.F_law_pair.kp T.b_law_pair passM rfl (sim_cons (sim_var 0 rfl (by first | exact .inl rfl | exact .inr (.inl rfl) | exact .inr (.inr rfl))) (sim_cons (sim_var 2 rfl (by first | exact .inl rfl | exact .inr (.inl rfl) | exact .inr (.inr rfl))) sim_nil)))) (simg_tup rfl rfl (simg_cons (simg_name 3 sc_law_right.nd rfl (by first | exact .inl rfl | exact .inr rfl)) (simg_cons (simg_name 4 sc_law_right.nd rfl (by first | exact .inl rfl | exact .inr rfl)) simg_nil)) rfl))
      (sims_cons (sims_set 5 sc_law_right.nd rfl (by first | exact .inl rfl | exact .inr rfl) (simc (c_eqA rfl hr.units) (sim_fz (sim_call (ok_law_behind T) rfl hgd (hr.mono (by decide)) T.g_law_behind T.F_law_behind.kp T.b_law_behind passM rfl (sim_cons (sim_var 2 rfl (by first | exact .inl rfl | exact .inr (.inl rfl) | exact .inr (.inr rfl))) (sim_cons (sim_var 3 rfl (by first | exact .inl rfl | exact .inr (.inl rfl) | exact .inr (.inr rfl))) (sim_cons (sim_var 4 rfl (by first | exact .inl rfl | exact .inr (.inl rfl) | exact .inr (.inr rfl))) sim_nil))))) (sim_fz (sim_call (ok_law_behind T) rfl hgd (hr.mono (by decide)) T.g_law_behind T.F_law_behind.kp T.b_law_behind passM rfl (sim_cons (sim_var 2 rfl (by first | exact .inl rfl | exact .inr (.inl rfl) | exact .inr (.inr rfl))) (sim_cons (sim_var 4 rfl (by first | exact .inl rfl | exact .inr (.inl rfl) | exact .inr (.inr rfl))) (sim_cons (sim_var 3 rfl (by first | exact .inl rfl | exact .inr (.inl rfl) | exact .inr (.inr rfl))) sim_nil))))) (nomark _)))
      (sims_cons (sims_par 6 7 rfl sc_law_right.nd rfl rfl (by decide) rfl rfl (sim_cls (pe_glob (v := .ref T.C_Round) rfl T.g_Round rfl) T.cr_Round T.cm_Round_read rfl (ok_Round_read T) rfl hgd (hr.mono (by decide)) T.b_Round_read passM (sim_cons (sim_fz (sim_call (ok_law_text T) rfl hgd (hr.mono (by decide)) T.g_law_text T.F_law_text.kp T.b_law_text passM rfl (sim_cons (sim_var 2 rfl (by first | exact .inl rfl | exact .inr (.inl rfl) | exact .inr (.inr rfl))) (sim_cons (sim_var 3 rfl (by first | exact .inl rfl | exact .inr (.inl rfl) | exact .inr (.inr rfl))) sim_nil)))) sim_nil)) (sim_new (c := 0) (ok_Round_init T) makes_init T.mk_Round rfl rfl hgd (hr.mono (by decide)) T.g_Round T.b_Round_init passM rfl (sim_cons (sim_var 2 rfl (by first | exact .inl rfl | exact .inr (.inl rfl) | exact .inr (.inr rfl))) (sim_cons (sim_fz (sim_call (ok_law_lamps T) rfl hgd (hr.mono (by decide)) T.g_law_lamps T.F_law_lamps.kp T.b_law_lamps passM rfl (sim_cons (simx (x_any rfl (Nat.lt_of_le_of_lt (Nat.add_le_add_left (by decide) _) hr.units)) (sim_bor 4 rfl (by first | exact .inl rfl | exact .inr (.inl rfl) | exact .inr (.inr rfl))) sim_int (fun _ _ => rfl)) sim_nil))) (sim_cons (simx (x_any rfl (Nat.lt_of_le_of_lt (Nat.add_le_add_left (by decide) _) hr.units)) (sim_bor 4 rfl (by first | exact .inl rfl | exact .inr (.inl rfl) | exact .inr (.inr rfl))) sim_int (fun _ _ => rfl)) sim_nil)))) rfl)
      (sims_one (sims_if (simtc (c_ne rfl hr.units) (simb (k_repr rfl hgd hr) T.n_repr rfl (by decide +kernel) (sim_cons (sim_fz (sim_lst (sim_cons (sim_fz (sim_call (ok_commute T) rfl hgd (hr.mono (by decide)) T.g_commute T.F_commute.kp T.b_commute passM rfl (sim_cons (sim_var 6 rfl (by first | exact .inl rfl | exact .inr (.inl rfl) | exact .inr (.inr rfl))) (sim_cons (sim_var 7 rfl (by first | exact .inl rfl | exact .inr (.inl rfl) | exact .inr (.inr rfl))) sim_nil)))) (sim_cons (sim_fz (sim_callK (ok_commute T) rfl rfl hgd (hr.mono (by decide)) T.g_commute T.F_commute.kp T.kb_commute_second_trip passM rfl (simk_cons (sim_var 7 rfl (by first | exact .inl rfl | exact .inr (.inl rfl) | exact .inr (.inr rfl))) (simk_cons (sim_var 6 rfl (by first | exact .inl rfl | exact .inr (.inl rfl) | exact .inr (.inr rfl))) simk_nil)) rfl)) sim_nil)))) sim_nil)) (simb (k_repr rfl hgd hr) T.n_repr rfl (by decide +kernel) (sim_cons (sim_fz (sim_lst (sim_cons (sim_var 5 rfl (by first | exact .inl rfl | exact .inr (.inl rfl) | exact .inr (.inr rfl))) (sim_cons (sim_var 5 rfl (by first | exact .inl rfl | exact .inr (.inl rfl) | exact .inr (.inr rfl))) sim_nil)))) sim_nil)) (nomark _)) (sims_one (sims_ret sim_bl)) sims_nil)))))))
      (sims_one (sims_ret sim_bl)))
noncomputable def b1_law_well : SM := (sAsg (mOp dMod (mPrim dInt [(mOp dAdd (mOp dAdd (mOp dMulI (eBor 2) (eC (.int 36007))) (eBor 3)) (eC (.int 41)))]) (eC (.int 2147483579))) (gNm 2))
def m_law_well : SM := (sSeq (sAsg (mOp dAdd (eC (.int 70009)) (mOp dMulI (eC (.int 853)) (eBor 1))) (gNm 2))
    (sSeq (sFor (srcE seqOf (fz (mOp dAdd (fz (mSl dSl (eBor 0) none (some (eC (.int 4))))) (fz (mSl dSl (eBor 0) (some (eVar 1)) (some (mOp dAdd (eBor 1) (eC (.int 1))))))))) (gNm 3) b1_law_well)
    (sSeq (sAsg (mIf (mOp cLtI (eBor 1) (mPrim dLen [(eBor 0)])) (mOp dIx (eBor 0) (eBor 1)) (eC (.int 0))) (gNm 4))
    (sRet (mLst [(eVar 2), (eC (.int 0)), (mIf (mOp cGe (mPrim dAbs [(eBor 4)]) (mOp dPow (eC (.int 10)) (eC (.int 18)))) (mPrim dAbs [(eBor 4)]) (eC (.int 0)))])))))
def fn_law_well : Fn := runFn 5 m_law_well
theorem ok_law_well (T : Tx K mg) : FnM P w (wd T) mg base 2 T.a_law_well T.d_law_well ["_law_script", "_law_spot"] fn_law_well := okM T.F_law_well sc_law_well (by decide) fun cdv A outer s H E ρ hgd hr => (sims_cons (sims_set 2 sc_law_well.nd rfl (by first | exact .inl rfl | exact .inr rfl) (simo (o_add rfl) sim_int (simo o_mulI sim_int (sim_bor 1 rfl (by first | exact .inl rfl | exact .inr (.inl rfl) | exact .inr (.inr rfl))))))
      (sims_cons (sims_for (passes_of rfl) rfl (simi rfl (sim_fz (simo (o_add rfl) (sim_fz (sim_sl rfl (sim_bor 0 rfl (by first | exact .inl rfl | exact .inr (.inl rfl) | exact .inr (.inr rfl))) so_none (so_some sim_int))) (sim_fz (sim_sl rfl (sim_bor 0 rfl (by first | exact .inl rfl | exact .inr (.inl rfl) | exact .inr (.inr rfl))) (so_some (sim_var 1 rfl (by first | exact .inl rfl | exact .inr (.inl rfl) | exact .inr (.inr rfl)))) (so_some (simo (o_add rfl) (sim_bor 1 rfl (by first | exact .inl rfl | exact .inr (.inl rfl) | exact .inr (.inr rfl))) sim_int))))))) (simg_name 3 sc_law_well.nd rfl (by first | exact .inl rfl | exact .inr rfl)) (sims_one (sims_set 2 sc_law_well.nd rfl (by first | exact .inl rfl | exact .inr rfl) (simo o_mod (simty k_int T.n_int rfl (by decide +kernel) (sim_cons (simo (o_add rfl) (simo (o_add rfl) (simo o_mulI (sim_bor 2 rfl (by first | exact .inl rfl | exact .inr (.inl rfl) | exact .inr (.inr rfl))) sim_int) (sim_bor 3 rfl (by first | exact .inl rfl | exact .inr (.inl rfl) | exact .inr (.inr rfl)))) sim_int) sim_nil)) sim_int))))
      (sims_cons (sims_set 4 sc_law_well.nd rfl (by first | exact .inl rfl | exact .inr rfl) (sim_if (simtc c_lt (sim_bor 1 rfl (by first | exact .inl rfl | exact .inr (.inl rfl) | exact .inr (.inr rfl))) (simb (k_len rfl) T.n_len rfl (by decide +kernel) (sim_cons (sim_bor 0 rfl (by first | exact .inl rfl | exact .inr (.inl rfl) | exact .inr (.inr rfl))) sim_nil)) (nomark _)) (simx (x_any rfl (Nat.lt_of_le_of_lt (Nat.add_le_add_left (by decide) _) hr.units)) (sim_bor 0 rfl (by first | exact .inl rfl | exact .inr (.inl rfl) | exact .inr (.inr rfl))) (sim_bor 1 rfl (by first | exact .inl rfl | exact .inr (.inl rfl) | exact .inr (.inr rfl))) (fun _ _ => rfl)) sim_int))
      (sims_one (sims_ret (sim_lst (sim_cons (sim_var 2 rfl (by first | exact .inl rfl | exact .inr (.inl rfl) | exact .inr (.inr rfl))) (sim_cons sim_int (sim_cons (sim_if (simtc c_ge (simb k_abs T.n_abs rfl (by decide +kernel) (sim_cons (sim_bor 4 rfl (by first | exact .inl rfl | exact .inr (.inl rfl) | exact .inr (.inr rfl))) sim_nil)) (simo o_pow sim_int sim_int) (nomark _)) (simb k_abs T.n_abs rfl (by decide +kernel) (sim_cons (sim_bor 4 rfl (by first | exact .inl rfl | exact .inr (.inl rfl) | exact .inr (.inr rfl))) sim_nil)) sim_int) sim_nil)))))))))
noncomputable def e1_law : EM := (fz (mCall fn_law_right [(mCell (mCall fn_law_well [(eVar 0), (eVar 1)]))]))
def m_law : SM := (sRet (mPrim dAll [(fz (mLc (srcA rng1 [(mPrim dMax [(eC (.int 2)), (mPrim dMinA [(mPrim dLen [(eBor 0)]), (eC (.int 5))])])]) (gNm 1) (eC (.bl true)) e1_law [1]))]))
def fn_law : Fn := runFn 2 m_law
theorem ok_law (T : Tx K mg) : FnM P w (wd T) mg base 10 T.a_law T.d_law ["_law_script"] fn_law := okM T.F_law sc_law (by decide) fun cdv A outer s H E ρ hgd hr => (sims_one (sims_ret (simb (k_all rfl rfl) T.n_all rfl (by decide +kernel) (sim_cons (sim_fz (sim_lc (own := [("_law_spot", 1)]) rfl sc_law.nd (simi_range1 T.n_range rfl (sim_cons (simb (k_max rfl rfl) T.n_max rfl (by decide +kernel) (sim_cons sim_int (sim_cons (simb (k_minA rfl rfl) T.n_min rfl (by decide +kernel) (sim_cons (simb (k_len rfl) T.n_len rfl (by decide +kernel) (sim_cons (sim_bor 0 rfl (by first | exact .inl rfl | exact .inr (.inl rfl) | exact .inr (.inr rfl))) sim_nil)) (sim_cons sim_int sim_nil))) sim_nil))) sim_nil)) (blkOk_by (own := [("_law_spot", 1)]) (N := ["_law_script", "_law_spot"]) (sc := defScope s_law) (by decide +kernel)) (by decide) (fun _ _ _ _ _ => (simg_name 1 sc_law.nd rfl (by first | exact .inl rfl | exact .inr rfl) (Or.inr rfl))) (fun _ _ _ _ _ => simts_nil) (fun _ _ _ _ _ => (sim_fz (sim_call (ok_law_right T) rfl hgd (hr.mono (by decide)) T.g_law_right T.F_law_right.kp T.b_law_right passE rfl (sim_cons (sim_cell (sim_call (ok_law_well T) rfl hgd (hr.mono (by decide)) T.g_law_well T.F_law_well.kp T.b_law_well passE rfl (sim_cons (sim_var 0 rfl (by first | exact .inl rfl | exact .inr (.inl rfl) | exact .inr (.inr rfl))) (sim_cons (sim_var 1 rfl (by first | exact .inl rfl | exact .inr (.inl rfl) | exact .inr (.inr rfl))) sim_nil)))) sim_nil)))))) sim_nil))))
end
end Mi
/-! ## Plain: loops, comprehensions, junk -/
namespace Mi
open PySem PySem.Spec PyProof.Rows L2 Lamp SlX Gd
/-- what a name holds that is not read before it is stored -/
def jk : Option D → Slot
  | none => .no
  | some d => .sh d
@[simp] theorem jk_none : jk none = .no := rfl
@[simp] theorem jk_some (d : D) : jk (some d) = .sh d := rfl
def opn : Slot → Bool
  | .lk _ => false | .lz _ => false | .self _ _ _ => false | _ => true
@[simp] theorem opn_jk (o : Option D) : opn (jk o) = true := by cases o <;> rfl
@[simp] theorem opn_no : opn .no = true := rfl
@[simp] theorem opn_sh (d : D) : opn (.sh d) = true := rfl
@[simp] theorem opn_ow (d : D) : opn (.ow d) = true := rfl
@[simp] theorem opn_lk (d : D) : opn (.lk d) = false := rfl
@[simp] theorem opn_lz (d : D) : opn (.lz d) = false := rfl
theorem openAt_eq (p : PS) (i : Nat) : openAt p i = (match p.env[i]? with | some s => opn s | none => true) := by
  unfold openAt
  cases p.env[i]? with
  | none => rfl
  | some s => cases s <;> rfl
@[simp] theorem own_jk (o : Option D) : (jk o).owned = false := by cases o <;> rfl
/-- a for by an invariant -/
theorem forL_inv {gm : GM} {b : SM} (I : List D → PS → Prop) (step : ∀ d ds p, I (d :: ds) p → ∃ p1 p2, gm (.sh d) p = some p1 ∧ (b p1 = some (.next p2) ∨ b p1 = some (.cont p2)) ∧ I ds p2) :
    ∀ ds p, I ds p → ∃ p', forL gm b yes ds p = some (.next p') ∧ I [] p'
  | [], p, h => ⟨p, rfl, h⟩
  | d :: ds, p, h => by
    obtain ⟨p1, p2, e1, e2, h2⟩ := step d ds p h
    obtain ⟨p', e3, h3⟩ := forL_inv I step ds p2 h2
    refine ⟨p', ?_, h3⟩
    unfold forL
    rcases e2 with e2 | e2
    · simp only [yes, if_true, e1, e2]; exact e3
    · simp only [yes, if_true, e1, e2]; exact e3
/-- .. that may end early -/
theorem forL_inv' {gm : GM} {b : SM} (I : List D → PS → Prop) (F : SR → Prop) (step : ∀ d ds p, I (d :: ds) p → ∃ p1, gm (.sh d) p = some p1 ∧ ((∃ p2, (b p1 = some (.next p2) ∨ b p1 = some (.cont p2)) ∧ I ds p2) ∨ ∃ r p, b p1 = some (.ret r p) ∧ F (.ret r p))) :
    ∀ ds p, I ds p → (∃ p', forL gm b yes ds p = some (.next p') ∧ I [] p') ∨ ∃ r p', forL gm b yes ds p = some (.ret r p') ∧ F (.ret r p')
  | [], p, h => .inl ⟨p, rfl, h⟩
  | d :: ds, p, h => by
    obtain ⟨p1, e1, h1⟩ := step d ds p h
    rcases h1 with ⟨p2, e2, h2⟩ | ⟨r, p2, e2, h2⟩
    · rcases forL_inv' I F step ds p2 h2 with ⟨p', e3, h3⟩ | ⟨r, p', e3, h3⟩
      · refine .inl ⟨p', ?_, h3⟩
        unfold forL
        rcases e2 with e2 | e2 <;> (simp only [yes, if_true, e1, e2]; exact e3)
      · refine .inr ⟨r, p', ?_, h3⟩
        unfold forL
        rcases e2 with e2 | e2 <;> (simp only [yes, if_true, e1, e2]; exact e3)
    · refine .inr ⟨r, p2, ?_, h2⟩
      unfold forL
      simp only [yes, if_true, e1, e2]
/-- a for as a fold; j: what the names of a turn hold behind it -/
theorem forL_fold {ι α J : Type} {gm : GM} {b : SM} (en : ι → D) (P : α → J → PS) (f : α → ι → α) (ok : α → List ι → Prop)
    (step : ∀ a i r j, ok a (i :: r) → ∃ p1 j', gm (.sh (en i)) (P a j) = some p1 ∧ b p1 = some (.next (P (f a i) j')) ∧ ok (f a i) r) :
    ∀ l a j, ok a l → ∃ j', forL gm b yes (l.map en) (P a j) = some (.next (P (l.foldl f a) j')) ∧ ok (l.foldl f a) []
  | [], a, j, h => ⟨j, rfl, h⟩
  | i :: r, a, j, h => by
    obtain ⟨p1, j1, e1, e2, h2⟩ := step a i r j h
    obtain ⟨j', e3, h3⟩ := forL_fold en P f ok step r (f a i) j1 h2
    refine ⟨j', ?_, h3⟩
    rw [List.map_cons]
    unfold forL
    simp only [yes, if_true, e1, e2]
    exact e3
/-- a comprehension whose turns change nothing -/
theorem lcL_map {ι : Type} {gm : GM} {mt me : EM} {vs : List Nat} {p : PS} (en : ι → D) (f : ι → Option D) : ∀ (l : List ι) (acc : List D), (∀ i ∈ l, lcTurn gm mt me vs (en i) p = some (f i, p)) → acc.length + l.length ≤ sizeLine →
    lcL gm mt me vs (l.map en) acc p = some (acc ++ l.filterMap f, p)
  | [], acc, _, _ => by simp [lcL]
  | i :: r, acc, h, hl => by
    have e := h i List.mem_cons_self
    rw [List.map_cons]
    unfold lcL
    rw [e]
    cases c : f i with
    | none =>
      simp only
      rw [lcL_map en f r acc (fun k hk => h k (List.mem_cons_of_mem _ hk)) (by simp at hl; omega), List.filterMap_cons, c]
    | some d =>
      simp only
      rw [if_pos (by simp at hl; omega), lcL_map en f r (acc ++ [d]) (fun k hk => h k (List.mem_cons_of_mem _ hk)) (by simp at hl ⊢; omega), List.filterMap_cons, c]
      simp
/-- .. all of them kept -/
theorem lcL_all {ι : Type} {gm : GM} {mt me : EM} {vs : List Nat} {p : PS} (en : ι → D) (f : ι → D) (l : List ι) (h : ∀ i ∈ l, lcTurn gm mt me vs (en i) p = some (some (f i), p)) (hl : l.length ≤ sizeLine) :
    lcL gm mt me vs (l.map en) [] p = some (l.map f, p) := by
  rw [lcL_map en (fun i => some (f i)) l [] h (by simpa using hl)]
  simp
/-- .. by an invariant -/
theorem lcL_inv {gm : GM} {mt me : EM} {vs : List Nat} (I : List D → List D → PS → Prop) (step : ∀ d ds acc p, I (d :: ds) acc p → ∃ o p', lcTurn gm mt me vs d p = some (o, p') ∧ (∀ y, o = some y → acc.length < sizeLine ∧ I ds (acc ++ [y]) p') ∧ (o = none → I ds acc p')) :
    ∀ ds acc p, I ds acc p → ∃ acc' p', lcL gm mt me vs ds acc p = some (acc', p') ∧ I [] acc' p'
  | [], acc, p, h => ⟨acc, p, rfl, h⟩
  | d :: ds, acc, p, h => by
    obtain ⟨o, p1, e, k1, k2⟩ := step d ds acc p h
    cases o with
    | none =>
      obtain ⟨acc', p', e2, h2⟩ := lcL_inv I step ds acc p1 (k2 rfl)
      refine ⟨acc', p', ?_, h2⟩
      unfold lcL
      rw [e]
      exact e2
    | some y =>
      obtain ⟨hl, h1⟩ := k1 y rfl
      obtain ⟨acc', p', e2, h2⟩ := lcL_inv I step ds (acc ++ [y]) p1 h1
      refine ⟨acc', p', ?_, h2⟩
      unfold lcL
      rw [e]
      simp only [if_pos hl]
      exact e2
theorem rng1_ok {j : Int} (h0 : -4611686018427387904 ≤ j) (h1 : j < 4611686018427387904) : rng1 [.int j] = some (rangeL 0 j) := by
  have z : (2 : Int) ^ 62 = 4611686018427387904 := by decide
  unfold rng1
  simp only [z]
  rw [if_pos ⟨h0, h1⟩]
theorem rng2_ok {i j : Int} (h0 : -4611686018427387904 ≤ i) (h1 : i < 4611686018427387904) (h2 : -4611686018427387904 ≤ j) (h3 : j < 4611686018427387904) : rng2 [.int i, .int j] = some (rangeL i j) := by
  have z : (2 : Int) ^ 62 = 4611686018427387904 := by decide
  unfold rng2
  simp only [z]
  rw [if_pos ⟨h0, h1, h2, h3⟩]
theorem rangeL_map (n : Nat) : rangeL 0 (n : Int) = (List.range n).map fun (i : Nat) => D.int i := by
  unfold rangeL
  simp
/-! by what the parts give: the kernel must not reckon ranges -/
theorem sSeq_next {a b : SM} {p p' : PS} (h : a p = some (.next p')) : sSeq a b p = b p' := by
  unfold sSeq
  rw [h]
theorem sSeq_ret {a b : SM} {p p' : PS} {r : RV} (h : a p = some (.ret r p')) : sSeq a b p = some (.ret r p') := by
  unfold sSeq
  rw [h]
theorem sSeq_exc {a b : SM} {p : PS} {x : Ex} {st : List D} (h : a p = some (.exc x st)) : sSeq a b p = some (.exc x st) := by
  unfold sSeq
  rw [h]
theorem sSeq_cont {a b : SM} {p p' : PS} (h : a p = some (.cont p')) : sSeq a b p = some (.cont p') := by
  unfold sSeq
  rw [h]
theorem srcA_at {f : List D → Option (List D)} {ms : List EM} {p p' : PS} {rs : List RV} {ds es : List D} (h : args ms p = some (.vals rs p')) (h2 : shs rs = some ds) (h3 : f ds = some es) : srcA f ms p = some (.items es p') := by
  unfold srcA
  rw [h]
  simp only [h2, h3]
theorem srcE_at {f : D → Option (List D)} {m : EM} {p p' : PS} {d : D} {es : List D} (h : m p = some (.val (.sh d) p')) (h3 : f d = some es) : srcE f m p = some (.items es p') := by
  unfold srcE
  rw [h]
  simp only [h3]
theorem sFor_at {m : IM} {gm : GM} {b : SM} {p p' : PS} {ds : List D} (h : m p = some (.items ds p')) : sFor m gm b p = forL gm b yes ds p' := by
  unfold sFor
  rw [h]
theorem mLc_at {m : IM} {gm : GM} {mt me : EM} {vs : List Nat} {p p1 p2 : PS} {ds acc : List D} (h : m p = some (.items ds p1)) (h2 : ownOk p1.env vs = true) (h3 : lcL gm mt me vs ds [] { p1 with env := wipeE p1.env vs } = some (acc, p2)) (h4 : p2.env.length ≤ p1.env.length) :
    mLc m gm mt me vs p = some (.val (.fr (.lst acc)) { p2 with env := restE p1.env p2.env vs }) := by
  unfold mLc
  rw [h]
  simp only [h2, if_true, h3, h4]
theorem dTuple_lst (ds : List D) : dTuple [.lst ds] = some (.sh (.tup ds)) := rfl
theorem dInt_i (i : Int) : dInt [.int i] = some (.sh (.int i)) := rfl
theorem dInt_b (k : Bool) : dInt [.bl k] = some (.sh (.int (if k then 1 else 0))) := rfl
theorem dTuple_tup (ds : List D) : dTuple [.tup ds] = some (.sh (.tup ds)) := rfl
theorem atI_nat {α : Type} (l : List α) (n : Nat) : atI l (n : Int) = l[n]? := by
  unfold atI ixN
  by_cases h : (n : Int) < l.length
  · have h' : n < l.length := by omega
    simp [h']
  · have h' : ¬ n < l.length := by omega
    simp [h', List.getElem?_eq_none (Nat.le_of_not_lt h')]
@[simp] theorem atI_3 {α : Type} (l : List α) : atI l 3 = l[3]? := atI_nat l 3
@[simp] theorem atI_4 {α : Type} (l : List α) : atI l 4 = l[4]? := atI_nat l 4
@[simp] theorem atI_5 {α : Type} (l : List α) : atI l 5 = l[5]? := atI_nat l 5
theorem sz_le {n : Nat} (h : n ≤ 1000000) : n ≤ sizeLine := Nat.le_of_lt (small1M h)
theorem sz_lt {n : Nat} (h : n ≤ 1000000) : n < sizeLine := small1M h
@[simp] theorem eqI {i j : Int} : eqP false (.int i) (.int j) = some (.sh (.bl (decide (i = j)))) := by
  show some (RV.sh (D.bl (PyData.eqv (.int i) (.int j)))) = _
  first
    | (congr 3; done)
    | (by_cases h : i = j <;> simp [h, PyData.eqv])
@[simp] theorem neI {i j : Int} : eqP true (.int i) (.int j) = some (.sh (.bl (!decide (i = j)))) := by
  show some (RV.sh (D.bl (!PyData.eqv (.int i) (.int j)))) = _
  by_cases h : i = j <;> simp [h, PyData.eqv]
@[simp] theorem eqS {a b : Str} : eqP false (.str a) (.str b) = some (.sh (.bl (decide (a = b)))) := by
  rfl
@[simp] theorem neS {a b : Str} : eqP true (.str a) (.str b) = some (.sh (.bl (!decide (a = b)))) := by
  rfl
@[simp] theorem eqB {a b : Bool} : eqP false (.bl a) (.bl b) = some (.sh (.bl (decide (a = b)))) := by
  show some (RV.sh (D.bl (PyData.eqv (.bool a) (.bool b)))) = _
  cases a <;> cases b <;> rfl
@[simp] theorem neB {a b : Bool} : eqP true (.bl a) (.bl b) = some (.sh (.bl (!decide (a = b)))) := by
  show some (RV.sh (D.bl (!PyData.eqv (.bool a) (.bool b)))) = _
  cases a <;> cases b <;> rfl
@[simp] theorem ofString_eq (a b : String) : Str.ofString a = Str.ofString b ↔ a = b := by
  constructor
  · intro h
    have e : TL.tl (Str.ofString a) = TL.tl (Str.ofString b) := by rw [h]
    rw [TL.tl_ofString, TL.tl_ofString] at e
    have inj : ∀ (l m : List Char), l.map Char.toNat = m.map Char.toNat → l = m := by
      intro l
      induction l with
      | nil => intro m h; cases m with
        | nil => rfl
        | cons c m => simp at h
      | cons c l ih => intro m h; cases m with
        | nil => simp at h
        | cons d m =>
          simp at h
          rw [ih m h.2, Char.toNat_inj.mp h.1]
    exact String.toList_inj.mp (inj _ _ e)
  · rintro rfl
    rfl
theorem setD_lst (ds : List D) (k : Int) (d : D) : setD (.lst ds) (.int k) d = (ixN ds.length k).map fun j => .lst (ds.set j d) := rfl
theorem dLen_lst (ds : List D) : Mi.dLen [.lst ds] = some (.sh (.int ds.length)) := rfl
theorem dLen_tup (ds : List D) : Mi.dLen [.tup ds] = some (.sh (.int ds.length)) := rfl
theorem dLen_scr (ds : List Int) : Mi.dLen [.scr ds] = some (.sh (.int ds.length)) := rfl
theorem dLen_str {s : Str} (h : s.length ≤ sizeLine) : Mi.dLen [.str s] = some (.sh (.int s.length)) := if_pos h
@[simp] theorem deref_cel (p : PS) (n : Nat) : deref p (.cel n) = p.st[n]? := rfl
@[simp] theorem deref_non (p : PS) : deref p .non = some .non := rfl
@[simp] theorem deref_int (p : PS) (i : Int) : deref p (.int i) = some (.int i) := rfl
@[simp] theorem deref_bl (p : PS) (i : Bool) : deref p (.bl i) = some (.bl i) := rfl
@[simp] theorem deref_str (p : PS) (i : Str) : deref p (.str i) = some (.str i) := rfl
@[simp] theorem deref_tup (p : PS) (i : List D) : deref p (.tup i) = some (.tup i) := rfl
@[simp] theorem deref_lst (p : PS) (i : List D) : deref p (.lst i) = some (.lst i) := rfl
@[simp] theorem deref_dic (p : PS) (i : List (D × D)) : deref p (.dic i) = some (.dic i) := rfl
@[simp] theorem deref_obj (p : PS) (c : Nat) (i : List D) : deref p (.obj c i) = some (.obj c i) := rfl
@[simp] theorem deref_scr (p : PS) (i : List Int) : deref p (.scr i) = some (.scr i) := rfl
@[simp] theorem deref_pr (p : PS) (i : List D) : deref p (.pr i) = some (.pr i) := rfl
theorem dSortedA_lst (ds : List D) : dSortedA [.lst ds] = dSorted [.lst ds] := by
  unfold dSortedA
  split
  · rename_i h
    cases h
  · rfl
@[simp] theorem shs_comp {ι : Type} (f : ι → D) (l : List ι) : shs (l.map (RV.sh ∘ f)) = some (l.map f) := by
  induction l with
  | nil => rfl
  | cons a l ih =>
    rw [List.map_cons]
    show (match shs (l.map (RV.sh ∘ f)) with | some ds => some (f a :: ds) | none => none) = _
    rw [ih]
    rfl
@[simp] theorem shs_map (l : List D) : shs (l.map RV.sh) = some l := by
  have := shs_comp (id : D → D) l
  simpa using this
@[simp] theorem shs_app (a b : List RV) : shs (a ++ b) = (shs a).bind fun x => (shs b).map fun y => x ++ y := by
  induction a with
  | nil =>
    show shs b = (some []).bind fun x => (shs b).map fun y => x ++ y
    cases shs b <;> rfl
  | cons r a ih =>
    cases r with
    | sh d =>
      show (match shs (a ++ b) with | some ds => some (d :: ds) | none => none) = ((match shs a with | some ds => some (d :: ds) | none => none) : Option (List D)).bind _
      rw [ih]
      cases shs a with
      | none => rfl
      | some x => cases shs b <;> rfl
    | fr d => rfl
    | pl i => rfl
theorem mul_ok {i j : Int} (hi : Fin1 i) (hj : Fin1 j) : mulOk i j = true := by
  unfold mulOk
  rw [Bool.and_eq_true]
  exact ⟨decide_eq_true hi.bits, decide_eq_true hj.bits⟩
theorem log256 : Nat.log2 256 < 9000 := by decide +kernel
theorem atI_at {α : Type} {l : List α} {x : Int} (h0 : 0 ≤ x) (h1 : x < l.length) : ∃ y, atI l x = some y ∧ y ∈ l := by
  have hx : x.toNat < l.length := by omega
  refine ⟨l[x.toNat], ?_, List.getElem_mem hx⟩
  unfold atI ixN
  rw [if_pos h0, if_pos (by omega)]
  show l[x.toNat]? = _
  rw [List.getElem?_eq_getElem hx]
theorem bits_ok {i j : Int} (hi : Builtin.Int.intBits i ≤ 1048576) (hj : Builtin.Int.intBits j ≤ 1048576) : mulOk i j = true := by
  unfold mulOk
  rw [Bool.and_eq_true]
  exact ⟨decide_eq_true (by omega), decide_eq_true (by omega)⟩
theorem fin_bits {i : Int} (h : Fin1 i) : Builtin.Int.intBits i ≤ 1048576 := by
  have h1 := h.log
  unfold Builtin.Int.intBits
  split <;> omega
end Mi

/-! ## Plain: tables of ints as data -/
namespace Mi
open PySem PySem.Spec PyProof.Rows L2 Lamp SlX Gd
def tabD (t : List (Int × Int)) : List (D × D) := t.map fun ab => (.int ab.1, .int ab.2)
theorem kEqI (a b : Int) : kEq (.int a) (.int b) = decide (a = b) := by
  show (a == b) = _
  by_cases h : a = b <;> simp [h]
theorem putD_tab (t : List (Int × Int)) (k v : Int) : putD (tabD t) (.int k) (.int v) = tabD (tput t k v) := by
  have e : (tabD t).any (fun kv => kEq kv.1 (.int k)) = thas t k := by
    unfold tabD thas
    rw [List.any_map]
    exact congrArg (List.any t) (funext fun ab => kEqI ab.1 k)
  unfold putD tput
  rw [e]
  by_cases h : thas t k = true
  · rw [if_pos h, if_pos h]
    unfold tabD
    rw [List.map_map, List.map_map]
    congr 1
    funext ab
    show (if kEq (.int ab.1) (.int k) = true then ((D.int ab.1, D.int v) : D × D) else (.int ab.1, .int ab.2)) = _
    rw [kEqI]
    by_cases q : ab.1 = k
    · simp [q]
    · simp [q]
  · rw [if_neg h, if_neg h]
    unfold tabD
    rw [List.map_append]
    rfl
theorem lookD_tab (t : List (Int × Int)) (k : Int) : lookD (tabD t) (.int k) = (tget t k).map D.int := by
  induction t with
  | nil => rfl
  | cons ab r ih =>
    unfold lookD tget tabD at ih ⊢
    rw [List.map_cons, List.find?_cons, List.find?_cons, kEqI]
    by_cases h : ab.1 = k
    · simp [h]
    · simp only [h, decide_false]
      exact ih
theorem dropD_tab (t : List (Int × Int)) (k : Int) : dropD (tabD t) (.int k) = tabD (tdel t k) := by
  unfold dropD tdel tabD
  rw [List.filter_map]
  congr 1
  congr 1
  funext ab
  show (!kEq (.int ab.1) (.int k)) = decide (ab.1 ≠ k)
  rw [kEqI]
  by_cases h : ab.1 = k
  · simp [h]
  · simp [h]
theorem tabD_all (t : List (Int × Int)) : (tabD t).all (fun kv => match kv.1 with | .tup _ => false | _ => true) = true := by
  unfold tabD
  rw [List.all_map, List.all_eq_true]
  intro ab _
  rfl
theorem asTab_tab : ∀ t : List (Int × Int), asTab (tabD t) = some t
  | [] => rfl
  | ab :: r => by
    show (asTab (tabD r)).map ((ab.1, ab.2) :: ·) = _
    rw [asTab_tab r]
    rfl
theorem tabD_len (t : List (Int × Int)) : (tabD t).length = t.length := by simp [tabD]
/-- a picture as data -/
def picD (t : List (Int × Int)) : D := .tup (ofTab t)
theorem asPairs_tab : ∀ t : List (Int × Int), asPairs (ofTab t) = some (tabD t)
  | [] => rfl
  | ab :: r => by
    have ih := asPairs_tab r
    unfold ofTab at ih ⊢
    rw [List.map_cons]
    simp [asPairs, ih, tabD, asKey]
theorem tput_new {t : List (Int × Int)} {k v : Int} (h : k ∉ keysOf t) : tput t k v = t ++ [(k, v)] := by
  unfold tput
  rw [if_neg fun c => h (thas_mem.mp c)]
theorem mergeD_app : ∀ (r acc : List (Int × Int)), (keysOf (acc ++ r)).Nodup → mergeD (tabD acc) (tabD r) = tabD (acc ++ r)
  | [], acc, _ => by simp [mergeD, tabD]
  | ab :: r, acc, h => by
    have hk : ab.1 ∉ keysOf acc := by
      intro c
      unfold keysOf at h c
      rw [List.map_append, List.map_cons] at h
      have := (List.nodup_append.mp h).2.2 _ c ab.1 List.mem_cons_self
      exact this rfl
    have e : mergeD (tabD acc) (tabD (ab :: r)) = mergeD (putD (tabD acc) (.int ab.1) (.int ab.2)) (tabD r) := rfl
    rw [e, putD_tab, tput_new hk, mergeD_app r (acc ++ [(ab.1, ab.2)]) (by rw [List.append_assoc]; exact h), List.append_assoc]
    rfl
theorem tab_all (t : List (Int × Int)) (f : D × D → Bool) (h : ∀ a b : Int, f (.int a, .int b) = true) : (tabD t).all f = true := by
  unfold tabD
  rw [List.all_map, List.all_eq_true]
  exact fun ab _ => h _ _
@[simp] theorem dDict_tab (t : List (Int × Int)) : dDict [.dic (tabD t)] = some (.fr (.dic (tabD t))) := if_pos (tab_all t _ fun _ _ => rfl)
theorem flat_ofTab (ls : List (Int × Int)) : flat (ofTab ls) = false := by
  cases ls with
  | nil => rfl
  | cons a r => rfl
theorem dDict_pic {ls : List (Int × Int)} (h : (keysOf ls).Nodup) : dDict [.tup (ofTab ls)] = some (.fr (.dic (tabD ls))) := by
  unfold dDict
  simp only [flat_ofTab, Bool.false_eq_true, if_false, asPairs_tab]
  have e := mergeD_app ls [] h
  simp only [List.nil_append] at e
  rw [show tabD [] = [] from rfl] at e
  simp [e]
@[simp] theorem dGetS_tab (t : List (Int × Int)) (k d : Int) : dGetS (.dic (tabD t)) [.int k, .int d] = some (.sh (.int ((tget t k).getD d))) := by
  have e : dGetS (.dic (tabD t)) [.int k, .int d] = if (tabD t).all (fun kv => match kv.1 with | .tup _ => false | _ => true) then some (.sh ((lookD (tabD t) (.int k)).getD (.int d))) else none := rfl
  rw [e, if_pos (tab_all t _ fun _ _ => rfl), lookD_tab]
  cases tget t k <;> rfl
theorem lookD_no {t : List (Int × Int)} {k : Int} {d : D} : ∃ v, (lookD (tabD t) (.int k)).getD d = v := ⟨_, rfl⟩
@[simp] theorem uPopD_tab (t : List (Int × Int)) (k : Int) (d : D) : uPopD (.dic (tabD t)) [.int k, d] = some (.dic (tabD (tdel t k)), ((tget t k).map D.int).getD d) := by
  have e : uPopD (.dic (tabD t)) [.int k, d] = if (tabD t).all (fun kv => match kv.1 with | .tup _ => false | _ => true) then some (.dic (dropD (tabD t) (.int k)), (lookD (tabD t) (.int k)).getD d) else none := rfl
  rw [e, if_pos (tab_all t _ fun _ _ => rfl), dropD_tab, lookD_tab]
theorem setD_tab {t : List (Int × Int)} (k v : Int) (h : t.length < sizeLine) : setD (.dic (tabD t)) (.int k) (.int v) = some (.dic (tabD (tput t k v))) := by
  have e : setD (.dic (tabD t)) (.int k) (.int v) = if (tabD t).all (fun kv => match kv.1 with | .tup _ => false | _ => true) then (if (tabD t).length < sizeLine then some (.dic (putD (tabD t) (.int k) (.int v))) else none) else none := rfl
  rw [e, if_pos (tab_all t _ fun _ _ => rfl), tabD_len, if_pos h, putD_tab]
def prI (ab : Int × Int) : D := .pr [.int ab.1, .int ab.2]
@[simp] theorem itemsOf_tab (t : List (Int × Int)) : itemsOf (.dic (tabD t)) = some (t.map prI) := by
  have e : itemsOf (.dic (tabD t)) = if (tabD t).all (fun kv => match kv.1 with | .tup _ => false | _ => true) then some ((tabD t).map fun kv => .pr [kv.1, kv.2]) else none := rfl
  rw [e, if_pos (tab_all t _ fun _ _ => rfl)]
  unfold tabD
  rw [List.map_map]
  rfl
@[simp] theorem dLen_tab (t : List (Int × Int)) : Mi.dLen [.dic (tabD t)] = some (.sh (.int t.length)) := by
  have e : Mi.dLen [.dic (tabD t)] = if (tabD t).all (fun kv => match kv.1 with | .tup _ => false | _ => true) then some (.sh (.int (tabD t).length)) else none := rfl
  rw [e, if_pos (tab_all t _ fun _ _ => rfl), tabD_len]
theorem dItemsS_tab {t : List (Int × Int)} (h : (keysOf t).Nodup) : dItemsS (.dic (tabD t)) = some (.fr (.lst (ofTab (sortT t)))) := by
  have e : dItemsS (.dic (tabD t)) = match asTab (tabD t) with
    | some t => if decide (keysOf t).Nodup then some (.fr (.lst (ofTab (sortT t)))) else none
    | none => none := rfl
  rw [e, asTab_tab]
  simp [h]
theorem sortT_perm (t : List (Int × Int)) : (sortT t).Perm t := List.mergeSort_perm _ _
theorem sortT_asc {t : List (Int × Int)} (h : (keysOf t).Nodup) : (keysOf (sortT t)).Pairwise (· < ·) := by
  have n1 : (keysOf (sortT t)).Nodup := ((sortT_perm t).map _).nodup_iff.mpr h
  have s1 : (sortT t).Pairwise (fun a b => decide (a.1 ≤ b.1) = true) := List.pairwise_mergeSort (fun a b c h1 h2 => by simp at *; omega) (fun a b => by simp; omega) t
  have s2 : (keysOf (sortT t)).Pairwise (· ≤ ·) := by
    unfold keysOf
    rw [List.pairwise_map]
    exact s1.imp fun h => of_decide_eq_true h
  exact (s2.and n1).imp fun ⟨a, b⟩ => by omega
theorem tab_sorted {p : Int} {t : List (Int × Int)} (h : Tab p t) : Good p (sortT t) := h.good (sortT_perm t) (sortT_asc h.nd)
theorem ixD_tab {t : List (Int × Int)} {k v : Int} (h : tget t k = some v) : dIx (.dic (tabD t)) (.int k) = some (.sh (.int v)) := by
  have ha := tabD_all t
  show ixD (.dic (tabD t)) (.int k) = _
  unfold ixD
  simp only [asKey]
  rw [show lookD (tabD t) (.int k) = some (.int v) by rw [lookD_tab, h]; rfl]
  simp [tabD, List.all_map]
theorem sortI_lt {l : List Int} (h : l.Nodup) : (sortI l).Pairwise (· < ·) := by
  have s1 : (sortI l).Pairwise (fun a b => decide (a ≤ b) = true) := List.pairwise_mergeSort (fun a b c h1 h2 => by simp at *; omega) (fun a b => by simp; omega) l
  have n1 : (sortI l).Nodup := (List.mergeSort_perm l _).nodup_iff.mpr h
  exact (s1.and n1).imp fun ⟨a, b⟩ => by
    have := of_decide_eq_true a
    omega
end Mi

/-! ## Plain: a round is made -/
namespace Mi
open PySem PySem.Spec PyProof.Rows L2 Lamp SlX Gd
/-- the object -/
def rndD (p : Int) (ls : List (Int × Int)) (e : Int) : D := .obj 0 [.int e, .tup (ofTab ls), .int p]
@[simp] theorem isC_rnd (q : PS) (p e : Int) (ls : List (Int × Int)) : isC 0 q (.sh (rndD p ls e)) = true := rfl
@[simp] theorem deref_rnd (q : PS) (p e : Int) (ls : List (Int × Int)) : deref q (rndD p ls e) = some (rndD p ls e) := rfl
@[simp] theorem fld0_rnd (p e : Int) (ls : List (Int × Int)) : gFld 0 0 (rndD p ls e) = some (.sh (.int e)) := rfl
@[simp] theorem fld1_rnd (p e : Int) (ls : List (Int × Int)) : gFld 0 1 (rndD p ls e) = some (.sh (.tup (ofTab ls))) := rfl
@[simp] theorem fld2_rnd (p e : Int) (ls : List (Int × Int)) : gFld 0 2 (rndD p ls e) = some (.sh (.int p)) := rfl
@[simp] theorem isiC_rnd {n : Nat} (h : 0 < n) (p e : Int) (ls : List (Int × Int)) : isiC n 0 (rndD p ls e) = some (.sh (.bl true)) := by
  show (if 0 < n then some (RV.sh (D.bl ((0 : Nat) == 0))) else none) = _
  rw [if_pos h]
  rfl
theorem isint_i (i : Int) (st : List D) : fn_is_integer [.int i] st = some (.ret (.sh (.bl true)) st) := by
  simp [fn_is_integer, m_is_integer, sSeq, sFor, srcA, srcE, mLc, seqOf, ownOk, wipeE, restE, Slot.owned, dTuple_lst, dTuple_tup, mDic0, sIf, sAsg, sRet, sRetN, sExpr, sNil, bindE, bindS, eBor, eC, eVar, fz, know, mOp, mUn, op2, op1, get, get0, Slot.rd, ret, asB, mPrim, bindA, args, opN, gets, gNm, gTp, gAll, gSubM, setAt, openAt_eq, enter, leave, runFn, mCall, callF, shs, backF, dIx, ixS, cGt, cGe, cLtI, cLe, Mi.b2, dAdd, addS, addL, addT, dMulI, dSub, Mi.i2, dMod, dDiv, sz_le, sz_lt, setD_lst, dInt_i, dInt_b, ixN, mIf, mAnd, mOr, mNot, mTru, tru, isiT, tyD, inK, eqF, D.scal, dLen_lst, dLen_tup, dLen_scr, dLen_str, dNeg, isP, isNon, mChain, mTup, mLst, mProp, mMth, noX, mCallK, permL, mCell, sSelfC, sSelf, sPar, sAug, dAbs, mMut, tyName, mMeth, isTy, opM, uApp, uExt, mSl, mPart, asPart, isFr, dMax, dMin, dMinA, srcA, enumA, enum1]
structure Lev (p : Int) : Prop where
  is : p = 2 ∨ p = 3 ∨ p = 5 ∨ p = 7
theorem arelev_i {p : Int} (h : Lev p) (st : List D) : fn_are_levels [.int p] st = some (.ret (.sh (.bl true)) st) := by
  rcases h.is with rfl | rfl | rfl | rfl <;> simp [fn_are_levels, m_are_levels, isint_i, sSeq, sFor, srcA, srcE, mLc, seqOf, ownOk, wipeE, restE, Slot.owned, dTuple_lst, dTuple_tup, mDic0, sIf, sAsg, sRet, sRetN, sExpr, sNil, bindE, bindS, eBor, eC, eVar, fz, know, mOp, mUn, op2, op1, get, get0, Slot.rd, ret, asB, mPrim, bindA, args, opN, gets, gNm, gTp, gAll, gSubM, setAt, openAt_eq, enter, leave, runFn, mCall, callF, shs, backF, dIx, ixS, cGt, cGe, cLtI, cLe, Mi.b2, dAdd, addS, addL, addT, dMulI, dSub, Mi.i2, dMod, dDiv, sz_le, sz_lt, setD_lst, dInt_i, dInt_b, ixN, mIf, mAnd, mOr, mNot, mTru, tru, isiT, tyD, inK, eqF, D.scal, dLen_lst, dLen_tup, dLen_scr, dLen_str, dNeg, isP, isNon, mChain, mTup, mLst, mProp, mMth, noX, mCallK, permL, mCell, sSelfC, sSelf, sPar, sAug, dAbs, mMut, tyName, mMeth, isTy, opM, uApp, uExt, mSl, mPart, asPart, isFr, dMax, dMin, dMinA, srcA, enumA, enum1]
theorem chklev_i {p : Int} (h : Lev p) (st : List D) : fn_check_levels [.int p] st = some (.ret (.sh .non) st) := by
  simp [fn_check_levels, m_check_levels, arelev_i h, sSeq, sFor, srcA, srcE, mLc, seqOf, ownOk, wipeE, restE, Slot.owned, dTuple_lst, dTuple_tup, mDic0, sIf, sAsg, sRet, sRetN, sExpr, sNil, bindE, bindS, eBor, eC, eVar, fz, know, mOp, mUn, op2, op1, get, get0, Slot.rd, ret, asB, mPrim, bindA, args, opN, gets, gNm, gTp, gAll, gSubM, setAt, openAt_eq, enter, leave, runFn, mCall, callF, shs, backF, dIx, ixS, cGt, cGe, cLtI, cLe, Mi.b2, dAdd, addS, addL, addT, dMulI, dSub, Mi.i2, dMod, dDiv, sz_le, sz_lt, setD_lst, dInt_i, dInt_b, ixN, mIf, mAnd, mOr, mNot, mTru, tru, isiT, tyD, inK, eqF, D.scal, dLen_lst, dLen_tup, dLen_scr, dLen_str, dNeg, isP, isNon, mChain, mTup, mLst, mProp, mMth, noX, mCallK, permL, mCell, sSelfC, sSelf, sPar, sAug, dAbs, mMut, tyName, mMeth, isTy, opM, uApp, uExt, mSl, mPart, asPart, isFr, dMax, dMin, dMinA, srcA, enumA, enum1]
theorem chknum_i (i : Int) (st : List D) : fn_check_number [.int i] st = some (.ret (.sh .non) st) := by
  simp [fn_check_number, m_check_number, isint_i, sSeq, sFor, srcA, srcE, mLc, seqOf, ownOk, wipeE, restE, Slot.owned, dTuple_lst, dTuple_tup, mDic0, sIf, sAsg, sRet, sRetN, sExpr, sNil, bindE, bindS, eBor, eC, eVar, fz, know, mOp, mUn, op2, op1, get, get0, Slot.rd, ret, asB, mPrim, bindA, args, opN, gets, gNm, gTp, gAll, gSubM, setAt, openAt_eq, enter, leave, runFn, mCall, callF, shs, backF, dIx, ixS, cGt, cGe, cLtI, cLe, Mi.b2, dAdd, addS, addL, addT, dMulI, dSub, Mi.i2, dMod, dDiv, sz_le, sz_lt, setD_lst, dInt_i, dInt_b, ixN, mIf, mAnd, mOr, mNot, mTru, tru, isiT, tyD, inK, eqF, D.scal, dLen_lst, dLen_tup, dLen_scr, dLen_str, dNeg, isP, isNon, mChain, mTup, mLst, mProp, mMth, noX, mCallK, permL, mCell, sSelfC, sSelf, sPar, sAug, dAbs, mMut, tyName, mMeth, isTy, opM, uApp, uExt, mSl, mPart, asPart, isFr, dMax, dMin, dMinA, srcA, enumA, enum1]
/-- places rising -/
theorem keys_at {ls : List (Int × Int)} (h : (keysOf ls).Pairwise (· < ·)) {i j : Nat} {a b : Int × Int} (ha : ls[i]? = some a) (hb : ls[j]? = some b) (l : i < j) : a.1 < b.1 := by
  obtain ⟨hi, ea⟩ := List.getElem?_eq_some_iff.mp ha
  obtain ⟨hj, eb⟩ := List.getElem?_eq_some_iff.mp hb
  have := List.pairwise_iff_getElem.mp h i j (by simpa [keysOf] using hi) (by simpa [keysOf] using hj) l
  simpa [keysOf, ea, eb] using this
theorem enumL_ofTab (ls : List (Int × Int)) : enumL (ofTab ls) = (List.range ls.length).map fun (i : Nat) => D.pr [.int (i : Int), .tup [.int (ls.getD i (0, 0)).1, .int (ls.getD i (0, 0)).2]] := by
  unfold enumL ofTab
  apply List.ext_getElem
  · simp
  · intro i h1 h2
    simp at h1 h2
    simp [List.getD, List.getElem?_eq_getElem h1]
theorem bent_i {p : Int} {ls : List (Int × Int)} (h : Good p ls) (st : List D) : fn_bent_lamp [.int p, .tup (ofTab ls)] st = some (.ret (.sh .non) st) := by
  have loop := forL_inv (gm := gTp [(gNm 2), (gNm 3)]) (b := b1_bent_lamp)
    (fun ds q => ∃ o2 o3, (∀ d ∈ ds, ∃ i ab, ls[i]? = some ab ∧ d = .pr [.int (i : Nat), .tup [.int ab.1, .int ab.2]]) ∧ q = ⟨[.sh (.int p), .sh (.tup (ofTab ls)), jk o2, jk o3], st⟩) (by
      rintro d ds q ⟨o2, o3, hd, rfl⟩
      obtain ⟨i, ab, hi, rfl⟩ := hd d List.mem_cons_self
      refine ⟨⟨[.sh (.int p), .sh (.tup (ofTab ls)), .sh (.int i), .sh (.tup [.int ab.1, .int ab.2])], st⟩, _, ?_, .inl ?_, ⟨some (.int i), some (.tup [.int ab.1, .int ab.2]), fun d hd' => hd d (List.mem_cons_of_mem _ hd'), rfl⟩⟩
      · simp [gTp, gAll, gNm, openAt_eq]
      · have lv := h.lev ab (List.mem_of_getElem? hi)
        by_cases c : 0 < i
        · obtain ⟨hi', e⟩ := List.getElem?_eq_some_iff.mp hi
          have hb : ls[i - 1]? = some ls[i - 1] := List.getElem?_eq_getElem (by omega)
          have k := keys_at h.asc hb hi (by omega)
          have k' : ¬ ab.1 ≤ ls[i - 1].1 := by omega
          have ix : atI (ofTab ls) ((i : Int) - 1) = some (.tup [.int ls[i - 1].1, .int ls[i - 1].2]) := by
            have e1 : (i : Int) - 1 = ((i - 1 : Nat) : Int) := by omega
            rw [e1, atI_nat]
            simp [ofTab, hb]
          simp [b1_bent_lamp, isint_i, c, lv, ix, k', sSeq, sFor, srcA, srcE, mLc, seqOf, ownOk, wipeE, restE, Slot.owned, dTuple_lst, dTuple_tup, mDic0, sIf, sAsg, sRet, sRetN, sExpr, sNil, bindE, bindS, eBor, eC, eVar, fz, know, mOp, mUn, op2, op1, get, get0, Slot.rd, ret, asB, mPrim, bindA, args, opN, gets, gNm, gTp, gAll, gSubM, setAt, openAt_eq, enter, leave, runFn, mCall, callF, shs, backF, dIx, ixS, cGt, cGe, cLtI, cLe, Mi.b2, dAdd, addS, addL, addT, dMulI, dSub, Mi.i2, dMod, dDiv, sz_le, sz_lt, setD_lst, dInt_i, dInt_b, ixN, mIf, mAnd, mOr, mNot, mTru, tru, isiT, tyD, inK, eqF, D.scal, dLen_lst, dLen_tup, dLen_scr, dLen_str, dNeg, isP, isNon, mChain, mTup, mLst, mProp, mMth, noX, mCallK, permL, mCell, sSelfC, sSelf, sPar, sAug, dAbs, mMut, tyName, mMeth, isTy, opM, uApp, uExt, mSl, mPart, asPart, isFr, dMax, dMin, dMinA, srcA, enumA, enum1]
        · have c' : i = 0 := by omega
          subst c'
          simp [b1_bent_lamp, isint_i, lv, sSeq, sFor, srcA, srcE, mLc, seqOf, ownOk, wipeE, restE, Slot.owned, dTuple_lst, dTuple_tup, mDic0, sIf, sAsg, sRet, sRetN, sExpr, sNil, bindE, bindS, eBor, eC, eVar, fz, know, mOp, mUn, op2, op1, get, get0, Slot.rd, ret, asB, mPrim, bindA, args, opN, gets, gNm, gTp, gAll, gSubM, setAt, openAt_eq, enter, leave, runFn, mCall, callF, shs, backF, dIx, ixS, cGt, cGe, cLtI, cLe, Mi.b2, dAdd, addS, addL, addT, dMulI, dSub, Mi.i2, dMod, dDiv, sz_le, sz_lt, setD_lst, dInt_i, dInt_b, ixN, mIf, mAnd, mOr, mNot, mTru, tru, isiT, tyD, inK, eqF, D.scal, dLen_lst, dLen_tup, dLen_scr, dLen_str, dNeg, isP, isNon, mChain, mTup, mLst, mProp, mMth, noX, mCallK, permL, mCell, sSelfC, sSelf, sPar, sAug, dAbs, mMut, tyName, mMeth, isTy, opM, uApp, uExt, mSl, mPart, asPart, isFr, dMax, dMin, dMinA, srcA, enumA, enum1])
    (enumL (ofTab ls)) ⟨[.sh (.int p), .sh (.tup (ofTab ls)), .no, .no], st⟩ ⟨none, none, by
      intro d hd
      rw [enumL_ofTab] at hd
      obtain ⟨i, hi, rfl⟩ := List.mem_map.mp hd
      have hi' : i < ls.length := List.mem_range.mp hi
      exact ⟨i, ls[i], List.getElem?_eq_getElem hi', by simp [List.getD, List.getElem?_eq_getElem hi']⟩, rfl⟩
  obtain ⟨q, e, o2, o3, _, rfl⟩ := loop
  simp [fn_bent_lamp, m_bent_lamp, e, sSeq, sFor, srcA, srcE, mLc, seqOf, ownOk, wipeE, restE, Slot.owned, dTuple_lst, dTuple_tup, mDic0, sIf, sAsg, sRet, sRetN, sExpr, sNil, bindE, bindS, eBor, eC, eVar, fz, know, mOp, mUn, op2, op1, get, get0, Slot.rd, ret, asB, mPrim, bindA, args, opN, gets, gNm, gTp, gAll, gSubM, setAt, openAt_eq, enter, leave, runFn, mCall, callF, shs, backF, dIx, ixS, cGt, cGe, cLtI, cLe, Mi.b2, dAdd, addS, addL, addT, dMulI, dSub, Mi.i2, dMod, dDiv, sz_le, sz_lt, setD_lst, dInt_i, dInt_b, ixN, mIf, mAnd, mOr, mNot, mTru, tru, isiT, tyD, inK, eqF, D.scal, dLen_lst, dLen_tup, dLen_scr, dLen_str, dNeg, isP, isNon, mChain, mTup, mLst, mProp, mMth, noX, mCallK, permL, mCell, sSelfC, sSelf, sPar, sAug, dAbs, mMut, tyName, mMeth, isTy, opM, uApp, uExt, mSl, mPart, asPart, isFr, dMax, dMin, dMinA, srcA, enumA, enum1]
theorem ofTab_len (ls : List (Int × Int)) : (ofTab ls).length = ls.length := by simp [ofTab]
theorem wrong_i {p : Int} {ls : List (Int × Int)} (h : Good p ls) (hl : ls.length ≤ 400) (st : List D) : fn_wrong_lamp [.int p, .tup (ofTab ls)] st = some (.ret (.sh .non) st) := by
  have c : ¬ (400 : Int) < ls.length := by omega
  simp [fn_wrong_lamp, m_wrong_lamp, bent_i h, ofTab_len, c, sSeq, sFor, srcA, srcE, mLc, seqOf, ownOk, wipeE, restE, Slot.owned, dTuple_lst, dTuple_tup, mDic0, sIf, sAsg, sRet, sRetN, sExpr, sNil, bindE, bindS, eBor, eC, eVar, fz, know, mOp, mUn, op2, op1, get, get0, Slot.rd, ret, asB, mPrim, bindA, args, opN, gets, gNm, gTp, gAll, gSubM, setAt, openAt_eq, enter, leave, runFn, mCall, callF, shs, backF, dIx, ixS, cGt, cGe, cLtI, cLe, Mi.b2, dAdd, addS, addL, addT, dMulI, dSub, Mi.i2, dMod, dDiv, sz_le, sz_lt, setD_lst, dInt_i, dInt_b, ixN, mIf, mAnd, mOr, mNot, mTru, tru, isiT, tyD, inK, eqF, D.scal, dLen_lst, dLen_tup, dLen_scr, dLen_str, dNeg, isP, isNon, mChain, mTup, mLst, mProp, mMth, noX, mCallK, permL, mCell, sSelfC, sSelf, sPar, sAug, dAbs, mMut, tyName, mMeth, isTy, opM, uApp, uExt, mSl, mPart, asPart, isFr, dMax, dMin, dMinA, srcA, enumA, enum1]
theorem init_i {p e : Int} {ls : List (Int × Int)} (hp : Lev p) (h : Good p ls) (hl : ls.length ≤ 400) (st : List D) : fn_Round_init [.int p, .tup (ofTab ls), .int e] st = some (.ret (.fr (rndD p ls e)) st) := by
  refine runInit_eq fun me => ?_
  simp [initAt, enterI, m_Round_init, chklev_i hp, wrong_i h hl, chknum_i, leaveI, unsome, rndD, sSeq, sFor, srcA, srcE, mLc, seqOf, ownOk, wipeE, restE, Slot.owned, dTuple_lst, dTuple_tup, mDic0, sIf, sAsg, sRet, sRetN, sExpr, sNil, bindE, bindS, eBor, eC, eVar, fz, know, mOp, mUn, op2, op1, get, get0, Slot.rd, ret, asB, mPrim, bindA, args, opN, gets, gNm, gTp, gAll, gSubM, setAt, openAt_eq, enter, leave, runFn, mCall, callF, shs, backF, dIx, ixS, cGt, cGe, cLtI, cLe, Mi.b2, dAdd, addS, addL, addT, dMulI, dSub, Mi.i2, dMod, dDiv, sz_le, sz_lt, setD_lst, dInt_i, dInt_b, ixN, mIf, mAnd, mOr, mNot, mTru, tru, isiT, tyD, inK, eqF, D.scal, dLen_lst, dLen_tup, dLen_scr, dLen_str, dNeg, isP, isNon, mChain, mTup, mLst, mProp, mMth, noX, mCallK, permL, mCell, sSelfC, sSelf, sPar, sAug, dAbs, mMut, tyName, mMeth, isTy, opM, uApp, uExt, mSl, mPart, asPart, isFr, dMax, dMin, dMinA, srcA, enumA, enum1]
theorem Lev.fin {p : Int} (h : Lev p) : Fin1 p := by
  rcases h.is with rfl | rfl | rfl | rfl <;> (unfold Fin1; omega)
theorem Lev.pos {p : Int} (h : Lev p) : 2 ≤ p ∧ p ≤ 7 := by
  rcases h.is with rfl | rfl | rfl | rfl <;> omega
end Mi

/-! ## Plain: texts of rounds, read and written -/
namespace Mi
open PySem PySem.Spec PyProof.Rows L2 Lamp SlX Gd TL
/-- what a law knows of a round -/
def partD (p : Int) (ls : List (Int × Int)) (e : Int) : D := .lst [.int p, .tup (ofTab ls), .int e]
theorem le1M {n : Nat} (h : n < 1000000) : n ≤ sizeLine := Nat.le_of_lt (small1M (Nat.le_of_lt h))
theorem strI {i : Int} (h : Fin1 i) : dStr [.int i] = some (.sh (.str (iS i))) := by
  unfold dStr
  simp only [if_pos h.log]
  rfl
theorem intS {i : Int} (h : Fin1 i) : dInt [.str (iS i)] = some (.sh (.int i)) := by
  have hl : (iS i).length ≤ 640 := Nat.le_trans (iS_len h) (by decide)
  unfold dInt
  simp only [int_iS h, if_pos hl]
theorem sign_in (c : Nat) (z : Str) : inS (.str ⟨#[c]⟩) (.str z) = some (.sh (.bl (decide (c ∈ z.cps.toList)))) :=
  congrArg (fun b => some (RV.sh (D.bl b))) (PySem.StrLaws.found_one z c)
theorem digit_is {c : Nat} (h1 : 48 ≤ c) (h2 : c ≤ 57) : inS (.str ⟨#[c]⟩) (.str "0123456789") = some (.sh (.bl true)) := by
  rw [sign_in, digit_in h1 h2]
theorem digS_sign {i : Int} {c : Nat} (h : c ∈ (digS i).cps.toList) : 48 ≤ c ∧ c ≤ 57 := by
  have h' : c ∈ numL i.natAbs := by
    have e : (digS i).cps.toList = numL i.natAbs := tl_digS i
    rw [e] at h
    exact h
  rcases Nat.lt_or_ge c 48 with l | l
  · exact absurd h' (TL.numL_free (.inl l))
  · rcases Nat.lt_or_ge 57 c with g | g
    · exact absurd h' (TL.numL_free (.inr g))
    · exact ⟨l, g⟩
theorem written_i {i : Int} (h : Fin1 i) (st : List D) : fn_written_integer [.str (iS i)] st = some (.ret (.sh (.int i)) st) := by
  have l1 : (iS i).length ≤ sizeLine := le1M (Nat.lt_of_le_of_lt (iS_len h) (by decide))
  have l2 : (digS i).length ≤ sizeLine := le1M (Nat.lt_of_le_of_lt (digS_len h) (by decide))
  have l3 : ¬ (4000 : Int) < (digS i).length := by
    have := digS_len h
    omega
  have ne := digS_ne i
  have lc : ∀ (a b : Slot), lcL (gNm 2) (eC (.bl true)) e1_written_integer [2] ((digS i).cps.toList.map fun c => D.str ⟨#[c]⟩) [] ⟨[a, b, .no], st⟩ = some ((digS i).cps.toList.map fun _ => .bl true, ⟨[a, b, .no], st⟩) := fun a b => by
    refine lcL_all (fun c => D.str ⟨#[c]⟩) (fun _ => .bl true) _ (fun c hc => ?_) (by
      have : (digS i).cps.toList.length = (digS i).length := Array.length_toList
      omega)
    obtain ⟨h1, h2⟩ := digS_sign hc
    have e := digit_is h1 h2
    simp [lcTurn, e1_written_integer, cIn, e, sSeq, sFor, srcA, srcE, mLc, seqOf, ownOk, wipeE, restE, Slot.owned, dTuple_lst, dTuple_tup, mDic0, sIf, sAsg, sRet, sRetN, sExpr, sNil, bindE, bindS, eBor, eC, eVar, fz, know, mOp, mUn, op2, op1, get, get0, Slot.rd, ret, asB, mPrim, bindA, args, opN, gets, gNm, gTp, gAll, gSubM, setAt, openAt_eq, enter, leave, runFn, mCall, callF, shs, backF, dIx, ixS, cGt, cGe, cLtI, cLe, Mi.b2, dAdd, addS, addL, addT, dMulI, dSub, Mi.i2, dMod, dDiv, sz_le, sz_lt, setD_lst, dInt_i, dInt_b, ixN, mIf, mAnd, mOr, mNot, mTru, tru, isiT, tyD, inK, eqF, D.scal, dLen_lst, dLen_tup, dLen_scr, dLen_str, dNeg, isP, isNon, mChain, mTup, mLst, mProp, mMth, noX, mCallK, permL, mCell, sSelfC, sSelf, sPar, sAug, dAbs, mMut, tyName, mMeth, isTy, opM, uApp, uExt, mSl, mPart, asPart, isFr, dMax, dMin, dMinA, srcA, enumA, enum1]
  have al : dAll [.lst ((digS i).cps.toList.map fun _ => .bl true)] = some (.sh (.bl true)) := by
    have e : ((digS i).cps.toList.map fun _ => D.bl true) = ((digS i).cps.toList.map fun _ => true).map D.bl := by rw [List.map_map]; rfl
    rw [e]
    simp only [dAll, asBls_map]
    simp
  have fin := intS h
  have fin2 := strI h
  by_cases c : i < 0
  · have s1 : dSl (.str (iS i)) none (some 1) = some (.sh (.str "-")) := by
      unfold dSl
      simp only [if_pos l1, neg_head c]
    have s2 : dSl (.str (iS i)) (some 1) none = some (.sh (.str (digS i))) := by
      unfold dSl
      simp only [if_pos l1, neg_tail c]
    simp [fn_written_integer, m_written_integer, s1, s2, ne, l2, l3, lc, al, fin, fin2, sSeq, sFor, srcA, srcE, mLc, seqOf, ownOk, wipeE, restE, Slot.owned, dTuple_lst, dTuple_tup, mDic0, sIf, sAsg, sRet, sRetN, sExpr, sNil, bindE, bindS, eBor, eC, eVar, fz, know, mOp, mUn, op2, op1, get, get0, Slot.rd, ret, asB, mPrim, bindA, args, opN, gets, gNm, gTp, gAll, gSubM, setAt, openAt_eq, enter, leave, runFn, mCall, callF, shs, backF, dIx, ixS, cGt, cGe, cLtI, cLe, Mi.b2, dAdd, addS, addL, addT, dMulI, dSub, Mi.i2, dMod, dDiv, sz_le, sz_lt, setD_lst, dInt_i, dInt_b, ixN, mIf, mAnd, mOr, mNot, mTru, tru, isiT, tyD, inK, eqF, D.scal, dLen_lst, dLen_tup, dLen_scr, dLen_str, dNeg, isP, isNon, mChain, mTup, mLst, mProp, mMth, noX, mCallK, permL, mCell, sSelfC, sSelf, sPar, sAug, dAbs, mMut, tyName, mMeth, isTy, opM, uApp, uExt, mSl, mPart, asPart, isFr, dMax, dMin, dMinA, srcA, enumA, enum1]
  · have s1 : dSl (.str (iS i)) none (some 1) = some (.sh (.str (cutS (iS i) none (some 1)))) := by
      unfold dSl
      simp only [if_pos l1]
    have n1 := pos_head c
    have e := pos_dig c
    rw [e] at s1 n1 l1 fin fin2 ⊢
    simp [fn_written_integer, m_written_integer, s1, n1, ne, l2, l3, lc, al, fin, fin2, sSeq, sFor, srcA, srcE, mLc, seqOf, ownOk, wipeE, restE, Slot.owned, dTuple_lst, dTuple_tup, mDic0, sIf, sAsg, sRet, sRetN, sExpr, sNil, bindE, bindS, eBor, eC, eVar, fz, know, mOp, mUn, op2, op1, get, get0, Slot.rd, ret, asB, mPrim, bindA, args, opN, gets, gNm, gTp, gAll, gSubM, setAt, openAt_eq, enter, leave, runFn, mCall, callF, shs, backF, dIx, ixS, cGt, cGe, cLtI, cLe, Mi.b2, dAdd, addS, addL, addT, dMulI, dSub, Mi.i2, dMod, dDiv, sz_le, sz_lt, setD_lst, dInt_i, dInt_b, ixN, mIf, mAnd, mOr, mNot, mTru, tru, isiT, tyD, inK, eqF, D.scal, dLen_lst, dLen_tup, dLen_scr, dLen_str, dNeg, isP, isNon, mChain, mTup, mLst, mProp, mMth, noX, mCallK, permL, mCell, sSelfC, sSelf, sPar, sAug, dAbs, mMut, tyName, mMeth, isTy, opM, uApp, uExt, mSl, mPart, asPart, isFr, dMax, dMin, dMinA, srcA, enumA, enum1]
def lampT (ab : Int × Int) : D := .tup [.int ab.1, .int ab.2]
theorem ofTab_map (ls : List (Int × Int)) : ofTab ls = ls.map lampT := rfl
theorem split_at {a b : Str} (h : (b.length == 0) = false) (hl : a.length + 2 ≤ sizeLine) : mSplit (.str a) [.str b] = some (.fr (.lst ((Txt.split a b).map .str))) := if_pos ⟨h, hl⟩
theorem textlamp_i {ab : Int × Int} (h1 : Fin1 ab.1) (h2 : Fin1 ab.2) (st : List D) : fn_text_lamp [.str (lampW ab)] st = some (.ret (.sh (lampT ab)) st) := by
  have hl : (lampW ab).length + 2 ≤ sizeLine := le1M (by
    have e : (lampW ab).length = (tl (lampW ab)).length := len_tl _
    rw [e, tl_lampW]
    have a1 := numS_len h1
    have a2 := numS_len h2
    simp
    omega)
  have sp : mSplit (.str (lampW ab)) [.str ":"] = some (.fr (.lst [.str (iS ab.1), .str (iS ab.2)])) := by
    rw [split_at (by decide) hl]
    rw [show Txt.split (lampW ab) ":" = [iS ab.1, iS ab.2] from split_lamp ab]
    rfl
  have z : 1 < sizeLine := small1M (by omega)
  have z0 : 0 < sizeLine := small1M (by omega)
  simp [fn_text_lamp, m_text_lamp, sp, lcL, lcTurn, e1_text_lamp, written_i h1, written_i h2, z, z0, cIn, inL, lampT, sSeq, sFor, srcA, srcE, mLc, seqOf, ownOk, wipeE, restE, Slot.owned, dTuple_lst, dTuple_tup, mDic0, sIf, sAsg, sRet, sRetN, sExpr, sNil, bindE, bindS, eBor, eC, eVar, fz, know, mOp, mUn, op2, op1, get, get0, Slot.rd, ret, asB, mPrim, bindA, args, opN, gets, gNm, gTp, gAll, gSubM, setAt, openAt_eq, enter, leave, runFn, mCall, callF, shs, backF, dIx, ixS, cGt, cGe, cLtI, cLe, Mi.b2, dAdd, addS, addL, addT, dMulI, dSub, Mi.i2, dMod, dDiv, sz_le, sz_lt, setD_lst, dInt_i, dInt_b, ixN, mIf, mAnd, mOr, mNot, mTru, tru, isiT, tyD, inK, eqF, D.scal, dLen_lst, dLen_tup, dLen_scr, dLen_str, dNeg, isP, isNon, mChain, mTup, mLst, mProp, mMth, noX, mCallK, permL, mCell, sSelfC, sSelf, sPar, sAug, dAbs, mMut, tyName, mMeth, isTy, opM, uApp, uExt, mSl, mPart, asPart, isFr, dMax, dMin, dMinA, srcA, enumA, enum1]
end Mi

/-! ## Plain: the text of a round is read -/
namespace Mi
open PySem PySem.Spec PyProof.Rows L2 Lamp SlX Gd TL
/-- a round of moderate numbers -/
structure RndOk (p : Int) (ls : List (Int × Int)) (e : Int) : Prop where
  lev : Lev p
  good : Good p ls
  few : ls.length ≤ 400
  fin : ∀ ab ∈ ls, Fin1 ab.1
  fe : Fin1 e
theorem RndOk.fin2 {p e : Int} {ls : List (Int × Int)} (h : RndOk p ls e) : ∀ ab ∈ ls, Fin1 ab.1 ∧ Fin1 ab.2 := fun ab m => ⟨h.fin ab m, by
  have := h.good.lev ab m
  have := h.lev.pos
  unfold Fin1
  omega⟩
theorem text_len {p e : Int} {ls : List (Int × Int)} (h : RndOk p ls e) : (textT p ls e).length < 200000 := by
  have := (plain_text h.lev.fin h.fe h.fin2).1
  have := h.few
  omega
theorem wordsT_eq (p : Int) (ls : List (Int × Int)) (e : Int) : (wordsT p ls e).map D.str = .str "levels" :: .str (iS p) :: .str "end" :: .str (iS e) :: .str (if ls = [] then "dark" else "lamps") :: (ls.map fun ab => .str (lampW ab)) := by
  unfold wordsT
  simp
theorem readT_i {p e : Int} {ls : List (Int × Int)} (h : RndOk p ls e) (st : List D) : fn_text_round [.str (textT p ls e)] st = some (.ret (.fr (rndD p ls e)) st) := by
  have hl : (textT p ls e).length + 2 ≤ sizeLine := le1M (by have := text_len h; omega)
  have sp : mSplit (.str (textT p ls e)) [.str " "] = some (.fr (.lst (.str "levels" :: .str (iS p) :: .str "end" :: .str (iS e) :: .str (if ls = [] then "dark" else "lamps") :: (ls.map fun ab => .str (lampW ab))))) := by
    rw [split_at (by decide) hl]
    rw [show Txt.split (textT p ls e) " " = wordsT p ls e from split_text p ls e, wordsT_eq]
  have lc : ∀ (a b c d f : Slot), lcL (gNm 5) (eC (.bl true)) e1_text_round [5] (ls.map fun ab => D.str (lampW ab)) [] ⟨[a, b, c, d, f, .no], st⟩ = some (ls.map lampT, ⟨[a, b, c, d, f, .no], st⟩) := fun a b c d f => by
    refine lcL_all (fun ab => D.str (lampW ab)) lampT ls (fun ab hab => ?_) (le1M (by have := h.few; omega))
    have w := textlamp_i (h.fin2 ab hab).1 (h.fin2 ab hab).2 st
    simp [lcTurn, e1_text_round, w, sSeq, sFor, srcA, srcE, mLc, seqOf, ownOk, wipeE, restE, Slot.owned, dTuple_lst, dTuple_tup, mDic0, sIf, sAsg, sRet, sRetN, sExpr, sNil, bindE, bindS, eBor, eC, eVar, fz, know, mOp, mUn, op2, op1, get, get0, Slot.rd, ret, asB, mPrim, bindA, args, opN, gets, gNm, gTp, gAll, gSubM, setAt, openAt_eq, enter, leave, runFn, mCall, callF, shs, backF, dIx, ixS, cGt, cGe, cLtI, cLe, Mi.b2, dAdd, addS, addL, addT, dMulI, dSub, Mi.i2, dMod, dDiv, sz_le, sz_lt, setD_lst, dInt_i, dInt_b, ixN, mIf, mAnd, mOr, mNot, mTru, tru, isiT, tyD, inK, eqF, D.scal, dLen_lst, dLen_tup, dLen_scr, dLen_str, dNeg, isP, isNon, mChain, mTup, mLst, mProp, mMth, noX, mCallK, permL, mCell, sSelfC, sSelf, sPar, sAug, dAbs, mMut, tyName, mMeth, isTy, opM, uApp, uExt, mSl, mPart, asPart, isFr, dMax, dMin, dMinA, srcA, enumA, enum1]
  have a1 := written_i h.lev.fin
  have a2 := written_i h.fe
  have a3 := wrong_i h.good h.few
  have a4 := init_i (e := e) h.lev h.good h.few
  have a5 := arelev_i h.lev
  rw [ofTab_map] at a3
  rw [ofTab_map] at a4
  by_cases c : ls = []
  · subst c
    have cut : ∀ (a b c d f : D), cutL [a, b, c, d, f] (some 5) none = [] := fun a b c d f => rfl
    have lc0 := lc
    simp only [List.map_nil] at sp lc0 a3 a4
    simp [fn_text_round, m_text_round, sp, a1, a2, a3, a4, a5, cut, dSl, lc0, cNotIn, inL, Mi.dAll, sSeq, sFor, srcA, srcE, mLc, seqOf, ownOk, wipeE, restE, Slot.owned, dTuple_lst, dTuple_tup, mDic0, sIf, sAsg, sRet, sRetN, sExpr, sNil, bindE, bindS, eBor, eC, eVar, fz, know, mOp, mUn, op2, op1, get, get0, Slot.rd, ret, asB, mPrim, bindA, args, opN, gets, gNm, gTp, gAll, gSubM, setAt, openAt_eq, enter, leave, runFn, mCall, callF, shs, backF, dIx, ixS, cGt, cGe, cLtI, cLe, Mi.b2, dAdd, addS, addL, addT, dMulI, dSub, Mi.i2, dMod, dDiv, sz_le, sz_lt, setD_lst, dInt_i, dInt_b, ixN, mIf, mAnd, mOr, mNot, mTru, tru, isiT, tyD, inK, eqF, D.scal, dLen_lst, dLen_tup, dLen_scr, dLen_str, dNeg, isP, isNon, mChain, mTup, mLst, mProp, mMth, noX, mCallK, permL, mCell, sSelfC, sSelf, sPar, sAug, dAbs, mMut, tyName, mMeth, isTy, opM, uApp, uExt, mSl, mPart, asPart, isFr, dMax, dMin, dMinA, srcA, enumA, enum1]
  · have cl : 0 < ls.length := List.length_pos_iff.mpr c
    have cut : ∀ (a b c d f : D) (r : List D), cutL (a :: b :: c :: d :: f :: r) (some 5) none = r := fun a b c d f r => by
      unfold cutL
      rw [show (5 : Int) = ((5 : Nat) : Int) from rfl, HT.sIx_nat, HT.sIx_none]
      simp
    have c5 : ¬ (ls.length : Int) + 1 + 1 + 1 + 1 + 1 = 5 := by omega
    have c6 : ¬ (ls.length : Int) + 1 + 1 + 1 + 1 + 1 < 5 := by omega
    rw [if_neg c] at sp
    simp [fn_text_round, m_text_round, sp, a1, a2, a3, a4, a5, cut, c5, c6, dSl, lc, cNotIn, inL, sSeq, sFor, srcA, srcE, mLc, seqOf, ownOk, wipeE, restE, Slot.owned, dTuple_lst, dTuple_tup, mDic0, sIf, sAsg, sRet, sRetN, sExpr, sNil, bindE, bindS, eBor, eC, eVar, fz, know, mOp, mUn, op2, op1, get, get0, Slot.rd, ret, asB, mPrim, bindA, args, opN, gets, gNm, gTp, gAll, gSubM, setAt, openAt_eq, enter, leave, runFn, mCall, callF, shs, backF, dIx, ixS, cGt, cGe, cLtI, cLe, Mi.b2, dAdd, addS, addL, addT, dMulI, dSub, Mi.i2, dMod, dDiv, sz_le, sz_lt, setD_lst, dInt_i, dInt_b, ixN, mIf, mAnd, mOr, mNot, mTru, tru, isiT, tyD, inK, eqF, D.scal, dLen_lst, dLen_tup, dLen_scr, dLen_str, dNeg, isP, isNon, mChain, mTup, mLst, mProp, mMth, noX, mCallK, permL, mCell, sSelfC, sSelf, sPar, sAug, dAbs, mMut, tyName, mMeth, isTy, opM, uApp, uExt, mSl, mPart, asPart, isFr, dMax, dMin, dMinA, srcA, enumA, enum1]
theorem read_i {p e : Int} {ls : List (Int × Int)} (h : RndOk p ls e) (st : List D) : fn_Round_read [.str (textT p ls e)] st = some (.ret (.sh (rndD p ls e)) st) := by
  simp [fn_Round_read, m_Round_read, runFnC, enterC, readT_i h, rndD, sSeq, sFor, srcA, srcE, mLc, seqOf, ownOk, wipeE, restE, Slot.owned, dTuple_lst, dTuple_tup, mDic0, sIf, sAsg, sRet, sRetN, sExpr, sNil, bindE, bindS, eBor, eC, eVar, fz, know, mOp, mUn, op2, op1, get, get0, Slot.rd, ret, asB, mPrim, bindA, args, opN, gets, gNm, gTp, gAll, gSubM, setAt, openAt_eq, enter, leave, runFn, mCall, callF, shs, backF, dIx, ixS, cGt, cGe, cLtI, cLe, Mi.b2, dAdd, addS, addL, addT, dMulI, dSub, Mi.i2, dMod, dDiv, sz_le, sz_lt, setD_lst, dInt_i, dInt_b, ixN, mIf, mAnd, mOr, mNot, mTru, tru, isiT, tyD, inK, eqF, D.scal, dLen_lst, dLen_tup, dLen_scr, dLen_str, dNeg, isP, isNon, mChain, mTup, mLst, mProp, mMth, noX, mCallK, permL, mCell, sSelfC, sSelf, sPar, sAug, dAbs, mMut, tyName, mMeth, isTy, opM, uApp, uExt, mSl, mPart, asPart, isFr, dMax, dMin, dMinA, srcA, enumA, enum1]
end Mi

/-! ## Plain: sums of rounds, levels behind many rounds -/
namespace Mi
open PySem PySem.Spec PyProof.Rows L2 Lamp SlX Gd TL
def Then (p : Int) (ls ls' : List (Int × Int)) (e : Int) (lz : List (Int × Int)) : Prop := Good p lz ∧ ∀ k, lv lz k = (lv ls k + lv ls' (k - e)) % p
/-- the parts of a round undone -/
def Back (p : Int) (ls : List (Int × Int)) (e : Int) (lz : List (Int × Int)) : Prop := Good p lz ∧ ∀ k, lv lz k = (-(lv ls (k + e))) % p
theorem em1 (a b p : Int) : (a % p + b) % p = (a + b) % p := by
  have h := Int.emod_add_mul_ediv a p
  have e : a % p + b = (a + b) + p * (-(a / p)) := by
    rw [Int.mul_neg]
    omega
  rw [e, Int.add_mul_emod_self_left]
theorem em2 (a b p : Int) : (a + b % p) % p = (a + b) % p := by
  rw [Int.add_comm, em1, Int.add_comm]
theorem em3 (a p : Int) : (-(a % p)) % p = (-a) % p := by
  have h := Int.emod_add_mul_ediv a p
  have e : -(a % p) = -a + p * (a / p) := by omega
  rw [e, Int.add_mul_emod_self_left]
/-! the group's laws -/
section
variable {p : Int} {ls ls' ls'' l1 l2 l3 l4 : List (Int × Int)} {e e' : Int}
theorem lv_mod (hp : 0 < p) (h : Good p ls) (k : Int) : lv ls k % p = lv ls k := by
  have := h.tab.lv hp k
  exact Int.emod_eq_of_lt this.1 this.2
theorem lv_nil (k : Int) : lv [] k = 0 := rfl
theorem then_still (hp : 0 < p) (h : Good p ls) (t : Then p ls [] e l1) : l1 = ls := Good.ext t.1 h fun k => by rw [t.2, lv_nil, Int.add_zero, lv_mod hp h]
theorem still_then (hp : 0 < p) (h : Good p ls) (t : Then p [] ls 0 l1) : l1 = ls := Good.ext t.1 h fun k => by rw [t.2, lv_nil, Int.zero_add, Int.sub_zero, lv_mod hp h]
theorem then_same (t : Then p ls ls' e l1) (u : Then p ls ls' e l2) : l1 = l2 := Good.ext t.1 u.1 fun k => by rw [t.2, u.2]
theorem back_same (t : Back p ls e l1) (u : Back p ls e l2) : l1 = l2 := Good.ext t.1 u.1 fun k => by rw [t.2, u.2]
theorem assoc (t1 : Then p ls ls' e l1) (t2 : Then p l1 ls'' (e + e') l2) (t3 : Then p ls' ls'' e' l3) (t4 : Then p ls l3 e l4) : l2 = l4 := Good.ext t2.1 t4.1 fun k => by
  have e1 : k - (e + e') = k - e - e' := by omega
  rw [t2.2, t1.2, t4.2, t3.2, em1, em2, e1, Int.add_assoc]
theorem then_back (t : Back p ls e l1) (u : Then p ls l1 e l2) : l2 = [] := Good.ext u.1 ⟨List.Pairwise.nil, fun _ h => by cases h⟩ fun k => by
  have e1 : k - e + e = k := by omega
  rw [u.2, t.2, em2, lv_nil, e1, Int.add_right_neg, Int.zero_emod]
theorem back_then (t : Back p ls e l1) (u : Then p l1 ls (-e) l2) : l2 = [] := Good.ext u.1 ⟨List.Pairwise.nil, fun _ h => by cases h⟩ fun k => by
  have e1 : k - -e = k + e := by omega
  rw [u.2, t.2, em1, lv_nil, e1, Int.add_left_neg, Int.zero_emod]
theorem back_back (hp : 0 < p) (h : Good p ls) (t : Back p ls e l1) (u : Back p l1 (-e) l2) : l2 = ls := Good.ext u.1 h fun k => by
  have e1 : k + -e + e = k := by omega
  rw [u.2, t.2, em3, e1, Int.neg_neg, lv_mod hp h]
theorem back_of_then (t1 : Then p ls ls' e l1) (t2 : Back p l1 (e + e') l2) (t3 : Back p ls' e' l3) (t4 : Back p ls e l4) {l5 : List (Int × Int)} (t5 : Then p l3 l4 (-e') l5) : l2 = l5 := Good.ext t2.1 t5.1 fun k => by
  have e1 : k + (e + e') - e = k + e' := by omega
  have e2 : k - -e' + e = k + (e + e') := by omega
  rw [t2.2, t1.2, t5.2, t3.2, t4.2, em3, em1, em2, e1, e2, Int.neg_add, Int.add_comm]
theorem still_back (t : Back p [] 0 l1) : l1 = [] := Good.ext t.1 ⟨List.Pairwise.nil, fun _ h => by cases h⟩ fun k => by rw [t.2, lv_nil, Int.neg_zero, Int.zero_emod, lv_nil]
end
/-- one lamp's share of the level at the place q after n rounds with the end e -/
def levS (e n q acc : Int) (ab : Int × Int) : Int := if e = 0 then acc + (if ab.1 = q then n * ab.2 else 0) else if (q - ab.1).fmod e = 0 ∧ 0 ≤ (q - ab.1).fdiv e ∧ (q - ab.1).fdiv e < n then acc + ab.2 else acc
def levP (p e n q : Int) (ls : List (Int × Int)) : Int := ls.foldl (levS e n q) 0 % p


theorem fmod_abs (x e : Int) : x.fmod e = 0 ↔ x % (if e < 0 then -e else e) = 0 := by
  have h1 : x.fmod e = 0 ↔ e ∣ x := ⟨Int.dvd_of_fmod_eq_zero, fun h => Int.fmod_eq_zero_of_dvd h⟩
  rw [h1]
  by_cases h : e < 0
  · rw [if_pos h, ← Int.dvd_iff_emod_eq_zero, Int.neg_dvd]
  · rw [if_neg h, ← Int.dvd_iff_emod_eq_zero]
theorem back_lv {p e : Int} : ∀ {ls : List (Int × Int)}, (∀ ab ∈ ls, 0 < ab.2 ∧ ab.2 < p) → ∀ k, lv (ls.map fun ab => (ab.1 - e, p - ab.2)) k = (-(lv ls (k + e))) % p
  | [], _, k => by
    have e0 : lv [] (k + e) = 0 := rfl
    rw [e0]
    show (0 : Int) = _
    rw [Int.neg_zero, Int.zero_emod]
  | ab :: r, h, k => by
    have ih := back_lv (e := e) (ls := r) (fun cd hc => h cd (List.mem_cons_of_mem _ hc)) k
    have hab := h ab (List.mem_cons_self ..)
    rw [List.map_cons, lv_cons, lv_cons, ih]
    by_cases e1 : ab.1 = k + e
    · have e2 : ab.1 - e = k := by omega
      rw [if_pos e1, if_pos e2]
      have e3 : (-ab.2) % p = p - ab.2 := by
        have e4 : -ab.2 = (p - ab.2) + p * (-1) := by omega
        rw [e4, Int.add_mul_emod_self_left, Int.emod_eq_of_lt (by omega) (by omega)]
      rw [e3]
    · have e2 : ¬ ab.1 - e = k := by omega
      rw [if_neg e1, if_neg e2]
theorem back_good {p e : Int} {ls : List (Int × Int)} (h : Good p ls) : Good p (ls.map fun ab => (ab.1 - e, p - ab.2)) := by
  refine ⟨?_, fun cd hc => ?_⟩
  · have e1 : keysOf (ls.map fun ab => (ab.1 - e, p - ab.2)) = (keysOf ls).map fun z => z - e := by
      unfold keysOf
      rw [List.map_map, List.map_map]
      rfl
    rw [e1, List.pairwise_map]
    exact h.asc.imp fun h => by omega
  · obtain ⟨ab, hm, rfl⟩ := List.mem_map.mp hc
    have := h.lev ab hm
    exact ⟨by show 0 < p - ab.2; omega, by show p - ab.2 < p; omega⟩
theorem levS_none (e q acc : Int) (ab : Int × Int) : levS e 0 q acc ab = acc := by
  unfold levS
  split
  · split <;> omega
  · rw [if_neg]
    omega
theorem levP_none (p e q : Int) (ls : List (Int × Int)) : levP p e 0 q ls = 0 := by
  have h : ∀ (r : List (Int × Int)) (acc : Int), r.foldl (levS e 0 q) acc = acc := by
    intro r
    induction r with
    | nil => exact fun _ => rfl
    | cons b r ih =>
      intro acc
      rw [List.foldl_cons, levS_none, ih]
  unfold levP
  rw [h, Int.zero_emod]
theorem levS_one (e q acc : Int) (ab : Int × Int) : levS e 1 q acc ab = acc + (if ab.1 = q then ab.2 else 0) := by
  unfold levS
  by_cases he : e = 0
  · rw [if_pos he, Int.one_mul]
  · rw [if_neg he]
    by_cases hq : ab.1 = q
    · have z : q - ab.1 = 0 := by omega
      rw [if_pos hq, z, Int.zero_fdiv, if_pos ⟨Int.zero_fmod e, by decide, by decide⟩]
    · rw [if_neg hq, if_neg, Int.add_zero]
      rintro ⟨h1, h2, h3⟩
      have h4 : (q - ab.1).fdiv e = 0 := by omega
      have h5 := Int.mul_fdiv_add_fmod (q - ab.1) e
      rw [h4, h1, Int.mul_zero] at h5
      omega
theorem lev_sum (e q : Int) : ∀ (ls : List (Int × Int)), (keysOf ls).Nodup → ∀ acc, ls.foldl (levS e 1 q) acc = acc + lv ls q
  | [], _, acc => by
    have z : lv [] q = 0 := rfl
    rw [z, Int.add_zero]
    rfl
  | ab :: r, h, acc => by
    have h2 := List.nodup_cons.mp h
    rw [List.foldl_cons, levS_one, lev_sum e q r h2.2, lv_cons]
    by_cases hq : ab.1 = q
    · have z : lv r q = 0 := lv_out (by rw [← hq]; exact h2.1)
      rw [if_pos hq, if_pos hq, z, Int.add_zero]
    · rw [if_neg hq, if_neg hq, Int.add_zero]
theorem levP_one {p : Int} (e q : Int) {ls : List (Int × Int)} (hp : 0 < p) (h : Good p ls) : levP p e 1 q ls = lv ls q := by
  unfold levP
  rw [lev_sum e q ls h.tab.nd, Int.zero_add, lv_mod hp h]
theorem levP_lt {p : Int} (e n q : Int) (ls : List (Int × Int)) (hp : 0 < p) : 0 ≤ levP p e n q ls ∧ levP p e n q ls < p := ⟨Int.emod_nonneg _ (by omega), Int.emod_lt_of_pos _ hp⟩
/-- the level at a place after any number of rounds -/
def levD (p e n q : Int) (ls : List (Int × Int)) : Int := if n < 0 then levP p (-e) (-n) q (ls.map fun ab => (ab.1 - e, p - ab.2)) else levP p e n q ls
theorem back_is {p e : Int} {ls : List (Int × Int)} (h : Good p ls) : Back p ls e (ls.map fun ab => (ab.1 - e, p - ab.2)) := ⟨back_good h, back_lv h.lev⟩
theorem levD_lt {p : Int} (e n q : Int) (ls : List (Int × Int)) (hp : 0 < p) : 0 ≤ levD p e n q ls ∧ levD p e n q ls < p := by
  unfold levD
  split <;> exact levP_lt _ _ _ _ hp
end Mi

/-! ## Plain: the program's tables -/
namespace Mi
open PySem PySem.Spec PyProof.Rows L2 Lamp SlX Gd TL
/-! ### pictures compared -/
theorem toPys_ofTab : ∀ ls : List (Int × Int), toPys (ofTab ls) = some (ls.map dPair)
  | [] => rfl
  | ab :: r => by
    have ih := toPys_ofTab r
    show (match toPy (.tup [.int ab.1, .int ab.2]), toPys (ofTab r) with
      | some p, some ps => some (p :: ps)
      | _, _ => none) = _
    rw [ih]
    rfl
theorem toPy_pic (ls : List (Int × Int)) : toPy (.tup (ofTab ls)) = some (dPic ls) := by
  show (toPys (ofTab ls)).map PyData.tuple = _
  rw [toPys_ofTab]
  rfl
theorem eqPic (ls ms : List (Int × Int)) : eqP false (.tup (ofTab ls)) (.tup (ofTab ms)) = some (.sh (.bl (decide (ls = ms)))) := by
  have e : eqP false (.tup (ofTab ls)) (.tup (ofTab ms)) = eqP0 false (.tup (ofTab ls)) (.tup (ofTab ms)) := rfl
  rw [e]
  unfold eqP0
  rw [toPy_pic, toPy_pic]
  simp [pic_shaped, eqv_pic]
theorem nePic (ls ms : List (Int × Int)) : eqP true (.tup (ofTab ls)) (.tup (ofTab ms)) = some (.sh (.bl (!decide (ls = ms)))) := by
  have e : eqP true (.tup (ofTab ls)) (.tup (ofTab ms)) = eqP0 true (.tup (ofTab ls)) (.tup (ofTab ms)) := rfl
  rw [e]
  unfold eqP0
  rw [toPy_pic, toPy_pic]
  simp [pic_shaped, eqv_pic]
@[simp] theorem eqPic0 (ls : List (Int × Int)) : eqP false (.tup (ofTab ls)) (.tup []) = some (.sh (.bl (decide (ls = [])))) := eqPic ls []
@[simp] theorem nePic0 (ls : List (Int × Int)) : eqP true (.tup (ofTab ls)) (.tup []) = some (.sh (.bl (!decide (ls = [])))) := nePic ls []
/-! ### the program's defs -/
@[simp] theorem levels_i (p e : Int) (ls : List (Int × Int)) (st : List D) : fn_Round_levels [rndD p ls e] st = some (.ret (.sh (.int p)) st) := by simp [fn_Round_levels, m_Round_levels, sSeq, sFor, srcA, srcE, mLc, seqOf, ownOk, wipeE, restE, Slot.owned, dTuple_lst, dTuple_tup, mDic0, sIf, sAsg, sRet, sRetN, sExpr, sNil, bindE, bindS, eBor, eC, eVar, fz, know, mOp, mUn, op2, op1, get, get0, Slot.rd, ret, asB, mPrim, bindA, args, opN, gets, gNm, gTp, gAll, gSubM, setAt, openAt_eq, enter, leave, runFn, mCall, callF, shs, backF, dIx, ixS, cGt, cGe, cLtI, cLe, Mi.b2, dAdd, addS, addL, addT, dMulI, dSub, Mi.i2, dMod, dDiv, sz_le, sz_lt, setD_lst, dInt_i, dInt_b, ixN, mIf, mAnd, mOr, mNot, mTru, tru, isiT, tyD, inK, eqF, D.scal, dLen_lst, dLen_tup, dLen_scr, dLen_str, dNeg, isP, isNon, mChain, mTup, mLst, mProp, mMth, noX, mCallK, permL, mCell, sSelfC, sSelf, sPar, sAug, dAbs, mMut, tyName, mMeth, isTy, opM, uApp, uExt, mSl, mPart, asPart, isFr, dMax, dMin, dMinA, srcA, enumA, enum1]
@[simp] theorem end_i (p e : Int) (ls : List (Int × Int)) (st : List D) : fn_Round_end [rndD p ls e] st = some (.ret (.sh (.int e)) st) := by simp [fn_Round_end, m_Round_end, sSeq, sFor, srcA, srcE, mLc, seqOf, ownOk, wipeE, restE, Slot.owned, dTuple_lst, dTuple_tup, mDic0, sIf, sAsg, sRet, sRetN, sExpr, sNil, bindE, bindS, eBor, eC, eVar, fz, know, mOp, mUn, op2, op1, get, get0, Slot.rd, ret, asB, mPrim, bindA, args, opN, gets, gNm, gTp, gAll, gSubM, setAt, openAt_eq, enter, leave, runFn, mCall, callF, shs, backF, dIx, ixS, cGt, cGe, cLtI, cLe, Mi.b2, dAdd, addS, addL, addT, dMulI, dSub, Mi.i2, dMod, dDiv, sz_le, sz_lt, setD_lst, dInt_i, dInt_b, ixN, mIf, mAnd, mOr, mNot, mTru, tru, isiT, tyD, inK, eqF, D.scal, dLen_lst, dLen_tup, dLen_scr, dLen_str, dNeg, isP, isNon, mChain, mTup, mLst, mProp, mMth, noX, mCallK, permL, mCell, sSelfC, sSelf, sPar, sAug, dAbs, mMut, tyName, mMeth, isTy, opM, uApp, uExt, mSl, mPart, asPart, isFr, dMax, dMin, dMinA, srcA, enumA, enum1]
theorem chkround_i (p e : Int) (ls : List (Int × Int)) (st : List D) : fn_check_round [rndD p ls e] st = some (.ret (.sh .non) st) := by simp [fn_check_round, m_check_round, sSeq, sFor, srcA, srcE, mLc, seqOf, ownOk, wipeE, restE, Slot.owned, dTuple_lst, dTuple_tup, mDic0, sIf, sAsg, sRet, sRetN, sExpr, sNil, bindE, bindS, eBor, eC, eVar, fz, know, mOp, mUn, op2, op1, get, get0, Slot.rd, ret, asB, mPrim, bindA, args, opN, gets, gNm, gTp, gAll, gSubM, setAt, openAt_eq, enter, leave, runFn, mCall, callF, shs, backF, dIx, ixS, cGt, cGe, cLtI, cLe, Mi.b2, dAdd, addS, addL, addT, dMulI, dSub, Mi.i2, dMod, dDiv, sz_le, sz_lt, setD_lst, dInt_i, dInt_b, ixN, mIf, mAnd, mOr, mNot, mTru, tru, isiT, tyD, inK, eqF, D.scal, dLen_lst, dLen_tup, dLen_scr, dLen_str, dNeg, isP, isNon, mChain, mTup, mLst, mProp, mMth, noX, mCallK, permL, mCell, sSelfC, sSelf, sPar, sAug, dAbs, mMut, tyName, mMeth, isTy, opM, uApp, uExt, mSl, mPart, asPart, isFr, dMax, dMin, dMinA, srcA, enumA, enum1]
theorem table_i {p e : Int} {ls : List (Int × Int)} (h : Good p ls) (st : List D) : fn_table [rndD p ls e] st = some (.ret (.fr (.dic (tabD ls))) st) := by
  have e1 := dDict_pic h.tab.nd
  simp [fn_table, m_table, e1, sSeq, sFor, srcA, srcE, mLc, seqOf, ownOk, wipeE, restE, Slot.owned, dTuple_lst, dTuple_tup, mDic0, sIf, sAsg, sRet, sRetN, sExpr, sNil, bindE, bindS, eBor, eC, eVar, fz, know, mOp, mUn, op2, op1, get, get0, Slot.rd, ret, asB, mPrim, bindA, args, opN, gets, gNm, gTp, gAll, gSubM, setAt, openAt_eq, enter, leave, runFn, mCall, callF, shs, backF, dIx, ixS, cGt, cGe, cLtI, cLe, Mi.b2, dAdd, addS, addL, addT, dMulI, dSub, Mi.i2, dMod, dDiv, sz_le, sz_lt, setD_lst, dInt_i, dInt_b, ixN, mIf, mAnd, mOr, mNot, mTru, tru, isiT, tyD, inK, eqF, D.scal, dLen_lst, dLen_tup, dLen_scr, dLen_str, dNeg, isP, isNon, mChain, mTup, mLst, mProp, mMth, noX, mCallK, permL, mCell, sSelfC, sSelf, sPar, sAug, dAbs, mMut, tyName, mMeth, isTy, opM, uApp, uExt, mSl, mPart, asPart, isFr, dMax, dMin, dMinA, srcA, enumA, enum1]
theorem added_i {p m c : Int} {one other : List (Int × Int)} (hp : 0 < p) (hc : Fin1 c) (ho : ∀ ab ∈ other, Fin1 ab.2) (hl : one.length + other.length ≤ 1000000) (st : List D) :
    fn_added [.int p, .dic (tabD one), .dic (tabD other), .int m, .int c] st = some (.ret (.sh (.dic (tabD (Lamp.addT p one other m c)))) st) := by
  have loop := forL_fold (gm := gTp [gNm 6, gNm 7]) (b := b1_added) prI (fun (t : List (Int × Int)) (j : Option D × Option D × Option D) => ⟨[.sh (.int p), .sh (.dic (tabD one)), .sh (.dic (tabD other)), .sh (.int m), .sh (.int c), .ow (.dic (tabD t)), jk j.1, jk j.2.1, jk j.2.2], st⟩) (Lamp.addS p m c) (fun t r => t.length + r.length ≤ 1000000 ∧ ∀ ab ∈ r, Fin1 ab.2) (by
      rintro t ab r ⟨j1, j2, j3⟩ ⟨hl, hf⟩
      have mo : mulOk c ab.2 = true := mul_ok hc (hf ab List.mem_cons_self)
      have p0 : ¬ p = 0 := by omega
      have tl : t.length < sizeLine := small1M (by simp at hl; omega)
      have lvE : (tget t (ab.1 + m)).getD 0 = lv t (ab.1 + m) := rfl
      have fe : ∀ x : Int, x.fmod p = x % p := fun x => Int.fmod_eq_emod_of_nonneg _ (by omega)
      refine ⟨⟨[.sh (.int p), .sh (.dic (tabD one)), .sh (.dic (tabD other)), .sh (.int m), .sh (.int c), .ow (.dic (tabD t)), .sh (.int ab.1), .sh (.int ab.2), jk j3], st⟩, ⟨some (.int ab.1), some (.int ab.2), some (.int ((lv t (ab.1 + m) + c * ab.2) % p))⟩, ?_, ?_, ?_⟩
      · simp [prI, gTp, gAll, gNm, openAt_eq]
      · by_cases z : (lv t (ab.1 + m) + c * ab.2) % p = 0
        · simp [b1_added, mo, p0, lvE, fe, z, Lamp.addS, sSeq, sFor, srcA, srcE, mLc, seqOf, ownOk, wipeE, restE, Slot.owned, dTuple_lst, dTuple_tup, mDic0, sIf, sAsg, sRet, sRetN, sExpr, sNil, bindE, bindS, eBor, eC, eVar, fz, know, mOp, mUn, op2, op1, get, get0, Slot.rd, ret, asB, mPrim, bindA, args, opN, gets, gNm, gTp, gAll, gSubM, setAt, openAt_eq, enter, leave, runFn, mCall, callF, shs, backF, dIx, ixS, cGt, cGe, cLtI, cLe, Mi.b2, dAdd, addS, addL, addT, dMulI, dSub, Mi.i2, dMod, dDiv, sz_le, sz_lt, setD_lst, dInt_i, dInt_b, ixN, mIf, mAnd, mOr, mNot, mTru, tru, isiT, tyD, inK, eqF, D.scal, dLen_lst, dLen_tup, dLen_scr, dLen_str, dNeg, isP, isNon, mChain, mTup, mLst, mProp, mMth, noX, mCallK, permL, mCell, sSelfC, sSelf, sPar, sAug, dAbs, mMut, tyName, mMeth, isTy, opM, uApp, uExt, mSl, mPart, asPart, isFr, dMax, dMin, dMinA, srcA, enumA, enum1]
        · have sd := setD_tab (ab.1 + m) ((lv t (ab.1 + m) + c * ab.2) % p) tl
          simp [b1_added, mo, p0, lvE, fe, z, Lamp.addS, sSeq, sFor, srcA, srcE, mLc, seqOf, ownOk, wipeE, restE, Slot.owned, dTuple_lst, dTuple_tup, mDic0, sIf, sAsg, sRet, sRetN, sExpr, sNil, bindE, bindS, eBor, eC, eVar, fz, know, mOp, mUn, op2, op1, get, get0, Slot.rd, ret, asB, mPrim, bindA, args, opN, gets, gNm, gTp, gAll, gSubM, setAt, openAt_eq, enter, leave, runFn, mCall, callF, shs, backF, dIx, ixS, cGt, cGe, cLtI, cLe, Mi.b2, dAdd, addS, addL, addT, dMulI, dSub, Mi.i2, dMod, dDiv, sz_le, sz_lt, setD_lst, dInt_i, dInt_b, ixN, mIf, mAnd, mOr, mNot, mTru, tru, isiT, tyD, inK, eqF, D.scal, dLen_lst, dLen_tup, dLen_scr, dLen_str, dNeg, isP, isNon, mChain, mTup, mLst, mProp, mMth, noX, mCallK, permL, mCell, sSelfC, sSelf, sPar, sAug, dAbs, mMut, tyName, mMeth, isTy, opM, uApp, uExt, mSl, mPart, asPart, isFr, dMax, dMin, dMinA, srcA, enumA, enum1, sd]
      · have := addS_len p m c t ab
        exact ⟨by simp at hl; omega, fun cd h => hf cd (List.mem_cons_of_mem _ h)⟩)
    other one (none, none, none) ⟨hl, ho⟩
  obtain ⟨j, e, _⟩ := loop
  simp only [jk_none] at e
  simp [fn_added, m_added, e, sSeq, sFor, srcA, srcE, mLc, seqOf, ownOk, wipeE, restE, Slot.owned, dTuple_lst, dTuple_tup, mDic0, sIf, sAsg, sRet, sRetN, sExpr, sNil, bindE, bindS, eBor, eC, eVar, fz, know, mOp, mUn, op2, op1, get, get0, Slot.rd, ret, asB, mPrim, bindA, args, opN, gets, gNm, gTp, gAll, gSubM, setAt, openAt_eq, enter, leave, runFn, mCall, callF, shs, backF, dIx, ixS, cGt, cGe, cLtI, cLe, Mi.b2, dAdd, addS, addL, addT, dMulI, dSub, Mi.i2, dMod, dDiv, sz_le, sz_lt, setD_lst, dInt_i, dInt_b, ixN, mIf, mAnd, mOr, mNot, mTru, tru, isiT, tyD, inK, eqF, D.scal, dLen_lst, dLen_tup, dLen_scr, dLen_str, dNeg, isP, isNon, mChain, mTup, mLst, mProp, mMth, noX, mCallK, permL, mCell, sSelfC, sSelf, sPar, sAug, dAbs, mMut, tyName, mMeth, isTy, opM, uApp, uExt, mSl, mPart, asPart, isFr, dMax, dMin, dMinA, srcA, enumA, enum1]
  rfl
end Mi

/-! ## Plain: the well, what is drawn of it; the frame of family B -/
namespace Mi
open PySem PySem.Spec PyProof.Rows L2 Lamp SlX Gd TL
theorem log2048 : Nat.log2 2048 < 9000 := by decide +kernel
def Well (k : Nat) (d : D) : Prop := ∃ b c a, d = .lst [.int b, .int c, .int a] ∧ 0 ≤ a ∧ 0 ≤ b ∧ b < 2147483629 ∧ 0 ≤ c ∧ c + (k : Int) < 10 ^ 9
theorem Well.le {j k : Nat} {d : D} (h : Well k d) (l : j ≤ k) : Well j d := by
  obtain ⟨b, c, a, e, h1, h2, h3, h4, h5⟩ := h
  exact ⟨b, c, a, e, h1, h2, h3, h4, by omega⟩
def nextW (b c : Int) : Int := (b * 40009 + (c + 1) * 48017 + 71).fmod 2147483629
theorem draw_small {b c n : Int} {st : List D} {i : Nat} (h : st[i]? = some (.lst [.int b, .int c, .int 0])) (hn : 0 < n) (hb : 0 ≤ b) (hb2 : b < 2147483629) (hc : 0 ≤ c) (hc2 : c < 10 ^ 9) :
    fn_law_draw [.cel i, .int n] st = some (.ret (.sh (.int (((nextW b c).fdiv 2048).fmod n))) (st.set i (.lst [.int (nextW b c), .int (c + 1), .int 0]))) := by
  have m1 : mulOk b 40009 = true := mul_ok (by unfold Fin1; omega) (by unfold Fin1; omega)
  have m2 : mulOk (c + 1) 48017 = true := mul_ok (by unfold Fin1; omega) (by unfold Fin1; omega)
  have e1 : (b * 40009 + (c + 1) * 48017 + 71).fmod 2147483629 = nextW b c := rfl
  have hi : i < st.length := (List.getElem?_eq_some_iff.mp h).1
  have hs : ∀ d : D, (st.set i d)[i]? = some d := fun d => List.getElem?_set_self hi
  have n0 : ¬ n = 0 := by omega
  simp [fn_law_draw, m_law_draw, h, m1, m2, e1, n0, hs, log2048, sSeq, sFor, srcA, srcE, mLc, seqOf, ownOk, wipeE, restE, Slot.owned, dTuple_lst, dTuple_tup, mDic0, sIf, sAsg, sRet, sRetN, sExpr, sNil, bindE, bindS, eBor, eC, eVar, fz, know, mOp, mUn, op2, op1, get, get0, Slot.rd, ret, asB, mPrim, bindA, args, opN, gets, gNm, gTp, gAll, gSubM, setAt, openAt_eq, enter, leave, runFn, mCall, callF, shs, backF, dIx, ixS, cGt, cGe, cLtI, cLe, Mi.b2, dAdd, addS, addL, addT, dMulI, dSub, Mi.i2, dMod, dDiv, sz_le, sz_lt, setD_lst, dInt_i, dInt_b, ixN, mIf, mAnd, mOr, mNot, mTru, tru, isiT, tyD, inK, eqF, D.scal, dLen_lst, dLen_tup, dLen_scr, dLen_str, dNeg, isP, isNon, mChain, mTup, mLst, mProp, mMth, noX, mCallK, permL, mCell, sSelfC, sSelf, sPar, sAug, dAbs, mMut, tyName, mMeth, isTy, opM, uApp, uExt, mSl, mPart, asPart, isFr, dMax, dMin, dMinA, srcA, enumA, enum1]
theorem draw_big {a b c n : Int} {st : List D} {i : Nat} (h : st[i]? = some (.lst [.int b, .int c, .int a])) (ha : 0 < a) (hn : 0 < n) (hn2 : n < 1073741824) :
    fn_law_draw [.cel i, .int n] st = some (.ret (.sh (.int (a % n))) (st.set i (.lst [.int b, .int c, .int (a / n)]))) := by
  have hi : i < st.length := (List.getElem?_eq_some_iff.mp h).1
  have hs : ∀ d : D, (st.set i d)[i]? = some d := fun d => List.getElem?_set_self hi
  simp [fn_law_draw, m_law_draw, h, ha, hn, hn2, hs, dDivmod, sSeq, sFor, srcA, srcE, mLc, seqOf, ownOk, wipeE, restE, Slot.owned, dTuple_lst, dTuple_tup, mDic0, sIf, sAsg, sRet, sRetN, sExpr, sNil, bindE, bindS, eBor, eC, eVar, fz, know, mOp, mUn, op2, op1, get, get0, Slot.rd, ret, asB, mPrim, bindA, args, opN, gets, gNm, gTp, gAll, gSubM, setAt, openAt_eq, enter, leave, runFn, mCall, callF, shs, backF, dIx, ixS, cGt, cGe, cLtI, cLe, Mi.b2, dAdd, addS, addL, addT, dMulI, dSub, Mi.i2, dMod, dDiv, sz_le, sz_lt, setD_lst, dInt_i, dInt_b, ixN, mIf, mAnd, mOr, mNot, mTru, tru, isiT, tyD, inK, eqF, D.scal, dLen_lst, dLen_tup, dLen_scr, dLen_str, dNeg, isP, isNon, mChain, mTup, mLst, mProp, mMth, noX, mCallK, permL, mCell, sSelfC, sSelf, sPar, sAug, dAbs, mMut, tyName, mMeth, isTy, opM, uApp, uExt, mSl, mPart, asPart, isFr, dMax, dMin, dMinA, srcA, enumA, enum1]
theorem draw_next {k i : Nat} {st : List D} {d : D} {n : Int} (hi : i < st.length) (w : Well (k + 1) d) (hn : 0 < n) (hn2 : n < 1073741824) : ∃ x d', fn_law_draw [.cel i, .int n] (st.set i d) = some (.ret (.sh (.int x)) (st.set i d')) ∧ 0 ≤ x ∧ x < n ∧ Well k d' := by
  obtain ⟨b, c, a, rfl, h1, h2, h3, h4, h5⟩ := w
  by_cases ha : a = 0
  · subst ha
    have e := draw_small (n := n) (st := st.set i (.lst [.int b, .int c, .int 0])) (List.getElem?_set_self hi) hn h2 h3 h4 (by omega)
    rw [List.set_set] at e
    exact ⟨_, _, e, Int.fmod_nonneg_of_pos _ hn, Int.fmod_lt_of_pos _ hn, _, _, _, rfl, by omega, Int.fmod_nonneg_of_pos _ (by decide), Int.fmod_lt_of_pos _ (by decide), by omega, by omega⟩
  · have e := draw_big (n := n) (st := st.set i (.lst [.int b, .int c, .int a])) (List.getElem?_set_self hi) (by omega) hn hn2
    rw [List.set_set] at e
    exact ⟨_, _, e, Int.emod_nonneg _ (by omega), Int.emod_lt_of_pos _ hn, _, _, _, rfl, Int.ediv_nonneg h1 (by omega), h2, h3, h4, by omega⟩
theorem pick_next {k i : Nat} {st : List D} {d : D} {ds : List D} (hi : i < st.length) (w : Well (k + 1) d) (hne : ds ≠ []) (hl : ds.length < 1000000) : ∃ v d', fn_law_pick [.cel i, .lst ds] (st.set i d) = some (.ret (.sh v) (st.set i d')) ∧ v ∈ ds ∧ Well k d' := by
  have hpos : 0 < ds.length := List.length_pos_iff.mpr hne
  obtain ⟨x, d', e, h0, h1, w'⟩ := draw_next (n := (ds.length : Int)) hi w (by omega) (by omega)
  obtain ⟨y, e2, my⟩ := atI_at h0 h1
  exact ⟨y, d', by simp [fn_law_pick, m_law_pick, e, e2, sSeq, sFor, srcA, srcE, mLc, seqOf, ownOk, wipeE, restE, Slot.owned, dTuple_lst, dTuple_tup, mDic0, sIf, sAsg, sRet, sRetN, sExpr, sNil, bindE, bindS, eBor, eC, eVar, fz, know, mOp, mUn, op2, op1, get, get0, Slot.rd, ret, asB, mPrim, bindA, args, opN, gets, gNm, gTp, gAll, gSubM, setAt, openAt_eq, enter, leave, runFn, mCall, callF, shs, backF, dIx, ixS, cGt, cGe, cLtI, cLe, Mi.b2, dAdd, addS, addL, addT, dMulI, dSub, Mi.i2, dMod, dDiv, sz_le, sz_lt, setD_lst, dInt_i, dInt_b, ixN, mIf, mAnd, mOr, mNot, mTru, tru, isiT, tyD, inK, eqF, D.scal, dLen_lst, dLen_tup, dLen_scr, dLen_str, dNeg, isP, isNon, mChain, mTup, mLst, mProp, mMth, noX, mCallK, permL, mCell, sSelfC, sSelf, sPar, sAug, dAbs, mMut, tyName, mMeth, isTy, opM, uApp, uExt, mSl, mPart, asPart, isFr, dMax, dMin, dMinA, srcA, enumA, enum1], my, w'⟩
theorem well_i {ns : List Int} {t : Int} (hb : ∀ z ∈ ns, Builtin.Int.intBits z ≤ 1048576) (h0 : 0 ≤ t) (h1 : t < 1000) (hl : ns.length ≤ 63) (st : List D) : ∃ d, fn_law_well [.scr ns, .int t] st = some (.ret (.fr d) st) ∧ Well 1000000 d := by
  have own : ∃ o : Int, (if t < ns.length then (atI ns t) else some 0) = some o := by
    by_cases c : t < ns.length
    · obtain ⟨y, e, m⟩ := atI_at h0 c
      exact ⟨y, by rw [if_pos c, e]⟩
    · exact ⟨0, by rw [if_neg c]⟩
  obtain ⟨o, eo⟩ := own
  have loop := fun (l : List Int) => forL_inv (gm := gNm 3) (b := b1_law_well) (fun ds q => ∃ (x : Int) (s4 : Slot), (∀ d ∈ ds, ∃ z, d = .int z) ∧ opn s4 = true ∧ 0 ≤ x ∧ x < 2147483629 ∧ q = ⟨[.sh (.scr ns), .sh (.int t), .sh (.int x), s4, .no], st⟩) (by
      rintro d ds q ⟨x, s4, hd, ho, x0, x1, rfl⟩
      obtain ⟨z, rfl⟩ := hd d List.mem_cons_self
      have m1 : mulOk x 36007 = true := mul_ok (by unfold Fin1; omega) (by unfold Fin1; omega)
      refine ⟨⟨[.sh (.scr ns), .sh (.int t), .sh (.int x), .sh (.int z), .no], st⟩, _, ?_, .inl ?_, (x * 36007 + z + 41).fmod 2147483579, .sh (.int z), fun d h => hd d (List.mem_cons_of_mem _ h), rfl, Int.fmod_nonneg_of_pos _ (by decide), Int.lt_trans (Int.fmod_lt_of_pos _ (by decide)) (by decide), rfl⟩
      · simp [gNm, openAt_eq, ho]
      · simp [b1_law_well, m1, sSeq, sFor, srcA, srcE, mLc, seqOf, ownOk, wipeE, restE, Slot.owned, dTuple_lst, dTuple_tup, mDic0, sIf, sAsg, sRet, sRetN, sExpr, sNil, bindE, bindS, eBor, eC, eVar, fz, know, mOp, mUn, op2, op1, get, get0, Slot.rd, ret, asB, mPrim, bindA, args, opN, gets, gNm, gTp, gAll, gSubM, setAt, openAt_eq, enter, leave, runFn, mCall, callF, shs, backF, dIx, ixS, cGt, cGe, cLtI, cLe, Mi.b2, dAdd, addS, addL, addT, dMulI, dSub, Mi.i2, dMod, dDiv, sz_le, sz_lt, setD_lst, dInt_i, dInt_b, ixN, mIf, mAnd, mOr, mNot, mTru, tru, isiT, tyD, inK, eqF, D.scal, dLen_lst, dLen_tup, dLen_scr, dLen_str, dNeg, isP, isNon, mChain, mTup, mLst, mProp, mMth, noX, mCallK, permL, mCell, sSelfC, sSelf, sPar, sAug, dAbs, mMut, tyName, mMeth, isTy, opM, uApp, uExt, mSl, mPart, asPart, isFr, dMax, dMin, dMinA, srcA, enumA, enum1])
    (l.map .int) ⟨[.sh (.scr ns), .sh (.int t), .sh (.int (70009 + 853 * t)), .no, .no], st⟩ ⟨_, _, (by
      intro d hd
      obtain ⟨z, hz, rfl⟩ := List.mem_map.mp hd
      exact ⟨z, rfl⟩), rfl, by omega, by omega, rfl⟩
  obtain ⟨q, e, x, s4, _, ho, x0, x1, rfl⟩ := loop (cutL ns none (some 4) ++ cutL ns (some t) (some (t + 1)))
  rw [List.map_append] at e
  have m4 : mulOk 853 t = true := mul_ok (by unfold Fin1; omega) (by unfold Fin1; omega)
  have p18 : dPow (.int 10) (.int 18) = some (.sh (.int 1000000000000000000)) := rfl
  have len : ∀ a b, (cutL ns a b).length ≤ 63 := fun a b => by
    have h1 : ((cutL ns a b)).length ≤ ns.length := by
      unfold cutL
      rw [List.length_take, List.length_drop]
      omega
    omega
  have sz : ((cutL ns none (some 4)).map D.int ++ (cutL ns (some t) (some (t + 1))).map D.int).length ≤ sizeLine := by
    have h1 := len none (some 4)
    have h2 := len (some t) (some (t + 1))
    simp only [List.length_append, List.length_map]
    exact sz_le (by omega)
  refine ⟨.lst [.int x, .int 0, .int (if 1000000000000000000 ≤ (if o < 0 then -o else o) then (if o < 0 then -o else o) else 0)], ?_, _, _, _, rfl, by split <;> (try split) <;> omega, x0, ?_, by decide, by decide⟩
  · simp only [List.length_append, List.length_map] at sz
    by_cases c : t < ns.length
    · rw [if_pos c] at eo
      by_cases c2 : 1000000000000000000 ≤ (if o < 0 then -o else o) <;> simp [fn_law_well, m_law_well, c, eo, e, m4, c2, dSl, p18, sz, sSeq, sFor, srcA, srcE, mLc, seqOf, ownOk, wipeE, restE, Slot.owned, dTuple_lst, dTuple_tup, mDic0, sIf, sAsg, sRet, sRetN, sExpr, sNil, bindE, bindS, eBor, eC, eVar, fz, know, mOp, mUn, op2, op1, get, get0, Slot.rd, ret, asB, mPrim, bindA, args, opN, gets, gNm, gTp, gAll, gSubM, setAt, openAt_eq, enter, leave, runFn, mCall, callF, shs, backF, dIx, ixS, cGt, cGe, cLtI, cLe, Mi.b2, dAdd, addS, addL, addT, dMulI, dSub, Mi.i2, dMod, dDiv, sz_le, sz_lt, setD_lst, dInt_i, dInt_b, ixN, mIf, mAnd, mOr, mNot, mTru, tru, isiT, tyD, inK, eqF, D.scal, dLen_lst, dLen_tup, dLen_scr, dLen_str, dNeg, isP, isNon, mChain, mTup, mLst, mProp, mMth, noX, mCallK, permL, mCell, sSelfC, sSelf, sPar, sAug, dAbs, mMut, tyName, mMeth, isTy, opM, uApp, uExt, mSl, mPart, asPart, isFr, dMax, dMin, dMinA, srcA, enumA, enum1]
    · rw [if_neg c] at eo
      cases eo
      simp [fn_law_well, m_law_well, c, e, m4, dSl, p18, sz, sSeq, sFor, srcA, srcE, mLc, seqOf, ownOk, wipeE, restE, Slot.owned, dTuple_lst, dTuple_tup, mDic0, sIf, sAsg, sRet, sRetN, sExpr, sNil, bindE, bindS, eBor, eC, eVar, fz, know, mOp, mUn, op2, op1, get, get0, Slot.rd, ret, asB, mPrim, bindA, args, opN, gets, gNm, gTp, gAll, gSubM, setAt, openAt_eq, enter, leave, runFn, mCall, callF, shs, backF, dIx, ixS, cGt, cGe, cLtI, cLe, Mi.b2, dAdd, addS, addL, addT, dMulI, dSub, Mi.i2, dMod, dDiv, sz_le, sz_lt, setD_lst, dInt_i, dInt_b, ixN, mIf, mAnd, mOr, mNot, mTru, tru, isiT, tyD, inK, eqF, D.scal, dLen_lst, dLen_tup, dLen_scr, dLen_str, dNeg, isP, isNon, mChain, mTup, mLst, mProp, mMth, noX, mCallK, permL, mCell, sSelfC, sSelf, sPar, sAug, dAbs, mMut, tyName, mMeth, isTy, opM, uApp, uExt, mSl, mPart, asPart, isFr, dMax, dMin, dMinA, srcA, enumA, enum1]
  · exact x1
theorem great_next {k i : Nat} {st : List D} {d : D} (hi : i < st.length) (w : Well (k + 10) d) : ∃ x d', fn_law_great [.cel i] (st.set i d) = some (.ret (.sh (.int x)) (st.set i d')) ∧ 0 ≤ x ∧ x < 1000000000000000000000000000 ∧ Well k d' := by
  obtain ⟨n, d1, e1, n0, n1, w1⟩ := draw_next (k := k + 9) (n := 9) hi w (by decide) (by decide)
  obtain ⟨m, rfl⟩ : ∃ m : Nat, n = m := ⟨n.toNat, by omega⟩
  have loop := forL_inv (gm := gNm 2) (b := b1_law_great) (fun ds q => ∃ (x : Int) (j : Nat) (s : Slot) (d : D), j + ds.length ≤ 9 ∧ opn s = true ∧ 0 ≤ x ∧ x < 1000 ^ j ∧ (∀ y ∈ ds, ∃ z, y = D.int z) ∧ Well (k + ds.length) d ∧ q = ⟨[.sh (.cel i), .sh (.int x), s], st.set i d⟩) (by
      rintro y ds q ⟨x, j, s, d, hl, ho, x0, x1, hd, w, rfl⟩
      obtain ⟨z, rfl⟩ := hd y List.mem_cons_self
      obtain ⟨v, d', e, v0, v1, w'⟩ := draw_next (k := k + ds.length) (n := 1000) hi w (by decide) (by decide)
      have p1 : (1000 : Int) ^ j ≤ 1000 ^ 9 := by
        have : j ≤ 9 := by simp at hl; omega
        have : ∀ j : Nat, j ≤ 9 → (1000 : Int) ^ j ≤ 1000 ^ 9 := by decide
        exact this j (by assumption)
      have m1 : mulOk 1000 x = true := mul_ok (by unfold Fin1; omega) (by unfold Fin1; omega)
      refine ⟨⟨[.sh (.cel i), .sh (.int x), .sh (.int z)], st.set i d⟩, _, ?_, .inl ?_, 1000 * x + v, j + 1, .sh (.int z), d', by simp at hl; omega, rfl, by omega, ?_, fun y h => hd y (List.mem_cons_of_mem _ h), w', rfl⟩
      · simp [gNm, openAt_eq, ho]
      · simp [b1_law_great, e, m1, sSeq, sFor, srcA, srcE, mLc, seqOf, ownOk, wipeE, restE, Slot.owned, dTuple_lst, dTuple_tup, mDic0, sIf, sAsg, sRet, sRetN, sExpr, sNil, bindE, bindS, eBor, eC, eVar, fz, know, mOp, mUn, op2, op1, get, get0, Slot.rd, ret, asB, mPrim, bindA, args, opN, gets, gNm, gTp, gAll, gSubM, setAt, openAt_eq, enter, leave, runFn, mCall, callF, shs, backF, dIx, ixS, cGt, cGe, cLtI, cLe, Mi.b2, dAdd, addS, addL, addT, dMulI, dSub, Mi.i2, dMod, dDiv, sz_le, sz_lt, setD_lst, dInt_i, dInt_b, ixN, mIf, mAnd, mOr, mNot, mTru, tru, isiT, tyD, inK, eqF, D.scal, dLen_lst, dLen_tup, dLen_scr, dLen_str, dNeg, isP, isNon, mChain, mTup, mLst, mProp, mMth, noX, mCallK, permL, mCell, sSelfC, sSelf, sPar, sAug, dAbs, mMut, tyName, mMeth, isTy, opM, uApp, uExt, mSl, mPart, asPart, isFr, dMax, dMin, dMinA, srcA, enumA, enum1]
      · rw [Int.pow_succ]
        omega)
    (rangeL 0 ((m + 1 : Nat) : Int)) ⟨[.sh (.cel i), .sh (.int 0), .no], st.set i d1⟩ ⟨0, 0, .no, d1, by rw [rangeL_map]; simp; omega, rfl, by omega, by decide, (by
      intro y hy
      rw [rangeL_map] at hy
      obtain ⟨a, _, rfl⟩ := List.mem_map.mp hy
      exact ⟨_, rfl⟩), w1.le (by rw [rangeL_map]; simp; omega), rfl⟩
  obtain ⟨q, e, x, j, s, d2, hl, ho, x0, x1, _, w2, rfl⟩ := loop
  have r1 := rng1_ok (j := 1 + (m : Int)) (by omega) (by omega)
  have c1 : 1 + (m : Int) = ((m + 1 : Nat) : Int) := by omega
  rw [← c1] at e
  have p1 : (1000 : Int) ^ j ≤ 1000 ^ 9 := by
    have : j ≤ 9 := by simp at hl; omega
    have : ∀ j : Nat, j ≤ 9 → (1000 : Int) ^ j ≤ 1000 ^ 9 := by decide
    exact this j (by assumption)
  exact ⟨x, d2, by simp [fn_law_great, m_law_great, e1, r1, e, sSeq, sFor, srcA, srcE, mLc, seqOf, ownOk, wipeE, restE, Slot.owned, dTuple_lst, dTuple_tup, mDic0, sIf, sAsg, sRet, sRetN, sExpr, sNil, bindE, bindS, eBor, eC, eVar, fz, know, mOp, mUn, op2, op1, get, get0, Slot.rd, ret, asB, mPrim, bindA, args, opN, gets, gNm, gTp, gAll, gSubM, setAt, openAt_eq, enter, leave, runFn, mCall, callF, shs, backF, dIx, ixS, cGt, cGe, cLtI, cLe, Mi.b2, dAdd, addS, addL, addT, dMulI, dSub, Mi.i2, dMod, dDiv, sz_le, sz_lt, setD_lst, dInt_i, dInt_b, ixN, mIf, mAnd, mOr, mNot, mTru, tru, isiT, tyD, inK, eqF, D.scal, dLen_lst, dLen_tup, dLen_scr, dLen_str, dNeg, isP, isNon, mChain, mTup, mLst, mProp, mMth, noX, mCallK, permL, mCell, sSelfC, sSelf, sPar, sAug, dAbs, mMut, tyName, mMeth, isTy, opM, uApp, uExt, mSl, mPart, asPart, isFr, dMax, dMin, dMinA, srcA, enumA, enum1], x0, by omega, w2⟩
/-- the law, from its turns -/
theorem lawB_i (k : Nat) (hk : k ≤ 1000000) (right : ∀ (st : List D) (i : Nat) (d : D), i < st.length → Well k d → ∃ d', fn_law_right [.cel i] (st.set i d) = some (.ret (.sh (.bl true)) (st.set i d'))) (ns : List Int) (hl : ns.length ≤ 63) (hb : ∀ z ∈ ns, Builtin.Int.intBits z ≤ 1048576) :
    ∃ st, fn_law [.scr ns] [] = some (.ret (.sh (.bl true)) st) := by
  obtain ⟨m, hm, hm0⟩ : ∃ m : Nat, (if (if (5 : Int) < ns.length then 5 else (ns.length : Int)) > 2 then (if (5 : Int) < ns.length then 5 else (ns.length : Int)) else 2) = (m : Int) ∧ m ≤ 5 := by
    by_cases c : (5 : Int) < ns.length
    · exact ⟨5, by simp [c], by omega⟩
    · by_cases c2 : (2 : Int) < ns.length
      · exact ⟨ns.length, by simp [c, c2], by omega⟩
      · exact ⟨2, by simp [c, c2], by omega⟩
  have lc := lcL_inv (gm := gNm 1) (mt := eC (.bl true)) (me := e1_law) (vs := [1]) (fun ds acc q => ∃ st, (∀ d ∈ ds, ∃ t : Int, d = .int t ∧ 0 ≤ t ∧ t < 1000) ∧ acc.length + ds.length ≤ 5 ∧ (∃ j, acc = (List.replicate j true).map D.bl) ∧ q = ⟨[.sh (.scr ns), .no], st⟩) (by
      rintro d ds acc q ⟨st, hd, hl2, ⟨j, rfl⟩, rfl⟩
      obtain ⟨t, rfl, t0, t1⟩ := hd d List.mem_cons_self
      obtain ⟨d0, e0, p0⟩ := well_i hb t0 t1 hl st
      obtain ⟨d', e1⟩ := right (st ++ [d0]) st.length d0 (by simp) (p0.le hk)
      have e1' : fn_law_right [.cel st.length] (st ++ [d0]) = some (.ret (.sh (.bl true)) (st ++ [d'])) := by
        have s1 : (st ++ [d0]).set st.length d0 = st ++ [d0] := by simp
        have s2 : (st ++ [d0]).set st.length d' = st ++ [d'] := by simp
        rw [s1, s2] at e1
        exact e1
      refine ⟨some (.bl true), ⟨[.sh (.scr ns), .no], st ++ [d']⟩, ?_, fun y hy => ?_, fun h => by cases h⟩
      · simp [lcTurn, e1_law, e0, e1', sSeq, sFor, srcA, srcE, mLc, seqOf, ownOk, wipeE, restE, Slot.owned, dTuple_lst, dTuple_tup, mDic0, sIf, sAsg, sRet, sRetN, sExpr, sNil, bindE, bindS, eBor, eC, eVar, fz, know, mOp, mUn, op2, op1, get, get0, Slot.rd, ret, asB, mPrim, bindA, args, opN, gets, gNm, gTp, gAll, gSubM, setAt, openAt_eq, enter, leave, runFn, mCall, callF, shs, backF, dIx, ixS, cGt, cGe, cLtI, cLe, Mi.b2, dAdd, addS, addL, addT, dMulI, dSub, Mi.i2, dMod, dDiv, sz_le, sz_lt, setD_lst, dInt_i, dInt_b, ixN, mIf, mAnd, mOr, mNot, mTru, tru, isiT, tyD, inK, eqF, D.scal, dLen_lst, dLen_tup, dLen_scr, dLen_str, dNeg, isP, isNon, mChain, mTup, mLst, mProp, mMth, noX, mCallK, permL, mCell, sSelfC, sSelf, sPar, sAug, dAbs, mMut, tyName, mMeth, isTy, opM, uApp, uExt, mSl, mPart, asPart, isFr, dMax, dMin, dMinA, srcA, enumA, enum1]
      · cases hy
        refine ⟨sz_lt (by simp at hl2 ⊢; omega), st ++ [d'], fun d h => hd d (List.mem_cons_of_mem _ h), by simp at hl2 ⊢; omega, ⟨j + 1, ?_⟩, rfl⟩
        rw [List.replicate_succ', List.map_append]
        rfl)
    (rangeL 0 (m : Int)) [] ⟨[.sh (.scr ns), .no], []⟩ ⟨[], (by
      intro d hd
      rw [rangeL_map] at hd
      obtain ⟨i, hi, rfl⟩ := List.mem_map.mp hd
      have := List.mem_range.mp hi
      exact ⟨i, rfl, by omega, by omega⟩), by rw [rangeL_map]; simpa using hm0, ⟨0, rfl⟩, rfl⟩
  obtain ⟨acc, q, e, st, _, _, ⟨j, rfl⟩, rfl⟩ := lc
  have al : dAll [.lst ((List.replicate j true).map D.bl)] = some (.sh (.bl true)) := by
    simp only [dAll, asBls_map]
    simp
  have r1 := rng1_ok (j := (m : Int)) (by omega) (by omega)
  simp only [List.map_replicate] at al
  refine ⟨st, ?_⟩
  simp only [gt_iff_lt] at hm
  simp [fn_law, m_law, hm, r1, e, al, sSeq, sFor, srcA, srcE, mLc, seqOf, ownOk, wipeE, restE, Slot.owned, dTuple_lst, dTuple_tup, mDic0, sIf, sAsg, sRet, sRetN, sExpr, sNil, bindE, bindS, eBor, eC, eVar, fz, know, mOp, mUn, op2, op1, get, get0, Slot.rd, ret, asB, mPrim, bindA, args, opN, gets, gNm, gTp, gAll, gSubM, setAt, openAt_eq, enter, leave, runFn, mCall, callF, shs, backF, dIx, ixS, cGt, cGe, cLtI, cLe, Mi.b2, dAdd, addS, addL, addT, dMulI, dSub, Mi.i2, dMod, dDiv, sz_le, sz_lt, setD_lst, dInt_i, dInt_b, ixN, mIf, mAnd, mOr, mNot, mTru, tru, isiT, tyD, inK, eqF, D.scal, dLen_lst, dLen_tup, dLen_scr, dLen_str, dNeg, isP, isNon, mChain, mTup, mLst, mProp, mMth, noX, mCallK, permL, mCell, sSelfC, sSelf, sPar, sAug, dAbs, mMut, tyName, mMeth, isTy, opM, uApp, uExt, mSl, mPart, asPart, isFr, dMax, dMin, dMinA, srcA, enumA, enum1]
end Mi

/-! ## Plain: family B's own tables -/
namespace Mi
open PySem PySem.Spec PyProof.Rows L2 Lamp SlX Gd TL
def ladS (p m c : Int) (b acc : List (Int × Int)) (k : Int) : List (Int × Int) := tput acc (k + m) ((lv acc (k + m) + c * lv b k) % p)
def ladT (p : Int) (a b : List (Int × Int)) (m c : Int) : List (Int × Int) := (keysOf b).foldl (ladS p m c b) a
def lad (p : Int) (a b : List (Int × Int)) (m c : Int) : List (Int × Int) := (ladT p a b m c).filter fun ab => decide (0 < ab.2)
theorem tget_lvB {t : List (Int × Int)} {k : Int} (h : k ∈ keysOf t) : tget t k = some (lv t k) := by
  obtain ⟨v, hv⟩ := tget_of_key h
  unfold lv
  rw [hv]
  rfl
theorem dList_tab (t : List (Int × Int)) : dList [.dic (tabD t)] = some (.fr (.lst ((keysOf t).map .int))) := by
  have e : dList [.dic (tabD t)] = if (tabD t).all (fun kv => match kv.1 with | .tup _ => false | _ => true) then some (.fr (.lst ((tabD t).map (·.1)))) else none := rfl
  rw [e, if_pos (tab_all t _ fun _ _ => rfl)]
  unfold tabD keysOf
  rw [List.map_map, List.map_map]
  rfl
theorem dDict_lst {ls : List (Int × Int)} (h : (keysOf ls).Nodup) : dDict [.lst (ofTab ls)] = some (.fr (.dic (tabD ls))) := by
  have e : dDict [.lst (ofTab ls)] = (asPairs (ofTab ls)).map fun prs => .fr (.dic (mergeD [] prs)) := rfl
  rw [e, asPairs_tab]
  have m := mergeD_app ls [] (by simpa using h)
  have z : tabD [] = [] := rfl
  rw [z] at m
  simp only [Option.map_some, m, List.nil_append]
theorem foldl_len {p m c : Int} {b : List (Int × Int)} : ∀ (ks : List Int) (a : List (Int × Int)), (ks.foldl (ladS p m c b) a).length ≤ a.length + ks.length
  | [], a => by simp
  | k :: ks, a => by
    have h1 := foldl_len (p := p) (m := m) (c := c) (b := b) ks (ladS p m c b a k)
    have h2 : (ladS p m c b a k).length ≤ a.length + 1 := len_tput ..
    simp only [List.foldl_cons, List.length_cons]
    omega
theorem foldl_nd {p m c : Int} {b : List (Int × Int)} : ∀ (ks : List Int) {a : List (Int × Int)}, (keysOf a).Nodup → (keysOf (ks.foldl (ladS p m c b) a)).Nodup
  | [], a, h => h
  | k :: ks, a, h => foldl_nd ks (nodup_tput _ _ h)
theorem foldl_mem {p m c : Int} (hp : 0 < p) {b : List (Int × Int)} : ∀ (ks : List Int) {a : List (Int × Int)} {ab : Int × Int}, ab ∈ ks.foldl (ladS p m c b) a → ab ∈ a ∨ (∃ k ∈ ks, ab.1 = k + m) ∧ 0 ≤ ab.2 ∧ ab.2 < p
  | [], a, ab, h => .inl h
  | k :: ks, a, ab, h => by
    rcases foldl_mem hp ks h with h | ⟨⟨k', m', e⟩, h⟩
    · rcases mem_tput h with h | rfl
      · exact .inl h
      · exact .inr ⟨⟨k, List.mem_cons_self, rfl⟩, Int.emod_nonneg _ (by omega), Int.emod_lt_of_pos _ hp⟩
    · exact .inr ⟨⟨k', List.mem_cons_of_mem _ m', e⟩, h⟩
theorem foldl_lv {p m c : Int} {b : List (Int × Int)} : ∀ (ks : List Int) (a : List (Int × Int)) (j : Int), ks.Nodup → lv (ks.foldl (ladS p m c b) a) j = if j - m ∈ ks then (lv a j + c * lv b (j - m)) % p else lv a j
  | [], a, j, _ => by simp
  | k :: ks, a, j, n => by
    have n' := List.nodup_cons.mp n
    rw [List.foldl_cons, foldl_lv ks _ j n'.2]
    unfold ladS
    rw [lv_put]
    by_cases c1 : j = k + m
    · subst c1
      have e : k + m - m = k := by omega
      rw [e, if_neg n'.1, if_pos rfl, if_pos List.mem_cons_self]
    · rw [if_neg c1]
      have e : j - m ∈ k :: ks ↔ j - m ∈ ks := by
        rw [List.mem_cons]
        exact ⟨fun h => h.elim (fun z => (c1 (by omega)).elim) id, .inr⟩
      simp only [e]
theorem lv_filter {t : List (Int × Int)} (nd : (keysOf t).Nodup) (h : ∀ ab ∈ t, 0 ≤ ab.2) (j : Int) : lv (t.filter fun ab => decide (0 < ab.2)) j = lv t j := by
  have nd2 : (keysOf (t.filter fun ab => decide (0 < ab.2))).Nodup := nd.sublist (List.filter_sublist.map _)
  by_cases c : j ∈ keysOf (t.filter fun ab => decide (0 < ab.2))
  · obtain ⟨ab, m, rfl⟩ := List.mem_map.mp c
    rw [lv_of_mem nd2 m, lv_of_mem nd (List.mem_filter.mp m).1]
  · rw [lv_out c]
    by_cases c2 : j ∈ keysOf t
    · obtain ⟨ab, m, rfl⟩ := List.mem_map.mp c2
      rw [lv_of_mem nd m]
      have h1 := h ab m
      have h2 : ¬ 0 < ab.2 := fun z => c (List.mem_map.mpr ⟨ab, List.mem_filter.mpr ⟨m, decide_eq_true z⟩, rfl⟩)
      omega
    · rw [lv_out c2]
theorem lad_ok {p m c : Int} {a b : List (Int × Int)} (hp : 0 < p) (ha : Tab p a) (hb : Tab p b) : Tab p (lad p a b m c) ∧ (∀ j, lv (lad p a b m c) j = (lv a j + c * lv b (j - m)) % p) ∧ (lad p a b m c).length ≤ a.length + b.length ∧ ∀ ab ∈ lad p a b m c, ab.1 ∈ keysOf a ∨ ∃ k ∈ keysOf b, ab.1 = k + m := by
  have nd : (keysOf (ladT p a b m c)).Nodup := foldl_nd _ ha.nd
  have vals : ∀ ab ∈ ladT p a b m c, 0 ≤ ab.2 ∧ ab.2 < p := fun ab h => by
    rcases foldl_mem hp _ h with h | ⟨_, h⟩
    · have := ha.lev ab h
      omega
    · exact h
  refine ⟨⟨nd.sublist (List.filter_sublist.map _), fun ab h => ?_⟩, fun j => ?_, ?_, fun ab h => ?_⟩
  · obtain ⟨h1, h2⟩ := List.mem_filter.mp h
    exact ⟨of_decide_eq_true h2, (vals ab h1).2⟩
  · unfold lad
    rw [lv_filter nd fun ab h => (vals ab h).1]
    unfold ladT
    rw [foldl_lv _ _ _ hb.nd]
    split
    · rfl
    · rename_i no
      have l := ha.lv hp j
      rw [lv_out no, Int.mul_zero, Int.add_zero, Int.emod_eq_of_lt l.1 l.2]
  · have h1 := foldl_len (p := p) (m := m) (c := c) (b := b) (keysOf b) a
    have h2 : (keysOf b).length = b.length := by simp [keysOf]
    have h3 := List.length_filter_le (fun ab : Int × Int => decide (0 < ab.2)) (ladT p a b m c)
    unfold lad ladT at *
    omega
  · have h1 := (List.mem_filter.mp h).1
    rcases foldl_mem hp _ h1 with h | ⟨⟨k, mk, e⟩, _⟩
    · exact .inl (List.mem_map.mpr ⟨_, h, rfl⟩)
    · exact .inr ⟨k, mk, e⟩
theorem ladded_i {p m c : Int} {a b : List (Int × Int)} (hp : 0 < p) (h7 : p ≤ 7) (hc : Fin1 c) (na : (keysOf a).Nodup) (hb : Tab p b) (hl : a.length + b.length ≤ 100000) (st : List D) :
    fn_law_added [.int p, .dic (tabD a), .dic (tabD b), .int m, .int c] st = some (.ret (.fr (.dic (tabD (lad p a b m c)))) st) := by
  have p0 : ¬ p = 0 := by omega
  have fe : ∀ x : Int, x.fmod p = x % p := fun x => Int.fmod_eq_emod_of_nonneg _ (by omega)
  have kl : (keysOf b).length = b.length := by simp [keysOf]
  obtain ⟨j, e1, _⟩ := forL_fold (gm := gNm 6) (b := b1_law_added) D.int (fun (u : List (Int × Int)) (j : Option D × Option D) => ⟨[.sh (.int p), .sh (.dic (tabD a)), .sh (.dic (tabD b)), .sh (.int m), .sh (.int c), .ow (.dic (tabD u)), jk j.1, jk j.2], st⟩) (ladS p m c b) (fun u r => u.length + r.length ≤ 100000 ∧ ∀ k ∈ r, k ∈ keysOf b) (by
      rintro u k r ⟨j1, j2⟩ ⟨hl, hk⟩
      have tl : u.length < sizeLine := small1M (by simp at hl; omega)
      have km := hk k List.mem_cons_self
      have ix := ixD_tab (tget_lvB km)
      have lb := hb.lv hp k
      have mo : mulOk c (lv b k) = true := mul_ok hc (by unfold Fin1; omega)
      have lvE : (tget u (k + m)).getD 0 = lv u (k + m) := rfl
      have sd := setD_tab (k + m) ((lv u (k + m) + c * lv b k) % p) tl
      refine ⟨⟨[.sh (.int p), .sh (.dic (tabD a)), .sh (.dic (tabD b)), .sh (.int m), .sh (.int c), .ow (.dic (tabD u)), .sh (.int k), jk j2], st⟩, ⟨some (.int k), some (.int ((lv u (k + m) + c * lv b k) % p))⟩, ?_, ?_, ?_⟩
      · simp [gNm, openAt_eq]
      · have ix' : ixD (.dic (tabD b)) (.int k) = some (.sh (.int (lv b k))) := ix
        simp [b1_law_added, p0, ix', mo, lvE, fe, ladS, sd, sSeq, sFor, srcA, srcE, mLc, seqOf, ownOk, wipeE, restE, Slot.owned, dTuple_lst, dTuple_tup, mDic0, sIf, sAsg, sRet, sRetN, sExpr, sNil, bindE, bindS, eBor, eC, eVar, fz, know, mOp, mUn, op2, op1, get, get0, Slot.rd, ret, asB, mPrim, bindA, args, opN, gets, gNm, gTp, gAll, gSubM, setAt, openAt_eq, enter, leave, runFn, mCall, callF, shs, backF, dIx, ixS, cGt, cGe, cLtI, cLe, Mi.b2, dAdd, addS, addL, addT, dMulI, dSub, Mi.i2, dMod, dDiv, sz_le, sz_lt, setD_lst, dInt_i, dInt_b, ixN, mIf, mAnd, mOr, mNot, mTru, tru, isiT, tyD, inK, eqF, D.scal, dLen_lst, dLen_tup, dLen_scr, dLen_str, dNeg, isP, isNon, mChain, mTup, mLst, mProp, mMth, noX, mCallK, permL, mCell, sSelfC, sSelf, sPar, sAug, dAbs, mMut, tyName, mMeth, isTy, opM, uApp, uExt, mSl, mPart, asPart, isFr, dMax, dMin, dMinA, srcA, enumA, enum1]
      · have : (ladS p m c b u k).length ≤ u.length + 1 := len_tput ..
        exact ⟨by simp at hl; omega, fun k h => hk k (List.mem_cons_of_mem _ h)⟩) (keysOf b) a (none, none) ⟨by omega, fun _ h => h⟩
  have dl := dList_tab b
  have eT : List.foldl (ladS p m c b) a (keysOf b) = ladT p a b m c := rfl
  rw [eT] at e1
  have nd : (keysOf (ladT p a b m c)).Nodup := foldl_nd _ na
  have dl2 := dList_tab (ladT p a b m c)
  have tl2 : (ladT p a b m c).length ≤ 100000 := by
    have := foldl_len (p := p) (m := m) (c := c) (b := b) (keysOf b) a
    unfold ladT
    omega
  have lc := lcL_map (gm := gNm 6) (mt := t1_law_added) (me := e1_law_added) (vs := [6]) (p := ⟨[.sh (.int p), .sh (.dic (tabD a)), .sh (.dic (tabD b)), .sh (.int m), .sh (.int c), .sh (.dic (tabD (ladT p a b m c))), .no, jk j.2], st⟩) D.int (fun k => if 0 < lv (ladT p a b m c) k then some (D.tup [.int k, .int (lv (ladT p a b m c) k)]) else none) (keysOf (ladT p a b m c)) [] (fun k mk => by
    have ix' : ixD (.dic (tabD (ladT p a b m c))) (.int k) = some (.sh (.int (lv (ladT p a b m c) k))) := ixD_tab (tget_lvB mk)
    by_cases c0 : 0 < lv (ladT p a b m c) k
    · simp [lcTurn, t1_law_added, e1_law_added, ix', c0, sSeq, sFor, srcA, srcE, mLc, seqOf, ownOk, wipeE, restE, Slot.owned, dTuple_lst, dTuple_tup, mDic0, sIf, sAsg, sRet, sRetN, sExpr, sNil, bindE, bindS, eBor, eC, eVar, fz, know, mOp, mUn, op2, op1, get, get0, Slot.rd, ret, asB, mPrim, bindA, args, opN, gets, gNm, gTp, gAll, gSubM, setAt, openAt_eq, enter, leave, runFn, mCall, callF, shs, backF, dIx, ixS, cGt, cGe, cLtI, cLe, Mi.b2, dAdd, addS, addL, addT, dMulI, dSub, Mi.i2, dMod, dDiv, sz_le, sz_lt, setD_lst, dInt_i, dInt_b, ixN, mIf, mAnd, mOr, mNot, mTru, tru, isiT, tyD, inK, eqF, D.scal, dLen_lst, dLen_tup, dLen_scr, dLen_str, dNeg, isP, isNon, mChain, mTup, mLst, mProp, mMth, noX, mCallK, permL, mCell, sSelfC, sSelf, sPar, sAug, dAbs, mMut, tyName, mMeth, isTy, opM, uApp, uExt, mSl, mPart, asPart, isFr, dMax, dMin, dMinA, srcA, enumA, enum1]
    · simp [lcTurn, t1_law_added, e1_law_added, ix', c0, sSeq, sFor, srcA, srcE, mLc, seqOf, ownOk, wipeE, restE, Slot.owned, dTuple_lst, dTuple_tup, mDic0, sIf, sAsg, sRet, sRetN, sExpr, sNil, bindE, bindS, eBor, eC, eVar, fz, know, mOp, mUn, op2, op1, get, get0, Slot.rd, ret, asB, mPrim, bindA, args, opN, gets, gNm, gTp, gAll, gSubM, setAt, openAt_eq, enter, leave, runFn, mCall, callF, shs, backF, dIx, ixS, cGt, cGe, cLtI, cLe, Mi.b2, dAdd, addS, addL, addT, dMulI, dSub, Mi.i2, dMod, dDiv, sz_le, sz_lt, setD_lst, dInt_i, dInt_b, ixN, mIf, mAnd, mOr, mNot, mTru, tru, isiT, tyD, inK, eqF, D.scal, dLen_lst, dLen_tup, dLen_scr, dLen_str, dNeg, isP, isNon, mChain, mTup, mLst, mProp, mMth, noX, mCallK, permL, mCell, sSelfC, sSelf, sPar, sAug, dAbs, mMut, tyName, mMeth, isTy, opM, uApp, uExt, mSl, mPart, asPart, isFr, dMax, dMin, dMinA, srcA, enumA, enum1]) (by
      have : (keysOf (ladT p a b m c)).length = (ladT p a b m c).length := by simp [keysOf]
      rw [this]
      exact sz_le (by simp; omega))
  have fm : (keysOf (ladT p a b m c)).filterMap (fun k => if 0 < lv (ladT p a b m c) k then some (D.tup [.int k, .int (lv (ladT p a b m c) k)]) else none) = ofTab (lad p a b m c) := by
    unfold lad
    generalize ladT p a b m c = T at nd ⊢
    have gen : ∀ (u : List (Int × Int)), (∀ ab ∈ u, lv T ab.1 = ab.2) → (keysOf u).filterMap (fun k => if 0 < lv T k then some (D.tup [.int k, .int (lv T k)]) else none) = ofTab (u.filter fun ab => decide (0 < ab.2)) := by
      intro u
      induction u with
      | nil => intro _; rfl
      | cons ab u ih =>
        intro h
        have h1 := h ab List.mem_cons_self
        have h2 := ih fun cd m => h cd (List.mem_cons_of_mem _ m)
        show ((ab.1 :: keysOf u).filterMap _) = _
        rw [List.filterMap_cons, h1, List.filter_cons]
        by_cases z : 0 < ab.2
        · simp only [z, if_true, decide_true]
          rw [h2]
          rfl
        · simp only [z, if_false, decide_false]
          exact h2
    exact gen T fun ab m => lv_of_mem nd m
  rw [fm, List.nil_append] at lc
  have dd := dDict_lst (ls := lad p a b m c) (nd.sublist (List.filter_sublist.map _))
  have dc : dDict [.dic (tabD a)] = some (.fr (.dic (tabD a))) := by
    have e : dDict [.dic (tabD a)] = if (tabD a).all (fun kv => match kv.1 with | .tup _ => false | _ => true) then some (.fr (.dic (tabD a))) else none := rfl
    rw [e, if_pos (tab_all a _ fun _ _ => rfl)]
  simp only [jk_none] at e1
  obtain ⟨j1, j2⟩ := j
  cases j1
  · simp only [jk_none] at e1
    simp [fn_law_added, m_law_added, dl, dc, e1, dl2, lc, dd, sSeq, sFor, srcA, srcE, mLc, seqOf, ownOk, wipeE, restE, Slot.owned, dTuple_lst, dTuple_tup, mDic0, sIf, sAsg, sRet, sRetN, sExpr, sNil, bindE, bindS, eBor, eC, eVar, fz, know, mOp, mUn, op2, op1, get, get0, Slot.rd, ret, asB, mPrim, bindA, args, opN, gets, gNm, gTp, gAll, gSubM, setAt, openAt_eq, enter, leave, runFn, mCall, callF, shs, backF, dIx, ixS, cGt, cGe, cLtI, cLe, Mi.b2, dAdd, addS, addL, addT, dMulI, dSub, Mi.i2, dMod, dDiv, sz_le, sz_lt, setD_lst, dInt_i, dInt_b, ixN, mIf, mAnd, mOr, mNot, mTru, tru, isiT, tyD, inK, eqF, D.scal, dLen_lst, dLen_tup, dLen_scr, dLen_str, dNeg, isP, isNon, mChain, mTup, mLst, mProp, mMth, noX, mCallK, permL, mCell, sSelfC, sSelf, sPar, sAug, dAbs, mMut, tyName, mMeth, isTy, opM, uApp, uExt, mSl, mPart, asPart, isFr, dMax, dMin, dMinA, srcA, enumA, enum1]
  · simp only [jk_some] at e1
    simp [fn_law_added, m_law_added, dl, dc, e1, dl2, lc, dd, sSeq, sFor, srcA, srcE, mLc, seqOf, ownOk, wipeE, restE, Slot.owned, dTuple_lst, dTuple_tup, mDic0, sIf, sAsg, sRet, sRetN, sExpr, sNil, bindE, bindS, eBor, eC, eVar, fz, know, mOp, mUn, op2, op1, get, get0, Slot.rd, ret, asB, mPrim, bindA, args, opN, gets, gNm, gTp, gAll, gSubM, setAt, openAt_eq, enter, leave, runFn, mCall, callF, shs, backF, dIx, ixS, cGt, cGe, cLtI, cLe, Mi.b2, dAdd, addS, addL, addT, dMulI, dSub, Mi.i2, dMod, dDiv, sz_le, sz_lt, setD_lst, dInt_i, dInt_b, ixN, mIf, mAnd, mOr, mNot, mTru, tru, isiT, tyD, inK, eqF, D.scal, dLen_lst, dLen_tup, dLen_scr, dLen_str, dNeg, isP, isNon, mChain, mTup, mLst, mProp, mMth, noX, mCallK, permL, mCell, sSelfC, sSelf, sPar, sAug, dAbs, mMut, tyName, mMeth, isTy, opM, uApp, uExt, mSl, mPart, asPart, isFr, dMax, dMin, dMinA, srcA, enumA, enum1]
end Mi

/-! ## Plain: family B's lamps, one behind another, undone, done often -/
namespace Mi
open PySem PySem.Spec PyProof.Rows L2 Lamp SlX Gd TL
def prD (t : List (Int × Int)) (e : Int) : D := .tup [.dic (tabD t), .int e]
theorem llamps_i {t : List (Int × Int)} (nd : (keysOf t).Nodup) (hl : t.length ≤ 100000) (st : List D) : fn_law_lamps [.dic (tabD t)] st = some (.ret (.sh (.tup (ofTab (sortT t)))) st) := by
  have dl := dList_tab t
  have kl : (keysOf t).length = t.length := by simp [keysOf]
  have lc := lcL_all (gm := gNm 1) (mt := eC (.bl true)) (me := e1_law_lamps) (vs := [1]) (p := ⟨[.sh (.dic (tabD t)), .no], st⟩) D.int (fun k => D.tup [.int k, .int (lv t k)]) (keysOf t) (fun k mk => by
    have ix' : ixD (.dic (tabD t)) (.int k) = some (.sh (.int (lv t k))) := ixD_tab (tget_lvB mk)
    simp [lcTurn, e1_law_lamps, ix', sSeq, sFor, srcA, srcE, mLc, seqOf, ownOk, wipeE, restE, Slot.owned, dTuple_lst, dTuple_tup, mDic0, sIf, sAsg, sRet, sRetN, sExpr, sNil, bindE, bindS, eBor, eC, eVar, fz, know, mOp, mUn, op2, op1, get, get0, Slot.rd, ret, asB, mPrim, bindA, args, opN, gets, gNm, gTp, gAll, gSubM, setAt, openAt_eq, enter, leave, runFn, mCall, callF, shs, backF, dIx, ixS, cGt, cGe, cLtI, cLe, Mi.b2, dAdd, addS, addL, addT, dMulI, dSub, Mi.i2, dMod, dDiv, sz_le, sz_lt, setD_lst, dInt_i, dInt_b, ixN, mIf, mAnd, mOr, mNot, mTru, tru, isiT, tyD, inK, eqF, D.scal, dLen_lst, dLen_tup, dLen_scr, dLen_str, dNeg, isP, isNon, mChain, mTup, mLst, mProp, mMth, noX, mCallK, permL, mCell, sSelfC, sSelf, sPar, sAug, dAbs, mMut, tyName, mMeth, isTy, opM, uApp, uExt, mSl, mPart, asPart, isFr, dMax, dMin, dMinA, srcA, enumA, enum1]) (by rw [kl]; exact sz_le (by omega))
  have fm : (keysOf t).map (fun k => D.tup [.int k, .int (lv t k)]) = ofTab t := by
    have gen : ∀ (u : List (Int × Int)), (∀ ab ∈ u, lv t ab.1 = ab.2) → (keysOf u).map (fun k => D.tup [.int k, .int (lv t k)]) = ofTab u := by
      intro u
      induction u with
      | nil => intro _; rfl
      | cons ab u ih =>
        intro h
        show D.tup [.int ab.1, .int (lv t ab.1)] :: (keysOf u).map _ = _
        rw [h ab List.mem_cons_self, ih fun cd m => h cd (List.mem_cons_of_mem _ m)]
        rfl
    exact gen t fun ab m => lv_of_mem nd m
  rw [fm] at lc
  have ds : dSortedP [.lst (ofTab t)] = some (.fr (.lst (ofTab (sortT t)))) := by
    unfold dSortedP
    simp only [asPrI_tab]
    rw [if_pos nd]
  simp [fn_law_lamps, m_law_lamps, dl, lc, ds, sSeq, sFor, srcA, srcE, mLc, seqOf, ownOk, wipeE, restE, Slot.owned, dTuple_lst, dTuple_tup, mDic0, sIf, sAsg, sRet, sRetN, sExpr, sNil, bindE, bindS, eBor, eC, eVar, fz, know, mOp, mUn, op2, op1, get, get0, Slot.rd, ret, asB, mPrim, bindA, args, opN, gets, gNm, gTp, gAll, gSubM, setAt, openAt_eq, enter, leave, runFn, mCall, callF, shs, backF, dIx, ixS, cGt, cGe, cLtI, cLe, Mi.b2, dAdd, addS, addL, addT, dMulI, dSub, Mi.i2, dMod, dDiv, sz_le, sz_lt, setD_lst, dInt_i, dInt_b, ixN, mIf, mAnd, mOr, mNot, mTru, tru, isiT, tyD, inK, eqF, D.scal, dLen_lst, dLen_tup, dLen_scr, dLen_str, dNeg, isP, isNon, mChain, mTup, mLst, mProp, mMth, noX, mCallK, permL, mCell, sSelfC, sSelf, sPar, sAug, dAbs, mMut, tyName, mMeth, isTy, opM, uApp, uExt, mSl, mPart, asPart, isFr, dMax, dMin, dMinA, srcA, enumA, enum1]
structure Sm (i : Int) (p : Int) (t : List (Int × Int)) (e : Int) : Prop where
  tab : Tab p t
  len : (t.length : Int) ≤ 8 * i
  keys : ∀ k ∈ keysOf t, -(100 * i) ≤ k ∧ k ≤ 100 * i
  e0 : -(100 * i) ≤ e
  e1 : e ≤ 100 * i
theorem Sm.le {i j p e : Int} {t : List (Int × Int)} (h : Sm i p t e) (l : i ≤ j) : Sm j p t e := ⟨h.tab, by have := h.len; omega, fun k m => by have := h.keys k m; omega, by have := h.e0; omega, by have := h.e1; omega⟩
theorem behind_eq {p e e' : Int} {a b : List (Int × Int)} (hp : 0 < p) (h7 : p ≤ 7) (ha : Tab p a) (hb : Tab p b) (hl : a.length + b.length ≤ 100000) (st : List D) :
    fn_law_behind [.int p, prD a e, prD b e'] st = some (.ret (.sh (prD (lad p a b e 1) (e + e'))) st) := by
  have ad := ladded_i (m := e) (c := 1) hp h7 (by unfold Fin1; omega) ha.nd hb hl st
  unfold prD
  simp [fn_law_behind, m_law_behind, ad, sSeq, sFor, srcA, srcE, mLc, seqOf, ownOk, wipeE, restE, Slot.owned, dTuple_lst, dTuple_tup, mDic0, sIf, sAsg, sRet, sRetN, sExpr, sNil, bindE, bindS, eBor, eC, eVar, fz, know, mOp, mUn, op2, op1, get, get0, Slot.rd, ret, asB, mPrim, bindA, args, opN, gets, gNm, gTp, gAll, gSubM, setAt, openAt_eq, enter, leave, runFn, mCall, callF, shs, backF, dIx, ixS, cGt, cGe, cLtI, cLe, Mi.b2, dAdd, addS, addL, addT, dMulI, dSub, Mi.i2, dMod, dDiv, sz_le, sz_lt, setD_lst, dInt_i, dInt_b, ixN, mIf, mAnd, mOr, mNot, mTru, tru, isiT, tyD, inK, eqF, D.scal, dLen_lst, dLen_tup, dLen_scr, dLen_str, dNeg, isP, isNon, mChain, mTup, mLst, mProp, mMth, noX, mCallK, permL, mCell, sSelfC, sSelf, sPar, sAug, dAbs, mMut, tyName, mMeth, isTy, opM, uApp, uExt, mSl, mPart, asPart, isFr, dMax, dMin, dMinA, srcA, enumA, enum1]
theorem behind_i {i j p e e' : Int} {a b : List (Int × Int)} (hp : 0 < p) (h7 : p ≤ 7) (ha : Sm i p a e) (hb : Sm j p b e') (hi : i ≤ 100) (hj : j ≤ 100) (i0 : 0 ≤ i) (j0 : 0 ≤ j) (st : List D) :
    ∃ t, fn_law_behind [.int p, prD a e, prD b e'] st = some (.ret (.sh (prD t (e + e'))) st) ∧ Sm (i + j) p t (e + e') := by
  have l1 := ha.len
  have l2 := hb.len
  obtain ⟨o1, _, o3, o4⟩ := lad_ok (m := e) (c := 1) hp ha.tab hb.tab
  have x0 := ha.e0
  have x1 := ha.e1
  have y0 := hb.e0
  have y1 := hb.e1
  refine ⟨_, behind_eq hp h7 ha.tab hb.tab (by omega) st, o1, by omega, fun k m => ?_, by omega, by omega⟩
  obtain ⟨ab, m', rfl⟩ := List.mem_map.mp m
  rcases o4 ab m' with h | ⟨k, mk, h⟩
  · have := ha.keys _ h
    omega
  · have := hb.keys _ mk
    omega
theorem back_i {i p e : Int} {a : List (Int × Int)} (hp : 0 < p) (h7 : p ≤ 7) (ha : Sm i p a e) (hi : i ≤ 100) (i0 : 0 ≤ i) (st : List D) :
    ∃ t e', fn_law_back [.int p, prD a e] st = some (.ret (.sh (prD t e')) st) ∧ Sm (2 * i) p t e' := by
  have l1 := ha.len
  have nil : Tab p [] := ⟨List.nodup_nil, fun _ m => by cases m⟩
  obtain ⟨o1, _, o3, o4⟩ := lad_ok (m := 0 - e) (c := -1) hp nil ha.tab
  have x0 := ha.e0
  have x1 := ha.e1
  have ad := ladded_i (m := 0 - e) (c := -1) hp h7 (by unfold Fin1; omega) nil.nd ha.tab (by simp; omega) st
  refine ⟨lad p [] a (0 - e) (-1), 0 - e, ?_, o1, by simp only [List.length_nil, Nat.zero_add] at o3; omega, fun k m => ?_, by omega, by omega⟩
  · have n0 : tabD [] = [] := rfl
    rw [n0] at ad
    simp only [Int.zero_sub] at ad ⊢
    unfold prD
    simp [fn_law_back, m_law_back, ad, sSeq, sFor, srcA, srcE, mLc, seqOf, ownOk, wipeE, restE, Slot.owned, dTuple_lst, dTuple_tup, mDic0, sIf, sAsg, sRet, sRetN, sExpr, sNil, bindE, bindS, eBor, eC, eVar, fz, know, mOp, mUn, op2, op1, get, get0, Slot.rd, ret, asB, mPrim, bindA, args, opN, gets, gNm, gTp, gAll, gSubM, setAt, openAt_eq, enter, leave, runFn, mCall, callF, shs, backF, dIx, ixS, cGt, cGe, cLtI, cLe, Mi.b2, dAdd, addS, addL, addT, dMulI, dSub, Mi.i2, dMod, dDiv, sz_le, sz_lt, setD_lst, dInt_i, dInt_b, ixN, mIf, mAnd, mOr, mNot, mTru, tru, isiT, tyD, inK, eqF, D.scal, dLen_lst, dLen_tup, dLen_scr, dLen_str, dNeg, isP, isNon, mChain, mTup, mLst, mProp, mMth, noX, mCallK, permL, mCell, sSelfC, sSelf, sPar, sAug, dAbs, mMut, tyName, mMeth, isTy, opM, uApp, uExt, mSl, mPart, asPart, isFr, dMax, dMin, dMinA, srcA, enumA, enum1]
  · obtain ⟨ab, m', rfl⟩ := List.mem_map.mp m
    rcases o4 ab m' with h | ⟨k, mk, h⟩
    · cases h
    · have := ha.keys _ mk
      omega
theorem times_i {p e n : Int} {a : List (Int × Int)} (hp : 0 < p) (h7 : p ≤ 7) (ha : Sm 1 p a e) (n0 : -3 ≤ n) (n1 : n ≤ 3) (st : List D) :
    ∃ t e', fn_law_times [.int p, prD a e, .int n] st = some (.ret (.sh (prD t e')) st) ∧ Sm 10 p t e' := by
  have loop : ∀ (m : Nat) (b : List (Int × Int)) (eb : Int), m ≤ 3 → Sm 2 p b eb → ∃ t e' j, forL (gNm 4) b1_law_times yes (rangeL 0 (m : Int)) ⟨[.sh (.int p), .sh (prD b eb), .sh (.int m), .sh (prD [] 0), .no], st⟩ = some (.next ⟨[.sh (.int p), .sh (prD b eb), .sh (.int m), .sh (prD t e'), jk j], st⟩) ∧ Sm 10 p t e' := fun m b eb hm hb => by
    have q := forL_inv (gm := gNm 4) (b := b1_law_times) (fun ds q => ∃ (t : List (Int × Int)) (e' : Int) (i : Nat) (j : Option D), i + ds.length ≤ 3 ∧ (∀ d ∈ ds, ∃ z, d = D.int z) ∧ Sm (2 * i) p t e' ∧ q = ⟨[.sh (.int p), .sh (prD b eb), .sh (.int m), .sh (prD t e'), jk j], st⟩) (by
      rintro d ds q ⟨t, e', i, j, hl, hd, hs, rfl⟩
      obtain ⟨z, rfl⟩ := hd d List.mem_cons_self
      simp only [List.length_cons] at hl
      obtain ⟨t2, eq2, s2⟩ := behind_i hp h7 hs hb (by omega) (by omega) (by omega) (by omega) st
      refine ⟨⟨[.sh (.int p), .sh (prD b eb), .sh (.int m), .sh (prD t e'), .sh (.int z)], st⟩, ⟨[.sh (.int p), .sh (prD b eb), .sh (.int m), .sh (prD t2 (e' + eb)), .sh (.int z)], st⟩, ?_, .inl ?_, t2, e' + eb, i + 1, some (.int z), by omega, fun d h => hd d (List.mem_cons_of_mem _ h), s2.le (by omega), rfl⟩
      · simp [gNm, openAt_eq]
      · unfold prD at eq2 ⊢
        simp [b1_law_times, eq2, sSeq, sFor, srcA, srcE, mLc, seqOf, ownOk, wipeE, restE, Slot.owned, dTuple_lst, dTuple_tup, mDic0, sIf, sAsg, sRet, sRetN, sExpr, sNil, bindE, bindS, eBor, eC, eVar, fz, know, mOp, mUn, op2, op1, get, get0, Slot.rd, ret, asB, mPrim, bindA, args, opN, gets, gNm, gTp, gAll, gSubM, setAt, openAt_eq, enter, leave, runFn, mCall, callF, shs, backF, dIx, ixS, cGt, cGe, cLtI, cLe, Mi.b2, dAdd, addS, addL, addT, dMulI, dSub, Mi.i2, dMod, dDiv, sz_le, sz_lt, setD_lst, dInt_i, dInt_b, ixN, mIf, mAnd, mOr, mNot, mTru, tru, isiT, tyD, inK, eqF, D.scal, dLen_lst, dLen_tup, dLen_scr, dLen_str, dNeg, isP, isNon, mChain, mTup, mLst, mProp, mMth, noX, mCallK, permL, mCell, sSelfC, sSelf, sPar, sAug, dAbs, mMut, tyName, mMeth, isTy, opM, uApp, uExt, mSl, mPart, asPart, isFr, dMax, dMin, dMinA, srcA, enumA, enum1])
      (rangeL 0 (m : Int)) ⟨[.sh (.int p), .sh (prD b eb), .sh (.int m), .sh (prD [] 0), .no], st⟩ ⟨[], 0, 0, none, by rw [rangeL_map]; simpa using hm, (by
        intro d hd
        rw [rangeL_map] at hd
        obtain ⟨i, _, rfl⟩ := List.mem_map.mp hd
        exact ⟨_, rfl⟩), ⟨⟨List.nodup_nil, fun _ m => by cases m⟩, by simp, (fun _ m => by cases m), by omega, by omega⟩, rfl⟩
    obtain ⟨q, e1, t, e', i, j, hl, _, hs, rfl⟩ := q
    exact ⟨t, e', j, e1, hs.le (by simp at hl; omega)⟩
  have n00 : tabD [] = [] := rfl
  by_cases c : n < 0
  · obtain ⟨b, eb, e1, sb⟩ := back_i hp h7 ha (by omega) (by omega) st
    obtain ⟨m, hm⟩ : ∃ m : Nat, (m : Int) = 0 - n := ⟨(0 - n).toNat, by omega⟩
    obtain ⟨t, e', j, e2, s2⟩ := loop m b eb (by omega) (sb.le (by omega))
    have r1 := rng1_ok (j := (m : Int)) (by omega) (by omega)
    have hm' : -n = (m : Int) := by omega
    refine ⟨t, e', ?_, s2⟩
    unfold prD at e1 e2 ⊢
    rw [n00] at e2
    simp [fn_law_times, m_law_times, c, e1, hm', r1, e2, sSeq, sFor, srcA, srcE, mLc, seqOf, ownOk, wipeE, restE, Slot.owned, dTuple_lst, dTuple_tup, mDic0, sIf, sAsg, sRet, sRetN, sExpr, sNil, bindE, bindS, eBor, eC, eVar, fz, know, mOp, mUn, op2, op1, get, get0, Slot.rd, ret, asB, mPrim, bindA, args, opN, gets, gNm, gTp, gAll, gSubM, setAt, openAt_eq, enter, leave, runFn, mCall, callF, shs, backF, dIx, ixS, cGt, cGe, cLtI, cLe, Mi.b2, dAdd, addS, addL, addT, dMulI, dSub, Mi.i2, dMod, dDiv, sz_le, sz_lt, setD_lst, dInt_i, dInt_b, ixN, mIf, mAnd, mOr, mNot, mTru, tru, isiT, tyD, inK, eqF, D.scal, dLen_lst, dLen_tup, dLen_scr, dLen_str, dNeg, isP, isNon, mChain, mTup, mLst, mProp, mMth, noX, mCallK, permL, mCell, sSelfC, sSelf, sPar, sAug, dAbs, mMut, tyName, mMeth, isTy, opM, uApp, uExt, mSl, mPart, asPart, isFr, dMax, dMin, dMinA, srcA, enumA, enum1]
  · obtain ⟨m, rfl⟩ : ∃ m : Nat, n = (m : Int) := ⟨n.toNat, by omega⟩
    obtain ⟨t, e', j, e2, s2⟩ := loop m a e (by omega) (ha.le (by omega))
    have r1 := rng1_ok (j := (m : Int)) (by omega) (by omega)
    refine ⟨t, e', ?_, s2⟩
    unfold prD at e2 ⊢
    rw [n00] at e2
    simp [fn_law_times, m_law_times, c, r1, e2, sSeq, sFor, srcA, srcE, mLc, seqOf, ownOk, wipeE, restE, Slot.owned, dTuple_lst, dTuple_tup, mDic0, sIf, sAsg, sRet, sRetN, sExpr, sNil, bindE, bindS, eBor, eC, eVar, fz, know, mOp, mUn, op2, op1, get, get0, Slot.rd, ret, asB, mPrim, bindA, args, opN, gets, gNm, gTp, gAll, gSubM, setAt, openAt_eq, enter, leave, runFn, mCall, callF, shs, backF, dIx, ixS, cGt, cGe, cLtI, cLe, Mi.b2, dAdd, addS, addL, addT, dMulI, dSub, Mi.i2, dMod, dDiv, sz_le, sz_lt, setD_lst, dInt_i, dInt_b, ixN, mIf, mAnd, mOr, mNot, mTru, tru, isiT, tyD, inK, eqF, D.scal, dLen_lst, dLen_tup, dLen_scr, dLen_str, dNeg, isP, isNon, mChain, mTup, mLst, mProp, mMth, noX, mCallK, permL, mCell, sSelfC, sSelf, sPar, sAug, dAbs, mMut, tyName, mMeth, isTy, opM, uApp, uExt, mSl, mPart, asPart, isFr, dMax, dMin, dMinA, srcA, enumA, enum1]
end Mi

/-! ## Plain: family B's pairs; equal tables -/
namespace Mi
open PySem PySem.Spec PyProof.Rows L2 Lamp SlX Gd TL
theorem sub_len : ∀ {l m : List Int}, l.Nodup → (∀ x ∈ l, x ∈ m) → l.length ≤ m.length
  | [], m, _, _ => by simp
  | x :: r, m, n, h => by
    have n' := List.nodup_cons.mp n
    have h1 : ∀ y ∈ r, y ∈ m.erase x := fun y hy => by
      have ne : y ≠ x := fun z => n'.1 (by rw [← z]; exact hy)
      exact (List.mem_erase_of_ne ne).mpr (h y (List.mem_cons_of_mem _ hy))
    have h2 := sub_len n'.2 h1
    have h3 := List.length_erase_of_mem (h x List.mem_cons_self)
    have h4 : 0 < m.length := List.length_pos_of_mem (h x List.mem_cons_self)
    simp only [List.length_cons]
    omega
theorem key_lv {p : Int} {t : List (Int × Int)} (h : Tab p t) (k : Int) : k ∈ keysOf t ↔ lv t k ≠ 0 := by
  constructor
  · intro m
    obtain ⟨ab, m', rfl⟩ := List.mem_map.mp m
    have := h.lev ab m'
    rw [lv_of_mem h.nd m']
    omega
  · intro z
    exact Classical.byContradiction fun no => z (lv_out no)
theorem tabEq_iff {p : Int} {t u : List (Int × Int)} (ht : Tab p t) (hu : Tab p u) : tabEq t u = true ↔ ∀ k, lv t k = lv u k := by
  have lt : (keysOf t).length = t.length := by simp [keysOf]
  have lu : (keysOf u).length = u.length := by simp [keysOf]
  unfold tabEq
  rw [Bool.and_eq_true, beq_iff_eq, List.all_eq_true]
  constructor
  · rintro ⟨hl, ha⟩ k
    have sub : ∀ ab ∈ t, ab.1 ∈ keysOf u ∧ lv u ab.1 = ab.2 := fun ab m => by
      have h1 := ha ab m
      cases c : tget u ab.1 with
      | none => rw [c] at h1; cases h1
      | some v =>
        rw [c] at h1
        have h2 : ab.2 = v := by simpa using h1
        have h3 : lv u ab.1 = v := by unfold lv; rw [c]; rfl
        exact ⟨List.mem_map.mpr ⟨_, tget_mem c, rfl⟩, by rw [h3, h2]⟩
    by_cases c : k ∈ keysOf t
    · obtain ⟨ab, m, rfl⟩ := List.mem_map.mp c
      rw [lv_of_mem ht.nd m, (sub ab m).2]
    · rw [lv_out c]
      by_cases c2 : k ∈ keysOf u
      · have := sub_len (l := k :: keysOf t) (m := keysOf u) (List.nodup_cons.mpr ⟨c, ht.nd⟩) fun x hx => by
          rcases List.mem_cons.mp hx with rfl | hx
          · exact c2
          · obtain ⟨ab, m, rfl⟩ := List.mem_map.mp hx
            exact (sub ab m).1
        simp only [List.length_cons] at this
        omega
      · rw [lv_out c2]
  · intro h
    have k1 : ∀ x ∈ keysOf t, x ∈ keysOf u := fun x m => (key_lv hu x).mpr (by rw [← h]; exact (key_lv ht x).mp m)
    have k2 : ∀ x ∈ keysOf u, x ∈ keysOf t := fun x m => (key_lv ht x).mpr (by rw [h]; exact (key_lv hu x).mp m)
    have l1 := sub_len ht.nd k1
    have l2 := sub_len hu.nd k2
    refine ⟨by omega, fun ab m => ?_⟩
    have mk : ab.1 ∈ keysOf u := k1 _ (List.mem_map.mpr ⟨_, m, rfl⟩)
    rw [tget_lvB mk, ← h, lv_of_mem ht.nd m]
    exact beq_self_eq_true _
theorem eqA_pr {p x y : Int} {t u : List (Int × Int)} (ht : Tab p t) : eqA (prD t x) (prD u y) = some (.sh (.bl (tabEq t u && x == y))) := by
  show eqT (prD t x) (prD u y) = _
  unfold prD eqT
  simp only [asTab_tab]
  rw [if_pos ht.nd]
theorem eqA_dic (t u : List (Int × Int)) : eqA (.dic (tabD t)) (.dic (tabD u)) = some (.sh (.bl (tabEq t u))) := by
  show eqT (.dic (tabD t)) (.dic (tabD u)) = _
  unfold eqT
  simp only [asTab_tab]
theorem commute_i {p e e' : Int} {a b : List (Int × Int)} (hp : Lev p) (ha : Good p a) (hb : Good p b) (la : a.length + b.length ≤ 1000) (st : List D) :
    fn_commute [rndD p a e, rndD p b e'] st = some (.ret (.sh (.bl (tabEq (Lamp.addT p a b e 1) (Lamp.addT p b a e' 1)))) st) := by
  have pp := hp.pos
  have t1 := table_i (e := e) ha st
  have t2 := table_i (e := e') hb st
  have lf : ∀ {a : List (Int × Int)}, Good p a → ∀ ab ∈ a, Fin1 ab.2 := fun g ab m => by
    have := g.lev ab m
    unfold Fin1
    omega
  have a1 := added_i (p := p) (m := e) (c := 1) (one := a) (other := b) (by omega) (by unfold Fin1; omega) (lf hb) (by omega) st
  have a2 := added_i (p := p) (m := e') (c := 1) (one := b) (other := a) (by omega) (by unfold Fin1; omega) (lf ha) (by omega) st
  have c1 := chkround_i p e a st
  have c2 := chkround_i p e' b st
  have cp : fn_check_pair [rndD p a e, rndD p b e'] st = some (.ret (.sh .non) st) := by
    simp [fn_check_pair, m_check_pair, c1, c2, sSeq, sFor, srcA, srcE, mLc, seqOf, ownOk, wipeE, restE, Slot.owned, dTuple_lst, dTuple_tup, mDic0, sIf, sAsg, sRet, sRetN, sExpr, sNil, bindE, bindS, eBor, eC, eVar, fz, know, mOp, mUn, op2, op1, get, get0, Slot.rd, ret, asB, mPrim, bindA, args, opN, gets, gNm, gTp, gAll, gSubM, setAt, openAt_eq, enter, leave, runFn, mCall, callF, shs, backF, dIx, ixS, cGt, cGe, cLtI, cLe, Mi.b2, dAdd, addS, addL, addT, dMulI, dSub, Mi.i2, dMod, dDiv, sz_le, sz_lt, setD_lst, dInt_i, dInt_b, ixN, mIf, mAnd, mOr, mNot, mTru, tru, isiT, tyD, inK, eqF, D.scal, dLen_lst, dLen_tup, dLen_scr, dLen_str, dNeg, isP, isNon, mChain, mTup, mLst, mProp, mMth, noX, mCallK, permL, mCell, sSelfC, sSelf, sPar, sAug, dAbs, mMut, tyName, mMeth, isTy, opM, uApp, uExt, mSl, mPart, asPart, isFr, dMax, dMin, dMinA, srcA, enumA, enum1]
  have q := eqA_dic (Lamp.addT p a b e 1) (Lamp.addT p b a e' 1)
  simp [fn_commute, m_commute, cp, t1, t2, a1, a2, q, sSeq, sFor, srcA, srcE, mLc, seqOf, ownOk, wipeE, restE, Slot.owned, dTuple_lst, dTuple_tup, mDic0, sIf, sAsg, sRet, sRetN, sExpr, sNil, bindE, bindS, eBor, eC, eVar, fz, know, mOp, mUn, op2, op1, get, get0, Slot.rd, ret, asB, mPrim, bindA, args, opN, gets, gNm, gTp, gAll, gSubM, setAt, openAt_eq, enter, leave, runFn, mCall, callF, shs, backF, dIx, ixS, cGt, cGe, cLtI, cLe, Mi.b2, dAdd, addS, addL, addT, dMulI, dSub, Mi.i2, dMod, dDiv, sz_le, sz_lt, setD_lst, dInt_i, dInt_b, ixN, mIf, mAnd, mOr, mNot, mTru, tru, isiT, tyD, inK, eqF, D.scal, dLen_lst, dLen_tup, dLen_scr, dLen_str, dNeg, isP, isNon, mChain, mTup, mLst, mProp, mMth, noX, mCallK, permL, mCell, sSelfC, sSelf, sPar, sAug, dAbs, mMut, tyName, mMeth, isTy, opM, uApp, uExt, mSl, mPart, asPart, isFr, dMax, dMin, dMinA, srcA, enumA, enum1]
/-- both ways tell the same -/
theorem due_is {p e e' : Int} {a b a' b' : List (Int × Int)} (hp : 0 < p) (ha : Tab p a) (hb : Tab p b) (pa : a'.Perm a) (pb : b'.Perm b) (ha' : Tab p a') (hb' : Tab p b') :
    tabEq (Lamp.addT p a' b' e 1) (Lamp.addT p b' a' e' 1) = (tabEq (lad p a b e 1) (lad p b a e' 1) && e + e' == e' + e) := by
  have z : (e + e' == e' + e) = true := by rw [beq_iff_eq]; omega
  rw [z, Bool.and_true, Bool.eq_iff_iff, tabEq_iff (Tab.addT hp ha') (Tab.addT hp hb'), tabEq_iff (lad_ok hp ha hb).1 (lad_ok hp hb ha).1]
  have l1 := (lad_ok (m := e) (c := 1) hp ha hb).2.1
  have l2 := (lad_ok (m := e') (c := 1) hp hb ha).2.1
  have m1 : ∀ k, lv (Lamp.addT p a' b' e 1) k = lv (lad p a b e 1) k := fun k => by
    rw [addT_lv hp ha' hb'.nd, l1, lv_perm ha'.nd pa, lv_perm hb'.nd pb]
  have m2 : ∀ k, lv (Lamp.addT p b' a' e' 1) k = lv (lad p b a e' 1) k := fun k => by
    rw [addT_lv hp hb' ha'.nd, l2, lv_perm ha'.nd pa, lv_perm hb'.nd pb]
  simp only [m1, m2]
structure Md (p : Int) (t : List (Int × Int)) (e : Int) : Prop where
  tab : Tab p t
  len : t.length ≤ 100
  keys : ∀ k ∈ keysOf t, -2000 ≤ k ∧ k ≤ 2000
  e0 : -10000000000000000000000000000 ≤ e
  e1 : e ≤ 10000000000000000000000000000
theorem Sm.md {i p e : Int} {t : List (Int × Int)} (h : Sm i p t e) (l : i ≤ 10) : Md p t e := ⟨h.tab, by have := h.len; omega, fun k m => by have := h.keys k m; omega, by have := h.e0; omega, by have := h.e1; omega⟩
theorem drawn_next {k i : Nat} {p : Int} {st : List D} {d : D} (hi : i < st.length) (hp : 2 ≤ p) (h7 : p ≤ 7) (w : Well (k + 10) d) : ∃ t e d', fn_law_drawn [.cel i, .int p, .int 4, .int 3, .int 4] (st.set i d) = some (.ret (.sh (prD t e)) (st.set i d')) ∧ Sm 1 p t e ∧ Well k d' := by
  obtain ⟨n, d1, q1, n0, n1, w1⟩ := draw_next (k := k + 9) (n := 5) hi w (by decide) (by decide)
  obtain ⟨m, rfl⟩ : ∃ m : Nat, n = m := ⟨n.toNat, by omega⟩
  have loop := forL_inv (gm := gNm 6) (b := b1_law_drawn) (fun ds q => ∃ (t : List (Int × Int)) (j : Option D) (d : D), t.length + ds.length ≤ 4 ∧ Tab p t ∧ (∀ k ∈ keysOf t, -4 ≤ k ∧ k ≤ 4) ∧ (∀ y ∈ ds, ∃ z, y = D.int z) ∧ Well (k + 1 + 2 * ds.length) d ∧ q = ⟨[.sh (.cel i), .sh (.int p), .sh (.int 4), .sh (.int 3), .sh (.int 4), .ow (.dic (tabD t)), jk j], st.set i d⟩) (by
      rintro y ds q ⟨t, j, d, hl, ht, hk, hd, w, rfl⟩
      obtain ⟨z, rfl⟩ := hd y List.mem_cons_self
      simp only [List.length_cons] at hl w
      obtain ⟨v, d2, q2, v0, v1, w2⟩ := draw_next (k := k + 1 + 2 * ds.length + 1) (n := p - 1) hi (w.le (by omega)) (by omega) (by omega)
      obtain ⟨x, d3, q3, x0, x1, w3⟩ := draw_next (k := k + 1 + 2 * ds.length) (n := 9) hi w2 (by decide) (by decide)
      have tl : t.length < sizeLine := sz_lt (by omega)
      have sd := setD_tab (x - 4) (1 + v) tl
      have m1 : mulOk 2 4 = true := mul_ok (by unfold Fin1; omega) (by unfold Fin1; omega)
      have ln := len_tput t (x - 4) (1 + v)
      refine ⟨⟨[.sh (.cel i), .sh (.int p), .sh (.int 4), .sh (.int 3), .sh (.int 4), .ow (.dic (tabD t)), .sh (.int z)], st.set i d⟩, _, ?_, .inl ?_, tput t (x - 4) (1 + v), some (.int z), d3, by omega, ⟨nodup_tput _ _ ht.nd, fun ab hm => ?_⟩, fun k' hm => ?_, fun y h => hd y (List.mem_cons_of_mem _ h), w3, rfl⟩
      · simp [gNm, openAt_eq]
      · simp [b1_law_drawn, q2, q3, m1, sd, sSeq, sFor, srcA, srcE, mLc, seqOf, ownOk, wipeE, restE, Slot.owned, dTuple_lst, dTuple_tup, mDic0, sIf, sAsg, sRet, sRetN, sExpr, sNil, bindE, bindS, eBor, eC, eVar, fz, know, mOp, mUn, op2, op1, get, get0, Slot.rd, ret, asB, mPrim, bindA, args, opN, gets, gNm, gTp, gAll, gSubM, setAt, openAt_eq, enter, leave, runFn, mCall, callF, shs, backF, dIx, ixS, cGt, cGe, cLtI, cLe, Mi.b2, dAdd, addS, addL, addT, dMulI, dSub, Mi.i2, dMod, dDiv, sz_le, sz_lt, setD_lst, dInt_i, dInt_b, ixN, mIf, mAnd, mOr, mNot, mTru, tru, isiT, tyD, inK, eqF, D.scal, dLen_lst, dLen_tup, dLen_scr, dLen_str, dNeg, isP, isNon, mChain, mTup, mLst, mProp, mMth, noX, mCallK, permL, mCell, sSelfC, sSelf, sPar, sAug, dAbs, mMut, tyName, mMeth, isTy, opM, uApp, uExt, mSl, mPart, asPart, isFr, dMax, dMin, dMinA, srcA, enumA, enum1]
      · rcases mem_tput hm with hm | rfl
        · exact ht.lev ab hm
        · exact ⟨by simp only; omega, by simp only; omega⟩
      · rw [keys_tput] at hm
        split at hm
        · exact hk k' hm
        · rcases List.mem_append.mp hm with hm | hm
          · exact hk k' hm
          · rw [List.mem_singleton.mp hm]
            omega)
    (rangeL 0 (m : Int)) ⟨[.sh (.cel i), .sh (.int p), .sh (.int 4), .sh (.int 3), .sh (.int 4), .ow (.dic (tabD [])), .no], st.set i d1⟩ ⟨[], none, d1, by rw [rangeL_map]; simp; omega, ⟨List.nodup_nil, fun _ m => by cases m⟩, (fun _ m => by cases m), (by
      intro y hy
      rw [rangeL_map] at hy
      obtain ⟨a, _, rfl⟩ := List.mem_map.mp hy
      exact ⟨_, rfl⟩), w1.le (by rw [rangeL_map]; simp; omega), rfl⟩
  obtain ⟨q, q4, t, j, d2, hl, ht, hk, _, w2, rfl⟩ := loop
  obtain ⟨x, d3, q5, x0, x1, w3⟩ := draw_next (k := k) (n := 7) hi (w2.le (by omega)) (by decide) (by decide)
  have r1 := rng1_ok (j := (m : Int)) (by omega) (by omega)
  have m1 : mulOk 2 3 = true := mul_ok (by unfold Fin1; omega) (by unfold Fin1; omega)
  have n00 : tabD [] = [] := rfl
  rw [n00] at q4
  refine ⟨t, x - 3, d3, ?_, ⟨ht, by omega, fun k m => by have := hk k m; omega, by omega, by omega⟩, w3⟩
  unfold prD
  simp [fn_law_drawn, m_law_drawn, q1, r1, q4, q5, m1, sSeq, sFor, srcA, srcE, mLc, seqOf, ownOk, wipeE, restE, Slot.owned, dTuple_lst, dTuple_tup, mDic0, sIf, sAsg, sRet, sRetN, sExpr, sNil, bindE, bindS, eBor, eC, eVar, fz, know, mOp, mUn, op2, op1, get, get0, Slot.rd, ret, asB, mPrim, bindA, args, opN, gets, gNm, gTp, gAll, gSubM, setAt, openAt_eq, enter, leave, runFn, mCall, callF, shs, backF, dIx, ixS, cGt, cGe, cLtI, cLe, Mi.b2, dAdd, addS, addL, addT, dMulI, dSub, Mi.i2, dMod, dDiv, sz_le, sz_lt, setD_lst, dInt_i, dInt_b, ixN, mIf, mAnd, mOr, mNot, mTru, tru, isiT, tyD, inK, eqF, D.scal, dLen_lst, dLen_tup, dLen_scr, dLen_str, dNeg, isP, isNon, mChain, mTup, mLst, mProp, mMth, noX, mCallK, permL, mCell, sSelfC, sSelf, sPar, sAug, dAbs, mMut, tyName, mMeth, isTy, opM, uApp, uExt, mSl, mPart, asPart, isFr, dMax, dMin, dMinA, srcA, enumA, enum1]
end Mi

/-! ## Plain: family B's texts and pairs -/
namespace Mi
open PySem PySem.Spec PyProof.Rows L2 Lamp SlX Gd TL
theorem eqPicNil (ls : List (Int × Int)) : eqP false (.tup (ofTab ls)) (.tup []) = some (.sh (.bl (decide (ls = [])))) := eqPic ls []
theorem ltext_i {p e : Int} {t : List (Int × Int)} (nd : (keysOf t).Nodup) (hl : t.length ≤ 400) (h : RndOk p (sortT t) e) (st : List D) : fn_law_text [.int p, prD t e] st = some (.ret (.sh (.str (textT p (sortT t) e))) st) := by
  have lm := llamps_i nd (by omega) st
  generalize sortT t = ls at *
  have fp := strI h.lev.fin
  have fe := strI h.fe
  have lp := iS_len h.lev.fin
  have le := iS_len h.fe
  have tl := text_len h
  have gl := textT_glued p ls e
  have big := sz_lt (n := 1000000) (by omega)
  have ap : ∀ a b : Str, (a ++ b).length = a.length + b.length := fun a b => by
    rw [len_tl, len_tl, len_tl, tl_append]
    simp
  have l1 : ("levels " : Str).length = 7 := by decide +kernel
  have l2 : (" end " : Str).length = 5 := by decide +kernel
  have l3 : (" " : Str).length = 1 := by decide +kernel
  have l4 : (" dark" : Str).length = 5 := by decide +kernel
  have l5 : (" lamps " : Str).length = 7 := by decide +kernel
  have d1 : (" dark" : Str) = space ++ ("dark" : Str) := by decide +kernel
  have d2 : (" lamps " : Str) = space ++ ("lamps " : Str) := by decide +kernel
  unfold prD
  by_cases c : ls = []
  · subst c
    rw [if_pos rfl] at gl
    have g2 : (Str.ofString "levels ") ++ iS p ++ (Str.ofString " end ") ++ iS e ++ (Str.ofString " dark") = textT p [] e := by
      rw [← gl]
      show ("levels " : Str) ++ iS p ++ (" end " : Str) ++ iS e ++ (" dark" : Str) = _
      rw [d1]
      simp only [app_assoc]
    have i1 : 7 + (iS p).length ≤ sizeLine := by omega
    have i2 : 7 + (iS p).length + 5 ≤ sizeLine := by omega
    have i3 : 7 + (iS p).length + 5 + (iS e).length ≤ sizeLine := by omega
    have i4 : 7 + (iS p).length + 5 + (iS e).length + 5 ≤ sizeLine := by omega
    have q0 := eqPicNil []
    rw [show ofTab [] = [] from rfl] at lm q0
    simp [fn_law_text, m_law_text, fp, fe, ap, l1, l2, l3, l4, i1, i2, i3, i4, g2, lm, q0, sSeq, sFor, srcA, srcE, mLc, seqOf, ownOk, wipeE, restE, Slot.owned, dTuple_lst, dTuple_tup, mDic0, sIf, sAsg, sRet, sRetN, sExpr, sNil, bindE, bindS, eBor, eC, eVar, fz, know, mOp, mUn, op2, op1, get, get0, Slot.rd, ret, asB, mPrim, bindA, args, opN, gets, gNm, gTp, gAll, gSubM, setAt, openAt_eq, enter, leave, runFn, mCall, callF, shs, backF, dIx, ixS, cGt, cGe, cLtI, cLe, Mi.b2, dAdd, addS, addL, addT, dMulI, dSub, Mi.i2, dMod, dDiv, sz_le, sz_lt, setD_lst, dInt_i, dInt_b, ixN, mIf, mAnd, mOr, mNot, mTru, tru, isiT, tyD, inK, eqF, D.scal, dLen_lst, dLen_tup, dLen_scr, dLen_str, dNeg, isP, isNon, mChain, mTup, mLst, mProp, mMth, noX, mCallK, permL, mCell, sSelfC, sSelf, sPar, sAug, dAbs, mMut, tyName, mMeth, isTy, opM, uApp, uExt, mSl, mPart, asPart, isFr, dMax, dMin, dMinA, srcA, enumA, enum1]
  · rw [if_neg c] at gl
    have g2 : (Str.ofString "levels ") ++ iS p ++ (Str.ofString " end ") ++ iS e ++ (Str.ofString " lamps ") ++ Txt.join (Str.ofString " ") (ls.map lampW) = textT p ls e := by
      rw [← gl]
      show ("levels " : Str) ++ iS p ++ (" end " : Str) ++ iS e ++ (" lamps " : Str) ++ Txt.join space (ls.map lampW) = _
      rw [d2]
      simp only [app_assoc]
    have gL : (textT p ls e).length = 7 + (iS p).length + 5 + (iS e).length + 7 + (Txt.join (Str.ofString " ") (ls.map lampW)).length := by
      rw [← g2, ap, ap, ap, ap, ap, l1, l2, l5]
    have lw : ∀ ab ∈ ls, (iS ab.1).length + 1 + (iS ab.2).length ≤ 403 := fun ab m => by
      have a := iS_len (h.fin2 ab m).1
      have b := iS_len (h.fin2 ab m).2
      omega
    have lc : ∀ (a b c d : Slot), lcL (gTp [(gNm 4), (gNm 5)]) (eC (.bl true)) e1_law_text [4, 5] (ls.map lampT) [] ⟨[a, b, c, d, .no, .no], st⟩ = some (ls.map fun ab => .str (lampW ab), ⟨[a, b, c, d, .no, .no], st⟩) := fun a b c d => by
      refine lcL_all lampT (fun ab => .str (lampW ab)) ls (fun ab hab => ?_) (sz_le (by have := h.few; omega))
      have f1 := strI (h.fin2 ab hab).1
      have f2 := strI (h.fin2 ab hab).2
      have := lw ab hab
      have i1 : (iS ab.1).length + 1 ≤ sizeLine := by omega
      have i2 : (iS ab.1).length + 1 + (iS ab.2).length ≤ sizeLine := by omega
      have l6 : (":" : Str).length = 1 := by decide +kernel
      have e : lampW ab = iS ab.1 ++ ":" ++ iS ab.2 := rfl
      simp [lcTurn, e1_law_text, lampT, f1, f2, ap, i1, i2, l6, e, sSeq, sFor, srcA, srcE, mLc, seqOf, ownOk, wipeE, restE, Slot.owned, dTuple_lst, dTuple_tup, mDic0, sIf, sAsg, sRet, sRetN, sExpr, sNil, bindE, bindS, eBor, eC, eVar, fz, know, mOp, mUn, op2, op1, get, get0, Slot.rd, ret, asB, mPrim, bindA, args, opN, gets, gNm, gTp, gAll, gSubM, setAt, openAt_eq, enter, leave, runFn, mCall, callF, shs, backF, dIx, ixS, cGt, cGe, cLtI, cLe, Mi.b2, dAdd, addS, addL, addT, dMulI, dSub, Mi.i2, dMod, dDiv, sz_le, sz_lt, setD_lst, dInt_i, dInt_b, ixN, mIf, mAnd, mOr, mNot, mTru, tru, isiT, tyD, inK, eqF, D.scal, dLen_lst, dLen_tup, dLen_scr, dLen_str, dNeg, isP, isNon, mChain, mTup, mLst, mProp, mMth, noX, mCallK, permL, mCell, sSelfC, sSelf, sPar, sAug, dAbs, mMut, tyName, mMeth, isTy, opM, uApp, uExt, mSl, mPart, asPart, isFr, dMax, dMin, dMinA, srcA, enumA, enum1]
    have hj : mJoin (.str " ") [.lst (ls.map fun ab => .str (lampW ab))] = some (.sh (.str (Txt.join " " (ls.map lampW)))) := by
      have e : (ls.map fun ab => D.str (lampW ab)) = (ls.map lampW).map D.str := by rw [List.map_map]; rfl
      have s1 : ((ls.map lampW).map (·.length)).sum ≤ ls.length * 403 := by
        have gen : ∀ r : List (Int × Int), (∀ ab ∈ r, (lampW ab).length ≤ 403) → ((r.map lampW).map (·.length)).sum ≤ r.length * 403 := by
          intro r
          induction r with
          | nil => intro _; simp
          | cons a r ih =>
            intro hr
            have h1 := hr a List.mem_cons_self
            have h2 := ih fun b m => hr b (List.mem_cons_of_mem _ m)
            simp only [List.map_cons, List.sum_cons, List.length_cons]
            omega
        refine gen ls fun ab m => ?_
        have := lw ab m
        have e : lampW ab = iS ab.1 ++ ":" ++ iS ab.2 := rfl
        rw [e, ap, ap, show (Str.length ":") = 1 from by decide +kernel]
        exact this
      rw [e]
      unfold mJoin
      simp only [asStrs_map]
      have hf := h.few
      rw [if_pos (by rw [l3, List.length_map]; omega)]
    have i1 : 7 + (iS p).length ≤ sizeLine := by omega
    have i2 : 7 + (iS p).length + 5 ≤ sizeLine := by omega
    have i3 : 7 + (iS p).length + 5 + (iS e).length ≤ sizeLine := by omega
    have i4 : 7 + (iS p).length + 5 + (iS e).length + 7 ≤ sizeLine := by omega
    have i5 : 7 + (iS p).length + 5 + (iS e).length + 7 + (Txt.join (Str.ofString " ") (ls.map lampW)).length ≤ sizeLine := by omega
    have nz : eqP false (.tup (ls.map lampT)) (.tup []) = some (.sh (.bl false)) := by
      have := eqPicNil ls
      rw [ofTab_map] at this
      simpa [c] using this
    rw [ofTab_map] at lm
    simp [fn_law_text, m_law_text, fp, fe, ap, l1, l2, l3, l5, i1, i2, i3, i4, i5, g2, nz, lc, hj, lm, sSeq, sFor, srcA, srcE, mLc, seqOf, ownOk, wipeE, restE, Slot.owned, dTuple_lst, dTuple_tup, mDic0, sIf, sAsg, sRet, sRetN, sExpr, sNil, bindE, bindS, eBor, eC, eVar, fz, know, mOp, mUn, op2, op1, get, get0, Slot.rd, ret, asB, mPrim, bindA, args, opN, gets, gNm, gTp, gAll, gSubM, setAt, openAt_eq, enter, leave, runFn, mCall, callF, shs, backF, dIx, ixS, cGt, cGe, cLtI, cLe, Mi.b2, dAdd, addS, addL, addT, dMulI, dSub, Mi.i2, dMod, dDiv, sz_le, sz_lt, setD_lst, dInt_i, dInt_b, ixN, mIf, mAnd, mOr, mNot, mTru, tru, isiT, tyD, inK, eqF, D.scal, dLen_lst, dLen_tup, dLen_scr, dLen_str, dNeg, isP, isNon, mChain, mTup, mLst, mProp, mMth, noX, mCallK, permL, mCell, sSelfC, sSelf, sPar, sAug, dAbs, mMut, tyName, mMeth, isTy, opM, uApp, uExt, mSl, mPart, asPart, isFr, dMax, dMin, dMinA, srcA, enumA, enum1]
theorem pair_next {k i : Nat} {p : Int} {st : List D} {d : D} (hi : i < st.length) (hp : 2 ≤ p) (h7 : p ≤ 7) (w : Well (k + 40) d) : ∃ t e t' e' d', fn_law_pair [.cel i, .int p] (st.set i d) = some (.ret (.sh (.tup [prD t e, prD t' e'])) (st.set i d')) ∧ Md p t e ∧ Md p t' e' ∧ Well k d' := by
  obtain ⟨t, e, d1, q1, s1, w1⟩ := drawn_next (k := k + 30) hi hp h7 w
  obtain ⟨t', e', d2, q2, s2, w2⟩ := drawn_next (k := k + 20) hi hp h7 w1
  obtain ⟨y, d3, q3, y0, y1, w3⟩ := draw_next (k := k + 19) (n := 4) hi w2 (by decide) (by decide)
  have nil : Tab p [] := ⟨List.nodup_nil, fun _ m => by cases m⟩
  have n00 : tabD [] = [] := rfl
  by_cases c0 : y = 0
  · subst c0
    obtain ⟨a, d4, q4, a0, a1, w4⟩ := draw_next (k := k + 18) (n := 4) hi w3 (by decide) (by decide)
    obtain ⟨b, d5, q5, b0, b1, w5⟩ := draw_next (k := k + 17) (n := 7) hi w4 (by decide) (by decide)
    obtain ⟨u, f, q6, s6⟩ := times_i (n := a) (by omega) h7 s1 (by omega) (by omega) (st.set i d4)
    obtain ⟨u', f', q7, s7⟩ := times_i (n := b - 3) (by omega) h7 s1 (by omega) (by omega) (st.set i d5)
    refine ⟨u, f, u', f', d5, ?_, s6.md (by omega), s7.md (by omega), w5.le (by omega)⟩
    unfold prD at *
    simp [fn_law_pair, m_law_pair, q1, q2, q3, q4, q5, q6, q7, sSeq, sFor, srcA, srcE, mLc, seqOf, ownOk, wipeE, restE, Slot.owned, dTuple_lst, dTuple_tup, mDic0, sIf, sAsg, sRet, sRetN, sExpr, sNil, bindE, bindS, eBor, eC, eVar, fz, know, mOp, mUn, op2, op1, get, get0, Slot.rd, ret, asB, mPrim, bindA, args, opN, gets, gNm, gTp, gAll, gSubM, setAt, openAt_eq, enter, leave, runFn, mCall, callF, shs, backF, dIx, ixS, cGt, cGe, cLtI, cLe, Mi.b2, dAdd, addS, addL, addT, dMulI, dSub, Mi.i2, dMod, dDiv, sz_le, sz_lt, setD_lst, dInt_i, dInt_b, ixN, mIf, mAnd, mOr, mNot, mTru, tru, isiT, tyD, inK, eqF, D.scal, dLen_lst, dLen_tup, dLen_scr, dLen_str, dNeg, isP, isNon, mChain, mTup, mLst, mProp, mMth, noX, mCallK, permL, mCell, sSelfC, sSelf, sPar, sAug, dAbs, mMut, tyName, mMeth, isTy, opM, uApp, uExt, mSl, mPart, asPart, isFr, dMax, dMin, dMinA, srcA, enumA, enum1]
  · by_cases c1 : y = 1
    · subst c1
      have m1 := s1.md (by omega)
      have m2 := s2.md (by omega)
      refine ⟨t, 0, t', 0, d3, ?_, ⟨m1.tab, m1.len, m1.keys, by omega, by omega⟩, ⟨m2.tab, m2.len, m2.keys, by omega, by omega⟩, w3.le (by omega)⟩
      unfold prD at *
      simp [fn_law_pair, m_law_pair, q1, q2, q3, sSeq, sFor, srcA, srcE, mLc, seqOf, ownOk, wipeE, restE, Slot.owned, dTuple_lst, dTuple_tup, mDic0, sIf, sAsg, sRet, sRetN, sExpr, sNil, bindE, bindS, eBor, eC, eVar, fz, know, mOp, mUn, op2, op1, get, get0, Slot.rd, ret, asB, mPrim, bindA, args, opN, gets, gNm, gTp, gAll, gSubM, setAt, openAt_eq, enter, leave, runFn, mCall, callF, shs, backF, dIx, ixS, cGt, cGe, cLtI, cLe, Mi.b2, dAdd, addS, addL, addT, dMulI, dSub, Mi.i2, dMod, dDiv, sz_le, sz_lt, setD_lst, dInt_i, dInt_b, ixN, mIf, mAnd, mOr, mNot, mTru, tru, isiT, tyD, inK, eqF, D.scal, dLen_lst, dLen_tup, dLen_scr, dLen_str, dNeg, isP, isNon, mChain, mTup, mLst, mProp, mMth, noX, mCallK, permL, mCell, sSelfC, sSelf, sPar, sAug, dAbs, mMut, tyName, mMeth, isTy, opM, uApp, uExt, mSl, mPart, asPart, isFr, dMax, dMin, dMinA, srcA, enumA, enum1]
    · by_cases c2 : y = 2
      · subst c2
        obtain ⟨g, d4, q4, g0, g1, w4⟩ := great_next (k := k + 9) hi w3
        have m2 := s2.md (by omega)
        refine ⟨[], g, [], e', d4, ?_, ⟨nil, by simp, (fun _ m => by cases m), by omega, by omega⟩, ⟨nil, by simp, (fun _ m => by cases m), m2.e0, m2.e1⟩, w4.le (by omega)⟩
        unfold prD at *
        rw [n00]
        simp [fn_law_pair, m_law_pair, q1, q2, q3, q4, sSeq, sFor, srcA, srcE, mLc, seqOf, ownOk, wipeE, restE, Slot.owned, dTuple_lst, dTuple_tup, mDic0, sIf, sAsg, sRet, sRetN, sExpr, sNil, bindE, bindS, eBor, eC, eVar, fz, know, mOp, mUn, op2, op1, get, get0, Slot.rd, ret, asB, mPrim, bindA, args, opN, gets, gNm, gTp, gAll, gSubM, setAt, openAt_eq, enter, leave, runFn, mCall, callF, shs, backF, dIx, ixS, cGt, cGe, cLtI, cLe, Mi.b2, dAdd, addS, addL, addT, dMulI, dSub, Mi.i2, dMod, dDiv, sz_le, sz_lt, setD_lst, dInt_i, dInt_b, ixN, mIf, mAnd, mOr, mNot, mTru, tru, isiT, tyD, inK, eqF, D.scal, dLen_lst, dLen_tup, dLen_scr, dLen_str, dNeg, isP, isNon, mChain, mTup, mLst, mProp, mMth, noX, mCallK, permL, mCell, sSelfC, sSelf, sPar, sAug, dAbs, mMut, tyName, mMeth, isTy, opM, uApp, uExt, mSl, mPart, asPart, isFr, dMax, dMin, dMinA, srcA, enumA, enum1]
      · refine ⟨t, e, t', e', d3, ?_, s1.md (by omega), s2.md (by omega), w3.le (by omega)⟩
        unfold prD at *
        simp [fn_law_pair, m_law_pair, q1, q2, q3, c0, c1, c2, sSeq, sFor, srcA, srcE, mLc, seqOf, ownOk, wipeE, restE, Slot.owned, dTuple_lst, dTuple_tup, mDic0, sIf, sAsg, sRet, sRetN, sExpr, sNil, bindE, bindS, eBor, eC, eVar, fz, know, mOp, mUn, op2, op1, get, get0, Slot.rd, ret, asB, mPrim, bindA, args, opN, gets, gNm, gTp, gAll, gSubM, setAt, openAt_eq, enter, leave, runFn, mCall, callF, shs, backF, dIx, ixS, cGt, cGe, cLtI, cLe, Mi.b2, dAdd, addS, addL, addT, dMulI, dSub, Mi.i2, dMod, dDiv, sz_le, sz_lt, setD_lst, dInt_i, dInt_b, ixN, mIf, mAnd, mOr, mNot, mTru, tru, isiT, tyD, inK, eqF, D.scal, dLen_lst, dLen_tup, dLen_scr, dLen_str, dNeg, isP, isNon, mChain, mTup, mLst, mProp, mMth, noX, mCallK, permL, mCell, sSelfC, sSelf, sPar, sAug, dAbs, mMut, tyName, mMeth, isTy, opM, uApp, uExt, mSl, mPart, asPart, isFr, dMax, dMin, dMinA, srcA, enumA, enum1]
end Mi

/-! ## Plain: k21 -/
namespace Mi
open PySem PySem.Spec PyProof.Rows L2 Lamp SlX Gd TL
theorem repr_two (x : Bool) : ∃ s, dRepr [.lst [.bl x, .bl x]] = some (.sh (.str s)) := by
  have h : toPy (.lst [.bl x, .bl x]) = some (.list [.bool x, .bool x]) := rfl
  have r : Rp (.list [.bool x, .bool x]) := by
    cases x
    · refine Rp.of (by decide +kernel) rfl (show (1 : Nat) ≤ 40 by decide) (by decide +kernel) ?_
      simp only [PyData.bulk, PyData.bulkAll]
      omega
    · refine Rp.of (by decide +kernel) rfl (show (1 : Nat) ≤ 40 by decide) (by decide +kernel) ?_
      simp only [PyData.bulk, PyData.bulkAll]
      omega
  refine ⟨(PyData.list [.bool x, .bool x]).shown, ?_⟩
  unfold dRepr
  simp only [h]
  rw [if_pos]
  unfold reprOk
  simp [r.sh, r.nd, r.dp, r.ln]
theorem Md.rnd {p e : Int} {t : List (Int × Int)} (h : Md p t e) (hp : Lev p) : RndOk p (sortT t) e := by
  refine ⟨hp, tab_sorted h.tab, by rw [(sortT_perm t).length_eq]; have := h.len; omega, fun ab m => ?_, ?_⟩
  · have := h.keys ab.1 (List.mem_map.mpr ⟨ab, (sortT_perm t).mem_iff.mp m, rfl⟩)
    unfold Fin1
    omega
  · have := h.e0
    have := h.e1
    unfold Fin1
    omega
theorem turn_i {k i : Nat} {st : List D} {d : D} {s1 s2 s3 s4 s5 s6 s7 : Slot} (hi : i < st.length) (w : Well (k + 50) d) (o2 : opn s2 = true) (o3 : opn s3 = true) (o4 : opn s4 = true) (o5 : opn s5 = true) (o6 : opn s6 = true) (o7 : opn s7 = true) :
    ∃ t2 t3 t4 t5 t6 t7 d', b1_law_right ⟨[.sh (.cel i), s1, s2, s3, s4, s5, s6, s7], st.set i d⟩ = some (.next ⟨[.sh (.cel i), s1, t2, t3, t4, t5, t6, t7], st.set i d'⟩) ∧ opn t2 = true ∧ opn t3 = true ∧ opn t4 = true ∧ opn t5 = true ∧ opn t6 = true ∧ opn t7 = true ∧ Well k d' := by
  obtain ⟨v, d1, q1, mv, w1⟩ := pick_next (k := k + 49) (ds := [.int 2, .int 3, .int 5, .int 7]) hi w (by simp) (by decide)
  obtain ⟨p, rfl, hp⟩ : ∃ p, v = .int p ∧ Lev p := by
    rcases List.mem_cons.mp mv with rfl | mv
    · exact ⟨_, rfl, ⟨by omega⟩⟩
    rcases List.mem_cons.mp mv with rfl | mv
    · exact ⟨_, rfl, ⟨by omega⟩⟩
    rcases List.mem_cons.mp mv with rfl | mv
    · exact ⟨_, rfl, ⟨by omega⟩⟩
    rw [List.mem_singleton.mp mv]
    exact ⟨_, rfl, ⟨by omega⟩⟩
  have pp := hp.pos
  obtain ⟨t, e, t', e', d2, q2, m1, m2, w2⟩ := pair_next (k := k + 9) hi pp.1 pp.2 w1
  have z1 := m1.len
  have z2 := m2.len
  generalize hS : st.set i d2 = S at q2
  have b1 := behind_eq (e := e) (e' := e') (p := p) (by omega) pp.2 m1.tab m2.tab (by omega) S
  have b2 := behind_eq (e := e') (e' := e) (p := p) (by omega) pp.2 m2.tab m1.tab (by omega) S
  have A := eqA_pr (x := e + e') (y := e' + e) (u := lad p t' t e' 1) (lad_ok (m := e) (c := 1) (p := p) (by omega) m1.tab m2.tab).1
  have r1 := m1.rnd hp
  have r2 := m2.rnd hp
  have tx := ltext_i m1.tab.nd (by omega) r1 S
  have rd := read_i r1 S
  have lm := llamps_i m2.tab.nd (by omega) S
  have ini := init_i (e := e') hp r2.good r2.few S
  have lq : (sortT t).length + (sortT t').length ≤ 1000 := by
    rw [(sortT_perm t).length_eq, (sortT_perm t').length_eq]
    omega
  have cm := commute_i (e := e) (e' := e') hp r1.good r2.good lq S
  rw [due_is (p := p) (by omega) m1.tab m2.tab (sortT_perm t) (sortT_perm t') r1.good.tab r2.good.tab] at cm
  generalize (tabEq (lad p t t' e 1) (lad p t' t e' 1) && e + e' == e' + e) = x at A cm
  obtain ⟨s, hs⟩ := repr_two x
  have es : eqP true (.str s) (.str s) = some (.sh (.bl false)) := by
    show eqS0 true (.str s) (.str s) = _
    simp [eqS0]
  refine ⟨.sh (.int p), .sh (prD t e), .sh (prD t' e'), .sh (.bl x), .sh (rndD p (sortT t) e), .sh (rndD p (sortT t') e'), d2, ?_, rfl, rfl, rfl, rfl, rfl, rfl, w2.le (by omega)⟩
  rw [hS]
  have gt : dIx (prD t' e') (.int 0) = some (.sh (.dic (tabD t'))) := rfl
  have ge : dIx (prD t' e') (.int 1) = some (.sh (.int e')) := rfl
  unfold prD at *
  simp [b1_law_right, q1, q2, b1, b2, A, tx, rd, lm, ini, cm, hs, es, o2, o3, o4, o5, o6, o7, sSeq, sFor, srcA, srcE, mLc, seqOf, ownOk, wipeE, restE, Slot.owned, dTuple_lst, dTuple_tup, mDic0, sIf, sAsg, sRet, sRetN, sExpr, sNil, bindE, bindS, eBor, eC, eVar, fz, know, mOp, mUn, op2, op1, get, get0, Slot.rd, ret, asB, mPrim, bindA, args, opN, gets, gNm, gTp, gAll, gSubM, setAt, openAt_eq, enter, leave, runFn, mCall, callF, shs, backF, dIx, ixS, cGt, cGe, cLtI, cLe, Mi.b2, dAdd, addS, addL, addT, dMulI, dSub, Mi.i2, dMod, dDiv, sz_le, sz_lt, setD_lst, dInt_i, dInt_b, ixN, mIf, mAnd, mOr, mNot, mTru, tru, isiT, tyD, inK, eqF, D.scal, dLen_lst, dLen_tup, dLen_scr, dLen_str, dNeg, isP, isNon, mChain, mTup, mLst, mProp, mMth, noX, mCallK, permL, mCell, sSelfC, sSelf, sPar, sAug, dAbs, mMut, tyName, mMeth, isTy, opM, uApp, uExt, mSl, mPart, asPart, isFr, dMax, dMin, dMinA, srcA, enumA, enum1]
theorem right_i (st : List D) (i : Nat) (d : D) (hi : i < st.length) (w : Well 1000 d) : ∃ d', fn_law_right [.cel i] (st.set i d) = some (.ret (.sh (.bl true)) (st.set i d')) := by
  have loop := forL_inv (gm := gNm 1) (b := b1_law_right) (fun ds q => ∃ s1 s2 s3 s4 s5 s6 s7 d, (∀ y ∈ ds, ∃ z, y = D.int z) ∧ opn s1 = true ∧ opn s2 = true ∧ opn s3 = true ∧ opn s4 = true ∧ opn s5 = true ∧ opn s6 = true ∧ opn s7 = true ∧ Well (50 * ds.length) d ∧ q = ⟨[.sh (.cel i), s1, s2, s3, s4, s5, s6, s7], st.set i d⟩) (by
      rintro y ds q ⟨s1, s2, s3, s4, s5, s6, s7, d, hd, o1, o2, o3, o4, o5, o6, o7, w, rfl⟩
      obtain ⟨z, rfl⟩ := hd y List.mem_cons_self
      simp only [List.length_cons] at w
      obtain ⟨t2, t3, t4, t5, t6, t7, d', e, p2, p3, p4, p5, p6, p7, w'⟩ := turn_i (k := 50 * ds.length) (s1 := .sh (.int z)) hi (w.le (by omega)) o2 o3 o4 o5 o6 o7
      refine ⟨⟨[.sh (.cel i), .sh (.int z), s2, s3, s4, s5, s6, s7], st.set i d⟩, _, ?_, .inl e, .sh (.int z), t2, t3, t4, t5, t6, t7, d', fun y h => hd y (List.mem_cons_of_mem _ h), rfl, p2, p3, p4, p5, p6, p7, w', rfl⟩
      simp [gNm, openAt_eq, o1])
    (rangeL 0 12) ⟨[.sh (.cel i), .no, .no, .no, .no, .no, .no, .no], st.set i d⟩ ⟨_, _, _, _, _, _, _, d, (by
      intro y m
      unfold rangeL at m
      obtain ⟨k, hk, rfl⟩ := List.mem_map.mp m
      exact ⟨_, rfl⟩), rfl, rfl, rfl, rfl, rfl, rfl, rfl, w.le (by simp [rangeL]), rfl⟩
  obtain ⟨q, e, s1, s2, s3, s4, s5, s6, s7, d', _, _, _, _, _, _, _, _, _, rfl⟩ := loop
  have r12 := rng1_ok (j := 12) (by decide) (by decide)
  refine ⟨d', ?_⟩
  simp [fn_law_right, m_law_right, r12, e, sSeq, sFor, srcA, srcE, mLc, seqOf, ownOk, wipeE, restE, Slot.owned, dTuple_lst, dTuple_tup, mDic0, sIf, sAsg, sRet, sRetN, sExpr, sNil, bindE, bindS, eBor, eC, eVar, fz, know, mOp, mUn, op2, op1, get, get0, Slot.rd, ret, asB, mPrim, bindA, args, opN, gets, gNm, gTp, gAll, gSubM, setAt, openAt_eq, enter, leave, runFn, mCall, callF, shs, backF, dIx, ixS, cGt, cGe, cLtI, cLe, Mi.b2, dAdd, addS, addL, addT, dMulI, dSub, Mi.i2, dMod, dDiv, sz_le, sz_lt, setD_lst, dInt_i, dInt_b, ixN, mIf, mAnd, mOr, mNot, mTru, tru, isiT, tyD, inK, eqF, D.scal, dLen_lst, dLen_tup, dLen_scr, dLen_str, dNeg, isP, isNon, mChain, mTup, mLst, mProp, mMth, noX, mCallK, permL, mCell, sSelfC, sSelf, sPar, sAug, dAbs, mMut, tyName, mMeth, isTy, opM, uApp, uExt, mSl, mPart, asPart, isFr, dMax, dMin, dMinA, srcA, enumA, enum1]
theorem plain (ns : List Int) (h : ns.length ≤ 63) (hb : ∀ z ∈ ns, PySem.Builtin.Int.intBits z ≤ 1048576) : ∃ st, fn_law [.scr ns] [] = some (.ret (.sh (.bl true)) st) := lawB_i 1000 (by decide) right_i ns h hb
end Mi

namespace Mi
open PySem PySem.Spec PyProof.Rows L2 Lamp SlX Gd
theorem withTx {K : PySem.W.Frag} {mg : Str → Option Value} {fa : Addr} {Z : Prop} (hT : ∃ T : Tx K mg, T.a_law = fa) (F : ∀ T : Tx K mg, T.a_law = fa → Z) : Z := by
  obtain ⟨T, h⟩ := hT
  exact F T h
theorem law_ok {P : Program} {w : World} {K : PySem.W.Frag} {mg : Str → Option Value} {base : Heap} (T : Tx K mg) : FnG P w K mg base CX0 10 T.a_law T.d_law ["_law_script"] (lawSp K) := law_end (ok_law T) plain
end Mi
open PySem PySem.W PyProof.Rows
set_option maxRecDepth 100000 in
set_option maxHeartbeats 0 in
theorem PySem.Challenge.cw_lamprounds_k21_whole_rounds_that_commute_holds : PySem.Challenge.rw_lamprounds_k21_whole_rounds_that_commute.Holds := by
  w_on; o_law; k_head; (case hw => w_witness2)
  k_fill
  refine Gd.walkG (l := PySem.Challenge.rw_lamprounds_k21_whole_rounds_that_commute) (k := 10) (x := "_law_script") (sp := Mi.lawSp) rfl rfl ⟨rfl, by decide, by decide⟩ (fun w h Y => PySem.W.kIn_of Y) ?F ?S
  case F =>
    intro w mg fa h KX G hmg
    refine' Mi.withTx (Mi.mkTx KX G hmg ?e_Round ?q1_Round ?q2_Round ?q3_Round ?q4_Round ?q5_Round ?q8_Round ?q9_Round ?qa_Round ?q6_Round ?q7_Round ?s1_Round_own_end ?s2_Round_own_end ?s3_Round_own_end ?s4_Round_own_end ?s5_Round_own_end ?s1_Round_own_lamps ?s2_Round_own_lamps ?s3_Round_own_lamps ?s4_Round_own_lamps ?s5_Round_own_lamps ?s1_Round_own_levels ?s2_Round_own_levels ?s3_Round_own_levels ?s4_Round_own_levels ?s5_Round_own_levels ?qn_Round ?qb_Round ?qc_Round ?km_Round_int ?km_Round_tuple ?km_Round_str ?km_Round_Round ?km_Round_bool ?kt_Round ?e_is_integer ?l_is_integer ?c_is_integer ?k_is_integer ?e_written_integer ?l_written_integer ?c_written_integer ?k_written_integer ?e_bent_lamp ?l_bent_lamp ?c_bent_lamp ?k_bent_lamp ?e_wrong_lamp ?l_wrong_lamp ?c_wrong_lamp ?k_wrong_lamp ?e_are_levels ?l_are_levels ?c_are_levels ?k_are_levels ?e_added ?l_added ?c_added ?k_added ?fi_Round_init ?is_Round_init ?l_Round_init ?c_Round_init ?k_Round_init ?pa_Round_read ?pr_Round_read ?pf_Round_read ?l_Round_read ?c_Round_read ?k_Round_read ?pa_Round_levels ?pg_Round_levels ?pt_Round_levels ?pr_Round_levels ?l_Round_levels ?c_Round_levels ?k_Round_levels ?pa_Round_lamps ?pg_Round_lamps ?pt_Round_lamps ?pr_Round_lamps ?l_Round_lamps ?c_Round_lamps ?k_Round_lamps ?pa_Round_end ?pg_Round_end ?pt_Round_end ?pr_Round_end ?l_Round_end ?c_Round_end ?k_Round_end ?pa_Round_text ?pg_Round_text ?pt_Round_text ?pr_Round_text ?l_Round_text ?c_Round_text ?k_Round_text ?fi_Round_len ?is_Round_len ?l_Round_len ?c_Round_len ?k_Round_len ?fi_Round_bool ?is_Round_bool ?l_Round_bool ?c_Round_bool ?k_Round_bool ?fi_Round_eq ?is_Round_eq ?l_Round_eq ?c_Round_eq ?k_Round_eq ?fi_Round_str ?is_Round_str ?l_Round_str ?c_Round_str ?k_Round_str ?fi_Round_repr ?is_Round_repr ?l_Round_repr ?c_Round_repr ?k_Round_repr ?e_table ?l_table ?c_table ?k_table ?e_text_lamp ?l_text_lamp ?c_text_lamp ?k_text_lamp ?e_text_round ?l_text_round ?c_text_round ?k_text_round ?e_check_levels ?l_check_levels ?c_check_levels ?k_check_levels ?e_check_number ?l_check_number ?c_check_number ?k_check_number ?e_check_round ?l_check_round ?c_check_round ?k_check_round ?e_check_pair ?l_check_pair ?c_check_pair ?k_check_pair ?e_commute ?l_commute ?c_commute ?k_commute ?e_law_well ?l_law_well ?c_law_well ?k_law_well ?e_law_draw ?l_law_draw ?c_law_draw ?k_law_draw ?e_law_pick ?l_law_pick ?c_law_pick ?k_law_pick ?e_law_great ?l_law_great ?c_law_great ?k_law_great ?e_law_added ?l_law_added ?c_law_added ?k_law_added ?e_law_lamps ?l_law_lamps ?c_law_lamps ?k_law_lamps ?e_law_behind ?l_law_behind ?c_law_behind ?k_law_behind ?e_law_back ?l_law_back ?c_law_back ?k_law_back ?e_law_times ?l_law_times ?c_law_times ?k_law_times ?e_law_text ?l_law_text ?c_law_text ?k_law_text ?e_law_drawn ?l_law_drawn ?c_law_drawn ?k_law_drawn ?e_law_pair ?l_law_pair ?c_law_pair ?k_law_pair ?e_law_right ?l_law_right ?c_law_right ?k_law_right ?e_law ?l_law ?c_law ?k_law ?n_abs ?n_all ?n_bool ?n_dict ?n_divmod ?n_enumerate ?n_int ?n_isinstance ?n_len ?n_list ?n_max ?n_min ?n_range ?n_repr ?n_sorted ?n_str ?n_tuple ?e_LEVELS ?y_LEVELS ?e_MOST_LAMPS ?e_DIGITS) (fun T hT => ?lastT)
    (case e_Round => k_is)
    (case q1_Round => k_is)
    (case q2_Round => k_is)
    (case q3_Round => k_is)
    (case q4_Round => k_is)
    (case q5_Round => k_is)
    (case q8_Round => k_is)
    (case q9_Round => k_is)
    (case qa_Round => k_is)
    (case q6_Round => k_is)
    (case q7_Round => k_is)
    (case s1_Round_own_end => k_is)
    (case s2_Round_own_end => k_is)
    (case s3_Round_own_end => k_is)
    (case s4_Round_own_end => k_is)
    (case s5_Round_own_end => k_is)
    (case s1_Round_own_lamps => k_is)
    (case s2_Round_own_lamps => k_is)
    (case s3_Round_own_lamps => k_is)
    (case s4_Round_own_lamps => k_is)
    (case s5_Round_own_lamps => k_is)
    (case s1_Round_own_levels => k_is)
    (case s2_Round_own_levels => k_is)
    (case s3_Round_own_levels => k_is)
    (case s4_Round_own_levels => k_is)
    (case s5_Round_own_levels => k_is)
    (case qn_Round => k_is)
    (case qb_Round => k_is)
    (case qc_Round => k_is)
    (case km_Round_int => k_is)
    (case km_Round_tuple => k_is)
    (case km_Round_str => k_is)
    (case km_Round_Round => k_is)
    (case km_Round_bool => k_is)
    (case kt_Round => k_is)
    (case e_is_integer => k_is)
    (case l_is_integer => k_is)
    (case c_is_integer => k_is)
    (case k_is_integer => k_is)
    (case e_written_integer => k_is)
    (case l_written_integer => k_is)
    (case c_written_integer => k_is)
    (case k_written_integer => k_is)
    (case e_bent_lamp => k_is)
    (case l_bent_lamp => k_is)
    (case c_bent_lamp => k_is)
    (case k_bent_lamp => k_is)
    (case e_wrong_lamp => k_is)
    (case l_wrong_lamp => k_is)
    (case c_wrong_lamp => k_is)
    (case k_wrong_lamp => k_is)
    (case e_are_levels => k_is)
    (case l_are_levels => k_is)
    (case c_are_levels => k_is)
    (case k_are_levels => k_is)
    (case e_added => k_is)
    (case l_added => k_is)
    (case c_added => k_is)
    (case k_added => k_is)
    (case fi_Round_init => k_is)
    (case is_Round_init => k_is)
    (case l_Round_init => k_is)
    (case c_Round_init => k_is)
    (case k_Round_init => k_is)
    (case pa_Round_read => k_is)
    (case pr_Round_read => k_is)
    (case pf_Round_read => k_is)
    (case l_Round_read => k_is)
    (case c_Round_read => k_is)
    (case k_Round_read => k_is)
    (case pa_Round_levels => k_is)
    (case pg_Round_levels => k_is)
    (case pt_Round_levels => k_is)
    (case pr_Round_levels => k_is)
    (case l_Round_levels => k_is)
    (case c_Round_levels => k_is)
    (case k_Round_levels => k_is)
    (case pa_Round_lamps => k_is)
    (case pg_Round_lamps => k_is)
    (case pt_Round_lamps => k_is)
    (case pr_Round_lamps => k_is)
    (case l_Round_lamps => k_is)
    (case c_Round_lamps => k_is)
    (case k_Round_lamps => k_is)
    (case pa_Round_end => k_is)
    (case pg_Round_end => k_is)
    (case pt_Round_end => k_is)
    (case pr_Round_end => k_is)
    (case l_Round_end => k_is)
    (case c_Round_end => k_is)
    (case k_Round_end => k_is)
    (case pa_Round_text => k_is)
    (case pg_Round_text => k_is)
    (case pt_Round_text => k_is)
    (case pr_Round_text => k_is)
    (case l_Round_text => k_is)
    (case c_Round_text => k_is)
    (case k_Round_text => k_is)
    (case fi_Round_len => k_is)
    (case is_Round_len => k_is)
    (case l_Round_len => k_is)
    (case c_Round_len => k_is)
    (case k_Round_len => k_is)
    (case fi_Round_bool => k_is)
    (case is_Round_bool => k_is)
    (case l_Round_bool => k_is)
    (case c_Round_bool => k_is)
    (case k_Round_bool => k_is)
    (case fi_Round_eq => k_is)
    (case is_Round_eq => k_is)
    (case l_Round_eq => k_is)
    (case c_Round_eq => k_is)
    (case k_Round_eq => k_is)
    (case fi_Round_str => k_is)
    (case is_Round_str => k_is)
    (case l_Round_str => k_is)
    (case c_Round_str => k_is)
    (case k_Round_str => k_is)
    (case fi_Round_repr => k_is)
    (case is_Round_repr => k_is)
    (case l_Round_repr => k_is)
    (case c_Round_repr => k_is)
    (case k_Round_repr => k_is)
    (case e_table => k_is)
    (case l_table => k_is)
    (case c_table => k_is)
    (case k_table => k_is)
    (case e_text_lamp => k_is)
    (case l_text_lamp => k_is)
    (case c_text_lamp => k_is)
    (case k_text_lamp => k_is)
    (case e_text_round => k_is)
    (case l_text_round => k_is)
    (case c_text_round => k_is)
    (case k_text_round => k_is)
    (case e_check_levels => k_is)
    (case l_check_levels => k_is)
    (case c_check_levels => k_is)
    (case k_check_levels => k_is)
    (case e_check_number => k_is)
    (case l_check_number => k_is)
    (case c_check_number => k_is)
    (case k_check_number => k_is)
    (case e_check_round => k_is)
    (case l_check_round => k_is)
    (case c_check_round => k_is)
    (case k_check_round => k_is)
    (case e_check_pair => k_is)
    (case l_check_pair => k_is)
    (case c_check_pair => k_is)
    (case k_check_pair => k_is)
    (case e_commute => k_is)
    (case l_commute => k_is)
    (case c_commute => k_is)
    (case k_commute => k_is)
    (case e_law_well => k_is)
    (case l_law_well => k_is)
    (case c_law_well => k_is)
    (case k_law_well => k_is)
    (case e_law_draw => k_is)
    (case l_law_draw => k_is)
    (case c_law_draw => k_is)
    (case k_law_draw => k_is)
    (case e_law_pick => k_is)
    (case l_law_pick => k_is)
    (case c_law_pick => k_is)
    (case k_law_pick => k_is)
    (case e_law_great => k_is)
    (case l_law_great => k_is)
    (case c_law_great => k_is)
    (case k_law_great => k_is)
    (case e_law_added => k_is)
    (case l_law_added => k_is)
    (case c_law_added => k_is)
    (case k_law_added => k_is)
    (case e_law_lamps => k_is)
    (case l_law_lamps => k_is)
    (case c_law_lamps => k_is)
    (case k_law_lamps => k_is)
    (case e_law_behind => k_is)
    (case l_law_behind => k_is)
    (case c_law_behind => k_is)
    (case k_law_behind => k_is)
    (case e_law_back => k_is)
    (case l_law_back => k_is)
    (case c_law_back => k_is)
    (case k_law_back => k_is)
    (case e_law_times => k_is)
    (case l_law_times => k_is)
    (case c_law_times => k_is)
    (case k_law_times => k_is)
    (case e_law_text => k_is)
    (case l_law_text => k_is)
    (case c_law_text => k_is)
    (case k_law_text => k_is)
    (case e_law_drawn => k_is)
    (case l_law_drawn => k_is)
    (case c_law_drawn => k_is)
    (case k_law_drawn => k_is)
    (case e_law_pair => k_is)
    (case l_law_pair => k_is)
    (case c_law_pair => k_is)
    (case k_law_pair => k_is)
    (case e_law_right => k_is)
    (case l_law_right => k_is)
    (case c_law_right => k_is)
    (case k_law_right => k_is)
    (case e_law => k_is)
    (case l_law => k_is)
    (case c_law => k_is)
    (case k_law => k_is)
    (case n_abs => k_is)
    (case n_all => k_is)
    (case n_bool => k_is)
    (case n_dict => k_is)
    (case n_divmod => k_is)
    (case n_enumerate => k_is)
    (case n_int => k_is)
    (case n_isinstance => k_is)
    (case n_len => k_is)
    (case n_list => k_is)
    (case n_max => k_is)
    (case n_min => k_is)
    (case n_range => k_is)
    (case n_repr => k_is)
    (case n_sorted => k_is)
    (case n_str => k_is)
    (case n_tuple => k_is)
    (case e_LEVELS => k_is)
    (case y_LEVELS => k_is)
    (case e_MOST_LAMPS => k_is)
    (case e_DIGITS => k_is)
    (case lastT =>
      subst hT
      exact ⟨T.d_law, T.bt_law, fun base KB NB => Mi.law_ok T⟩)
  case S =>
    intro K H a ns hn hb hS
    exact ⟨a, ns, rfl, hS, hn, hb, fun H' => rfl⟩
