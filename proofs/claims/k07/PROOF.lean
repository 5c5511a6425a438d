import PyProof.Rows.All
import Wide.All
import OpenK.AllK
import Wide.FinOn
import PyProof.ReprRoads
import HandS.ForMost
import HandS.EndBits
import HandS.Flow
import HandS.Style
import HandS.More
import HandS.Conv
import HandS.NoneIn
import HandS.Wide
import HandS.WideBits
import HandS.Slots
import HandS.SlotsOwn
import HandS.ClsMeth
import HandS.MakeKw
import HandS.MakeKwOnly
import HandS.Defaults
import HandS.FStr
import HandS.StrSplit
import HandS.SortInts
import HandS.IsInst
import HandS.RaiseMore
import HandS.Small
import HandS.Evl
import HandS.Iter
import HandS.Property
import HandS.Walk
import HandS.DictTup
import HandS.SortRule
import KE.GoesMore
import KE.KDictPairs
import PySem.Challenge.RW_lamprounds_k07_whole_rounds_one_behind_a
set_option Elab.async false
set_option linter.all false
set_option maxRecDepth 100000
set_option maxHeartbeats 4000000
/-! ## Defs that are known to run with no repr around them (A.guards = some []): FnG, its rules, the end -/
namespace Gd
open PySem PySem.Spec PyProof.Rows L2

/-- as FnOk, where moreover no guard is known to stand around -/
structure FnG (P : Program) (w : World) (K : PySem.W.Frag) (mg : Str → Option Value) (base : Heap) (CX : CXT) (k : Nat) (f : Addr) (fd : FuncData) (ps : List Str) (sp : Sp) : Prop where
  many : ∀ vs H Q E, sp vs H Q E → vs.length = ps.length
  goes : ∀ (A : Around) (outer : List Env) (s : Shared) (H : Hp) (args : Args) (us : List Value) (vs : List V) (Q : VK) (E : XK),
    A.guards = some [] → Room k A → Env0 P w K mg base A outer s H → BindsTo s fd args (ps.zip us) → Vals vs us → sp vs H Q E →
    codeAny (model P w) A (.call (.ref f) args) (CR CX outer P w H s Q E) s

section
variable {P : Program} {w : World} {K : PySem.W.Frag} {mg : Str → Option Value} {base : Heap} {CX : CXT} {k : Nat} {f : Addr} {fd : FuncData} {ps : List Str} {sp : Sp}
theorem FnG.of (F : FnOk P w K mg base CX k f fd ps sp) : FnG P w K mg base CX k f fd ps sp :=
  ⟨F.len, fun A o s H a us vs Q E _ => F.run A o s H a us vs Q E⟩

/-- what a body's reading gives of the def, at one place of call -/
theorem go_body {qual : Str} {scope : Scope} {N : List Str} {A : Around} {outer : List Env} {s : Shared} {H : Hp} {Q : VK} {E : XK} {f : Addr} {cdv : Value} {body : List Stmt} {t : TS} {vs : List V} {s1 : Shared}
    (ht : PSs (cxOf CX P w K mg base N qual scope f cdv A outer s H E) body t) (hq : t { nx := fun _ H' => Q .non H', rt := Q } (start N vs) H)
    (I : Inv (cxOf CX P w K mg base N qual scope f cdv A outer s H E) [] (start N vs) H s1) :
    wpAny (model P w) (A.deeper (envOfC qual scope s.heap.objs.size f cdv)) (execs body (envOfC qual scope s.heap.objs.size f cdv))
      (fun fl s' => match fl with
        | .ret u => CE outer P w H s Q u s'
        | .next => CE outer P w H s Q Value.none s'
        | _ => False)
      (cxOf CX P w K mg base N qual scope f cdv A outer s H E).xe s1 := by
  refine thn (ht.run [] s1 _ H _ I hq) ?_
  intro fl s' z
  cases fl with
  | next =>
    obtain ⟨σ', H', J, q⟩ := z
    exact ⟨V.non, H', J.os, J.bare, J.base, J.hok, rfl, q⟩
  | ret u =>
    obtain ⟨v, σ', H', J, rv, q⟩ := z
    exact ⟨v, H', J.os, J.bare, J.base, J.hok, rv, q⟩
  | brk => exact z.elim fun _ z => z.elim fun _ z => z.2.elim
  | cont => exact z.elim fun _ z => z.elim fun _ z => z.2.elim

/-- the rule for a def of the text -/
theorem okG {x qual : Str} {st : Stmt} {N : List Str} (F : Fun K x qual st f fd) (S : FnScope N ps (defScope st)) (many : ∀ vs H Q E, sp vs H Q E → vs.length = ps.length)
    (hbody : ∀ (cdv : Value) (A : Around) (outer : List Env) (s : Shared) (H : Hp) (vs : List V) (Q : VK) (E : XK), A.guards = some [] → Room k (A.deeper (envOfC qual (defScope st) s.heap.objs.size f cdv)) → sp vs H Q E →
      ∃ t, PSs (cxOf CX P w K mg base N qual (defScope st) f cdv A outer s H E) (defBody st) t ∧ t { nx := fun _ H' => Q .non H', rt := Q } (start N vs) H) :
    FnG P w K mg base CX (k + 1) f fd ps sp := by
  obtain ⟨oc, od, kV, doc, pm, an, cdv, ct, osl, rfl, lk, hcd⟩ := F.ex
  refine ⟨many, ?_⟩
  intro A outer s H args us vs Q E hg hr e0 hb r hsp
  have there : ∀ b o, base.get? b = some o → s.heap.get? b = some o := fun b o e => (e0.bs b o e).1
  have KX : K.In s.heap := e0.mod.kin.keeps there
  have par : ∀ y ∈ ps.zip us, (defScope st).names.lookup y.1 = some .local ∨ ((defScope st).names.lookup y.1 = some .cell ∧ ((cellsFrom (s.heap.objs.size + 1) (defScope st).names []).lookup y.1).isSome = true) := by
    rintro ⟨n, v⟩ hy
    exact (S.par n (List.of_mem_zip hy).1).elim .inl fun q => .inr ⟨q, PySem.W.cellsFrom_some _ _ _ (.inl q)⟩
  have enter := hb
  refine codeAny_call_function hr.depth (KX _ _ lk) rfl S.co S.gen rfl (PySem.W.codeRec_of KX hcd) (hb _ _ _ _ ?_)
  refine wpAny_newFunctionEnv_cells S.kind par ?_
  intro env he s1 x
  subst he
  refine ⟨(e0.mod.nolimit.keeps there).keeps x.toInCall.keep, codeAny_func ?_⟩
  obtain ⟨t, ht, hq⟩ := hbody cdv A outer s H vs Q E hg (hr.deeper _) hsp
  have I := inv_start (N := N) (CX := CX) (E := E) S hr.hd e0 (many _ _ _ _ hsp) r x
  refine wpAny_mono (go_body ht hq I) ?_ fun e s' z => z
  intro fl s' z
  cases fl with
  | next => exact z
  | ret u => exact z
  | brk => exact z.elim
  | cont => exact z.elim
end

section
variable {X : Cx} {CX : CXT} {k : Nat} {f : Addr} {fd : FuncData} {ps : List Str} {sp : Sp} {E : XK} {x : Str} {p pos : Pos} {e : Expr} {es : List Expr} {t : TA}
theorem runG {pins : List (Addr × Obj)} {σ : L2.St} {H : Hp} {s : Shared} {Q : VK} {us : List Value} {vs : List V} (F : FnG X.prog X.w X.K X.mg X.base CX k f fd ps sp) (hg : X.A.guards = some []) (hr : Room k X.A) (hb : Binds X.K fd ps []) (hx : Passes CX X E)
    (I : Inv X pins σ H s) (r : Vals vs us) (h : sp vs H Q E) : wpAny (model X.prog X.w) X.A (call (.ref f) us) (EP X pins σ Q) X.xe s := by
  have hl : (us ++ []).length = ps.length := by
    rw [List.append_nil, ← r.length]
    exact F.many _ _ _ _ h
  have bt := hb s us I.kIn hl
  rw [List.append_nil] at bt
  refine wpAny_call (codeAny_mono (F.goes X.A X.stack s H ⟨us, []⟩ us vs Q E hg hr I.env0 bt r h) ?_)
  intro res s' z
  match res, z with
  | .error e, z => exact hx pins σ H s e s' I z
  | .ok (.ret u), z => exact I.after z
/-- f(e, ..), f a def that asks for repr -/
theorem pe_callG (F : FnG X.prog X.w X.K X.mg X.base CX k f fd ps sp) (hgd : X.A.guards = some []) (hr : Room k X.A) (hg : Gl X x) (hm : X.mg x = some (.ref f)) (hk : PySem.W.keepIn X.K (.ref f) = true) (hb : Binds X.K fd ps []) (hx : Passes CX X E)
    (ha : PA X (e :: es) t) (hdb : (x == ("__debug__" : Str)) = false := by decide) (he : starEach (e :: es) X.env = (false, eval e X.env) :: starEach es X.env := by rfl) (hpl : (backTo pos (starEach es X.env)).any (·.1) = false := by rfl) :
    PE X (.Call (.Name x p) (e :: es) [] pos) (tCall sp [] E t) := by
  refine ⟨fun pins s σ H Q I h => wpAny_Call_Name_kw (ld_glob I hg hm ?_ hdb)⟩
  refine PySem.W.callWith_K (h₀ := X.base) I.ok.mod.kin hk (thn (ha.run pos pins s σ H _ I h) ?_) he hpl
  rintro us s1 ⟨vs, H1, I1, r, q⟩
  have q' : sp (vs ++ []) H1 Q E := q
  rw [List.append_nil] at q'
  exact ⟨I1.kIn, runG F hgd hr hb hx I1 r q'⟩

/-- repr of data -/
def rRepr (K : PySem.W.Frag) : List V → Hp → VK → Prop := fun xs H Q => ∃ (a : Addr) (d : PyData), xs = [.ref a] ∧ Dp K H (.ref a) d ∧ d.showable = true ∧ d.hasDict = false ∧ d.depth ≤ 40 ∧ d.shown.length ≤ sizeLine ∧ Q (.str d.shown) H
theorem call_repr (hgd : X.A.guards = some []) (hr : Room k X.A) : CallR X (.builtin "repr") (rRepr X.K) := by
  intro pins s σ H xs us Q I r h
  obtain ⟨a, d, rfl, hd, hs, hn, hdp, hz, q⟩ := h
  obtain ⟨u, rfl, ru⟩ := vals1 r
  obtain ⟨as, rd⟩ := Dp.reads I d (.ref a) u hd ru
  obtain rfl : u = Value.ref a := ru
  refine repr_of_reads' rd hs (PyData.noDict_hsm hn) hgd ?_ (fun _ _ z => z) ?_ hz
  · have := hr.un
    omega
  · intro h' u tk kp
    exact ⟨.str d.shown, H, I.kept (t' := tk) kp, ⟨_, rfl⟩, q⟩
end

/-! ### the end: the law's def is called on the script -/
section
variable {P : Program} {w : World} {K : PySem.W.Frag} {mg mb : Str → Option Value} {k : Nat} {fa a : Addr} {fd : FuncData} {x : Str} {sp : Sp} {s1 : Shared} {vs : List Value} {ns : List Int}
/-- a heap in which nothing but the script is tracked, as it stands -/
structure Alone (K : PySem.W.Frag) (H : Hp) (a : Addr) (vs : List Value) (ns : List Int) : Prop where
  seq : SqL K H a (ns.map V.int)
  only : ∀ b u, H b = some u → b = a ∧ u = .frz { cls := .type "list", data := .seq vs.toArray } (.lst (ns.map V.int)) ∧ K.lookup a = none
theorem alone (hk : K.In s1.heap) (ha : s1.heap.get? a = some { cls := .type "list", data := .seq vs.toArray }) (rv : Vals (ns.map V.int) vs) (hl : ns.length ≤ sizeLine) : ∃ H, Alone K H a vs ns := by
  cases e : K.lookup a with
  | none =>
    refine ⟨fun b => if b = a then some (.frz { cls := .type "list", data := .seq vs.toArray } (.lst (ns.map V.int))) else none, .inl (.inr ⟨_, if_pos rfl⟩), ?_⟩
    intro b u z
    by_cases hb : b = a
    · have z' : some (HO.frz { cls := .type "list", data := .seq vs.toArray } (.lst (ns.map V.int))) = some u := (if_pos hb).symm.trans z
      exact ⟨hb, (Option.some.inj z').symm, e⟩
    · have z' : (none : Option HO) = some u := (if_neg hb).symm.trans z
      cases z'
  | some o =>
    have z := hk a o e
    rw [ha] at z
    cases z
    have lv := rv.length
    rw [List.length_map] at lv
    refine ⟨fun _ => none, .inr ⟨_, vs.toArray, _, e, rfl, rfl, rfl, ?_, ?_⟩, ?_⟩
    · rw [List.size_toArray, ← lv]
      exact hl
    · simpa using rv
    · intro b u z
      have z' : (none : Option HO) = some u := z
      cases z'
theorem law_endG (KX : K.In s1.heap) (hns : s1.heap.Ns mainGlobals mg) (hb : s1.heap.Ns builtinsNs mb) (hbb : ∀ x : Str, x ≠ "__name__" → mb x = bootBuiltins x) (hlim : s1.heap.NoLimit) (hg : s1.gens = #[])
    (ha : s1.heap.get? a = some { cls := .type "list", data := .seq vs.toArray }) (hi : IntsAre vs ns) (hl : ns.length ≤ sizeLine) (hr : Room k callerA)
    (F : ∀ base : Heap, K.In base → base.Ns mainGlobals mg → FnG P w K mg base CX0 k fa fd [x] sp) (hbind : ∀ (s : Shared) (u : Value), BindsTo s fd ⟨[u], []⟩ [(x, u)])
    (hsp : ∀ H : Hp, SqL K H a (ns.map V.int) → sp [.ref a] H (fun v _ => v = .bl true) E0) :
    codeAny (model P w) callerA (.call (.ref fa) ⟨[.ref a], []⟩) (fun r s' => r = .ok (.ret (.bool true)) ∧ OldK s1.heap s'.heap ∧ s'.os = s1.os ∧ AllBare s'.gens) s1 := by
  have rv : Vals (ns.map V.int) vs := vals_ints hi
  obtain ⟨H, hH⟩ := alone KX ha rv hl
  have keep : ∀ {b : Addr} {o : Obj}, s1.heap.get? b = some o → (b = a → K.lookup a ≠ none ∨ o.data ≠ .seq vs.toArray) → (hidT s1.heap H).get? b = some o := by
    intro b o e h1
    refine hidT_get e ?_
    cases q : H b with
    | none => rfl
    | some u =>
      obtain ⟨eb, _, en⟩ := hH.only b u q
      subst eb
      rw [ha] at e
      cases e
      rcases h1 rfl with z | z
      · exact absurd en z
      · exact absurd rfl z
  have nsk : ∀ {b : Addr} {m : Str → Option Value}, s1.heap.Ns b m → (hidT s1.heap H).Ns b m := by
    rintro b m ⟨o, es, ep, e, d, z⟩
    refine ⟨o, es, ep, keep e fun _ => .inr ?_, d, z⟩
    rw [d]
    intro c
    cases c
  have kb : K.In (hidT s1.heap H) := by
    intro b o e
    refine keep (KX b o e) fun eb => .inl ?_
    rw [← eb, e]
    intro c
    cases c
  have md : Mod K mg (hidT s1.heap H) := by
    obtain ⟨mc, h1, h2⟩ := hlim
    exact ⟨kb, nsk hns, ⟨mb, nsk hb, hbb⟩, mc, nsk h1, h2⟩
  have hok : HOk P w H s1.heap := by
    intro b u z
    obtain ⟨e1, e2, _⟩ := hH.only b u z
    subst e1
    subst e2
    refine ⟨ha, ?_, vs, _, rv, ha⟩
    rw [List.length_map]
    exact hl
  have e0 : Env0 P w K mg (hidT s1.heap H) callerA [] s1 H := by
    refine ⟨rfl, md, fun b o e => of_hidT e, Nat.le_of_eq (hidT_size _ _), trivial, ?_, hok, .of_eq hg⟩
    intro b z
    cases (show b ∈ ([] : List Addr) from z)
  have main := (F _ kb (nsk hns)).goes callerA [] s1 H ⟨[.ref a], []⟩ [.ref a] [.ref a] _ _ rfl hr e0 (hbind s1 (.ref a)) (.cons rfl .nil) (hsp H hH.seq)
  refine codeAny_mono main ?_
  intro r s' z
  match r, z with
  | .error e, z => exact False.elim z
  | .ok (.ret u), z =>
    obtain ⟨v, H', os, bare, un, hok', r', q⟩ := z
    have q' : v = .bl true := q
    subst q'
    obtain rfl : u = Value.bool true := r'
    refine ⟨rfl, OldK.of_keep ?_, os, bare⟩
    intro b o e
    cases q : H b with
    | none => exact un.keep b o e q (fun z => nomatch (show b ∈ ([] : List Addr) from z)) (fun z => nomatch z)
    | some u =>
      obtain ⟨eb, eu, _⟩ := hH.only b u q
      subst eb
      subst eu
      have z2 := hok' _ _ (un.frzs _ _ _ q)
      rw [ha] at e
      cases e
      exact z2.1
/-- the goal that k_head leaves, from the law's promise -/
theorem walkG {l : PySem.W.OpenLaw} {q : Program} {loose : List Str} {XP : (Str → Option Value) → Heap → Prop} {YP : World → Heap → Prop} {d : DefRec} {K : Params → PySem.W.Frag} {sp : PySem.W.Frag → Sp} (hn : l.most = some 63) (hdf : d.params.defaults = []) (hr : Room k callerA)
    (hY : ∀ (w : World) (h : Heap), YP w h → (K w.params).In h)
    (F : ∀ (w : World) (mg : Str → Option Value) (fa : Addr) (h : Heap), (K w.params).In h → h.Ns mainGlobals mg → mg d.name = some (.ref fa) →
      ∃ fd : FuncData, (∀ (s : Shared) (u : Value), BindsTo s fd ⟨[u], []⟩ [(x, u)]) ∧ ∀ base : Heap, (K w.params).In base → base.Ns mainGlobals mg → FnG l.prog w (K w.params) mg base CX0 k fa fd [x] (sp (K w.params)))
    (hsp : ∀ (K : PySem.W.Frag) (H : Hp) (a : Addr) (ns : List Int), ns.length ≤ 63 → (∀ z ∈ ns, Builtin.Int.intBits z ≤ 1048576) → SqL K H a (ns.map V.int) → sp K [.ref a] H (fun v _ => v = .bl true) E0) :
    PySem.W.WalkO q loose XP YP l.row.toRowW d [] (fun f vs => PySem.call f vs) := by
  refine Att.attach_callB hn hdf ?_
  intro w s₀ s1 mg mb fa o pm cd doc a vs ns G Y ho hd hcd hmg hobj hints hlen hbits hg
  have KX := hY w _ Y
  obtain ⟨fd, hb, hF⟩ := F w mg fa _ KX G.T.g hmg
  exact law_endG KX G.T.g G.T.b G.T.builtins G.T.nolimit hg hobj hints (Nat.le_trans hlen (by decide)) hr hF hb fun H hS => hsp _ H a ns hlen hbits hS
end
end Gd

/-! ## Words of ours: what stays, what is read, steps -/
namespace Lamp
open PySem PySem.Spec PyProof.Rows L2
/-- the parts of a reading that answer themselves -/
local macro_rules | `(tactic| walk_at "n") => `(tactic| first | (show (0 : Int) < _; first | assumption | decide | omega) | (refine Or.inl ⟨?_, ?_⟩ <;> first | decide | omega) | (refine Or.inr ⟨?_, ?_⟩ <;> first | decide | omega) | (refine ⟨?_, ?_⟩ <;> first | decide | omega) | (refine ⟨?_, ?_, ?_⟩ <;> first | decide | omega) | omega | decide)
local macro_rules | `(tactic| walk_at "h") => `(tactic| first | assumption | exact L2.upd_same | exact L2.SqL.of (by assumption) | exact L2.SqT.of (by assumption) | exact L2.SqL.of L2.upd_same | exact L2.SqT.of L2.upd_same | exact Or.inl (Or.inr ⟨_, by assumption⟩))
local macro_rules | `(tactic| walk_at "g1") => `(tactic| first
  | (refine ⟨_, rfl, ?_⟩)
  | (refine ⟨_, _, rfl, rfl, (show L2.CMul _ _ from by walk_at "n"), ?_⟩)
  | (refine ⟨_, _, rfl, rfl, (show L2.CDiv _ _ from by walk_at "n"), ?_⟩)
  | (refine ⟨_, _, rfl, rfl, (show L2.CPow _ _ from by walk_at "n"), ?_⟩)
  | (refine ⟨_, _, rfl, rfl, (show (0 : Int) < _ from by walk_at "n"), ?_⟩)
  | (refine ⟨_, _, rfl, rfl, ?_⟩)
  | (refine Or.inl ⟨_, rfl, ?_⟩)
  | (refine ⟨_, _, _, _, rfl, rfl, (by walk_at "h"), (by assumption), ?_⟩)
  | (refine ⟨_, _, _, _, rfl, rfl, (by walk_at "h"), by rfl, ?_⟩)
  | (refine ⟨_, _, rfl, Or.inl (by walk_at "h"), ?_⟩)
  | (refine ⟨_, _, rfl, Or.inr (by walk_at "h"), ?_⟩)
  | (refine ⟨(show L2.scal _ _ = true from rfl), ?_⟩)
  | (refine ⟨_, _, _, _, _, _, _, rfl, (by assumption), (by assumption), (by assumption), rfl, ?_⟩)
  | (refine ⟨(show Nat.log2 _ < _ from by assumption), ?_⟩)
  | (refine ⟨(show PySem.Str.length _ ≤ _ from by assumption), ?_⟩)
  | (refine ⟨⟨_, rfl⟩, ?_⟩)
  | (refine ⟨(show _ = L2.V.non from rfl), ?_⟩)
  | (refine ⟨_, _, _, _, true, rfl, L2.ClsV.ty _, L2.TyX.base (.int _), L2.kit_ty (by decide +kernel), ?_⟩)
  | (refine ⟨_, _, _, _, true, rfl, L2.ClsV.ty _, L2.TyX.base (.tup (by walk_at "h")), L2.kit_ty (by decide +kernel), ?_⟩)
  | (refine ⟨_, _, _, _, true, rfl, L2.ClsV.ty _, L2.TyX.base (.str _), L2.kit_ty (by decide +kernel), ?_⟩)
  | (refine ⟨_, _, _, _, true, rfl, L2.ClsV.ty _, L2.TyX.base (.lst (by walk_at "h")), L2.kit_ty (by decide +kernel), ?_⟩)
  | (refine ⟨_, _, _, _, false, rfl, L2.ClsV.ty _, L2.TyX.base (.int _), L2.kit_ty (by decide +kernel), ?_⟩)
  | (refine ⟨_, _, _, _, false, rfl, L2.ClsV.ty _, L2.TyX.base (.tup (by walk_at "h")), L2.kit_ty (by decide +kernel), ?_⟩)
  | (refine ⟨_, _, _, _, false, rfl, L2.ClsV.ty _, L2.TyX.base (.str _), L2.kit_ty (by decide +kernel), ?_⟩)
  | (refine ⟨_, _, _, _, false, rfl, L2.ClsV.ty _, L2.TyX.base (.lst (by walk_at "h")), L2.kit_ty (by decide +kernel), ?_⟩)
  | (refine ⟨_, _, _, _, true, rfl, L2.ClsV.ty _, L2.TyX.fTuple (by assumption), L2.kit_ty (by decide +kernel), ?_⟩)
  | (refine ⟨_, _, _, _, false, rfl, L2.ClsV.ty _, L2.TyX.fTuple (by assumption), L2.kit_ty (by decide +kernel), ?_⟩)
  | fail "g")
local macro_rules | `(tactic| walk_at "g") => `(tactic| repeat' (walk_at "g1"))
/-- as "g", where what is known of a comparison decides it -/
local macro_rules | `(tactic| walk_at "d1") => `(tactic| first
  | (refine ⟨true, congrArg L2.V.bl (decide_eq_true (by assumption)), ?_⟩)
  | (refine ⟨false, congrArg L2.V.bl (decide_eq_false (by assumption)), ?_⟩)
  | (refine ⟨true, congrArg L2.V.bl (by assumption), ?_⟩)
  | (refine ⟨false, congrArg L2.V.bl (by assumption), ?_⟩)
  | (refine ⟨false, congrArg L2.V.bl (congrArg Bool.not (by assumption)), ?_⟩)
  | (refine ⟨true, congrArg L2.V.bl (congrArg Bool.not (by assumption)), ?_⟩)
  | walk_at "g1"
  | fail "d")
local macro_rules | `(tactic| walk_at "d") => `(tactic| repeat' (walk_at "d1"))
/-- all but what stands at a is as it was -/
def Oth (a : Addr) (H H' : Hp) : Prop := ∀ b o, H b = some o → b ≠ a → H' b = some o
theorem Oth.refl {a : Addr} (H : Hp) : Oth a H H := fun _ _ h _ => h
theorem Oth.trans {a : Addr} {H H1 H2 : Hp} (x : Oth a H H1) (y : Oth a H1 H2) : Oth a H H2 := fun b o h n => y b o (x b o h n) n
theorem Oth.of {a : Addr} {H H' : Hp} (s : Same H H') : Oth a H H' := fun b o h _ => s b o h
theorem Oth.put {a : Addr} {H H' : Hp} {o : HO} (x : Oth a H H') : Oth a H (upd H' a o) := fun b u h n => by
  rw [upd_ne n]
  exact x b u h n
theorem Same.new {H : Hp} {p : Addr} {o : HO} (h : H p = none) : Same H (upd H p o) := fun b u e => by
  rw [upd_ne (ne_of_none e h)]
  exact e
end Lamp

/-! ## Tables, pictures, rounds as they stand in the heap -/
namespace Lamp
open PySem PySem.Spec PyProof.Rows L2
theorem op_mulI {X : Cx} : OpR X (binaryOp .Mult) (rI IntMulOk fun i j => .int (i * j)) := opI fun _ _ _ _ _ _ _ hc q => mul_int q hc
theorem mul_ok_bits {i j : Int} (hi : Builtin.Int.intBits i ≤ 4000000) (hj : Builtin.Int.intBits j ≤ 4000000) : IntMulOk i j := by
  have e : bitsLine = 134217728 := by decide
  unfold IntMulOk
  intro z
  rw [Bool.and_eq_true] at z
  have z2 := z.2
  unfold Builtin.Int.intTooBig at z2
  have z3 := of_decide_eq_true z2
  rw [e] at z3
  omega
theorem Oth.ne {a b : Addr} {H H' : Hp} {o u : HO} (x : Oth a H H') (ha : H a = some u) (hb : H b = some o) (h : o ≠ u) : H' b = some o :=
  x b o hb fun e => h (by rw [e, ha] at hb; exact (Option.some.inj hb).symm)
theorem mem_cutV {xs : List V} {lo hi : Option Int} {v : V} {i : Nat} (h : (cutV xs lo hi)[i]? = some v) : v ∈ xs := by
  have h1 := List.mem_of_getElem? h
  unfold cutV at h1
  exact List.mem_of_mem_drop (List.mem_of_mem_take h1)
theorem int_of_mem {ns : List Int} {v : V} (h : v ∈ ns.map V.int) : ∃ z, v = .int z := by
  obtain ⟨z, _, e⟩ := List.mem_map.mp h
  exact ⟨z, e.symm⟩

/-! tables: int keys, int values -/
def dI (t : List (Int × Int)) : List (Key × V) := t.map fun ab => (Sum.inl ab.1, V.int ab.2)
def tget (t : List (Int × Int)) (k : Int) : Option Int := (t.find? fun ab => decide (ab.1 = k)).map (·.2)
def thas (t : List (Int × Int)) (k : Int) : Bool := t.any fun ab => decide (ab.1 = k)
def tput (t : List (Int × Int)) (k v : Int) : List (Int × Int) := if thas t k = true then t.map (fun ab => if ab.1 = k then (ab.1, v) else ab) else t ++ [(k, v)]
def tdel (t : List (Int × Int)) (k : Int) : List (Int × Int) := t.filter fun ab => decide (ab.1 ≠ k)
def keysOf (t : List (Int × Int)) : List Int := t.map (·.1)
theorem inl_dec (a b : Int) : decide ((Sum.inl a : Key) = Sum.inl b) = decide (a = b) := by
  by_cases h : a = b
  · subst h
    simp
  · have h2 : ¬ (Sum.inl a : Key) = Sum.inl b := fun q => h (Sum.inl.inj q)
    rw [decide_eq_false h, decide_eq_false h2]
theorem dI_get : ∀ (t : List (Int × Int)) (k : Int), valV (dI t) (Sum.inl k) = (tget t k).map V.int
  | [], k => rfl
  | ab :: r, k => by
    have ih := dI_get r k
    by_cases h : ab.1 = k
    · have e1 : valV (dI (ab :: r)) (Sum.inl k) = some (V.int ab.2) := valV_pos (p := ((Sum.inl ab.1 : Key), V.int ab.2)) (r := dI r) (by rw [← h])
      have e2 : tget (ab :: r) k = some ab.2 := by simp [tget, List.find?_cons, h]
      rw [e1, e2]
      rfl
    · have e1 : valV (dI (ab :: r)) (Sum.inl k) = valV (dI r) (Sum.inl k) := valV_neg (p := ((Sum.inl ab.1 : Key), V.int ab.2)) (r := dI r) (fun q => h (Sum.inl.inj q))
      have e2 : tget (ab :: r) k = tget r k := by simp [tget, List.find?_cons, h]
      rw [e1, e2, ih]
theorem dI_has (t : List (Int × Int)) (k : Int) : ((dI t).any fun kv => decide (kv.1 = Sum.inl k)) = thas t k := by
  unfold dI thas
  rw [List.any_map]
  congr 1
  funext ab
  exact inl_dec ab.1 k
theorem dI_put (t : List (Int × Int)) (k v : Int) : putK (dI t) (Sum.inl k) (.int v) = dI (tput t k v) := by
  unfold putK tput
  rw [dI_has]
  by_cases h : thas t k = true
  · rw [if_pos h, if_pos h]
    unfold dI
    rw [List.map_map, List.map_map]
    congr 1
    funext ab
    show (if (Sum.inl ab.1 : Key) = Sum.inl k then ((Sum.inl ab.1 : Key), V.int v) else ((Sum.inl ab.1 : Key), V.int ab.2)) = ((Sum.inl (if ab.1 = k then (ab.1, v) else ab).1 : Key), V.int (if ab.1 = k then (ab.1, v) else ab).2)
    by_cases e : ab.1 = k
    · rw [if_pos e, if_pos (by rw [e])]
    · rw [if_neg e, if_neg fun q => e (Sum.inl.inj q)]
  · rw [if_neg h, if_neg h]
    unfold dI
    rw [List.map_append]
    rfl
theorem dI_del (t : List (Int × Int)) (k : Int) : dropK (dI t) (Sum.inl k) = dI (tdel t k) := by
  unfold dropK tdel dI
  rw [List.filter_map]
  congr 1
  congr 1
  funext ab
  show decide ((Sum.inl ab.1 : Key) ≠ Sum.inl k) = decide (ab.1 ≠ k)
  by_cases h : ab.1 = k
  · subst h
    simp
  · have h2 : (Sum.inl ab.1 : Key) ≠ Sum.inl k := fun q => h (Sum.inl.inj q)
    rw [decide_eq_true h2, decide_eq_true h]
theorem dI_keys (t : List (Int × Int)) : (dI t).map (fun kv => kV kv.1) = (keysOf t).map V.int := by
  unfold dI keysOf
  rw [List.map_map, List.map_map]
  rfl
theorem dI_len (t : List (Int × Int)) : (dI t).length = t.length := List.length_map _
theorem thas_mem {t : List (Int × Int)} {k : Int} : thas t k = true ↔ k ∈ keysOf t := by
  unfold thas keysOf
  rw [List.any_eq_true, List.mem_map]
  constructor
  · rintro ⟨ab, h, e⟩
    exact ⟨ab, h, of_decide_eq_true e⟩
  · rintro ⟨ab, h, e⟩
    exact ⟨ab, h, decide_eq_true e⟩
theorem keys_tput (t : List (Int × Int)) (k v : Int) : keysOf (tput t k v) = if thas t k = true then keysOf t else keysOf t ++ [k] := by
  unfold tput
  by_cases h : thas t k = true
  · rw [if_pos h, if_pos h]
    unfold keysOf
    rw [List.map_map]
    congr 1
    funext ab
    show (if ab.1 = k then (ab.1, v) else ab).1 = ab.1
    split <;> rfl
  · rw [if_neg h, if_neg h]
    unfold keysOf
    rw [List.map_append]
    rfl
theorem nodup_tput {t : List (Int × Int)} (k v : Int) (h : (keysOf t).Nodup) : (keysOf (tput t k v)).Nodup := by
  rw [keys_tput]
  by_cases e : thas t k = true
  · rw [if_pos e]
    exact h
  · rw [if_neg e]
    exact nd_snoc h fun m => e (thas_mem.mpr m)
theorem len_tput (t : List (Int × Int)) (k v : Int) : (tput t k v).length ≤ t.length + 1 := by
  unfold tput
  split
  · rw [List.length_map]
    omega
  · rw [List.length_append]
    exact Nat.le_refl _
theorem mem_tput {t : List (Int × Int)} {k v : Int} {ab : Int × Int} (h : ab ∈ tput t k v) : ab ∈ t ∨ ab = (k, v) := by
  unfold tput at h
  split at h
  · obtain ⟨cd, hc, e⟩ := List.mem_map.mp h
    by_cases q : cd.1 = k
    · rw [if_pos q] at e
      right
      rw [← e, q]
    · rw [if_neg q] at e
      left
      rw [← e]
      exact hc
  · rcases List.mem_append.mp h with h | h
    · exact .inl h
    · exact .inr (List.mem_singleton.mp h)
theorem tget_mem {t : List (Int × Int)} {k v : Int} (h : tget t k = some v) : (k, v) ∈ t := by
  unfold tget at h
  cases e : t.find? fun ab => decide (ab.1 = k) with
  | none =>
    rw [e] at h
    cases h
  | some ab =>
    rw [e] at h
    have h1 := List.find?_some e
    have h2 : ab.1 = k := of_decide_eq_true h1
    have h3 : ab.2 = v := Option.some.inj h
    rw [← h2, ← h3]
    exact List.mem_of_find?_eq_some e
theorem tget_of_key {t : List (Int × Int)} {k : Int} (h : k ∈ keysOf t) : ∃ v, tget t k = some v := by
  unfold tget
  cases e : t.find? fun ab => decide (ab.1 = k) with
  | none =>
    rw [List.find?_eq_none] at e
    obtain ⟨ab, ha, q⟩ := List.mem_map.mp h
    exact absurd (decide_eq_true q) (e ab ha)
  | some ab => exact ⟨_, rfl⟩

/-! pictures: tuples of pairs; the tuple itself is a plain object that stays as it is -/
def plainT (its : List Value) : Obj := { cls := .type "tuple", data := .seq its.toArray }
def TupF (H : Hp) (t : Addr) (vs : List V) : Prop := ∃ its : List Value, H t = some (.frz (plainT its) (.tup vs))
theorem sqF {K : PySem.W.Frag} {H : Hp} {a : Addr} {o : Obj} {xs : List V} (h : H a = some (.frz o (.tup xs))) : SqT K H a xs := Or.inl (Or.inr ⟨_, h⟩)
def At2 (H : Hp) (v : V) (ab : Int × Int) : Prop := ∃ q, v = .ref q ∧ H q = some (.tup [.int ab.1, .int ab.2])
def Pic (H : Hp) (t : Addr) (ls : List (Int × Int)) : Prop := ∃ vs, TupF H t vs ∧ Paired (At2 H) vs ls
theorem At2.same {H H' : Hp} {v : V} {ab : Int × Int} (s : Same H H') (h : At2 H v ab) : At2 H' v ab := by
  obtain ⟨q, e, h⟩ := h
  exact ⟨q, e, s _ _ h⟩
theorem Pic.same {H H' : Hp} {t : Addr} {ls : List (Int × Int)} (s : Same H H') (h : Pic H t ls) : Pic H' t ls := by
  obtain ⟨vs, ⟨its, h1⟩, h2⟩ := h
  exact ⟨vs, ⟨its, s _ _ h1⟩, Paired.mapP h2 fun _ _ => At2.same s⟩
theorem Pic.oth {a : Addr} {H H' : Hp} {t : Addr} {ls : List (Int × Int)} {ys : List V} (s : Oth a H H') (ha : H a = some (.lst ys)) (h : Pic H t ls) : Pic H' t ls := by
  obtain ⟨vs, ⟨its, h1⟩, h2⟩ := h
  exact ⟨vs, ⟨its, s.ne ha h1 fun e => by cases e⟩, Paired.mapP h2 fun _ _ ⟨q, e, h⟩ => ⟨q, e, s.ne ha h fun e => by cases e⟩⟩
/-- a right picture of p levels, its places of moderate size -/
structure Good (p : Int) (ls : List (Int × Int)) : Prop where
  asc : (keysOf ls).Pairwise (· < ·)
  lev : ∀ ab ∈ ls, 0 < ab.2 ∧ ab.2 < p
/-- numbers whose texts fit -/
def Fin1 (i : Int) : Prop := -(10 ^ 200) < i ∧ i < 10 ^ 200
end Lamp
namespace Lamp
open PySem PySem.Spec PyProof.Rows L2
theorem Paired.snoc {α β : Type} {F : α → β → Prop} : ∀ {l₁ : List α} {l₂ : List β} {a : α} {b : β}, Paired F l₁ l₂ → F a b → Paired F (l₁ ++ [a]) (l₂ ++ [b])
  | _, _, _, _, .nil, h => .cons h .nil
  | _, _, _, _, .cons r t, h => .cons r (Paired.snoc t h)
/-- a list at D, new since H0, that holds new pairs -/
structure Grow (H0 : Hp) (D : Addr) (H : Hp) (vs : List V) (ls : List (Int × Int)) : Prop where
  new : H0 D = none
  lst : H D = some (.lst vs)
  all : Paired (At2 H) vs ls
  same : Same H0 H
theorem Grow.start {H0 : Hp} {D : Addr} (h : H0 D = none) : Grow H0 D (upd H0 D (.lst [])) [] [] := ⟨h, upd_same, .nil, Same.new h⟩
theorem Grow.more {H0 H : Hp} {D : Addr} {vs : List V} {ls : List (Int × Int)} (g : Grow H0 D H vs ls) {q : Addr} (hq : H q = none) (a b : Int) :
    Grow H0 D (upd (upd H q (.tup [.int a, .int b])) D (.lst (vs ++ [.ref q]))) (vs ++ [.ref q]) (ls ++ [(a, b)]) := by
  have nDq : q ≠ D := (ne_of_none g.lst hq).symm
  refine ⟨g.new, upd_same, Paired.snoc (Paired.mapP g.all ?_) ⟨q, rfl, ?_⟩, ?_⟩
  · rintro v ab ⟨r, e, h⟩
    refine ⟨r, e, ?_⟩
    have n1 : r ≠ D := ne_of h g.lst (fun c => by cases c)
    have n2 : r ≠ q := ne_of_none h hq
    rw [upd_ne n1, upd_ne n2]
    exact h
  · rw [upd_ne nDq, upd_same]
  · intro b o e
    have n1 : b ≠ D := ne_of_none e g.new
    have n2 : b ≠ q := ne_of_none (g.same _ _ e) hq
    rw [upd_ne n1, upd_ne n2]
    exact g.same _ _ e
theorem take_more {α : Type} : ∀ {l : List α} {i : Nat} {x : α}, l[i]? = some x → l.take (i + 1) = l.take i ++ [x]
  | [], i, x, h => by simp at h
  | a :: l, 0, x, h => by
    have e : a = x := Option.some.inj h
    subst e
    rfl
  | a :: l, i + 1, x, h => by
    have ih := take_more (l := l) (i := i) (x := x) h
    show a :: l.take (i + 1) = a :: l.take i ++ [x]
    rw [ih]
    rfl
theorem Paired.len {α β : Type} {F : α → β → Prop} {l₁ : List α} {l₂ : List β} (h : Paired F l₁ l₂) : l₁.length = l₂.length := PySem.Paired.length h
theorem int_at {ns : List Int} {i : Nat} {v : V} (h : (ns.map V.int)[i]? = some v) : ∃ z, ns[i]? = some z ∧ v = .int z := by
  rw [List.getElem?_map] at h
  cases e : ns[i]? with
  | none =>
    rw [e] at h
    cases h
  | some z =>
    rw [e] at h
    exact ⟨z, rfl, (Option.some.inj h).symm⟩
/-- strictly rising: in order and all different -/
theorem rising {ns : List Int} (h : ns.Pairwise (· ≤ ·)) (n : ns.Nodup) : ns.Pairwise (· < ·) := by
  induction ns with
  | nil => exact List.Pairwise.nil
  | cons a r ih =>
    rw [List.pairwise_cons] at h ⊢
    rw [List.nodup_cons] at n
    exact ⟨fun b hb => by
      have h1 := h.1 b hb
      have h2 : a ≠ b := fun e => n.1 (e ▸ hb)
      omega, ih h.2 n.2⟩
theorem map_fst_pair {α : Type} (f : Int → α) (ns : List Int) : (ns.map fun k => (k, f k)).map (·.1) = ns := by
  rw [List.map_map]
  exact List.map_id' ns
end Lamp

/-! ## Texts of numbers and of rounds -/
namespace Lamp
open PySem PySem.Spec PyProof.Rows L2 TL
def iS (i : Int) : Str := Str.ofString (toString i)
/-- the signs of a number, also below 0 -/
def numS (i : Int) : List Nat := if i < 0 then 45 :: numL i.natAbs else numL i.natAbs
theorem ofString_append (a b : String) : tl (Str.ofString (a ++ b)) = tl (Str.ofString a) ++ tl (Str.ofString b) := by
  show (Str.ofString (a ++ b)).cps.toList = (Str.ofString a).cps.toList ++ (Str.ofString b).cps.toList
  rw [signs_ofString, signs_ofString, signs_ofString, String.toList_append, List.map_append]
theorem tl_iS (i : Int) : tl (iS i) = numS i := by
  unfold iS numS
  by_cases h : i < 0
  · rw [if_pos h]
    obtain ⟨n, rfl⟩ : ∃ n : Nat, i = -((n : Int) + 1) := ⟨(-i - 1).toNat, by omega⟩
    have e1 : toString (-((n : Int) + 1)) = "-" ++ toString ((n + 1 : Nat) : Int) := by
      have e0 : -((n : Int) + 1) = Int.negSucc n := by omega
      rw [e0]
      rfl
    have e2 : (-((n : Int) + 1)).natAbs = n + 1 := by omega
    rw [e1, ofString_append, e2, tl_num]
    rfl
  · rw [if_neg h]
    obtain ⟨n, rfl⟩ : ∃ n : Nat, i = (n : Int) := ⟨i.toNat, by omega⟩
    rw [tl_num]
    rfl
theorem numS_free {i : Int} {s : Nat} (h : s < 45 ∨ 57 < s) : s ∉ numS i := by
  unfold numS
  split
  · intro m
    rcases List.mem_cons.mp m with m | m
    · omega
    · exact numL_free (by omega) m
  · exact numL_free (by omega)
theorem numS_inj {i j : Int} (h : numS i = numS j) : i = j := by
  unfold numS at h
  have no : ∀ {m n : Nat}, 45 :: numL m ≠ numL n := by
    intro m n e
    have : 45 ∈ numL n := by
      rw [← e]
      exact List.mem_cons_self ..
    exact numL_free (Or.inl (by decide)) this
  split at h
  · split at h
    · have e := numL_inj (List.cons.inj h).2
      omega
    · exact absurd h no
  · split at h
    · exact absurd h.symm no
    · have e := numL_inj h
      omega
theorem Fin1.nat {i : Int} (h : Fin1 i) : i.natAbs < 10 ^ 200 := by
  obtain ⟨h1, h2⟩ := h
  have e : ((10 ^ 200 : Nat) : Int) = 10 ^ 200 := by decide +kernel
  omega
theorem numS_len {i : Int} (h : Fin1 i) : (numS i).length ≤ 201 := by
  have e := numL_len (n := i.natAbs) (k := 200) (by decide) h.nat
  unfold numS
  split
  · rw [List.length_cons]
    omega
  · omega
theorem numS_ne (i : Int) : numS i ≠ [] := by
  unfold numS
  split
  · simp
  · exact numL_ne _
theorem iS_len {i : Int} (h : Fin1 i) : (iS i).length ≤ 201 := by
  rw [len_tl, tl_iS]
  exact numS_len h
theorem log_lt {n k : Nat} (h : n < 2 ^ k) (hk : 0 < k) : n.log2 < k := PySem.Flt.log2_lt_of hk h
theorem Fin1.log {i : Int} (h : Fin1 i) : i.natAbs.log2 < 1920 := by
  refine Nat.lt_of_lt_of_le (log_lt (k := 700) (Nat.lt_of_lt_of_le h.nat ?_) (by decide)) (by decide)
  decide +kernel
theorem int_iS {i : Int} (h : Fin1 i) : intText? (iS i) = some i := by
  have hl := iS_len h
  by_cases hn : i < 0
  · have e : tl (iS i) = 45 :: numL i.natAbs := by
      rw [tl_iS]
      unfold numS
      rw [if_pos hn]
    have z := intText_neg (x := iS i) (cs := numL i.natAbs) e (numL_digits _) (numL_ne _) (by omega)
    rw [z, numL_val]
    congr 1
    omega
  · obtain ⟨n, rfl⟩ : ∃ n : Nat, i = (n : Int) := ⟨i.toNat, by omega⟩
    refine int_num ?_
    have e := numS_len h
    unfold numS at e
    rw [if_neg hn] at e
    exact Nat.le_trans e (by decide)
theorem str_eq {a b : Str} (h : tl a = tl b) : a = b := ext_tl h
theorem iS_inj {i j : Int} (h : iS i = iS j) : i = j := by
  have e := congrArg tl h
  rw [tl_iS, tl_iS] at e
  exact numS_inj e

/-! the words of a round -/
def colon : Str := ":"
def space : Str := " "
def lampW (ab : Int × Int) : Str := iS ab.1 ++ colon ++ iS ab.2
def wordsT (p : Int) (ls : List (Int × Int)) (e : Int) : List Str := (("levels" : Str) :: iS p :: ("end" : Str) :: iS e :: (if ls = [] then ("dark" : Str) else ("lamps" : Str)) :: ls.map lampW)
def textT (p : Int) (ls : List (Int × Int)) (e : Int) : Str := Txt.join space (wordsT p ls e)
theorem tl_space : tl space = [32] := by decide +kernel
theorem tl_colon : tl colon = [58] := by decide +kernel
theorem tl_lampW (ab : Int × Int) : tl (lampW ab) = numS ab.1 ++ [58] ++ numS ab.2 := by
  unfold lampW
  rw [tl_append, tl_append, tl_iS, tl_iS, tl_colon]
theorem lampW_free {ab : Int × Int} : 32 ∉ tl (lampW ab) := by
  rw [tl_lampW]
  intro m
  rcases List.mem_append.mp m with m | m
  · rcases List.mem_append.mp m with m | m
    · exact numS_free (by omega) m
    · simp at m
  · exact numS_free (by omega) m
theorem words_free {p : Int} {ls : List (Int × Int)} {e : Int} : ∀ y ∈ wordsT p ls e, 32 ∉ tl y := by
  intro y hy
  unfold wordsT at hy
  rcases List.mem_cons.mp hy with rfl | hy
  · decide +kernel
  rcases List.mem_cons.mp hy with rfl | hy
  · rw [tl_iS]
    exact numS_free (by omega)
  rcases List.mem_cons.mp hy with rfl | hy
  · decide +kernel
  rcases List.mem_cons.mp hy with rfl | hy
  · rw [tl_iS]
    exact numS_free (by omega)
  rcases List.mem_cons.mp hy with rfl | hy
  · split <;> decide +kernel
  · obtain ⟨ab, _, rfl⟩ := List.mem_map.mp hy
    exact lampW_free
theorem split_text (p : Int) (ls : List (Int × Int)) (e : Int) : Txt.split (textT p ls e) space = wordsT p ls e := by
  refine split_join (s := 32) (S := []) tl_space (by decide +kernel) (by unfold wordsT; simp) words_free
theorem split_lamp (ab : Int × Int) : Txt.split (lampW ab) colon = [iS ab.1, iS ab.2] := by
  have e : lampW ab = Txt.join colon [iS ab.1, iS ab.2] := by
    rw [join_eq]
    rfl
  rw [e]
  refine split_join (s := 58) (S := []) tl_colon (by decide +kernel) (by simp) ?_
  intro y hy
  simp only [List.mem_cons, List.not_mem_nil, or_false] at hy
  rcases hy with rfl | rfl
  · rw [tl_iS]
    exact numS_free (by omega)
  · rw [tl_iS]
    exact numS_free (by omega)
theorem lampW_inj {ab cd : Int × Int} (h : lampW ab = lampW cd) : ab = cd := by
  have e := congrArg (fun z => Txt.split z colon) h
  simp only [split_lamp] at e
  injection e with e1 e2
  injection e2 with e2 e3
  exact Prod.ext (iS_inj e1) (iS_inj e2)
theorem map_inj {α β : Type} {f : α → β} (hf : ∀ a b, f a = f b → a = b) : ∀ {l m : List α}, l.map f = m.map f → l = m
  | [], [], _ => rfl
  | [], b :: m, h => by simp at h
  | a :: l, [], h => by simp at h
  | a :: l, b :: m, h => by
    rw [List.map_cons, List.map_cons] at h
    injection h with h1 h2
    rw [hf a b h1, map_inj hf h2]
/-- unlike rounds have unlike texts -/
theorem textT_inj {p p' e e' : Int} {ls ls' : List (Int × Int)} (h : textT p ls e = textT p' ls' e') : p = p' ∧ ls = ls' ∧ e = e' := by
  have z := congrArg (fun z => Txt.split z space) h
  simp only [split_text] at z
  unfold wordsT at z
  injection z with _ z
  injection z with z1 z
  injection z with _ z
  injection z with z2 z
  injection z with _ z3
  exact ⟨iS_inj z1, map_inj (fun _ _ => lampW_inj) z3, iS_inj z2⟩
theorem join_cons (y a b : Str) (r : List Str) : Txt.join y (a :: b :: r) = a ++ y ++ Txt.join y (b :: r) := by
  rw [join_eq, join_eq]
  rfl
theorem app_assoc (a b c : Str) : a ++ b ++ c = a ++ (b ++ c) := str_eq (by rw [tl_append, tl_append, tl_append, tl_append, List.append_assoc])
theorem join_one (y a : Str) : Txt.join y [a] = a := by
  rw [join_eq]
  rfl
/-- the text, put together from the left -/
theorem textT_glued (p : Int) (ls : List (Int × Int)) (e : Int) :
    ("levels " : Str) ++ iS p ++ (" end " : Str) ++ iS e ++ space ++ (if ls = [] then ("dark" : Str) else ("lamps " : Str) ++ Txt.join space (ls.map lampW)) = textT p ls e := by
  have e1 : ("levels " : Str) = ("levels" : Str) ++ space := by decide +kernel
  have e2 : (" end " : Str) = space ++ ("end" : Str) ++ space := by decide +kernel
  have e3 : ("lamps " : Str) = ("lamps" : Str) ++ space := by decide +kernel
  unfold textT wordsT
  rw [join_cons, join_cons, join_cons, join_cons, e1, e2]
  cases ls with
  | nil =>
    rw [if_pos rfl, if_pos rfl, List.map_nil, join_one]
    simp only [app_assoc]
  | cons ab r =>
    rw [if_neg (by simp), if_neg (by simp), List.map_cons, join_cons, e3]
    simp only [app_assoc]
end Lamp

/-! ## Instances with slots: str, len, repr, truth, != by their own defs -/
namespace Lamp
open PySem PySem.Spec PyProof.Rows L2 SlX
section
variable {M : Model} {prog : Program} {w : World} {A : Around} {E : Value → Shared → Prop} {s : Shared} {K : PySem.W.Frag} {x C f : Addr} {ox : Obj} {od : Option Obj} {b tb : Value}
/-- a special method that is a built-in one, called if it is there -/
theorem ifBound_blt {name : Str} {id : String} {more : List Value} {Q : Option Value → Shared → Prop} (X : K.In s.heap) (I : PySem.W.InstAt s.heap x ox C od) (hs : PySem.W.findIn K (.ref C) name = some (some (.builtin id)))
    (bd : ∀ self, bindSpecial (.builtin id) self = pure (.builtin id, [self])) (go : wpAny M A (call (.builtin id) (.ref x :: more)) (fun v => Q (some v)) E s) :
    wpAny M A (callSpecialIfBound? (.ref x) name more) Q E s := by
  unfold callSpecialIfBound? bindSpecialIfBound?
  refine wpAny_holding (wpAny_bind ?_)
  refine wpAny_bind (wpAny_bind (I.type.here ((PySem.W.looks_findIn X hs).here ?_)))
  have last : wpAny M A (call (.builtin id) ([.ref x] ++ more) >>= fun v => pure (some v)) Q E s := wpAny_bind (thn go fun _ _ z => wpAny_pure z)
  have here : wpAny M A (bindSpecial (.builtin id) (.ref x)) (fun r s' => wpAny M A (call r.1 (r.2 ++ more) >>= fun v => pure (some v)) Q E s') E s := by
    rw [bd]
    exact wpAny_pure last
  refine wpAny_bind (wpAny_askSetting (wpAny_ite ?_))
  split
  · exact wpAny_bind (thn here fun r s' z => wpAny_pure z)
  · exact wpAny_tryCatch (wpAny_bind (by rw [bd]; exact wpAny_pure (wpAny_pure (by exact last))))
/-- object.__ne__ over an own __eq__ -/
theorem ne_call {Q : Value → Shared → Prop} (hu : A.in1.units < cLine) (X : K.In s.heap) (I : PySem.W.InstAt s.heap x ox C od) (hm : PySem.W.mroIn K C (.type "object") = some true)
    (he : PySem.W.findIn K (.ref C) "__eq__" = some (some (.ref f))) (hf : PySem.W.isFn K (.ref f) = true)
    (go : wpAny (model prog w) A.in1 (call (.ref f) [.ref x, b]) (fun v s' => ∃ c, v = .bool c ∧ Q (.bool (!c)) s') E s) : wpAny (model prog w) A (call (.builtin "object.__ne__") [.ref x, b]) Q E s := by
  have chk := fun (M : Model) (A : Around) (E : Value → Shared → Prop) (q : Unit → Shared → Prop) => PySem.W.check_slot (M := M) (A := A) (E := E) (s := s) (i := "object.__ne__") (owner := "object") (n := "__ne__") (self := .ref x) (rest := [b]) (kw := []) (Q := q) F.cmpKind_ne F.cmpSplit_ne
    (I.type.andThen (PySem.W.looks_mroIn X hm)) (F.cmpArgs_ne _ _)
  refine wpAny_call (codeAny_call_builtin F.cmp_object.ne.plain F.cmpEntry_ne (chk _ _ _ _ ?_))
  unfold Builtin.«object.__ne__»
  refine wpAny_bind (m := slotArgs "__ne__" 1 _) (wpAny_pure ?_)
  refine wpAny_bind (m := cRoomFor _ _) (wpAny_cRoomFor hu ?_)
  refine wpAny_bind (m := callSpecialIfBound? (.ref x) (Str.ofString "__eq__") _) ?_
  refine PySem.W.ifBound_K X I he hf (wpAny_mono go ?_ fun _ _ y => y)
  rintro r s' ⟨c, rfl, q⟩
  show wpAny _ _ (truthy (.bool c) >>= _) _ _ _
  exact wpAny_bind (wpAny_truthy_bool (wpAny_pure q))
theorem ne_own {Q : Value → Shared → Prop} (hu0 : A.units < cLine) (hu : A.in1.units < cLine) (X : K.In s.heap) (I : PySem.W.InstAt s.heap x ox C od) (hb : PySem.W.Looks (model prog w) s.heap (typeOf b) tb) (hn : PySem.W.notFirst K C tb = true) (hm : PySem.W.mroIn K C (.type "object") = some true)
    (hne : PySem.W.findIn K (.ref C) "__ne__" = some (some (.builtin "object.__ne__"))) (he : PySem.W.findIn K (.ref C) "__eq__" = some (some (.ref f))) (hf : PySem.W.isFn K (.ref f) = true)
    (go : wpAny (model prog w) A.in1 (call (.ref f) [.ref x, b]) (fun v s' => ∃ c, v = .bool c ∧ Q (.bool (!c)) s') E s) : wpAny (model prog w) A (richCompare .NotEq (.ref x) b) Q E s := by
  have one : wpAny (model prog w) A (tryCompare (.ref x) (cmpInfo .NotEq).2.1 b) (fun r s' => ∃ v, r = some v ∧ Q v s') E s := by
    unfold tryCompare
    refine wpAny_bind (ifBound_blt X I hne F.cmp_object.ne.bind (ne_call hu X I hm he hf (wpAny_mono go ?_ fun _ _ y => y)))
    rintro v s' ⟨c, rfl, q⟩
    exact ⟨c, rfl, wpAny_pure ⟨_, rfl, q⟩⟩
  have two : ∀ {R : Value → Shared → Prop} {g : Option Value → Sem Value}, (∀ v s', Q v s' → wpAny (model prog w) A (g (some v)) R E s') → wpAny (model prog w) A (tryCompare (.ref x) (cmpInfo .NotEq).2.1 b >>= g) R E s := by
    intro R g hg
    refine wpAny_bind (wpAny_mono one ?_ fun _ _ y => y)
    rintro r s' ⟨v, rfl, q⟩
    exact hg v s' q
  unfold richCompare
  simp only [oneThing_ref]
  refine wpAny_holding ?_
  refine wpAny_bind (wpAny_cRoomFor hu0 ?_)
  refine wpAny_bind (I.type.here ?_)
  refine wpAny_bind (hb.here ?_)
  by_cases q : (Value.ref C != tb) = true
  · have e : PySem.W.subIn K tb (.ref C) = some false := by
      rcases Bool.or_eq_true_iff.mp hn with e | e
      · rw [beq_iff_eq.mp e] at q
        simp at q
      · exact beq_iff_eq.mp e
    rw [if_pos q]
    refine wpAny_bind ((PySem.W.looks_subIn X e).here ?_)
    simp only [Bool.false_eq_true, if_false]
    exact two fun v s' z => wpAny_pure z
  · rw [if_neg q]
    refine wpAny_bind (wpAny_pure ?_)
    simp only [Bool.false_eq_true, if_false]
    exact two fun v s' z => wpAny_pure z
end
section
variable {X : Cx} {CX : CXT} {C g : Addr} {n : Nat} {sp : Sp} {E : XK}
/-- str(x) of an instance with slots whose class has __str__ at g -/
def rStrOwn (C : Addr) (sp : Sp) (E : XK) : List V → Hp → VK → Prop := fun xs H Q => ∃ a dx vs, xs = [V.ref a] ∧ Slt H a C dx vs ∧ sp [.ref a] H (fun z H' => ∃ y, z = .str y ∧ Q z H') E
theorem strback {Q : Value → Shared → Prop} {v : Value} {s' : Shared} {y : Str} {t : Tok} (e : v = .str y t) (h : Q v s') : PySem.W.StrBack Q v s' := by
  subst e
  exact h
theorem call_strOwn (hs : PySem.W.findIn X.K (.ref C) "__str__" = some (some (.ref g))) (hf : PySem.W.isFn X.K (.ref g) = true) (F : FnR X.prog X.w X.K X.mg X.base CX n g sp) (hr : Room (n + 2) X.A) (hx : Passes CX X E) : CallR X (.type "str") (rStrOwn C sp E) := by
  intro pins s σ H xs us Q I r h
  obtain ⟨a, dx, vs, rfl, hsl, q⟩ := h
  obtain ⟨u, rfl, ru⟩ := vals1 r
  obtain rfl : u = Value.ref a := ru
  obtain ⟨sl, od, _, J, _⟩ := slt_inst I hsl
  have r1 : Room (n + 1) X.A.in1 := Room.in1 hr
  have r2 : Room n X.A.in1.in1 := Room.in1 r1
  refine PySem.W.kso_call r2.units0 I.kIn J hs hf (wpAny_mono (wpAny_call (run_at (us := [.ref a]) (ws := [.ref a]) F r2 I.env0.in1.in1 hx I (.cons rfl .nil) q)) ?_ fun _ _ y => y)
  rintro v s' ⟨z, H', I', rz, y, ez, qz⟩
  subst ez
  obtain ⟨t, e⟩ := (show ∃ t, v = Value.str y t from rz)
  exact strback e ⟨.str y, H', I', ⟨t, e⟩, qz⟩
/-- x != y, x an instance with slots whose class has __eq__ at g, y an instance too -/
def rNeOwn (K : PySem.W.Frag) (C : Addr) (sp : Sp) (E : XK) : R2 := fun x y H Q => ∃ a dx vs b C' dy ws, x = .ref a ∧ y = .ref b ∧ Slt H a C dx vs ∧ Slt H b C' dy ws ∧ PySem.W.notFirst K C (.ref C') = true ∧ sp [x, y] H (fun z H' => ∃ c, z = .bl c ∧ Q (.bl (!c)) H') E
theorem op_neOwn (hm : PySem.W.mroIn X.K C (.type "object") = some true) (hne : PySem.W.findIn X.K (.ref C) "__ne__" = some (some (.builtin "object.__ne__"))) (hs : PySem.W.findIn X.K (.ref C) "__eq__" = some (some (.ref g))) (hf : PySem.W.isFn X.K (.ref g) = true)
    (F : FnR X.prog X.w X.K X.mg X.base CX n g sp) (hr : Room (n + 1) X.A) (hx : Passes CX X E) : OpR X (compareOp .NotEq) (rNeOwn X.K C sp E) := by
  intro pins s σ H x y v u Q I rx ry h
  obtain ⟨a, dx, vs, b, C', dy, ws, rfl, rfl, ha, hb, hn, q⟩ := h
  cases (show v = Value.ref a from rx)
  cases (show u = Value.ref b from ry)
  obtain ⟨sl, od, _, J, _⟩ := slt_inst I ha
  obtain ⟨sl', od', _, J', _⟩ := slt_inst I hb
  have r1 : Room n X.A.in1 := Room.in1 hr
  unfold compareOp
  refine ne_own hr.units0 r1.units0 I.kIn J J'.type hn hm hne hs hf (wpAny_mono (wpAny_call (run_at (us := [.ref a, .ref b]) (ws := [.ref a, .ref b]) F r1 I.env0.in1 hx I (.cons rfl (.cons rfl .nil)) q)) ?_ fun _ _ y => y)
  rintro v s' ⟨z, H', I', rz, c, ez, qz⟩
  subst ez
  exact ⟨c, rz, .bl (!c), H', I', rfl, qz⟩
end
end Lamp

/-! ## enumerate over a tuple -/
namespace Lamp
open PySem PySem.Spec PyProof.Rows L2
set_option maxHeartbeats 1000000 in
theorem meets_enumT {v : Value} {o : Obj} {H : Heap → Prop} (B : Begins v o H) :
    Meets (Builtin.«enumerate.__new__» ⟨[.type "enumerate", v], []⟩) (fun _ R s => H s.heap ∧
      R (.ok (.ret (.ref (s.heap.push o).objs.size))) { s with heap := (s.heap.push o).push { cls := .type "enumerate", data := .fields #[.none, .bool false, .ref s.heap.objs.size, rawInt 0, .none, .none] } }) :=
  .of_wp fun prog w A R s h => by
    obtain ⟨hp, g, d, tk, os⟩ := s
    obtain ⟨h1, h⟩ := h
    have hsub := sub_enumerate
    have q1 : ∀ {A' : Around} {E : Value → Shared → Prop} {Q : Value → Shared → Prop}, Q (.ref hp.objs.size) ⟨hp.push o, g, d, tk, os⟩ → wpAny (model prog w) A' (pyIter v) Q E ⟨hp, g, d, tk, os⟩ :=
      fun q => B.iter prog w _ _ ⟨hp, g, d, tk, os⟩ _ h1 q
    wp_walk using q1
    refine wpAny_stack_any fun st => wpAny_pure ?_
    split
    · rename_i c _ _ _ _ _
      cases (c == Value.type "enumerate")
      · wp_walk using q1
        exact ⟨_, rfl, h⟩
      · wp_walk using q1
        exact ⟨_, rfl, h⟩
    · wp_walk using q1
      exact ⟨_, rfl, h⟩
theorem call_enumT {prog : Program} {w : World} {A : Around} {E : Value → Shared → Prop} {s : Shared} {v : Value} {o : Obj} {H : Heap → Prop} {Q : Value → Shared → Prop} (B : Begins v o H) (h1 : H s.heap)
    (h : ∀ h', IsEnum h' (s.heap.objs.size + 1) s.heap.objs.size 0 .none → h'.get? s.heap.objs.size = some o → (∀ b o, s.heap.get? b = some o → h'.get? b = some o) → Q (.ref (s.heap.objs.size + 1)) { s with heap := h' }) :
    wpAny (model prog w) A (call (.type "enumerate") [v]) Q E s := by
  refine callType_new F.called_enumerate (by decide) (F.typeCall_enumerate_1 _) (F.newCall_enumerate_1 _) (fun obj => F.args_object_init_2 obj _) F.entry_enumerate_new (meets_enumT B) ⟨h1, ?_⟩
  have hz : (s.heap.push o).objs.size = s.heap.objs.size + 1 := Heap.size_push ..
  show _ ∧ _
  rw [hz]
  have he : IsEnum ((s.heap.push o).push { cls := .type "enumerate", data := .fields #[.none, .bool false, .ref s.heap.objs.size, rawInt 0, .none, .none] }) (s.heap.objs.size + 1) s.heap.objs.size 0 .none := by
    have := Heap.get?_push_size (s.heap.push o) (o := { cls := .type "enumerate", data := .fields #[.none, .bool false, .ref s.heap.objs.size, rawInt 0, .none, .none] }) rfl
    rw [hz] at this
    exact this
  exact ⟨⟨_, he, rfl⟩, h _ he (Heap.get?_push_of_some _ (Heap.get?_push_size _ B.free)) fun b o x => Heap.get?_push_of_some _ (Heap.get?_push_of_some _ x)⟩
/-- the tuple at a, each item in a new pair with its number -/
def ItE (K : PySem.W.Frag) (a : Addr) : It :=
  ⟨fun i H => ∃ (xs : List V) (x : V), SqT K H a xs ∧ xs[i]? = some x, fun i H v H' => ∃ T x, v = .ref T ∧ H T = none ∧ H' = upd H T (.tup [.int (i : Nat), x]) ∧ ∀ xs, SqT K H a xs → xs[i]? = some x, fun i H => ∃ xs : List V, SqT K H a xs ∧ xs.length = i⟩
theorem turn_enumT {P : Program} {w : World} {K : PySem.W.Frag} {elts : List Expr} {kk : Nat} {tpos : Pos} (a e it : Addr) (hne : e ≠ it) (hai : a ≠ it) (hae : a ≠ e) :
    Turn P w K (.Tuple elts kk tpos) (ItE K a) [e, it] e (fun i h => (∃ old, IsEnum h e it ((i : Nat) : Int) old) ∧ h.IsTupleIter it a i) where
  mem := by simp
  obj := fun i h st b hb => by
    obtain ⟨⟨old, he⟩, ⟨o, ho, hc, hd⟩⟩ := st
    have e' : b = e ∨ b = it := by simpa using hb
    rcases e' with z | z
    · rw [z]
      exact ⟨_, he, fun v q => nomatch q⟩
    · rw [z]
      exact ⟨o, ho, fun v q => by rw [hd] at q; cases q⟩
  keep := fun i h h' st k => let ⟨⟨old, he⟩, hi⟩ := st; ⟨⟨old, k e (by simp) _ he⟩, hi.at fun o q => k it (by simp) o q⟩
  item := by
    intro X hP hw hK hc i pins s σ H E I hf st hg
    subst hP hw hK
    obtain ⟨⟨old, he⟩, hit⟩ := st
    obtain ⟨xs, x, hq, hx⟩ := hg
    obtain ⟨its, rv, p, hz⟩ := I.tuple hq
    obtain ⟨u, hu, ru⟩ := rv.get hx
    have pt : s.heap.IsTuple a its.toArray := p
    have hel : e < s.heap.objs.size := Heap.lt_size he
    have hil : it < s.heap.objs.size := by obtain ⟨_, q, _⟩ := hit; exact Heap.lt_size q
    have hlt : i < its.toArray.size := by
      have h1 := (List.getElem?_eq_some_iff.mp hu).1
      simpa using h1
    have D : Draws X.prog X.w X.A.in1 it [it, a] its.toArray.size (fun i v => its.toArray[i]? = some v) (fun i h => h.IsTupleIter it a i ∧ h.IsTuple a its.toArray) := Draws.tuple (A := X.A.in1) (I.ok.hd hc) it a hai its.toArray
    refine wpAny_pyNext_enum_itemD D he ⟨hit, pt⟩ hlt hne (by simp [hne, Ne.symm hae]) fun x' h' tk hP ho hst' hT hsz hk => ?_
    obtain ⟨hit', _⟩ := hst'
    have ex : u = x' := by
      have h1 : its.toArray[i]? = some u := by simpa using hu
      have h2 : its.toArray[i]? = some x' := hP
      rw [h1] at h2
      exact Option.some.inj h2
    subst ex
    refine ⟨_, rfl, wpAny_letOwnedTupleGo_enum (s := { s with heap := h', toks := tk + 1 }) ho fun h'' he' sb => ?_⟩
    have hT2 : h''.get? s.heap.objs.size = some { cls := .type "tuple", data := .seq #[.int i tk, u] } := (sb.2 _ (Nat.ne_of_gt hel)).trans hT
    have new : ObjOk X.prog X.w (upd H s.heap.objs.size (.tup [.int (i : Nat), x])) h'' s.heap.objs.size (.tup [.int (i : Nat), x]) :=
      ⟨by show 2 ≤ sizeLine; decide, [.int i tk, u], .cons ⟨_, rfl⟩ (.cons ru .nil), ⟨_, hT2, rfl, _, rfl⟩⟩
    have I1 : Inv X pins σ (upd H s.heap.objs.size (.tup [.int (i : Nat), x])) { s with heap := h'', toks := tk + 1 } :=
      I.turnedNew (ch := [e, it]) (fun b ob hb q => (sb.2 b (fun z => hb (by simp [z]))).trans (hk b ob (fun z => hb (by simp [z])) (fun z => hb (by simp [z])) q)) hf (Nat.le_refl _) new
    refine ⟨.ref s.heap.objs.size, _, I1, rfl, ⟨_, x, rfl, I.hok.fresh (Nat.le_refl _), rfl, fun ys hy => by rw [I.tuple_inj hy hq]; exact hx⟩, ⟨⟨u, ?_⟩, hit'.at fun o q => (sb.2 it (Ne.symm hne)).trans q⟩, fun b hb => ?_⟩
    · have e1 : ((i + 1 : Nat) : Int) = (i : Int) + 1 := by omega
      rw [e1]
      exact he'
    · have hb' : b < s.heap.objs.size := by
        have e' : b = e ∨ b = it := by simpa using hb
        rcases e' with z | z
        · rw [z]
          exact hel
        · rw [z]
          exact hil
      rw [upd_ne (Nat.ne_of_lt hb')]
      exact (hf b hb).1
  done := by
    intro X hP hw hK hc i pins s σ H E I hf st hg
    subst hP hw hK
    obtain ⟨⟨old, he⟩, hit⟩ := st
    obtain ⟨xs, hq, hx⟩ := hg
    obtain ⟨its, rv, p, hz⟩ := I.tuple hq
    have pt : s.heap.IsTuple a its.toArray := p
    obtain ⟨f0, f1, f2, f3, f4, f5⟩ := hf it (by simp)
    have hl := rv.length
    have hi : i = its.toArray.size := by
      rw [List.size_toArray]
      omega
    subst hi
    have D : Draws X.prog X.w X.A.in1 it [it, a] its.toArray.size (fun i v => its.toArray[i]? = some v) (fun i h => h.IsTupleIter it a i ∧ h.IsTuple a its.toArray) := Draws.tuple (A := X.A.in1) (I.ok.hd hc) it a hai its.toArray
    exact wpAny_pyNext_enum_endD D he ⟨hit, pt⟩ fun h' eb => ⟨rfl, I.turned (t' := s.toks) (fun b o hb q => eb b o hb q) f0 f1 f3 f4 f5⟩
  self := fun A i s Q E st h => let ⟨⟨_, he⟩, _⟩ := st; wpAny_pyIter_enum he h
def iEnumT (K : PySem.W.Frag) (ta : TA) : TI := fun σ H R => ta σ H fun vs H1 => ∃ a xs, vs = [.ref a] ∧ SqT K H1 a xs ∧ R (ItE K a) H1
theorem pi_enumT {X : Cx} {e : Expr} {ta : TA} {p pos tpos : Pos} {elts : List Expr} {kk : Nat} (hg : Gl X "enumerate") (hm : X.mg "enumerate" = none) (ha : PA X [e] ta) (hs : starEach [e] X.env = [(false, eval e X.env)] := by rfl) :
    PI X (.Tuple elts kk tpos) (.Call (.Name "enumerate" p) [e] [] pos) (iEnumT X.K ta) := by
  refine ⟨fun pins s σ H R I h => ?_⟩
  refine Call_ (ld_blt I hg hm boot_enumerate (PyProof.Rows.callWith_type1 (thn (ha.run pos pins s σ H _ I h) fun us s1 ⟨vs, H1, I1, r1, q1⟩ => ?_) hs rfl))
  obtain ⟨a, xs, ex, hq, q⟩ := q1
  subst ex
  cases r1 with
  | cons r rr =>
    cases rr
    cases r
    obtain ⟨its, rv, p', hz⟩ := I1.tuple hq
    have pt : s1.heap.IsTuple a its.toArray := p'
    have hlt : a < s1.heap.objs.size := by
      obtain ⟨_, q, _⟩ := pt
      exact Heap.lt_size q
    refine call_enumT (begins_tuple a its.toArray) pt fun h' he hit hk => wpAny_pyIter_enum he ?_
    have I2 : Inv X pins σ H1 { s1 with heap := h' } := I1.kept (t' := s1.toks) hk
    refine ⟨s1.heap.objs.size + 1, [s1.heap.objs.size + 1, s1.heap.objs.size], _, _, H1, rfl, I2, turn_enumT a (s1.heap.objs.size + 1) s1.heap.objs.size (Nat.succ_ne_self _) (Nat.ne_of_lt hlt) (Nat.ne_of_lt (Nat.lt_succ_of_lt hlt)), ⟨⟨.none, he⟩, ⟨_, hit, rfl, rfl⟩⟩, fun b hb => ?_, q⟩
    have e' : b = s1.heap.objs.size + 1 ∨ b = s1.heap.objs.size := by simpa using hb
    have hle : s1.heap.objs.size ≤ b := by
      rcases e' with z | z
      · rw [z]
        exact Nat.le_add_right _ _
      · rw [z]
        exact Nat.le_refl _
    exact I1.fpOk hle (I1.hok.fresh hle)
theorem walk_enumT {K : PySem.W.Frag} {a : Addr} {xs : List V} : Walk (ItE K a) xs.length (fun H => SqT K H a xs) (YPair (fun i => some (.int (i : Nat))) (fun i => xs[i]?)) := by
  refine ⟨fun i _ hi q => ⟨xs, xs[i], q, by simp [hi]⟩, fun _ q => ⟨xs, q, rfl⟩, fun i H v H' _ q y => ?_⟩
  obtain ⟨T, x, h1, h2, h3, h4⟩ := y
  exact ⟨T, .int (i : Nat), x, h1, h2, h3, rfl, h4 xs q⟩
end Lamp

namespace Lamp
open PySem PySem.Spec PyProof.Rows L2
theorem pair_at {α β : Type} {F : α → β → Prop} : ∀ {l : List α} {m : List β} {i : Nat} {a : α}, Paired F l m → l[i]? = some a → ∃ b, m[i]? = some b ∧ F a b
  | _, _, i, a, .nil, h => by simp at h
  | _, _, 0, a, .cons (b := b) r t, h => ⟨b, rfl, by
    have e : _ = a := Option.some.inj h
    rw [← e]
    exact r⟩
  | _, _, i + 1, a, .cons r t, h => pair_at (i := i) t h
theorem pic_at {H : Hp} {vs : List V} {ls : List (Int × Int)} {i : Nat} {v : V} (h : Paired (At2 H) vs ls) (e : vs[i]? = some v) : ∃ ab q, ls[i]? = some ab ∧ v = .ref q ∧ H q = some (.tup [.int ab.1, .int ab.2]) := by
  obtain ⟨ab, h1, q, h2, h3⟩ := pair_at h e
  exact ⟨ab, q, h1, h2, h3⟩
theorem asc_at {ls : List (Int × Int)} {i : Nat} {ab cd : Int × Int} (h : (keysOf ls).Pairwise (· < ·)) (e1 : ls[i]? = some ab) (e2 : ls[i + 1]? = some cd) : ab.1 < cd.1 := by
  obtain ⟨h1, e1⟩ := List.getElem?_eq_some_iff.mp e1
  obtain ⟨h2, e2⟩ := List.getElem?_eq_some_iff.mp e2
  have h3 := List.pairwise_iff_getElem.mp h i (i + 1) (by unfold keysOf; rw [List.length_map]; exact h1) (by unfold keysOf; rw [List.length_map]; exact h2) (by omega)
  unfold keysOf at h3
  rw [List.getElem_map, List.getElem_map, e1, e2] at h3
  exact h3
theorem raw0 {P : Program} {w : World} {K : PySem.W.Frag} {mg : Str → Option Value} {base : Heap} {CX : CXT} {k : Nat} {f : Addr} {fd : FuncData} {ps : List Str} {sp : Sp} (F : FnOk P w K mg base CX k f fd ps sp) (hb : Binds K fd ps []) : FnR P w K mg base CX k f sp := by
  have h := F.raw hb .nil
  have e : (fun vs H Q E => sp (vs ++ []) H Q E) = sp := by
    funext vs H Q E
    rw [List.append_nil]
  rw [e] at h
  exact h
section
variable {X : Cx} {K : PySem.W.Frag}
/-! rules that name the library part itself: within comprehensions -/
theorem pg_tupK {es : List Expr} {k : Nat} {t : TGs} {pos : Pos} (n : Nat) (hK : X.K = K) (hc : X.calm = true) (h : PGs X es t)
    (hn : (assignEach es X.env).length = n := by rfl) (hst : (assignEach es X.env).findIdx? (·.1) = none := by rfl) : PG X (.Tuple es k pos) (gTup K n t) := by
  subst hK
  exact pg_tup hc h hn hst
theorem pg_unlK {es : List Expr} {k : Nat} {t : TGs} {pos : Pos} (n : Nat) (hK : X.K = K) (hc : X.calm = true) (h : PGs X es t)
    (hn : (assignEach es X.env).length = n := by rfl) (hst : (assignEach es X.env).findIdx? (·.1) = none := by rfl) : PG X (.Tuple es k pos) (gUnl K n t) := by
  subst hK
  exact pg_unl hc h hn hst
theorem ix_listK (hK : X.K = K) : IxR X (rIxL K) := by
  subst hK
  exact ix_list
theorem ix_tupK (hK : X.K = K) : IxR X (rIxT K) := by
  subst hK
  exact ix_tup
theorem op_eqDK (hK : X.K = K) (hu : X.A.units + 64 < cLine) : OpR X (compareOp .Eq) (rEqD K) := by
  subst hK
  exact op_eqD hu
theorem op_neDK (hK : X.K = K) (hu : X.A.units + 64 < cLine) : OpR X (compareOp .NotEq) (rNeD K) := by
  subst hK
  exact op_neD hu
theorem op_in_seqK (hK : X.K = K) : OpR X (compareOp .In) (rIn K false) := by
  subst hK
  exact op_in_seq
theorem op_notIn_seqK (hK : X.K = K) : OpR X (compareOp .NotIn) (rIn K true) := by
  subst hK
  exact op_notIn_seq
def rLenS (K : PySem.W.Frag) : List V → Hp → VK → Prop := fun xs H Q => ∃ p ys, xs = [.ref p] ∧ (SqL K H p ys ∨ SqT K H p ys) ∧ Q (.int ys.length) H
theorem call_len_seqK (hK : X.K = K) : CallR X (.builtin "len") (rLenS K) := by
  subst hK
  exact call_len_seq
end
open TL
theorem len_app (a b : Str) : (a ++ b).length = a.length + b.length := by
  rw [len_tl, len_tl, len_tl, TL.tl_append, List.length_append]
theorem sz_le {n : Nat} (h : n ≤ 1000000) : n ≤ sizeLine := Nat.le_trans h (by decide)
theorem lamp_glued (a b : Int) : Str.empty ++ iS a ++ (":" : Str) ++ iS b = lampW (a, b) := by
  refine str_eq ?_
  rw [tl_lampW, TL.tl_append, TL.tl_append, TL.tl_append, tl_iS, tl_iS]
  have e1 : tl Str.empty = [] := by decide +kernel
  have e2 : tl (":" : Str) = [58] := by decide +kernel
  rw [e1, e2]
  rfl
theorem lampW_len {ab : Int × Int} (h1 : Fin1 ab.1) (h2 : Fin1 ab.2) : (lampW ab).length ≤ 403 := by
  have e1 := iS_len h1
  have e2 := iS_len h2
  have e3 : (colon : Str).length = 1 := by decide +kernel
  unfold lampW
  rw [len_app, len_app, e3]
  omega
theorem Lv.fin {p : Int} (h : p = 2 ∨ p = 3 ∨ p = 5 ∨ p = 7) : Fin1 p := by
  constructor
  · have : -(10 ^ 200 : Int) < 0 := by decide +kernel
    omega
  · have : (7 : Int) < 10 ^ 200 := by decide +kernel
    omega
theorem lev_fin {p l : Int} (h : p = 2 ∨ p = 3 ∨ p = 5 ∨ p = 7) (h0 : 0 < l) (h1 : l < p) : Fin1 l := by
  constructor
  · have : -(10 ^ 200 : Int) < 0 := by decide +kernel
    omega
  · have : (7 : Int) < 10 ^ 200 := by decide +kernel
    omega
theorem words_len {p e : Int} {ls : List (Int × Int)} (hp : Fin1 p) (he : Fin1 e) (hl : ∀ ab ∈ ls, Fin1 ab.1 ∧ Fin1 ab.2) : ∀ y ∈ wordsT p ls e, y.length ≤ 403 := by
  intro y hy
  unfold wordsT at hy
  rcases List.mem_cons.mp hy with rfl | hy
  · decide +kernel
  rcases List.mem_cons.mp hy with rfl | hy
  · exact Nat.le_trans (iS_len hp) (by decide)
  rcases List.mem_cons.mp hy with rfl | hy
  · decide +kernel
  rcases List.mem_cons.mp hy with rfl | hy
  · exact Nat.le_trans (iS_len he) (by decide)
  rcases List.mem_cons.mp hy with rfl | hy
  · split <;> decide +kernel
  · obtain ⟨ab, h, rfl⟩ := List.mem_map.mp hy
    exact lampW_len (hl ab h).1 (hl ab h).2
theorem sum_le {ys : List Str} {n : Nat} (h : ∀ y ∈ ys, y.length ≤ n) : (ys.map (·.length)).sum ≤ ys.length * n := by
  induction ys with
  | nil => simp
  | cons y r ih =>
    have h1 := h y (List.mem_cons_self ..)
    have h2 := ih fun z hz => h z (List.mem_cons_of_mem _ hz)
    rw [List.map_cons, List.sum_cons, List.length_cons, Nat.succ_mul]
    omega
theorem words_count (p e : Int) (ls : List (Int × Int)) : (wordsT p ls e).length = ls.length + 5 := by
  unfold wordsT
  simp
theorem words_fit {p e : Int} {ls : List (Int × Int)} (hp : Fin1 p) (he : Fin1 e) (hl : ∀ ab ∈ ls, Fin1 ab.1 ∧ Fin1 ab.2) (hn : ls.length ≤ 400) :
    ((wordsT p ls e).map (·.length)).sum + (wordsT p ls e).length * space.length ≤ 16777216 := by
  have h1 := sum_le (words_len hp he hl)
  have h2 : space.length = 1 := by decide +kernel
  rw [words_count] at h1 ⊢
  rw [h2]
  omega
theorem Slt_same {H H' : Hp} {a C dx : Addr} {vs : List (Option V)} (s : Same H H') (h : SlX.Slt H a C dx vs) : SlX.Slt H' a C dx vs := by
  rcases h with ⟨h1, h2⟩ | ⟨h1, h2⟩
  · exact Or.inl ⟨s _ _ h1, h2⟩
  · exact Or.inr ⟨s _ _ h1, s _ _ h2⟩
theorem small1M {n : Nat} (h : n ≤ 1000000) : n < sizeLine := Nat.lt_of_le_of_lt h (by decide)
/-- the text of one lamp, as a comprehension lays it -/
def teLamp (i j : Nat) : TE := fun σ H Q => tJs [tFmt (tVar i), tC (V.str ":"), tFmt (tVar j)] Str.empty σ H fun out H1 => Q (V.str out) H1
theorem kit_self {K : PySem.W.Frag} (C : Addr) : PySem.W.kitOne K (.ref C) (.ref C) = some true := by
  unfold PySem.W.kitOne
  simp
theorem Same.put {H0 H : Hp} {D : Addr} {o : HO} (s : Same H0 H) (hD : H0 D = none) : Same H0 (upd H D o) := fun b u h => by
  rw [upd_ne (ne_of_none h hD)]
  exact s b u h
theorem back {H H' : Hp} {a : Addr} (s : Same H H') (h : H' a = none) : H a = none := by
  cases e : H a with
  | none => rfl
  | some o =>
    rw [s _ _ e] at h
    cases h
theorem Grow.call {H0 H H3 : Hp} {D r : Addr} {vs : List V} {ls : List (Int × Int)} (g : Grow H0 D H vs ls) (s : Same H H3) (hr : H r = none) {a b : Int} (h3 : H3 r = some (.tup [.int a, .int b])) :
    Grow H0 D (upd H3 D (.lst (vs ++ [.ref r]))) (vs ++ [.ref r]) (ls ++ [(a, b)]) := by
  have hDr : r ≠ D := (ne_of_none g.lst hr).symm
  refine ⟨g.new, upd_same, Paired.snoc (Paired.mapP g.all ?_) ⟨r, rfl, by rw [upd_ne hDr]; exact h3⟩, Same.put (g.same.trans s) g.new⟩
  rintro v ab ⟨q, e, h⟩
  refine ⟨q, e, ?_⟩
  rw [upd_ne (ne_of h g.lst fun c => by cases c)]
  exact s _ _ h
theorem words_tail (p e : Int) (ls : List (Int × Int)) : cutV ((wordsT p ls e).map V.str) (some 5) none = ls.map fun ab => V.str (lampW ab) := by
  unfold cutV
  have e1 : HT.sIx ((wordsT p ls e).map V.str).length 0 (some 5) = 5 := by
    have h := HT.sIx_nat ((wordsT p ls e).map V.str).length 0 5
    rw [show ((5 : Nat) : Int) = 5 from rfl] at h
    rw [h, List.length_map, words_count]
    omega
  have e2 : HT.sIx ((wordsT p ls e).map V.str).length ((wordsT p ls e).map V.str).length none = ls.length + 5 := by
    rw [HT.sIx_none, List.length_map, words_count]
  rw [e1, e2]
  have e3 : ((wordsT p ls e).map V.str).drop 5 = ls.map fun ab => V.str (lampW ab) := by
    unfold wordsT
    simp
  rw [e3, List.take_of_length_le]
  rw [List.length_map]
  omega
end Lamp

/-! ## What is read as data: pictures, parts, texts -/
namespace Lamp
open PySem PySem.Spec PyProof.Rows L2 TL
def dPair (ab : Int × Int) : PyData := .tuple [.int ab.1, .int ab.2]
def dPic (ls : List (Int × Int)) : PyData := .tuple (ls.map dPair)
def dMine (p : Int) (ls : List (Int × Int)) (e : Int) : PyData := .tuple [.int p, dPic ls, .int e]
def dParts (p : Int) (ls : List (Int × Int)) (e : Int) : PyData := .list [.int p, dPic ls, .int e]
theorem Dp.pairs {K : PySem.W.Frag} {H : Hp} : ∀ {vs : List V} {ls : List (Int × Int)}, Paired (At2 H) vs ls → DpAll K H vs (ls.map dPair)
  | _, _, .nil => .nil
  | _, _, .cons ⟨q, e, h⟩ t => by
    subst e
    exact .cons (.tup (SqT.of h) (.cons (.int _) (.cons (.int _) .nil))) (Dp.pairs t)
theorem Dp.pic {K : PySem.W.Frag} {H : Hp} {t : Addr} {ls : List (Int × Int)} (h : Pic H t ls) : Dp K H (.ref t) (dPic ls) := by
  obtain ⟨vs, ⟨its, h1⟩, h2⟩ := h
  exact .tup (sqF h1) (Dp.pairs h2)
theorem eqv_int (i j : Int) : PyData.eqv (.int i) (.int j) = decide (i = j) := by
  rw [PyData.eqv]
  by_cases h : i = j
  · subst h
    simp
  · rw [decide_eq_false h]
    simp [h]
theorem eqv_pair (ab cd : Int × Int) : PyData.eqv (dPair ab) (dPair cd) = decide (ab = cd) := by
  unfold dPair
  rw [PyData.eqv, PyData.eqvAll, PyData.eqvAll, PyData.eqvAll, eqv_int, eqv_int, Bool.and_true]
  obtain ⟨a, b⟩ := ab
  obtain ⟨c, d⟩ := cd
  rw [Bool.eq_iff_iff]
  simp
theorem eqv_pairs : ∀ (ls ms : List (Int × Int)), PyData.eqvAll (ls.map dPair) (ms.map dPair) = decide (ls = ms)
  | [], [] => by simp [PyData.eqvAll]
  | [], b :: m => by simp [PyData.eqvAll]
  | a :: l, [] => by simp [PyData.eqvAll]
  | a :: l, b :: m => by
    rw [List.map_cons, List.map_cons, PyData.eqvAll, eqv_pair, eqv_pairs l m, Bool.eq_iff_iff]
    simp
theorem eqv_pic (ls ms : List (Int × Int)) : PyData.eqv (dPic ls) (dPic ms) = decide (ls = ms) := by
  unfold dPic
  rw [PyData.eqv, eqv_pairs]
theorem eqv_mine (p p' e e' : Int) (ls ls' : List (Int × Int)) : PyData.eqv (dMine p ls e) (dMine p' ls' e') = decide (p = p' ∧ ls = ls' ∧ e = e') := by
  unfold dMine
  rw [PyData.eqv, PyData.eqvAll, PyData.eqvAll, PyData.eqvAll, PyData.eqvAll, eqv_int, eqv_int, eqv_pic, Bool.and_true, Bool.eq_iff_iff]
  simp
theorem eqv_parts (p p' e e' : Int) (ls ls' : List (Int × Int)) : PyData.eqv (dParts p ls e) (dParts p' ls' e') = decide (p = p' ∧ ls = ls' ∧ e = e') := by
  unfold dParts
  rw [PyData.eqv, PyData.eqvAll, PyData.eqvAll, PyData.eqvAll, PyData.eqvAll, eqv_int, eqv_int, eqv_pic, Bool.and_true, Bool.eq_iff_iff]
  simp
theorem lay_pairs : ∀ ls : List (Int × Int), PyData.canLayAll0 (ls.map dPair) = true
  | [] => rfl
  | a :: l => by
    rw [List.map_cons, PyData.canLayAll0, lay_pairs l]
    rfl
theorem depth_pairs : ∀ ls : List (Int × Int), PyData.depthAll (ls.map dPair) ≤ 1
  | [] => Nat.zero_le _
  | a :: l => by
    rw [List.map_cons, PyData.depthAll]
    have h := depth_pairs l
    have e : PyData.depth (dPair a) = 1 := rfl
    omega
theorem pic_lay (ls : List (Int × Int)) : PyData.canLay0 (dPic ls) = true := by
  unfold dPic
  rw [PyData.canLay0]
  exact lay_pairs ls
theorem pic_depth (ls : List (Int × Int)) : PyData.depth (dPic ls) ≤ 2 := by
  unfold dPic
  rw [PyData.depth]
  have := depth_pairs ls
  omega
theorem parts_depth (p : Int) (ls : List (Int × Int)) (e : Int) : PyData.depth (dParts p ls e) ≤ 3 := by
  unfold dParts
  rw [PyData.depth]
  simp only [PyData.depthAll]
  have h1 := pic_depth ls
  have h2 : PyData.depth (.int p) = 0 := rfl
  have h3 : PyData.depth (.int e) = 0 := rfl
  omega
theorem mine_depth (p : Int) (ls : List (Int × Int)) (e : Int) : PyData.depth (dMine p ls e) ≤ 3 := by
  unfold dMine
  rw [PyData.depth]
  simp only [PyData.depthAll]
  have h1 := pic_depth ls
  have h2 : PyData.depth (.int p) = 0 := rfl
  have h3 : PyData.depth (.int e) = 0 := rfl
  omega
theorem shaped_of {d : PyData} (h1 : d.canLay0 = true) (h2 : d.depth ≤ 64) : SeqAt.shaped d = true := by
  unfold SeqAt.shaped
  rw [h1, decide_eq_true h2]
  rfl
theorem pic_shaped (ls : List (Int × Int)) : SeqAt.shaped (dPic ls) = true := shaped_of (pic_lay ls) (Nat.le_trans (pic_depth ls) (by decide))
theorem mine_shaped (p : Int) (ls : List (Int × Int)) (e : Int) : SeqAt.shaped (dMine p ls e) = true := by
  refine shaped_of ?_ (Nat.le_trans (mine_depth p ls e) (by decide))
  unfold dMine
  simp [PyData.canLay0, PyData.canLayAll0, pic_lay]
theorem parts_shaped (p : Int) (ls : List (Int × Int)) (e : Int) : SeqAt.shaped (dParts p ls e) = true := by
  refine shaped_of ?_ (Nat.le_trans (parts_depth p ls e) (by decide))
  unfold dParts
  simp [PyData.canLay0, PyData.canLayAll0, pic_lay]

/-! shown texts -/
theorem Fin1.show {i : Int} (h : Fin1 i) : PyData.showable (.int i) = true := decide_eq_true h.log
theorem Fin1.short {i : Int} (h : Fin1 i) : PyData.leavesShort 201 (.int i) = true := decide_eq_true (iS_len h)
theorem show_pairs : ∀ {ls : List (Int × Int)}, (∀ ab ∈ ls, Fin1 ab.1 ∧ Fin1 ab.2) → PyData.showableAll (ls.map dPair) = true ∧ PyData.hasDictAll (ls.map dPair) = false ∧ PyData.leavesShortAll 201 (ls.map dPair) = true
  | [], _ => ⟨rfl, rfl, rfl⟩
  | a :: l, h => by
    obtain ⟨h1, h2⟩ := h a (List.mem_cons_self ..)
    obtain ⟨i1, i2, i3⟩ := show_pairs (ls := l) fun b hb => h b (List.mem_cons_of_mem _ hb)
    refine ⟨?_, ?_, ?_⟩
    · rw [List.map_cons, PyData.showableAll, i1]
      simp [dPair, PyData.showable, PyData.showableAll, h1.log, h2.log]
    · rw [List.map_cons, PyData.hasDictAll, i2]
      simp [dPair, PyData.hasDict, PyData.hasDictAll]
    · rw [List.map_cons, PyData.leavesShortAll, i3]
      simp only [dPair, PyData.leavesShort, PyData.leavesShortAll, Bool.and_true]
      have e1 : decide ((PyData.shown (.int a.1)).length ≤ 201) = true := h1.short
      have e2 : decide ((PyData.shown (.int a.2)).length ≤ 201) = true := h2.short
      rw [e1, e2]
      rfl
theorem bulk_pairs : ∀ ls : List (Int × Int), PyData.bulkAll (ls.map dPair) = 3 * ls.length
  | [] => rfl
  | a :: l => by
    rw [List.map_cons, PyData.bulkAll, bulk_pairs l, List.length_cons]
    have e : PyData.bulk (dPair a) = 2 := rfl
    omega
/-- what repr asks of a data -/
structure Rp (d : PyData) : Prop where
  sh : d.showable = true
  nd : d.hasDict = false
  dp : d.depth ≤ 40
  ln : d.shown.length ≤ sizeLine
theorem Rp.of {d : PyData} (h1 : d.showable = true) (h2 : d.hasDict = false) (h3 : d.depth ≤ 40) (h4 : d.leavesShort 201 = true) (h5 : d.bulk ≤ 60000) : Rp d := by
  refine ⟨h1, h2, h3, ?_⟩
  have h := PyData.shown_le_bulk 201 (by decide) d h4
  have e : sizeLine = 16777216 := by decide
  omega
theorem rp_parts {p e : Int} {ls : List (Int × Int)} (hp : Fin1 p) (he : Fin1 e) (hl : ∀ ab ∈ ls, Fin1 ab.1 ∧ Fin1 ab.2) (hn : ls.length ≤ 10000) : Rp (dParts p ls e) := by
  obtain ⟨s1, s2, s3⟩ := show_pairs hl
  refine Rp.of ?_ ?_ (Nat.le_trans (parts_depth p ls e) (by decide)) ?_ ?_
  · simp [dParts, dPic, PyData.showable, PyData.showableAll, s1, hp.log, he.log]
  · simp [dParts, dPic, PyData.hasDict, PyData.hasDictAll, s2]
  · have e1 : decide ((PyData.shown (.int p)).length ≤ 201) = true := hp.short
    have e2 : decide ((PyData.shown (.int e)).length ≤ 201) = true := he.short
    simp only [dParts, dPic, PyData.leavesShort, PyData.leavesShortAll, s3, e1, e2]
    rfl
  · simp only [dParts, dPic, PyData.bulk, PyData.bulkAll, bulk_pairs]
    omega
/-- texts of plain signs, not too long -/
def Plain (y : Str) (n : Nat) : Prop := y.length ≤ n ∧ ∀ c ∈ tl y, c < 128
theorem Plain.mono {y : Str} {m n : Nat} (h : Plain y m) (hl : m ≤ n) : Plain y n := ⟨Nat.le_trans h.1 hl, h.2⟩
theorem numS_plain {i : Int} : ∀ c ∈ numS i, c < 128 := by
  intro c hc
  by_cases h : 57 < c
  · exact absurd hc (numS_free (Or.inr h))
  · omega
theorem iS_plain {i : Int} (h : Fin1 i) : Plain (iS i) 201 := ⟨iS_len h, by rw [tl_iS]; exact numS_plain⟩
theorem Plain.app {a b : Str} {m n : Nat} (x : Plain a m) (y : Plain b n) : Plain (a ++ b) (m + n) := by
  refine ⟨by rw [len_app]; have := x.1; have := y.1; omega, ?_⟩
  rw [tl_append]
  intro c hc
  rcases List.mem_append.mp hc with hc | hc
  · exact x.2 c hc
  · exact y.2 c hc
theorem plain_join {n : Nat} : ∀ {ws : List Str}, (∀ y ∈ ws, Plain y n) → Plain (Txt.join space ws) (ws.length * (n + 1))
  | [], _ => by
    have e : Txt.join space [] = Str.empty := by decide +kernel
    rw [e]
    exact ⟨Nat.zero_le _, by decide +kernel⟩
  | [a], h => by
    rw [join_one]
    exact (h a (List.mem_cons_self ..)).mono (by simp)
  | a :: b :: r, h => by
    rw [join_cons]
    have h1 := h a (List.mem_cons_self ..)
    have h2 := plain_join (ws := b :: r) fun y hy => h y (List.mem_cons_of_mem _ hy)
    have h3 : Plain space 1 := ⟨by decide +kernel, by decide +kernel⟩
    refine ((h1.app h3).app h2).mono ?_
    rw [List.length_cons, List.length_cons, List.length_cons, Nat.succ_mul (r.length + 1)]
    omega
theorem plain_words {p e : Int} {ls : List (Int × Int)} (hp : Fin1 p) (he : Fin1 e) (hl : ∀ ab ∈ ls, Fin1 ab.1 ∧ Fin1 ab.2) : ∀ y ∈ wordsT p ls e, Plain y 403 := by
  intro y hy
  unfold wordsT at hy
  rcases List.mem_cons.mp hy with rfl | hy
  · exact ⟨by decide +kernel, by decide +kernel⟩
  rcases List.mem_cons.mp hy with rfl | hy
  · exact (iS_plain hp).mono (by decide)
  rcases List.mem_cons.mp hy with rfl | hy
  · exact ⟨by decide +kernel, by decide +kernel⟩
  rcases List.mem_cons.mp hy with rfl | hy
  · exact (iS_plain he).mono (by decide)
  rcases List.mem_cons.mp hy with rfl | hy
  · split <;> exact ⟨by decide +kernel, by decide +kernel⟩
  · obtain ⟨ab, h, rfl⟩ := List.mem_map.mp hy
    refine ⟨lampW_len (hl ab h).1 (hl ab h).2, ?_⟩
    rw [tl_lampW]
    intro c hc
    rcases List.mem_append.mp hc with hc | hc
    · rcases List.mem_append.mp hc with hc | hc
      · exact numS_plain c hc
      · simp at hc
        omega
    · exact numS_plain c hc
theorem plain_text {p e : Int} {ls : List (Int × Int)} (hp : Fin1 p) (he : Fin1 e) (hl : ∀ ab ∈ ls, Fin1 ab.1 ∧ Fin1 ab.2) : Plain (textT p ls e) ((ls.length + 5) * 404) := by
  have h := plain_join (plain_words hp he hl)
  rw [words_count] at h
  exact h
theorem Plain.short {y : Str} {n : Nat} (h : Plain y n) : PyData.leavesShort 201 (.str y) = true := by
  rw [PyData.leavesShort, List.all_eq_true]
  intro c hc
  have h1 := h.2 c hc
  exact decide_eq_true (Nat.lt_of_lt_of_le h1 (by decide))
theorem rp_texts {a b : Str} {n : Nat} (ha : Plain a n) (hb : Plain b n) (hn : n ≤ 20000) : Rp (.list [.str a, .str b]) := by
  refine Rp.of rfl rfl (show (1 : Nat) ≤ 40 by decide) ?_ ?_
  · have e1 := ha.short
    have e2 := hb.short
    rw [PyData.leavesShort] at e1 e2
    simp only [PyData.leavesShort, PyData.leavesShortAll, e1, e2]
    rfl
  · have e1 : a.cps.size ≤ n := ha.1
    have e2 : b.cps.size ≤ n := hb.1
    simp only [PyData.bulk, PyData.bulkAll]
    omega
end Lamp

/-! ## The word of a number, taken apart -/
namespace Lamp
open PySem PySem.Spec PyProof.Rows L2 TL
def digS (i : Int) : Str := ⟨(numL i.natAbs).toArray⟩
theorem tl_digS (i : Int) : tl (digS i) = numL i.natAbs := by
  unfold digS tl
  simp
theorem tl_cut_tail (z : Str) (k : Nat) (h : k ≤ z.length) : tl (cutS z (some (k : Int)) none) = (tl z).drop k := by
  unfold cutS tl
  rw [HT.sIx_nat, HT.sIx_none, Nat.min_eq_left h]
  show (((z.cps.toList.drop k).take (z.length - k)).toArray).toList = z.cps.toList.drop k
  have e : (z.cps.toList.drop k).length = z.length - k := by
    rw [List.length_drop, Array.length_toList]
    rfl
  rw [List.toList_toArray, ← e, List.take_length]
theorem tl_cut_head (z : Str) (k : Nat) : tl (cutS z none (some (k : Int))) = (tl z).take k := by
  unfold cutS tl
  rw [HT.sIx_nat, HT.sIx_none]
  show (((z.cps.toList.drop 0).take (min k z.length - 0)).toArray).toList = z.cps.toList.take k
  rw [List.toList_toArray, List.drop_zero, Nat.sub_zero]
  have e : z.cps.toList.length = z.length := Array.length_toList
  by_cases h : k ≤ z.length
  · rw [Nat.min_eq_left h]
  · rw [Nat.min_eq_right (by omega), List.take_of_length_le (by omega), List.take_of_length_le (by omega)]
theorem neg_head {i : Int} (h : i < 0) : cutS (iS i) none (some 1) = ("-" : Str) := by
  refine str_eq ?_
  have e := tl_cut_head (iS i) 1
  rw [show ((1 : Nat) : Int) = 1 from rfl] at e
  rw [e, tl_iS]
  unfold numS
  rw [if_pos h]
  show [45] = _
  decide +kernel
theorem neg_tail {i : Int} (h : i < 0) : cutS (iS i) (some 1) none = digS i := by
  refine str_eq ?_
  have hl : 1 ≤ (iS i).length := by
    rw [len_tl, tl_iS]
    unfold numS
    rw [if_pos h, List.length_cons]
    omega
  have e := tl_cut_tail (iS i) 1 hl
  rw [show ((1 : Nat) : Int) = 1 from rfl] at e
  rw [e, tl_iS, tl_digS]
  unfold numS
  rw [if_pos h]
  rfl
theorem pos_head {i : Int} (h : ¬ i < 0) : cutS (iS i) none (some 1) ≠ ("-" : Str) := by
  intro q
  have e := tl_cut_head (iS i) 1
  rw [show ((1 : Nat) : Int) = 1 from rfl] at e
  rw [q, tl_iS] at e
  unfold numS at e
  rw [if_neg h] at e
  have e2 : tl ("-" : Str) = [45] := by decide +kernel
  rw [e2] at e
  have hm : (45 : Nat) ∈ (numL i.natAbs).take 1 := by
    rw [← e]
    exact List.mem_cons_self ..
  exact numL_free (Or.inl (by decide)) (List.mem_of_mem_take hm)
theorem pos_dig {i : Int} (h : ¬ i < 0) : iS i = digS i := by
  refine str_eq ?_
  rw [tl_iS, tl_digS]
  unfold numS
  rw [if_neg h]
theorem digS_ne (i : Int) : digS i ≠ ("" : Str) := by
  intro q
  have e := congrArg tl q
  rw [tl_digS] at e
  exact numL_ne _ (e.trans (by decide +kernel))
theorem digS_len {i : Int} (h : Fin1 i) : (digS i).length ≤ 200 := by
  rw [len_tl, tl_digS]
  exact numL_len (k := 200) (by decide) h.nat
theorem digit_in {c : Nat} (h1 : 48 ≤ c) (h2 : c ≤ 57) : decide (c ∈ (("0123456789" : Str)).cps.toList) = true := by
  have : c = 48 ∨ c = 49 ∨ c = 50 ∨ c = 51 ∨ c = 52 ∨ c = 53 ∨ c = 54 ∨ c = 55 ∨ c = 56 ∨ c = 57 := by omega
  rcases this with rfl | rfl | rfl | rfl | rfl | rfl | rfl | rfl | rfl | rfl <;> decide +kernel
theorem digS_at {i : Int} {k c : Nat} (h : (digS i).cps[k]? = some c) : decide (c ∈ (("0123456789" : Str)).cps.toList) = true := by
  have hm : c ∈ numL i.natAbs := by
    rw [← tl_digS i]
    unfold tl
    exact Array.mem_toList_iff.mpr (Array.mem_of_getElem? h)
  have := numL_digits _ c hm
  exact digit_in this.1 this.2
theorem vstr_ne {a b : Str} (h : a ≠ b) : decide (V.str a = V.str b) = false := decide_eq_false fun q => h (V.str.inj q)
theorem vstr_eq {a b : Str} (h : a = b) : decide (V.str a = V.str b) = true := decide_eq_true (congrArg V.str h)
theorem all_trues (n : Nat) : (List.replicate n true).all id = true := by
  rw [List.all_eq_true]
  intro b hb
  rw [(List.mem_replicate.mp hb).2]
  rfl
theorem rep_more (n : Nat) : (List.replicate (n + 1) true).map V.bl = (List.replicate n true).map V.bl ++ [V.bl true] := by
  rw [List.replicate_succ', List.map_append]
  rfl
theorem inv_word (ls : List (Int × Int)) : inV (.str (if ls = [] then ("dark" : Str) else ("lamps" : Str))) [.str "dark", .str "lamps"] = true := by
  split <;> decide +kernel
theorem dark_word (p e : Int) (ls : List (Int × Int)) : decide (V.bl (decide (V.int (((wordsT p ls e).map V.str).length : Nat) = V.int 5)) = V.bl (decide (V.str (if ls = [] then ("dark" : Str) else ("lamps" : Str)) = V.str "dark"))) = true := by
  refine decide_eq_true (congrArg V.bl ?_)
  rw [List.length_map, words_count]
  cases ls with
  | nil =>
    rw [if_pos rfl, vstr_eq rfl]
    rfl
  | cons a l =>
    rw [if_neg (by simp), vstr_ne (by decide +kernel)]
    refine decide_eq_false fun q => ?_
    have := V.int.inj q
    rw [List.length_cons] at this
    omega
end Lamp

/-! ## C.m(name = e): a classmethod with one keyword argument alone -/
namespace Lamp
open PySem PySem.Spec PyProof.Rows L2 ClX
section
variable {X : Cx} {CX : CXT} {k : Nat} {C p g : Addr} {mc : Value} {sp : Sp} {E : XK} {o : Expr} {m pn pc : Str} {pos apos : Pos} {ta tk : TE} {pl : Sem Bool} {fd : FuncData} {kw : Keyword} {tks : TA}
def tCMethK (C : Addr) (sp : Sp) (E : XK) (ta : TE) (tk : TA) : TE := fun σ H Q => ta σ H fun x H1 => x = .ref C ∧ tk σ H1 fun zs H2 => ∃ z, zs = [z] ∧ sp [.ref C, z] H2 Q E
theorem pe_cmethK (he : PE X o ta) (r : CRead X.K C mc) (c : CMet X.K C mc m p g) (F : FnOk X.prog X.w X.K X.mg X.base CX k g fd [pc, pn] sp) (hb : ∀ (s : Shared) (c v : Value), BindsTo s fd ⟨[c], [(pn, v)]⟩ [(pc, c), (pn, v)]) (hr : Room k X.A) (hx : Passes CX X E) (hkw : PK X [kw] tks)
    (hall : (backToKw pos (keywordEach [kw] X.env)).all (·.1.isSome) = true := by rfl) (hks : (backToKw pos (keywordEach [kw] X.env)).filterMap (·.1) = [pn] := by rfl)
    (hpl : ((backTo pos (starEach [] X.env)).any (·.1) || (backToKw pos (keywordEach [kw] X.env)).any (·.1.isNone)) = false := by rfl)
    (ht : eval (.Call (.Attribute o m apos) [] [kw] pos) X.env = (do
      let ov ← eval o X.env
      standAt apos.atName
      let (f, first) ← holding [ov] (getMethod ov m pl)
      callWith pos f first (backTo pos (starEach [] X.env)) (backToKw pos (keywordEach [kw] X.env))) := by rfl) :
    PE X (.Call (.Attribute o m apos) [] [kw] pos) (tCMethK C sp E ta tks) := by
  refine ⟨fun pins s σ H Q I h => ?_⟩
  refine PySem.W.methodCall_KW (pl := pl) (thn (he.run pins s σ H _ I h) fun u s1 ⟨x, H1, I1, rx, ex, q⟩ => ?_) ht
  subst ex
  obtain rfl : u = Value.ref C := rx
  refine getmethcm_ok I1 r c fun s2 I2 => ?_
  refine PySem.W.callWith_of hpl (PySem.W.keeps_M (K := X.K) (self := .ref C) c.fi) (evalArgs_kw2_nil hall ?_)
  refine thn (hkw.run pos _ s2 σ H1 _ I2 q) fun ws s3 ⟨zs, H2, I3, rz, z, ez, q2⟩ => ⟨⟨pin_at I3, I3.kIn⟩, ?_⟩
  subst ez
  obtain ⟨v, rfl, rv⟩ := vals1 rz
  rw [hks]
  have done : wpAny (model X.prog X.w) X.A (call (.ref s1.heap.objs.size) [] [(pn, v)]) (EP X ((s1.heap.objs.size, PySem.W.methodObj (.ref g) (.ref C)) :: pins) σ Q) X.xe s3 := by
    refine wpAny_call (PySem.W.method_call (pin_at I3) (codeAny_mono (F.run X.A X.stack s3 H2 ⟨[.ref C], [(pn, v)]⟩ [.ref C, v] [.ref C, z] Q E hr I3.env0 (hb s3 (.ref C) v) (.cons rfl (.cons rv .nil)) q2) ?_))
    intro res s' y
    match res, y with
    | .error e, y => exact hx _ σ H2 s3 e s' I3 y
    | .ok (.ret u), y => exact I3.after y
  exact thn done fun _ _ y => unpinE y
end
theorem notFirst_self {K : PySem.W.Frag} (C : Addr) : PySem.W.notFirst K C (.ref C) = true := by
  unfold PySem.W.notFirst
  simp
end Lamp

/-! ## Instances with slots: len, repr, bool by their own defs -/
namespace Lamp
open PySem PySem.Spec PyProof.Rows L2 SlX
section
variable {prog : Program} {w : World} {A : Around} {E : Value → Shared → Prop} {s : Shared} {K : PySem.W.Frag} {x C f : Addr} {ox : Obj} {od : Option Obj}
theorem len_call {Q : Value → Shared → Prop} (X : K.In s.heap) (I : PySem.W.InstAt s.heap x ox C od) (hs : PySem.W.findIn K (.ref C) "__len__" = some (some (.ref f))) (hf : PySem.W.isFn K (.ref f) = true)
    (h : wpAny (model prog w) A.in1 (call (.ref f) [.ref x]) (fun v s' => ∃ n t, v = .int n t ∧ 0 ≤ n ∧ n < 2 ^ 63 ∧ Q (.int n s'.toks) { s' with toks := s'.toks + 1 }) E s) : wpAny (model prog w) A (call (.builtin "len") [.ref x]) Q E s := by
  refine Calls.call_function_entry PySem.kind_len PySem.plain_len PySem.entry_len (PySem.args_len1 _) ?_
  unfold Builtin.«len»
  refine wpAny_bind (m := oneArg "len" _) (wpAny_pure ?_)
  refine wpAny_bind (m := callSpecial? (.ref x) (Str.ofString "__len__")) (PySem.W.special_fn X I hs (beq_iff_eq.mp hf) (wpAny_mono h ?_ fun _ _ y => y))
  rintro r s' ⟨n, u, rfl, h0, h1, hq⟩
  refine wpAny_bind (wpAny_holding (wpAny_pure ?_))
  refine wpAny_bind (wpAny_letGo ?_)
  show wpAny _ _ (if n < 0 then _ else _) _ _ _
  rw [if_neg (by omega)]
  show wpAny _ _ (if n ≥ 2 ^ 63 then _ else _) _ _ _
  rw [if_neg (by omega)]
  exact wpAny_bind (wpAny_mkInt (wpAny_pure ⟨_, rfl, hq⟩))
theorem repr_call {Q : Value → Shared → Prop} (hu : A.in1.units < cLine) (X : K.In s.heap) (I : PySem.W.InstAt s.heap x ox C od) (hs : PySem.W.findIn K (.ref C) "__repr__" = some (some (.ref f))) (hf : PySem.W.isFn K (.ref f) = true)
    (h : wpAny (model prog w) A.in1 (call (.ref f) [.ref x]) (fun v s' => ∃ y t, v = .str y t ∧ Q (.str y t) s') E s) : wpAny (model prog w) A (call (.builtin "repr") [.ref x]) Q E s := by
  refine Calls.call_function_entry PySem.F.kind_repr PySem.F.plain_repr PySem.F.entry_repr (PySem.F.args_repr1 _) ?_
  unfold Builtin.«repr»
  refine wpAny_bind (m := oneArg "repr" _) (wpAny_pure ?_)
  refine wpAny_bind (wpAny_cRoomFor hu ?_)
  refine wpAny_bind (wpAny_bind (I.type.here ((PySem.W.looks_findIn X hs).here ?_)))
  show wpAny _ _ (if (some (Value.ref f)).isNone = true then _ else _) _ _ _
  rw [if_neg (by simp)]
  refine wpAny_bind (m := callSpecialIfBound? (.ref x) (Str.ofString "__repr__") _) (PySem.W.ifBound_K X I hs hf (wpAny_mono h ?_ fun _ _ y => y))
  rintro r s' ⟨y, t, rfl, hr⟩
  refine wpAny_bind (wpAny_isInstance (typeIs_str _ _ _) PySem.isSubtype_str_str ?_)
  first
    | exact wpAny_pure ⟨_, rfl, hr⟩
    | (rw [if_pos rfl]; exact wpAny_pure ⟨_, rfl, hr⟩)
    | (simp only [if_true]; exact wpAny_pure ⟨_, rfl, hr⟩)
theorem truth_call {M : Model} {Q : Bool → Shared → Prop} (X : K.In s.heap) (I : PySem.W.InstAt s.heap x ox C od) (hs : PySem.W.findIn K (.ref C) "__bool__" = some (some (.ref f))) (hf : PySem.W.isFn K (.ref f) = true)
    (h : wpAny M A (call (.ref f) [.ref x]) (fun v s' => ∃ b, v = .bool b ∧ Q b s') E s) : wpAny M A (truthy (.ref x)) Q E s := by
  unfold truthy
  refine wpAny_bind (m := callSpecial? (.ref x) (Str.ofString "__bool__")) (PySem.W.special_fn X I hs (beq_iff_eq.mp hf) (wpAny_mono h ?_ fun _ _ y => y))
  rintro r s' ⟨b, rfl, hr⟩
  exact wpAny_pure hr
theorem bool_call {Q : Value → Shared → Prop} (X : K.In s.heap) (I : PySem.W.InstAt s.heap x ox C od) (hs : PySem.W.findIn K (.ref C) "__bool__" = some (some (.ref f))) (hf : PySem.W.isFn K (.ref f) = true)
    (h : wpAny (model prog w) A.in1.in1 (call (.ref f) [.ref x]) (fun v s' => ∃ b, v = .bool b ∧ Q (.bool b) s') E s) : wpAny (model prog w) A (call (.type "bool") [.ref x]) Q E s := by
  refine callType_codes (T := "bool") (Bi := Builtin.«object.__init__») (Q₁ := fun r s₁ => ∃ b, r = .bool b ∧ Q r s₁) PySem.F.called_bool (PySem.F.typeCall_bool_1 _) PySem.F.entry_object_init ?_ ?_
  · refine codeAny_of_tree ?_
    show wpAny _ A.in1.in1 (do checkBuiltinCall "bool.__new__" ⟨[.type "bool", .ref x], []⟩; again (.builtin "bool.__new__" ⟨[.type "bool", .ref x], []⟩)) _ _ s
    refine wpAny_bind (wpAny_of_eq (PySem.F.newCall_bool_1 _) (wpAny_pure ⟨plainId_quiet (by decide +kernel) _, codeAny_builtin PySem.F.entry_bool_new ?_⟩))
    rw [Around.under_plainId (by decide +kernel) _]
    have f1 := PySem.F.conv_sub_bool
    have q1 : ∀ {R : Bool → Shared → Prop} {Z : Value → Shared → Prop}, wpAny (model prog w) A.in1.in1 (call (.ref f) [.ref x]) (fun v s' => ∃ b, v = .bool b ∧ R b s') Z s → wpAny (model prog w) A.in1.in1 (truthy (.ref x)) R Z s :=
      fun z => truth_call X I hs hf z
    obtain ⟨hp, g, d, tk, os⟩ := s
    unfold Builtin.«bool.__new__»
    repeat (first | (refine wpAny_bind (q1 (wpAny_mono h (fun v s' hv => ?_) fun _ _ y => y))) | wp_step)
    obtain ⟨b, rfl, hq⟩ := hv
    refine ⟨b, rfl, ?_⟩
    exact wpAny_pure ⟨b, rfl, hq⟩
  · rintro obj s₁ ⟨b, rfl, hq⟩
    exact ⟨PySem.typeIs_bool _ _, PySem.F.args_object_init_2 _ _, object_init_meets PySem.F.called_bool.init.lookup PySem.F.called_bool.made (by decide) prog w A.in1 _ s₁ ⟨PySem.typeIs_bool _ _, rfl, hq⟩⟩
end
section
variable {X : Cx} {CX : CXT} {C g : Addr} {n : Nat} {sp : Sp} {E : XK}
def rLenOwn (C : Addr) (sp : Sp) (E : XK) : List V → Hp → VK → Prop := fun xs H Q => ∃ a dx vs, xs = [V.ref a] ∧ Slt H a C dx vs ∧ sp [.ref a] H (fun z H' => ∃ i : Int, z = .int i ∧ 0 ≤ i ∧ i < 2 ^ 63 ∧ Q z H') E
theorem call_lenOwn (hs : PySem.W.findIn X.K (.ref C) "__len__" = some (some (.ref g))) (hf : PySem.W.isFn X.K (.ref g) = true) (F : FnR X.prog X.w X.K X.mg X.base CX n g sp) (hr : Room (n + 1) X.A) (hx : Passes CX X E) : CallR X (.builtin "len") (rLenOwn C sp E) := by
  intro pins s σ H xs us Q I r h
  obtain ⟨a, dx, vs, rfl, hsl, q⟩ := h
  obtain ⟨u, rfl, ru⟩ := vals1 r
  obtain rfl : u = Value.ref a := ru
  obtain ⟨sl, od, _, J, _⟩ := slt_inst I hsl
  have r1 : Room n X.A.in1 := Room.in1 hr
  refine len_call I.kIn J hs hf (wpAny_mono (wpAny_call (run_at (us := [.ref a]) (ws := [.ref a]) F r1 I.env0.in1 hx I (.cons rfl .nil) q)) ?_ fun _ _ y => y)
  rintro v s' ⟨z, H', I', rz, i, ez, h0, h1, qz⟩
  subst ez
  obtain ⟨t, e⟩ := (show ∃ t, v = Value.int i t from rz)
  exact ⟨i, t, e, h0, h1, .int i, H', I'.tok _, ⟨_, rfl⟩, qz⟩
def rReprOwn (C : Addr) (sp : Sp) (E : XK) : List V → Hp → VK → Prop := fun xs H Q => ∃ a dx vs, xs = [V.ref a] ∧ Slt H a C dx vs ∧ sp [.ref a] H (fun z H' => ∃ y, z = .str y ∧ Q z H') E
theorem call_reprOwn (hs : PySem.W.findIn X.K (.ref C) "__repr__" = some (some (.ref g))) (hf : PySem.W.isFn X.K (.ref g) = true) (F : FnR X.prog X.w X.K X.mg X.base CX n g sp) (hr : Room (n + 1) X.A) (hx : Passes CX X E) : CallR X (.builtin "repr") (rReprOwn C sp E) := by
  intro pins s σ H xs us Q I r h
  obtain ⟨a, dx, vs, rfl, hsl, q⟩ := h
  obtain ⟨u, rfl, ru⟩ := vals1 r
  obtain rfl : u = Value.ref a := ru
  obtain ⟨sl, od, _, J, _⟩ := slt_inst I hsl
  have r1 : Room n X.A.in1 := Room.in1 hr
  refine repr_call r1.units0 I.kIn J hs hf (wpAny_mono (wpAny_call (run_at (us := [.ref a]) (ws := [.ref a]) F r1 I.env0.in1 hx I (.cons rfl .nil) q)) ?_ fun _ _ y => y)
  rintro v s' ⟨z, H', I', rz, y, ez, qz⟩
  subst ez
  obtain ⟨t, e⟩ := (show ∃ t, v = Value.str y t from rz)
  exact ⟨y, t, e, .str y, H', I', ⟨t, rfl⟩, qz⟩
def rBoolOwn (C : Addr) (sp : Sp) (E : XK) : List V → Hp → VK → Prop := fun xs H Q => ∃ a dx vs, xs = [V.ref a] ∧ Slt H a C dx vs ∧ sp [.ref a] H (fun z H' => ∃ b, z = .bl b ∧ Q z H') E
theorem call_boolOwn (hs : PySem.W.findIn X.K (.ref C) "__bool__" = some (some (.ref g))) (hf : PySem.W.isFn X.K (.ref g) = true) (F : FnR X.prog X.w X.K X.mg X.base CX n g sp) (hr : Room (n + 2) X.A) (hx : Passes CX X E) : CallR X (.type "bool") (rBoolOwn C sp E) := by
  intro pins s σ H xs us Q I r h
  obtain ⟨a, dx, vs, rfl, hsl, q⟩ := h
  obtain ⟨u, rfl, ru⟩ := vals1 r
  obtain rfl : u = Value.ref a := ru
  obtain ⟨sl, od, _, J, _⟩ := slt_inst I hsl
  have r1 : Room (n + 1) X.A.in1 := Room.in1 hr
  have r2 : Room n X.A.in1.in1 := Room.in1 r1
  refine bool_call I.kIn J hs hf (wpAny_mono (wpAny_call (run_at (us := [.ref a]) (ws := [.ref a]) F r2 I.env0.in1.in1 hx I (.cons rfl .nil) q)) ?_ fun _ _ y => y)
  rintro v s' ⟨z, H', I', rz, b, ez, qz⟩
  subst ez
  exact ⟨b, rz, .bl b, H', I', rfl, qz⟩
end
end Lamp

namespace Lamp
open PySem PySem.Spec PyProof.Rows L2
section
variable {P : Program} {w : World} {K : PySem.W.Frag} {mg : Str → Option Value} {base : Heap}
theorem okG0 {k : Nat} {f : Addr} {fd : FuncData} {x qual : Str} {st : Stmt} {N ps : List Str} {sp : Sp} (F : Fun K x qual st f fd) (S : FnScope N ps (defScope st)) (many : ∀ vs H Q E, sp vs H Q E → vs.length = ps.length)
    (hbody : ∀ (cdv : Value) (A : Around) (outer : List Env) (s : Shared) (H : Hp) (vs : List V) (Q : VK) (E : XK), A.guards = some [] → Room k (A.deeper (envOfC qual (defScope st) s.heap.objs.size f cdv)) → sp vs H Q E →
      ∃ t, PSs (cxOf CX0 P w K mg base N qual (defScope st) f cdv A outer s H E).nox (defBody st) t ∧ t { nx := fun _ H' => Q .non H', rt := Q } (start N vs) H) : Gd.FnG P w K mg base CX0 (k + 1) f fd ps sp :=
  Gd.okG F S many fun cdv A outer s H vs Q E hg hr h => let ⟨t, h1, q⟩ := hbody cdv A outer s H vs Q E hg hr h
    ⟨t, h1.nox, q⟩
end
end Lamp

/-! ## tuple(list): the new tuple is a plain object -/
namespace Lamp
open PySem PySem.Spec PyProof.Rows L2
theorem call_tupF {X : Cx} : CallR X (.type "tuple") (fun xs H Q => ∃ p ys, xs = [.ref p] ∧ SqL X.K H p ys ∧ ∀ (l : Addr) (its : List Value), H l = none → Q (.ref l) (upd H l (.frz (plainT its) (.tup ys)))) := by
  intro pins s σ H xs us Q I r h
  obtain ⟨p, ys, rfl, hq, q⟩ := h
  obtain ⟨u, rfl, rx⟩ := vals1 r
  cases rx
  obtain ⟨its, r', pl, hz⟩ := I.list hq
  have hlen := r'.length
  refine call_tuple_list pl.isList (fun h' kp => ?_) (by simp only [List.size_toArray] <;> omega)
  have I1 : Inv X pins σ H { s with heap := h' } := I.kept (t' := s.toks) kp
  have I2 : Inv X pins σ (upd H h'.objs.size (.frz (plainT its) (.tup ys))) { s with heap := h'.push { cls := .type "tuple", data := .seq its.toArray } } :=
    I1.laid (t' := s.toks) (fun b o e => Heap.get?_push_of_some _ e) (Nat.le_refl _) (show ObjOk X.prog X.w _ _ _ (.frz (plainT its) (.tup ys)) from ⟨Heap.get?_push_size _ rfl, hz, its, r', IsTup.new _ _⟩)
  exact ⟨.ref h'.objs.size, _, I2, rfl, q _ its (I1.hok.fresh (Nat.le_refl _))⟩
end Lamp
namespace Lamp
open PySem PySem.Spec PyProof.Rows L2
/-! ## dict(tuple of pairs) -/
theorem at2_refs {K : PySem.W.Frag} {H : Hp} : ∀ {vs : List V} {ls : List (Int × Int)}, Paired (At2 H) vs ls → ∃ ps : List Addr, vs = ps.map V.ref ∧ Paired (fun p (kv : Key × V) => SqT K H p [kV kv.1, kv.2]) ps (dI ls)
  | _, _, .nil => ⟨[], rfl, .nil⟩
  | _, _, .cons (b := ab) ⟨q, e, h⟩ t => by
    obtain ⟨ps, e2, h2⟩ := at2_refs (K := K) t
    subst e e2
    exact ⟨q :: ps, rfl, .cons (SqT.of h) h2⟩
section
variable {X : Cx}
theorem pairs2 {pins : List (Addr × Obj)} {σ : L2.St} {H : Hp} {s : Shared} (I : Inv X pins σ H s) : ∀ {ps : List Addr} {kvs : List (Key × V)}, Paired (fun p kv => SqT X.K H p [kV kv.1, kv.2]) ps kvs →
    ∃ (prs : List (Key × Value)) (pv : List (Value × Value)), KV kvs prs ∧ pv.length = ps.length ∧ prs.length = ps.length ∧ ∀ (j : Nat) (k v : Value), pv[j]? = some (k, v) → ∃ (b : Addr) (kk : Key), ps[j]? = some b ∧ prs[j]? = some (kk, v) ∧ s.heap.IsTuple b #[k, v] ∧ keyIs kk k = true
  | _, _, .nil => ⟨[], [], .nil, rfl, rfl, fun j k v e => by simp at e⟩
  | _, _, .cons (a := p) (b := kv) h t => by
    obtain ⟨prs, pv, r, hl, hl2, hp⟩ := pairs2 I t
    obtain ⟨its, rv, ht, _⟩ := I.tuple h
    obtain ⟨u, y, ei, ru, ry⟩ := vals2 rv
    subst ei
    refine ⟨(kv.1, y) :: prs, (u, y) :: pv, .cons ⟨rfl, ry⟩ r, by rw [List.length_cons, List.length_cons, hl], by rw [List.length_cons, List.length_cons, hl2], fun j k v e => ?_⟩
    cases j with
    | zero =>
      have e' : (u, y) = (k, v) := Option.some.inj e
      cases e'
      exact ⟨p, kv.1, rfl, rfl, ht, kV_is (P := X.prog) (w := X.w) ru⟩
    | succ j =>
      obtain ⟨b, kk, e1, e2, e3, e4⟩ := hp j k v (by simpa using e)
      exact ⟨b, kk, by simpa using e1, by simpa using e2, e3, e4⟩
theorem KE_dict {prog : Program} {w : World} {A : Around} {E : Value → Shared → Prop} {s : Shared} {t : Addr} {its : List Value} {ps : List Addr} {prs : List (Key × Value)} {pv : List (Value × Value)} {Q : Value → Shared → Prop} (hh : A.handled = none)
    (hget : s.heap.get? t = some (plainT its)) (edat : its.toArray = (ps.map Value.ref).toArray) (hl : pv.length = ps.length) (hl2 : prs.length = ps.length)
    (hp : ∀ (j : Nat) (k v : Value), pv[j]? = some (k, v) → ∃ (b : Addr) (kk : Key), ps[j]? = some b ∧ prs[j]? = some (kk, v) ∧ s.heap.IsTuple b #[k, v] ∧ keyIs kk k = true) (hz : pv.length ≤ sizeLine)
    (h : ∀ h' tk, h'.DictOf (mixKind prog w) s.heap.objs.size (merged [] prs) → (∀ b o, s.heap.get? b = some o → h'.get? b = some o) → Q (.ref s.heap.objs.size) { s with heap := h', toks := tk }) :
    wpAny (model prog w) A (call (.type "dict") [.ref t]) Q E s := by
  refine PySem.call_dict_pairs (knd := mixKind prog w) (kvs := prs) (PairArg.tuple t its.toArray (fun j => (ps[j]?).getD 0) pv) hh ⟨⟨plainT its, 0, hget, rfl, rfl, rfl⟩, ?_, fun j k v e => ?_⟩ ⟨by rw [hl, hl2], fun i key v e => ?_⟩ hz fun h' tk hd hk => h h' tk hd fun b o e => hk b o (fun z => nomatch z) e
  · rw [edat, List.size_toArray, List.length_map, hl]
  · obtain ⟨b, kk, e1, e2, e3, e4⟩ := hp j k v e
    have e0 : (fun j => (ps[j]?).getD 0) j = b := by
      show (ps[j]?).getD 0 = b
      rw [e1]
      rfl
    rw [edat, e0]
    exact ⟨by simp [e1], Or.inl e3⟩
  · obtain ⟨b, kk, e1, e2, e3, e4⟩ := hp i key v e
    exact ⟨kk, e2, e4⟩
theorem call_dictT (hcalm : X.calm = true) : CallR X (.type "dict") (fun xs H Q => ∃ (t : Addr) (ls : List (Int × Int)), xs = [.ref t] ∧ Pic H t ls ∧ ∀ p, H p = none → Q (.ref p) (upd H p (.dK (mergeK [] (dI ls))))) := by
  intro pins s σ H xs us Q I r q
  obtain ⟨t, ls, ex, ⟨vs, ⟨its, ht⟩, hall⟩, q⟩ := q
  subst ex
  obtain ⟨u, eu, rx⟩ := vals1 r
  subst eu
  cases rx
  obtain ⟨ps, evs, hps⟩ := at2_refs (K := X.K) hall
  subst evs
  obtain ⟨hget, hz, its', rv, hT⟩ := (show ObjOk X.prog X.w H s.heap t (.frz (plainT its) (.tup (ps.map V.ref))) from I.hok t _ ht)
  have ei := refs_at rv
  subst ei
  have hT' : s.heap.IsTuple t (ps.map Value.ref).toArray := hT
  have edat : its.toArray = (ps.map Value.ref).toArray := by
    obtain ⟨o, ho, hc, n, hd⟩ := hT'
    rw [hget] at ho
    cases ho
    exact (Data.seq.inj hd).1
  obtain ⟨prs, pv, rel, hl, hl2, hp⟩ := pairs2 I hps
  rw [List.length_map] at hz
  refine KE_dict (its := its) (ps := ps) (prs := prs) (pv := pv) (I.ok.hd hcalm) hget edat hl hl2 hp (by rw [hl]; exact hz) fun h' tk hd' k => ?_
  have hm : (s.heap.objs.size == sysModules) = false := beq_eq_false_iff_ne.mpr (Nat.ne_of_gt I.big)
  have hlen : (mergeK [] (dI ls)).length ≤ sizeLine := by
    refine Nat.le_trans (length_mergeK (dI ls) []) ?_
    rw [List.length_nil, Nat.zero_add, rel.length, hl2]
    exact hz
  exact ⟨.ref s.heap.objs.size, upd H s.heap.objs.size (.dK (mergeK [] (dI ls))), I.laid (t' := tk) k (Nat.le_refl _) (show ObjOk X.prog X.w _ _ _ (.dK (mergeK [] (dI ls))) from ⟨hlen, hm, merged [] prs, KV.merge rel .nil, hd'⟩), rfl, q _ (I.hok.fresh (Nat.le_refl _))⟩
end
end Lamp

/-! ## sorted(d.items()), d a table of ints -/
namespace Lamp
open PySem PySem.Spec PyProof.Rows L2 L2.DX
/-- the view d.items() of a table with any keys of one value each -/
def rItemsK : V → List V → Hp → VK → Prop := fun x xs H Q => ∃ (a : Addr) (kvs : List (Key × V)), x = .ref a ∧ xs = [] ∧ H a = some (.dK kvs) ∧ ∀ p, H p = none → Q (.ref p) (upd H p (itemsO p a))
section
variable {X : Cx}
theorem mt_itemsK : MtR X "dict.items" rItemsK := by
  intro pins s σ H x xs v us Q I rx rxs h
  obtain ⟨a, kvs, rfl, rfl, ha, q⟩ := h
  cases rx
  cases rxs
  obtain ⟨z, hd, vs, kv, o, es, ep, ho, hx, hdat, _⟩ := (show ObjOk X.prog X.w H s.heap a (.dK kvs) from I.hok a _ ha)
  refine DT.callItems (es := es) (ep := ep) hd ⟨o, ho, hx, hdat⟩ ?_
  have hf : H s.heap.objs.size = none := I.hok.fresh (Nat.le_refl _)
  exact ⟨.ref s.heap.objs.size, upd H s.heap.objs.size (itemsO s.heap.objs.size a), I.laid (t' := s.toks) (fun b u e => Heap.get?_push_of_some _ e) (Nat.le_refl _) (itemsO_ok (Heap.get?_push_size _ rfl)), rfl, q _ hf⟩
/-- the ints of a pair -/
noncomputable def pairK (h : Heap) (v : Value) : Int × Int := by
  classical exact if e : ∃ p : Int × Int, Srt.IsPair h v p.1 p.2 then e.choose else (0, 0)
theorem pairK_is {h : Heap} {v : Value} {x y : Int} (p : Srt.IsPair h v x y) : pairK h v = (x, y) := by
  have e : ∃ p : Int × Int, Srt.IsPair h v p.1 p.2 := ⟨(x, y), p⟩
  have h1 : pairK h v = e.choose := by
    unfold pairK
    exact dif_pos e
  rw [h1]
  obtain ⟨a, o, t, u, n, e1, ho, hc, hd⟩ := e.choose_spec
  obtain ⟨a', o', t', u', n', e1', ho', hc', hd'⟩ := p
  rw [e1] at e1'
  cases e1'
  rw [ho] at ho'
  cases ho'
  rw [hd] at hd'
  have z := (Data.seq.inj hd').1
  have z2 : [Value.int e.choose.1 t, Value.int e.choose.2 u] = [Value.int x t', Value.int y u'] := congrArg Array.toList z
  have z3 := (List.cons.inj z2).1
  have z4 := (List.cons.inj (List.cons.inj z2).2).1
  exact Prod.ext (Value.int.inj z3).1 (Value.int.inj z4).1
/-- sorted by their keys; a new list of new pairs -/
def rSortII : List V → Hp → VK → Prop := fun xs H Q => ∃ (p a : Addr) (tab : List (Int × Int)), xs = [.ref p] ∧ H p = some (itemsO p a) ∧ H a = some (.dK (dI tab)) ∧ (keysOf tab).Nodup ∧
  ∀ (l : Addr) (ps : List V) (ls : List (Int × Int)) (H' : Hp), H l = none → ls.Perm tab → (keysOf ls).Pairwise (· < ·) → H' l = some (.lst ps) → Paired (At2 H') ps ls → Same H H' → Q (.ref l) H'
theorem dI_at {tab : List (Int × Int)} {vs : List (Key × Value)} {j : Nat} {kv : Key × Value} (h : KV (dI tab) vs) (e : vs[j]? = some kv) : ∃ ab t, tab[j]? = some ab ∧ kv.1 = Sum.inl ab.1 ∧ kv.2 = Value.int ab.2 t := by
  have flip : ∀ {l : List (Key × V)} {m : List (Key × Value)} {j : Nat} {kv : Key × Value}, KV l m → m[j]? = some kv → ∃ kw, l[j]? = some kw ∧ kw.1 = kv.1 ∧ RelV kw.2 kv.2 := by
    intro l m j kv h
    unfold KV at h
    induction h generalizing j with
    | nil => intro e; simp at e
    | cons r t ih =>
      intro e
      cases j with
      | zero =>
        have e2 := Option.some.inj e
        subst e2
        exact ⟨_, rfl, r.1, r.2⟩
      | succ j => exact ih (by simpa using e)
  obtain ⟨kw, e1, e2, e3⟩ := flip h e
  unfold dI at e1
  rw [List.getElem?_map] at e1
  cases e4 : tab[j]? with
  | none =>
    rw [e4] at e1
    cases e1
  | some ab =>
    rw [e4] at e1
    have e5 := Option.some.inj e1
    subst e5
    obtain ⟨t, et⟩ := e3
    exact ⟨ab, t, rfl, e2.symm, et⟩
theorem pairsE_at {knd : KeyKind X.prog X.w Key} {es : List DictEntry} {kvs : List (Key × Value)} (h : Pairs knd es kvs) {j : Nat} {e : DictEntry} (he : es[j]? = some e) : ∃ kv, kvs[j]? = some kv ∧ knd.is kv.1 e.key = true ∧ e.val = kv.2 := by
  induction h generalizing j with
  | nil => simp at he
  | cons h1 h2 t ih =>
    cases j with
    | zero =>
      have e2 := Option.some.inj he
      subst e2
      exact ⟨_, rfl, h1, h2⟩
    | succ j => exact ih (by simpa using he)
theorem pick_pairs {f : Value → Int × Int} : ∀ (as : List Addr) (tab : List (Int × Int)), as.length = tab.length → (∀ (j : Nat) (b : Addr), as[j]? = some b → ∃ ab, tab[j]? = some ab ∧ f (.ref b) = ab) → as.map (fun b => f (.ref b)) = tab
  | [], [], _, _ => rfl
  | [], _ :: _, h, _ => by simp at h
  | _ :: _, [], h, _ => by simp at h
  | a :: as, ab :: tab, h, g => by
    obtain ⟨ab', e1, e2⟩ := g 0 a rfl
    have e3 : ab = ab' := Option.some.inj e1
    rw [List.map_cons, e2, ← e3, pick_pairs as tab (by simpa using h) fun j b hj => by simpa using g (j + 1) b (by simpa using hj)]
theorem pairs_all {H2 : Hp} {f : Value → Int × Int} : ∀ {os : List Addr}, (∀ b ∈ os, ∃ ab : Int × Int, f (.ref b) = ab ∧ H2 b = some (.tup [V.int ab.1, V.int ab.2])) → Paired (At2 H2) (os.map V.ref) (os.map fun b => f (.ref b))
  | [], _ => .nil
  | b :: os, all => by
    obtain ⟨ab, e1, e2⟩ := all b (List.mem_cons_self ..)
    refine .cons ⟨b, rfl, ?_⟩ (pairs_all fun c hcm => all c (List.mem_cons_of_mem _ hcm))
    show H2 b = some (.tup [V.int (f (.ref b)).1, V.int (f (.ref b)).2])
    rw [e1]
    exact e2
theorem cr_sortedItemsI (hc : X.calm = true) : CallR X (.builtin "sorted") rSortII := by
  intro pins s σ H xs us Q I r h
  obtain ⟨p, a, tab, rfl, hp, ha, hnd, q⟩ := h
  obtain rfl := Vals.ref1 r
  have view : s.heap.IsItemsView p a := (show ObjOk X.prog X.w H s.heap p (itemsO p a) from I.hok p _ hp).1
  obtain ⟨z, hd, vs, kv, o, es, ep, ho, hx, hdat, hko, hpr, hn2⟩ := (show ObjOk X.prog X.w H s.heap a (.dK (dI tab)) from I.hok a _ ha)
  have l1 : (dI tab).length = vs.length := Paired.len kv
  have l2 : es.toList.length = vs.length := hpr.length
  rw [Array.length_toList] at l2
  rw [dI_len] at l1 z
  have hh : X.A.handled = none := I.ok.hd hc
  refine DT.sortedI (es := es) (ep := ep) hh view ⟨o, ho, hx, hdat⟩ (by omega) fun h' tk as hk hlt hl hG => ?_
  have lak : as.length = tab.length := by omega
  have nd : as.Nodup := List.Pairwise.imp (fun h => Nat.ne_of_lt h) hG.rise
  have pr : ∀ (j : Nat) (b : Addr), as[j]? = some b → ∃ (ab : Int × Int) (t u : Tok), tab[j]? = some ab ∧ h'.get? b = some { cls := .type "tuple", data := .seq #[Value.int ab.1 t, Value.int ab.2 u] } := by
    intro j b hj
    obtain ⟨en, he, hg⟩ := hG.pairs j b hj
    have he' : es.toList[j]? = some en := by rw [Array.getElem?_toList]; exact he
    obtain ⟨kv0, hv0, hent⟩ := pairsE_at hpr he'
    obtain ⟨ab, u, h1, h2, h3⟩ := dI_at kv hv0
    obtain ⟨hk1, hk2⟩ := hent
    rw [h2] at hk1
    rcases keyIs_shape (show keyIs (Sum.inl ab.1) en.key = true from hk1) with ⟨i, t, ei, ev⟩ | ⟨x, t, ei, ev⟩
    · cases ei
      refine ⟨ab, t, u, h1, ?_⟩
      rw [hg, ev, hk2, h3]
    · cases ei
  -- the heap of the sort
  have hob : (h'.push { cls := .type "list", data := .seq (as.map Value.ref).toArray }).get? h'.objs.size = some (seqObj "list" (as.map Value.ref).toArray 0) := Heap.get?_push_size _ rfl
  have kb : ∀ b o, s.heap.get? b = some o → (h'.push { cls := .type "list", data := .seq (as.map Value.ref).toArray }).get? b = some o := fun b o e => Heap.get?_push_of_some _ (hk b o e)
  have ne0 : ∀ b o, h'.get? b = some o → b ≠ h'.objs.size := fun b o e => Nat.ne_of_lt (Heap.lt_size e)
  have ka : ∀ b o, h'.get? b = some o → (h'.push { cls := .type "list", data := .seq (as.map Value.ref).toArray }).get? b = some o := fun b o e => Heap.get?_push_of_some _ e
  generalize hh2 : h'.push { cls := .type "list", data := .seq (as.map Value.ref).toArray } = h2 at hob kb ka ⊢
  have isP : ∀ (j : Nat) (b : Addr), as[j]? = some b → ∃ ab : Int × Int, tab[j]? = some ab ∧ Srt.IsPair h2 (.ref b) ab.1 ab.2 := by
    intro j b hj
    obtain ⟨ab, t, u, h1, hg⟩ := pr j b hj
    exact ⟨ab, h1, b, _, t, u, 0, rfl, ka _ _ hg, rfl, rfl⟩
  have at_ : ∀ v ∈ as.map Value.ref, ∃ (j : Nat) (b : Addr), v = .ref b ∧ as[j]? = some b := by
    intro v hv'
    obtain ⟨b, hb, rfl⟩ := List.mem_map.mp hv'
    obtain ⟨j, hj⟩ := List.mem_iff_getElem?.mp hb
    exact ⟨j, b, rfl, hj⟩
  have isK : ∀ v ∈ as.map Value.ref, Srt.IsPair h2 v (pairK h2 v).1 (pairK h2 v).2 := by
    intro v hv'
    obtain ⟨j, b, rfl, hj⟩ := at_ v hv'
    obtain ⟨ab, _, hpq⟩ := isP j b hj
    rw [pairK_is hpq]
    exact hpq
  have hz2 : (as.map Value.ref).length ≤ sizeLine := by
    rw [List.length_map, lak]
    exact z
  refine wpAny_call_entry PyProof.Rows.slot_list_sort ⟨_, hob, rfl⟩ PyProof.Rows.entry_list_sort
    (SrtO.list_sort_ord (s := { s with heap := h2, toks := tk }) (SrtO.swo_lex (pairK h2)) hob hz2 (fun hl2 => SrtO.pairs_sortableO (s := { s with heap := h2, toks := tk }) (by omega) isK fun o e => ?_) fun out hs hb => ⟨.none, rfl, ?_⟩) (PyProof.Rows.args_list_sort _)
  · have e' : some o = some (seqObj "list" (as.map Value.ref).toArray 0) := e.symm.trans hob
    cases e'
    intro c
    exact absurd (Value.type.inj c) (by decide)
  · show EP X pins σ Q (.ref h'.objs.size) { s with heap := sortedHeap h2 h'.objs.size (as.map Value.ref) out.toArray, toks := tk }
    have kF : ∀ b o, b ≠ h'.objs.size → h2.get? b = some o → (sortedHeap h2 h'.objs.size (as.map Value.ref) out.toArray).get? b = some o := fun b o hb e => (PyProof.Rows.sortedHeap_old hb (Heap.lt_size e)).trans e
    have kS : ∀ b o, s.heap.get? b = some o → (sortedHeap h2 h'.objs.size (as.map Value.ref) out.toArray).get? b = some o := fun b o e => kF b o (ne0 _ _ (hk b o e)) (kb b o e)
    obtain ⟨eF, heF⟩ := PyProof.Rows.sortedHeap_at (vs := as.map Value.ref) (out := out.toArray) hob
    have I1 : Inv X pins σ H { s with heap := sortedHeap h2 h'.objs.size (as.map Value.ref) out.toArray, toks := tk } := I.kept (t' := tk) kS
    have hn0 : H h'.objs.size = none := I.hok.fresh (Nat.le_of_lt hlt)
    -- the out list's addresses
    have hrefs : ∀ v ∈ out, ∃ b, v = Value.ref b := fun v hv' => by
      obtain ⟨j, b, e, _⟩ := at_ v (hb.perm.mem_iff.mp hv')
      exact ⟨b, e⟩
    obtain ⟨os, eos⟩ : ∃ os : List Addr, out = os.map Value.ref := by
      clear hs hb heF I1 kS kF eF
      induction out with
      | nil => exact ⟨[], rfl⟩
      | cons v r ih =>
        obtain ⟨b, e⟩ := hrefs v (List.mem_cons_self ..)
        obtain ⟨os, e2⟩ := ih fun u hu => hrefs u (List.mem_cons_of_mem _ hu)
        exact ⟨b :: os, by rw [e, e2]; rfl⟩
    subst eos
    have hpm : os.Perm as := by
      have e := hb.perm.map (fun v => match v with | Value.ref b => b | _ => 0)
      rw [List.map_map, List.map_map] at e
      have i1 : ((fun v => match v with | Value.ref b => b | _ => 0) ∘ Value.ref) = (id : Addr → Addr) := rfl
      rw [i1, List.map_id, List.map_id] at e
      exact e
    have len2 : os.length = tab.length := by rw [hpm.length_eq]; exact lak
    have I2 : Inv X pins σ (upd H h'.objs.size (.lst (os.map V.ref))) { s with heap := sortedHeap h2 h'.objs.size (as.map Value.ref) (os.map Value.ref).toArray, toks := tk } :=
      I1.take (h' := sortedHeap h2 h'.objs.size (as.map Value.ref) (os.map Value.ref).toArray) (t' := tk) (fun b ob _ e => e) (I.fpOk (Nat.le_of_lt hlt) hn0) ⟨by rw [List.length_map, len2]; exact z, os.map Value.ref, eF, vals_maps V.ref Value.ref os fun _ _ => rfl, heF⟩
    obtain ⟨H2, I3, g, qt⟩ := takeT (P := fun b vs => ∃ ab : Int × Int, pairK h2 (.ref b) = ab ∧ vs = [V.int ab.1, V.int ab.2]) I as _ I2 nd fun b hb' => by
      obtain ⟨j, hj⟩ := List.mem_iff_getElem?.mp hb'
      obtain ⟨ab, t, u, h1, hg⟩ := pr j b hj
      obtain ⟨ab', h1', hpq⟩ := isP j b hj
      have eab : ab = ab' := Option.some.inj (h1.symm.trans h1')
      have hbl : s.heap.objs.size ≤ b := Nat.le_of_lt (hG.above b hb')
      refine ⟨hbl, ?_, [.int ab.1, .int ab.2], ⟨ab, by rw [pairK_is hpq, eab], rfl⟩, fun H3 => ⟨(by show 2 ≤ sizeLine; decide), [Value.int ab.1 t, Value.int ab.2 u], .cons ⟨_, rfl⟩ (.cons ⟨_, rfl⟩ .nil), ⟨_, kF _ _ (ne0 _ _ hg) (ka _ _ hg), rfl, 0, rfl⟩⟩⟩
      rw [upd_ne (ne0 _ _ hg)]
      exact I.hok.fresh hbl
    have gr : Same H H2 := fun b o e => g b o (by rw [upd_ne (ne_of_none e hn0)]; exact e)
    have emap : as.map (fun b => pairK h2 (.ref b)) = tab := pick_pairs as tab lak fun j b hj => by
      obtain ⟨ab, h1, hpq⟩ := isP j b hj
      exact ⟨ab, h1, pairK_is hpq⟩
    have hperm : (os.map fun b => pairK h2 (.ref b)).Perm tab := by
      have e := hpm.map (fun b => pairK h2 (.ref b))
      rw [emap] at e
      exact e
    have hkn : (keysOf (os.map fun b => pairK h2 (.ref b))).Nodup := (hperm.map Prod.fst).nodup_iff.mpr hnd
    have hle : (keysOf (os.map fun b => pairK h2 (.ref b))).Pairwise (· ≤ ·) := by
      unfold keysOf
      rw [List.map_map, List.pairwise_map]
      have hs' : (os.map Value.ref).Pairwise (fun v u => SrtO.lexB (pairK h2 u) (pairK h2 v) = false) := hs
      rw [List.pairwise_map] at hs'
      refine hs'.imp fun {x y} h => ?_
      have h3 := SrtO.lexB_no.mp h
      show (pairK h2 (.ref x)).1 ≤ (pairK h2 (.ref y)).1
      omega
    refine ⟨.ref h'.objs.size, H2, I3, rfl, q h'.objs.size (os.map V.ref) (os.map fun b => pairK h2 (.ref b)) H2 hn0 hperm (rising hle hkn) (g _ _ upd_same) ?_ gr⟩
    have all : ∀ b ∈ os, ∃ ab : Int × Int, pairK h2 (.ref b) = ab ∧ H2 b = some (.tup [V.int ab.1, V.int ab.2]) := fun b hb' => by
      obtain ⟨vs, ⟨ab, e1, e2⟩, e3⟩ := qt b (hpm.mem_iff.mp hb')
      exact ⟨ab, e1, by rw [e3, e2]⟩
    exact pairs_all all
end
end Lamp

/-! ## Tables put together: what a round behind another one lights -/
namespace Lamp
open PySem PySem.Spec PyProof.Rows L2
/-- the level at a place -/
def lv (t : List (Int × Int)) (k : Int) : Int := (tget t k).getD 0
theorem tget_nil (k : Int) : tget [] k = none := rfl
theorem tget_cons (ab : Int × Int) (r : List (Int × Int)) (k : Int) : tget (ab :: r) k = if ab.1 = k then some ab.2 else tget r k := by
  unfold tget
  rw [List.find?_cons]
  by_cases h : ab.1 = k
  · rw [if_pos h, decide_eq_true h]
    rfl
  · rw [if_neg h, decide_eq_false h]
theorem tget_app : ∀ (t u : List (Int × Int)) (k : Int), tget (t ++ u) k = (tget t k).or (tget u k)
  | [], u, k => by
    rw [tget_nil]
    rfl
  | ab :: r, u, k => by
    rw [List.cons_append, tget_cons, tget_cons, tget_app r u k]
    by_cases h : ab.1 = k
    · rw [if_pos h, if_pos h]
      rfl
    · rw [if_neg h, if_neg h]
theorem tget_none {t : List (Int × Int)} {k : Int} (h : k ∉ keysOf t) : tget t k = none := by
  cases e : tget t k with
  | none => rfl
  | some v => exact absurd (List.mem_map.mpr ⟨_, tget_mem e, rfl⟩) h
theorem tget_upd : ∀ (t : List (Int × Int)) (k v j : Int), tget (t.map fun ab => if ab.1 = k then (ab.1, v) else ab) j = if j = k ∧ k ∈ keysOf t then some v else tget t j
  | [], k, v, j => by
    rw [List.map_nil, tget_nil, if_neg]
    rintro ⟨_, h⟩
    cases h
  | ab :: r, k, v, j => by
    rw [List.map_cons, tget_cons, tget_upd r k v j, tget_cons]
    have e1 : (if ab.1 = k then (ab.1, v) else ab).1 = ab.1 := by split <;> rfl
    have e3 : keysOf (ab :: r) = ab.1 :: keysOf r := rfl
    rw [e1, e3]
    by_cases h1 : ab.1 = j
    · rw [if_pos h1]
      by_cases h2 : ab.1 = k
      · rw [if_pos h2, if_pos ⟨h1.symm.trans h2, by rw [h2]; exact List.mem_cons_self ..⟩]
      · rw [if_neg h2, if_neg (fun q => h2 (h1.trans q.1)), if_pos h1]
    · rw [if_neg h1]
      by_cases h2 : j = k ∧ k ∈ keysOf r
      · rw [if_pos h2, if_pos ⟨h2.1, List.mem_cons_of_mem _ h2.2⟩]
      · rw [if_neg h2, if_neg, if_neg h1]
        rintro ⟨q1, q2⟩
        rcases List.mem_cons.mp q2 with q2 | q2
        · exact h1 (q2.symm.trans q1.symm)
        · exact h2 ⟨q1, q2⟩
theorem tget_put (t : List (Int × Int)) (k v j : Int) : tget (tput t k v) j = if j = k then some v else tget t j := by
  unfold tput
  by_cases h : thas t k = true
  · rw [if_pos h, tget_upd]
    by_cases e : j = k
    · rw [if_pos e, if_pos ⟨e, thas_mem.mp h⟩]
    · rw [if_neg e, if_neg fun q => e q.1]
  · rw [if_neg h, tget_app, tget_cons, tget_nil]
    have hk : k ∉ keysOf t := fun m => h (thas_mem.mpr m)
    by_cases e : j = k
    · rw [if_pos e, e, tget_none hk, if_pos rfl]
      rfl
    · rw [if_neg e, if_neg fun q => e q.symm]
      cases tget t j <;> rfl
theorem tget_del : ∀ (t : List (Int × Int)) (k j : Int), tget (tdel t k) j = if j = k then none else tget t j
  | [], k, j => by
    show tget [] j = _
    rw [tget_nil]
    split <;> rfl
  | ab :: r, k, j => by
    have ih := tget_del r k j
    unfold tdel at ih ⊢
    by_cases h : ab.1 = k
    · rw [List.filter_cons_of_neg (by simp [h]), ih, tget_cons]
      by_cases e : j = k
      · rw [if_pos e, if_pos e]
      · rw [if_neg e, if_neg e, if_neg fun q => e (q.symm.trans h)]
    · rw [List.filter_cons_of_pos (by simp [h]), tget_cons, ih, tget_cons]
      by_cases e : ab.1 = j
      · rw [if_pos e, if_pos e, if_neg fun q => h (e.trans q)]
      · rw [if_neg e, if_neg e]
theorem lv_put (t : List (Int × Int)) (k v j : Int) : lv (tput t k v) j = if j = k then v else lv t j := by
  unfold lv
  rw [tget_put]
  split <;> rfl
theorem lv_del (t : List (Int × Int)) (k j : Int) : lv (tdel t k) j = if j = k then 0 else lv t j := by
  unfold lv
  rw [tget_del]
  split <;> rfl
theorem nodup_tdel {t : List (Int × Int)} (k : Int) (h : (keysOf t).Nodup) : (keysOf (tdel t k)).Nodup := by
  unfold keysOf tdel
  exact h.sublist (List.filter_sublist.map _)
theorem mem_tdel {t : List (Int × Int)} {k : Int} {ab : Int × Int} (h : ab ∈ tdel t k) : ab ∈ t := (List.mem_filter.mp h).1
theorem len_tdel (t : List (Int × Int)) (k : Int) : (tdel t k).length ≤ t.length := List.length_filter_le ..
/-- one lamp more -/
def addS (p m c : Int) (acc : List (Int × Int)) (ab : Int × Int) : List (Int × Int) :=
  if (lv acc (ab.1 + m) + c * ab.2) % p = 0 then tdel acc (ab.1 + m) else tput acc (ab.1 + m) ((lv acc (ab.1 + m) + c * ab.2) % p)
def addT (p : Int) (one other : List (Int × Int)) (m c : Int) : List (Int × Int) := other.foldl (addS p m c) one
/-- a table of p levels: each place once, each level between -/
structure Tab (p : Int) (t : List (Int × Int)) : Prop where
  nd : (keysOf t).Nodup
  lev : ∀ ab ∈ t, 0 < ab.2 ∧ ab.2 < p
theorem Good.tab {p : Int} {ls : List (Int × Int)} (h : Good p ls) : Tab p ls := ⟨h.asc.imp fun h => Int.ne_of_lt h, h.lev⟩
theorem Tab.lv {p : Int} {t : List (Int × Int)} (h : Tab p t) (hp : 0 < p) (k : Int) : 0 ≤ Lamp.lv t k ∧ Lamp.lv t k < p := by
  unfold Lamp.lv
  cases e : tget t k with
  | none => exact ⟨Int.le_refl 0, hp⟩
  | some v =>
    have := h.lev _ (tget_mem e)
    exact ⟨Int.le_of_lt this.1, this.2⟩
theorem Tab.addS {p m c : Int} {acc : List (Int × Int)} {ab : Int × Int} (hp : 0 < p) (h : Tab p acc) : Tab p (addS p m c acc ab) := by
  unfold Lamp.addS
  split
  · exact ⟨nodup_tdel _ h.nd, fun cd hc => h.lev cd (mem_tdel hc)⟩
  · rename_i hne
    refine ⟨nodup_tput _ _ h.nd, fun cd hc => ?_⟩
    rcases mem_tput hc with hc | rfl
    · exact h.lev cd hc
    · have h1 := Int.emod_nonneg (Lamp.lv acc (ab.1 + m) + c * ab.2) (Int.ne_of_gt hp)
      have h2 := Int.emod_lt_of_pos (Lamp.lv acc (ab.1 + m) + c * ab.2) hp
      exact ⟨by show 0 < _ % p; omega, h2⟩
theorem Tab.addT {p m c : Int} (hp : 0 < p) : ∀ {other acc : List (Int × Int)}, Tab p acc → Tab p (addT p acc other m c)
  | [], _, h => h
  | ab :: r, acc, h => Tab.addT (other := r) hp (h.addS hp)
theorem addS_lv (p m c : Int) (acc : List (Int × Int)) (ab : Int × Int) (j : Int) : lv (addS p m c acc ab) j = if j = ab.1 + m then (lv acc (ab.1 + m) + c * ab.2) % p else lv acc j := by
  unfold addS
  split
  · rename_i h
    rw [lv_del, h]
  · rw [lv_put]
theorem lv_cons (ab : Int × Int) (r : List (Int × Int)) (k : Int) : lv (ab :: r) k = if ab.1 = k then ab.2 else lv r k := by
  unfold lv
  rw [tget_cons]
  split <;> rfl
/-- THE SUM -/
theorem addT_lv {p m c : Int} (hp : 0 < p) : ∀ {other acc : List (Int × Int)}, Tab p acc → (keysOf other).Nodup → ∀ j, lv (addT p acc other m c) j = (lv acc j + c * lv other (j - m)) % p
  | [], acc, h, _, j => by
    have e := h.lv hp j
    show lv acc j = _
    have e0 : lv [] (j - m) = 0 := rfl
    rw [e0, Int.mul_zero, Int.add_zero, Int.emod_eq_of_lt e.1 e.2]
  | ab :: r, acc, h, hn, j => by
    have hn' := List.nodup_cons.mp (show (ab.1 :: keysOf r).Nodup from hn)
    have ih := addT_lv (m := m) (c := c) hp (other := r) (acc := addS p m c acc ab) (h.addS hp) hn'.2 j
    show lv (addT p (addS p m c acc ab) r m c) j = _
    rw [ih, addS_lv, lv_cons]
    by_cases e : j = ab.1 + m
    · have e2 : ab.1 = j - m := by omega
      have e3 : lv r (j - m) = 0 := by
        unfold lv
        rw [tget_none (by rw [← e2]; exact hn'.1)]
        rfl
      rw [if_pos e, if_pos e2, e3, Int.mul_zero, Int.add_zero, Int.emod_emod_of_dvd _ (Int.dvd_refl p), e]
    · have e2 : ¬ ab.1 = j - m := by omega
      rw [if_neg e, if_neg e2]
theorem addS_mem {p m c : Int} {acc : List (Int × Int)} {ab cd : Int × Int} (h : cd ∈ addS p m c acc ab) : cd ∈ acc ∨ cd.1 = ab.1 + m := by
  unfold addS at h
  split at h
  · exact Or.inl (mem_tdel h)
  · rcases mem_tput h with h | rfl
    · exact Or.inl h
    · exact Or.inr rfl
theorem addT_mem {p m c : Int} : ∀ {other acc : List (Int × Int)} {cd : Int × Int}, cd ∈ addT p acc other m c → cd ∈ acc ∨ ∃ ab ∈ other, cd.1 = ab.1 + m
  | [], _, _, h => Or.inl h
  | ab :: r, acc, cd, h => by
    rcases addT_mem (other := r) (acc := addS p m c acc ab) h with h | ⟨x, hx, e⟩
    · rcases addS_mem h with h | h
      · exact Or.inl h
      · exact Or.inr ⟨ab, List.mem_cons_self .., h⟩
    · exact Or.inr ⟨x, List.mem_cons_of_mem _ hx, e⟩
theorem addS_len (p m c : Int) (acc : List (Int × Int)) (ab : Int × Int) : (addS p m c acc ab).length ≤ acc.length + 1 := by
  unfold addS
  split
  · exact Nat.le_trans (len_tdel _ _) (Nat.le_succ _)
  · exact len_tput _ _ _
theorem addT_len (p m c : Int) : ∀ (other acc : List (Int × Int)), (addT p acc other m c).length ≤ acc.length + other.length
  | [], acc => Nat.le_refl _
  | ab :: r, acc => by
    have h1 := addT_len p m c r (addS p m c acc ab)
    have h2 := addS_len p m c acc ab
    show (addT p (addS p m c acc ab) r m c).length ≤ _
    rw [List.length_cons]
    omega
theorem lv_out {ls : List (Int × Int)} {k : Int} (h : k ∉ keysOf ls) : lv ls k = 0 := by
  unfold lv
  rw [tget_none h]
  rfl
/-- two right pictures that light the same are the same -/
theorem Good.ext {p : Int} : ∀ {ls ms : List (Int × Int)}, Good p ls → Good p ms → (∀ k, lv ls k = lv ms k) → ls = ms
  | [], [], _, _, _ => rfl
  | [], b :: m, _, h2, e => by
    have h := (h2.lev b (List.mem_cons_self ..)).1
    have e1 := e b.1
    rw [lv_cons, if_pos rfl, lv_out (by simp [keysOf])] at e1
    omega
  | a :: l, [], h1, _, e => by
    have h := (h1.lev a (List.mem_cons_self ..)).1
    have e1 := e a.1
    rw [lv_cons, if_pos rfl, lv_out (by simp [keysOf])] at e1
    omega
  | a :: l, b :: m, h1, h2, e => by
    have p1 := List.pairwise_cons.mp (show (a.1 :: keysOf l).Pairwise (· < ·) from h1.asc)
    have p2 := List.pairwise_cons.mp (show (b.1 :: keysOf m).Pairwise (· < ·) from h2.asc)
    have la := (h1.lev a (List.mem_cons_self ..)).1
    have lb := (h2.lev b (List.mem_cons_self ..)).1
    have na : ∀ k, k < a.1 → lv (a :: l) k = 0 := fun k hk => lv_out fun m => by
      rcases List.mem_cons.mp (show k ∈ a.1 :: keysOf l from m) with q | q
      · omega
      · have := p1.1 k q
        omega
    have nb : ∀ k, k < b.1 → lv (b :: m) k = 0 := fun k hk => lv_out fun m => by
      rcases List.mem_cons.mp (show k ∈ b.1 :: keysOf _ from m) with q | q
      · omega
      · have := p2.1 k q
        omega
    have ea := e a.1
    have eb := e b.1
    rw [lv_cons, if_pos rfl] at ea
    rw [lv_cons b m b.1, if_pos rfl] at eb
    have e1 : a.1 = b.1 := by
      rcases Int.lt_trichotomy a.1 b.1 with q | q | q
      · rw [nb _ q] at ea
        omega
      · exact q
      · rw [na _ q] at eb
        omega
    rw [lv_cons, if_pos e1.symm] at ea
    have eab : a = b := Prod.ext e1 ea
    subst eab
    congr 1
    refine Good.ext ⟨p1.2, fun ab h => h1.lev ab (List.mem_cons_of_mem _ h)⟩ ⟨p2.2, fun ab h => h2.lev ab (List.mem_cons_of_mem _ h)⟩ fun k => ?_
    by_cases hk : a.1 = k
    · subst hk
      rw [lv_out fun m => Int.lt_irrefl _ (p1.1 _ m), lv_out fun m => Int.lt_irrefl _ (p2.1 _ m)]
    · have := e k
      rw [lv_cons, lv_cons, if_neg hk, if_neg hk] at this
      exact this
theorem lv_of_mem {t : List (Int × Int)} (hn : (keysOf t).Nodup) {ab : Int × Int} (h : ab ∈ t) : lv t ab.1 = ab.2 := by
  induction t with
  | nil => cases h
  | cons x r ih =>
    have hn' := List.nodup_cons.mp (show (x.1 :: keysOf r).Nodup from hn)
    rw [lv_cons]
    rcases List.mem_cons.mp h with rfl | h
    · rw [if_pos rfl]
    · by_cases e : x.1 = ab.1
      · exact absurd (by rw [e]; exact List.mem_map.mpr ⟨ab, h, rfl⟩) hn'.1
      · rw [if_neg e]
        exact ih hn'.2 h
/-- the same lamps in another order light the same -/
theorem lv_perm {t u : List (Int × Int)} (hn : (keysOf t).Nodup) (h : t.Perm u) (k : Int) : lv t k = lv u k := by
  have hn2 : (keysOf u).Nodup := (h.map Prod.fst).nodup_iff.mp hn
  by_cases m : k ∈ keysOf t
  · obtain ⟨ab, h1, rfl⟩ := List.mem_map.mp m
    rw [lv_of_mem hn h1, lv_of_mem hn2 (h.mem_iff.mp h1)]
  · have m2 : k ∉ keysOf u := fun q => m ((h.map Prod.fst).mem_iff.mpr q)
    rw [lv_out m, lv_out m2]
/-- a table in the order of its places -/
theorem Tab.good {p : Int} {t ls : List (Int × Int)} (h : Tab p t) (hp : ls.Perm t) (ha : (keysOf ls).Pairwise (· < ·)) : Good p ls := ⟨ha, fun ab hm => h.lev ab (hp.mem_iff.mp hm)⟩
/-- dict(tuple): all places unlike -/
theorem mergeK_dI : ∀ (r acc : List (Int × Int)), (keysOf (acc ++ r)).Nodup → mergeK (dI acc) (dI r) = dI (acc ++ r)
  | [], acc, _ => by
    rw [List.append_nil]
    rfl
  | ab :: r, acc, h => by
    have hk : ab.1 ∉ keysOf acc := by
      intro m
      unfold keysOf at h m
      rw [List.map_append, List.nodup_append] at h
      exact h.2.2 _ m _ (List.mem_cons_self ..) rfl
    have e1 : mergeK (dI acc) (dI (ab :: r)) = mergeK (putK (dI acc) (Sum.inl ab.1) (V.int ab.2)) (dI r) := rfl
    have e2 : tput acc ab.1 ab.2 = acc ++ [ab] := by
      unfold tput
      rw [if_neg fun q => hk (thas_mem.mp q)]
    rw [e1, dI_put, e2, mergeK_dI r (acc ++ [ab]) (by rw [List.append_assoc]; exact h), List.append_assoc]
    rfl
end Lamp

/-! ## f(name = e, ..): keywords alone -/
namespace Lamp
open PySem PySem.Spec PyProof.Rows L2
section
variable {X : Cx} {CX : CXT} {k : Nat} {f : Addr} {fd : FuncData} {ps ks : List Str} {sp : Sp} {E : XK} {x : Str} {p pos : Pos} {kws : List Keyword} {tk : TA} {g : List Value → List Value → List Value} {gV : List V → List V → List V}
theorem pe_callK0 (F : FnOk X.prog X.w X.K X.mg X.base CX k f fd ps sp) (hr : Room k X.A) (hg : Gl X x) (hm : X.mg x = some (.ref f)) (hk : PySem.W.keepIn X.K (.ref f) = true) (hb : KBn X.K fd ps 0 ks g gV) (hx : Passes CX X E) (hkw : PK X kws tk)
    (hall : (backToKw pos (keywordEach kws X.env)).all (·.1.isSome) = true := by rfl) (hks : (backToKw pos (keywordEach kws X.env)).filterMap (·.1) = ks := by rfl) (hdb : (x == ("__debug__" : Str)) = false := by decide)
    (hpl : ((backTo pos (starEach [] X.env)).any (·.1) || (backToKw pos (keywordEach kws X.env)).any (·.1.isNone)) = false := by rfl) :
    PE X (.Call (.Name x p) [] kws pos) (tCallN 0 ks.length sp gV E tNil tk) := by
  refine ⟨fun pins s σ H Q I h => ?_⟩
  refine wpAny_Call_Name_kw (ld_glob I hg hm ?_ hdb)
  refine PySem.W.callWith_KW0 (h₀ := X.base) I.ok.mod.kin hk hall ?_ hpl
  refine thn (hkw.run pos pins s σ H _ I h) fun ws s2 ⟨zs, H2, I2, rz, l1, l2, q2⟩ => ⟨I2.kIn, ?_⟩
  rw [hks]
  exact run_fnN (us := []) (vs := []) F hr hb hx I2 .nil rz l1 l2 q2
end
end Lamp
namespace Lamp
open PySem PySem.Spec PyProof.Rows L2
def topS (i : Nat) : Stmt := PySem.Challenge.pw_lamprounds_k07_whole_rounds_one_behind_a.main.body.getD i (.Pass ⟨0, 0, 0, 0⟩)
abbrev s_InvalidText_init : Stmt := (inClass (topS 2) 0)
abbrev s_InvalidLevels_init : Stmt := (inClass (topS 3) 0)
abbrev s_InvalidNumber_init : Stmt := (inClass (topS 4) 0)
abbrev s_NotRound_init : Stmt := (inClass (topS 5) 0)
abbrev s_InvalidLamps_init : Stmt := (inClass (topS 6) 0)
abbrev s_OtherLevels_init : Stmt := (inClass (topS 8) 0)
abbrev s_TooMany_init : Stmt := (inClass (topS 9) 0)
abbrev s_is_integer : Stmt := (topS 14)
abbrev s_written_integer : Stmt := (topS 15)
abbrev s_bent_lamp : Stmt := (topS 17)
abbrev s_wrong_lamp : Stmt := (topS 18)
abbrev s_are_levels : Stmt := (topS 19)
abbrev s_added : Stmt := (topS 20)
abbrev s_lamps_of : Stmt := (topS 21)
abbrev s_Round_init : Stmt := (inClass (topS 23) 1)
abbrev s_Round_read : Stmt := (inClass (topS 23) 2)
abbrev s_Round_levels : Stmt := (inClass (topS 23) 3)
abbrev s_Round_lamps : Stmt := (inClass (topS 23) 4)
abbrev s_Round_end : Stmt := (inClass (topS 23) 5)
abbrev s_Round_text : Stmt := (inClass (topS 23) 6)
abbrev s_Round_len : Stmt := (inClass (topS 23) 7)
abbrev s_Round_bool : Stmt := (inClass (topS 23) 8)
abbrev s_Round_eq : Stmt := (inClass (topS 23) 9)
abbrev s_Round_str : Stmt := (inClass (topS 23) 10)
abbrev s_Round_repr : Stmt := (inClass (topS 23) 11)
abbrev s_table : Stmt := (topS 24)
abbrev s_made_round : Stmt := (topS 25)
abbrev s_text_lamp : Stmt := (topS 26)
abbrev s_text_round : Stmt := (topS 27)
abbrev s_check_levels : Stmt := (topS 28)
abbrev s_check_number : Stmt := (topS 29)
abbrev s_check_round : Stmt := (topS 30)
abbrev s_check_pair : Stmt := (topS 31)
abbrev s_then_of : Stmt := (topS 33)
abbrev s_undone_of : Stmt := (topS 34)
abbrev s_then : Stmt := (topS 35)
abbrev s_undone : Stmt := (topS 36)
abbrev s_law_begun : Stmt := (topS 38)
abbrev s_law_cast : Stmt := (topS 39)
abbrev s_law_any_of : Stmt := (topS 40)
abbrev s_law_vast : Stmt := (topS 41)
abbrev s_law_place : Stmt := (topS 42)
abbrev s_law_picture : Stmt := (topS 43)
abbrev s_law_sheet : Stmt := (topS 44)
abbrev s_law_of : Stmt := (topS 45)
abbrev s_law_built : Stmt := (topS 46)
abbrev s_law_tidy : Stmt := (topS 47)
abbrev s_law_then : Stmt := (topS 48)
abbrev s_law_back : Stmt := (topS 49)
abbrev s_law_mate : Stmt := (topS 50)
abbrev s_law_told : Stmt := (topS 51)
abbrev s_law_right : Stmt := (topS 52)
abbrev s_law : Stmt := (topS 53)
theorem sc_InvalidText_init : FnScope ["self", "given"] ["self", "given"] (defScope s_InvalidText_init) := ⟨rfl, rfl, rfl, by decide +kernel, rfl, by decide +kernel, by decide +kernel⟩
theorem sc_InvalidLevels_init : FnScope ["self", "given"] ["self", "given"] (defScope s_InvalidLevels_init) := ⟨rfl, rfl, rfl, by decide +kernel, rfl, by decide +kernel, by decide +kernel⟩
theorem sc_InvalidNumber_init : FnScope ["self", "given"] ["self", "given"] (defScope s_InvalidNumber_init) := ⟨rfl, rfl, rfl, by decide +kernel, rfl, by decide +kernel, by decide +kernel⟩
theorem sc_NotRound_init : FnScope ["self", "given"] ["self", "given"] (defScope s_NotRound_init) := ⟨rfl, rfl, rfl, by decide +kernel, rfl, by decide +kernel, by decide +kernel⟩
theorem sc_InvalidLamps_init : FnScope ["self", "index"] ["self", "index"] (defScope s_InvalidLamps_init) := ⟨rfl, rfl, rfl, by decide +kernel, rfl, by decide +kernel, by decide +kernel⟩
theorem sc_OtherLevels_init : FnScope ["self", "given"] ["self", "given"] (defScope s_OtherLevels_init) := ⟨rfl, rfl, rfl, by decide +kernel, rfl, by decide +kernel, by decide +kernel⟩
theorem sc_TooMany_init : FnScope ["self", "given"] ["self", "given"] (defScope s_TooMany_init) := ⟨rfl, rfl, rfl, by decide +kernel, rfl, by decide +kernel, by decide +kernel⟩
theorem sc_is_integer : FnScope ["value"] ["value"] (defScope s_is_integer) := ⟨rfl, rfl, rfl, by decide +kernel, rfl, by decide +kernel, by decide +kernel⟩
theorem sc_written_integer : FnScope ["word", "digits", "sign"] ["word"] (defScope s_written_integer) := ⟨rfl, rfl, rfl, by decide +kernel, rfl, by decide +kernel, by decide +kernel⟩
theorem sc_bent_lamp : FnScope ["levels", "value", "at", "lamp"] ["levels", "value"] (defScope s_bent_lamp) := ⟨rfl, rfl, rfl, by decide +kernel, rfl, by decide +kernel, by decide +kernel⟩
theorem sc_wrong_lamp : FnScope ["levels", "value", "at"] ["levels", "value"] (defScope s_wrong_lamp) := ⟨rfl, rfl, rfl, by decide +kernel, rfl, by decide +kernel, by decide +kernel⟩
theorem sc_are_levels : FnScope ["value"] ["value"] (defScope s_are_levels) := ⟨rfl, rfl, rfl, by decide +kernel, rfl, by decide +kernel, by decide +kernel⟩
theorem sc_added : FnScope ["levels", "one", "other", "move", "by", "found", "place", "level", "sum_here"] ["levels", "one", "other", "move", "by"] (defScope s_added) := ⟨rfl, rfl, rfl, by decide +kernel, rfl, by decide +kernel, by decide +kernel⟩
theorem sc_lamps_of : FnScope ["table"] ["table"] (defScope s_lamps_of) := ⟨rfl, rfl, rfl, by decide +kernel, rfl, by decide +kernel, by decide +kernel⟩
theorem sc_Round_init : FnScope ["self", "levels", "lamps", "end", "at"] ["self", "levels", "lamps", "end"] (defScope s_Round_init) := ⟨rfl, rfl, rfl, by decide +kernel, rfl, by decide +kernel, by decide +kernel⟩
theorem sc_Round_read : FnScope ["cls", "text", "found"] ["cls", "text"] (defScope s_Round_read) := ⟨rfl, rfl, rfl, by decide +kernel, rfl, by decide +kernel, by decide +kernel⟩
theorem sc_Round_levels : FnScope ["self"] ["self"] (defScope s_Round_levels) := ⟨rfl, rfl, rfl, by decide +kernel, rfl, by decide +kernel, by decide +kernel⟩
theorem sc_Round_lamps : FnScope ["self"] ["self"] (defScope s_Round_lamps) := ⟨rfl, rfl, rfl, by decide +kernel, rfl, by decide +kernel, by decide +kernel⟩
theorem sc_Round_end : FnScope ["self"] ["self"] (defScope s_Round_end) := ⟨rfl, rfl, rfl, by decide +kernel, rfl, by decide +kernel, by decide +kernel⟩
theorem sc_Round_text : FnScope ["self"] ["self"] (defScope s_Round_text) := ⟨rfl, rfl, rfl, by decide +kernel, rfl, by decide +kernel, by decide +kernel⟩
theorem sc_Round_len : FnScope ["self"] ["self"] (defScope s_Round_len) := ⟨rfl, rfl, rfl, by decide +kernel, rfl, by decide +kernel, by decide +kernel⟩
theorem sc_Round_bool : FnScope ["self"] ["self"] (defScope s_Round_bool) := ⟨rfl, rfl, rfl, by decide +kernel, rfl, by decide +kernel, by decide +kernel⟩
theorem sc_Round_eq : FnScope ["self", "other", "mine"] ["self", "other"] (defScope s_Round_eq) := ⟨rfl, rfl, rfl, by decide +kernel, rfl, by decide +kernel, by decide +kernel⟩
theorem sc_Round_str : FnScope ["self", "words", "place", "level"] ["self"] (defScope s_Round_str) := ⟨rfl, rfl, rfl, by decide +kernel, rfl, by decide +kernel, by decide +kernel⟩
theorem sc_Round_repr : FnScope ["self"] ["self"] (defScope s_Round_repr) := ⟨rfl, rfl, rfl, by decide +kernel, rfl, by decide +kernel, by decide +kernel⟩
theorem sc_table : FnScope ["trip"] ["trip"] (defScope s_table) := ⟨rfl, rfl, rfl, by decide +kernel, rfl, by decide +kernel, by decide +kernel⟩
theorem sc_made_round : FnScope ["levels", "lamps", "end"] ["levels", "lamps", "end"] (defScope s_made_round) := ⟨rfl, rfl, rfl, by decide +kernel, rfl, by decide +kernel, by decide +kernel⟩
theorem sc_text_lamp : FnScope ["word", "parts", "part"] ["word"] (defScope s_text_lamp) := ⟨rfl, rfl, rfl, by decide +kernel, rfl, by decide +kernel, by decide +kernel⟩
theorem sc_text_round : FnScope ["value", "words", "levels", "end", "lamps", "word"] ["value"] (defScope s_text_round) := ⟨rfl, rfl, rfl, by decide +kernel, rfl, by decide +kernel, by decide +kernel⟩
theorem sc_check_levels : FnScope ["value"] ["value"] (defScope s_check_levels) := ⟨rfl, rfl, rfl, by decide +kernel, rfl, by decide +kernel, by decide +kernel⟩
theorem sc_check_number : FnScope ["value"] ["value"] (defScope s_check_number) := ⟨rfl, rfl, rfl, by decide +kernel, rfl, by decide +kernel, by decide +kernel⟩
theorem sc_check_round : FnScope ["value"] ["value"] (defScope s_check_round) := ⟨rfl, rfl, rfl, by decide +kernel, rfl, by decide +kernel, by decide +kernel⟩
theorem sc_check_pair : FnScope ["one", "other"] ["one", "other"] (defScope s_check_pair) := ⟨rfl, rfl, rfl, by decide +kernel, rfl, by decide +kernel, by decide +kernel⟩
theorem sc_then_of : FnScope ["one", "other"] ["one", "other"] (defScope s_then_of) := ⟨rfl, rfl, rfl, by decide +kernel, rfl, by decide +kernel, by decide +kernel⟩
theorem sc_undone_of : FnScope ["trip"] ["trip"] (defScope s_undone_of) := ⟨rfl, rfl, rfl, by decide +kernel, rfl, by decide +kernel, by decide +kernel⟩
theorem sc_then : FnScope ["trip", "second"] ["trip", "second"] (defScope s_then) := ⟨rfl, rfl, rfl, by decide +kernel, rfl, by decide +kernel, by decide +kernel⟩
theorem sc_undone : FnScope ["trip"] ["trip"] (defScope s_undone) := ⟨rfl, rfl, rfl, by decide +kernel, rfl, by decide +kernel, by decide +kernel⟩
theorem sc_law_begun : FnScope ["_law_script", "_law_turn", "_law_own", "_law_state", "_law_cell"] ["_law_script", "_law_turn"] (defScope s_law_begun) := ⟨rfl, rfl, rfl, by decide +kernel, rfl, by decide +kernel, by decide +kernel⟩
theorem sc_law_cast : FnScope ["_law_pail", "_law_many", "_law_figure", "_law_state"] ["_law_pail", "_law_many"] (defScope s_law_cast) := ⟨rfl, rfl, rfl, by decide +kernel, rfl, by decide +kernel, by decide +kernel⟩
theorem sc_law_any_of : FnScope ["_law_pail", "_law_some"] ["_law_pail", "_law_some"] (defScope s_law_any_of) := ⟨rfl, rfl, rfl, by decide +kernel, rfl, by decide +kernel, by decide +kernel⟩
theorem sc_law_vast : FnScope ["_law_pail", "_law_many", "_law_found", "_law_turn"] ["_law_pail", "_law_many"] (defScope s_law_vast) := ⟨rfl, rfl, rfl, by decide +kernel, rfl, by decide +kernel, by decide +kernel⟩
theorem sc_law_place : FnScope ["_law_pail", "_law_chance"] ["_law_pail"] (defScope s_law_place) := ⟨rfl, rfl, rfl, by decide +kernel, rfl, by decide +kernel, by decide +kernel⟩
theorem sc_law_picture : FnScope ["_law_pail", "_law_p", "_law_many", "_law_chart", "_law_k", "_law_at"] ["_law_pail", "_law_p", "_law_many"] (defScope s_law_picture) := ⟨rfl, rfl, rfl, by decide +kernel, rfl, by decide +kernel, by decide +kernel⟩
theorem sc_law_sheet : FnScope ["_law_parts", "_law_p", "_law_lamps_here", "_law_last", "_law_tail", "_law_at", "_law_level"] ["_law_parts"] (defScope s_law_sheet) := ⟨rfl, rfl, rfl, by decide +kernel, rfl, by decide +kernel, by decide +kernel⟩
theorem sc_law_of : FnScope ["_law_parts"] ["_law_parts"] (defScope s_law_of) := ⟨rfl, rfl, rfl, by decide +kernel, rfl, by decide +kernel, by decide +kernel⟩
theorem sc_law_built : FnScope ["_law_pail", "_law_parts", "_law_chance"] ["_law_pail", "_law_parts"] (defScope s_law_built) := ⟨rfl, rfl, rfl, by decide +kernel, rfl, by decide +kernel, by decide +kernel⟩
theorem sc_law_tidy : FnScope ["_law_p", "_law_chart", "_law_found", "_law_at", "_law_pair"] ["_law_p", "_law_chart"] (defScope s_law_tidy) := ⟨rfl, rfl, rfl, by decide +kernel, rfl, by decide +kernel, by decide +kernel⟩
theorem sc_law_then : FnScope ["_law_near", "_law_far", "_law_p", "_law_lamps_here", "_law_last", "_law_chart", "_law_at", "_law_level"] ["_law_near", "_law_far"] (defScope s_law_then) := ⟨rfl, rfl, rfl, by decide +kernel, rfl, by decide +kernel, by decide +kernel⟩
theorem sc_law_back : FnScope ["_law_parts", "_law_p", "_law_lamps_here", "_law_last", "_law_at", "_law_level"] ["_law_parts"] (defScope s_law_back) := ⟨rfl, rfl, rfl, by decide +kernel, rfl, by decide +kernel, by decide +kernel⟩
theorem sc_law_mate : FnScope ["_law_pail", "_law_p", "_law_some"] ["_law_pail", "_law_p"] (defScope s_law_mate) := ⟨rfl, rfl, rfl, by decide +kernel, rfl, by decide +kernel, by decide +kernel⟩
theorem sc_law_told : FnScope ["_law_mine"] ["_law_mine"] (defScope s_law_told) := ⟨rfl, rfl, rfl, by decide +kernel, rfl, by decide +kernel, by decide +kernel⟩
theorem sc_law_right : FnScope ["_law_pail", "_law_turn", "_law_p", "_law_near", "_law_far", "_law_more", "_law_x", "_law_y", "_law_z", "_law_still", "_law_due", "_law_back_here"] ["_law_pail"] (defScope s_law_right) := ⟨rfl, rfl, rfl, by decide +kernel, rfl, by decide +kernel, by decide +kernel⟩
theorem sc_law : FnScope ["_law_script", "_law_turn"] ["_law_script"] (defScope s_law) := ⟨rfl, rfl, rfl, by decide +kernel, rfl, by decide +kernel, by decide +kernel⟩
structure Tx (K : PySem.W.Frag) (mg : Str → Option Value) where
  C_Round : Addr
  g_Round : mg "Round" = some (.ref C_Round)
  sc_Round : SlX.SCls K C_Round
  si_Round : SlX.SIsi K C_Round
  p_own_end : Addr
  sl_own_end : SlX.Slot1 K C_Round "own_end" p_own_end 0
  p_own_lamps : Addr
  sl_own_lamps : SlX.Slot1 K C_Round "own_lamps" p_own_lamps 1
  p_own_levels : Addr
  sl_own_levels : SlX.Slot1 K C_Round "own_levels" p_own_levels 2
  ne_Round : PySem.W.findIn K (.ref C_Round) "__ne__" = some (some (.builtin "object.__ne__"))
  cr_Round : ClX.CRead K C_Round (.type "type")
  a_is_integer : Addr
  d_is_integer : FuncData
  F_is_integer : Fun K "is_integer" "is_integer" s_is_integer a_is_integer d_is_integer
  b_is_integer : Binds K d_is_integer ["value"] []
  g_is_integer : mg "is_integer" = some (.ref a_is_integer)
  a_written_integer : Addr
  d_written_integer : FuncData
  F_written_integer : Fun K "written_integer" "written_integer" s_written_integer a_written_integer d_written_integer
  b_written_integer : Binds K d_written_integer ["word"] []
  g_written_integer : mg "written_integer" = some (.ref a_written_integer)
  a_bent_lamp : Addr
  d_bent_lamp : FuncData
  F_bent_lamp : Fun K "bent_lamp" "bent_lamp" s_bent_lamp a_bent_lamp d_bent_lamp
  b_bent_lamp : Binds K d_bent_lamp ["levels", "value"] []
  g_bent_lamp : mg "bent_lamp" = some (.ref a_bent_lamp)
  a_wrong_lamp : Addr
  d_wrong_lamp : FuncData
  F_wrong_lamp : Fun K "wrong_lamp" "wrong_lamp" s_wrong_lamp a_wrong_lamp d_wrong_lamp
  b_wrong_lamp : Binds K d_wrong_lamp ["levels", "value"] []
  g_wrong_lamp : mg "wrong_lamp" = some (.ref a_wrong_lamp)
  a_are_levels : Addr
  d_are_levels : FuncData
  F_are_levels : Fun K "are_levels" "are_levels" s_are_levels a_are_levels d_are_levels
  b_are_levels : Binds K d_are_levels ["value"] []
  g_are_levels : mg "are_levels" = some (.ref a_are_levels)
  a_added : Addr
  d_added : FuncData
  F_added : Fun K "added" "added" s_added a_added d_added
  b_added : Binds K d_added ["levels", "one", "other", "move", "by"] []
  g_added : mg "added" = some (.ref a_added)
  a_lamps_of : Addr
  d_lamps_of : FuncData
  F_lamps_of : Fun K "lamps_of" "lamps_of" s_lamps_of a_lamps_of d_lamps_of
  b_lamps_of : Binds K d_lamps_of ["table"] []
  g_lamps_of : mg "lamps_of" = some (.ref a_lamps_of)
  a_Round_init : Addr
  d_Round_init : FuncData
  F_Round_init : Fun K "__init__" "Round.__init__" s_Round_init a_Round_init d_Round_init
  b_Round_init : Binds K d_Round_init ["self", "levels", "lamps", "end"] []
  fi_Round_init : PySem.W.findIn K (.ref C_Round) "__init__" = some (some (.ref a_Round_init))
  is_Round_init : PySem.W.isFn K (.ref a_Round_init) = true
  p_Round_read : Addr
  a_Round_read : Addr
  d_Round_read : FuncData
  F_Round_read : Fun K "read" "Round.read" s_Round_read a_Round_read d_Round_read
  b_Round_read : Binds K d_Round_read ["cls", "text"] []
  bk_Round_read : ∀ (s : Shared) (c v : Value), BindsTo s d_Round_read ⟨[c], [("text", v)]⟩ [("cls", c), ("text", v)]
  cm_Round_read : ClX.CMet K C_Round (.type "type") "read" p_Round_read a_Round_read
  p_Round_levels : Addr
  a_Round_levels : Addr
  d_Round_levels : FuncData
  F_Round_levels : Fun K "levels" "Round.levels" s_Round_levels a_Round_levels d_Round_levels
  b_Round_levels : Binds K d_Round_levels ["self"] []
  pa_Round_levels : PySem.W.findIn K (.ref C_Round) "levels" = some (some (.ref p_Round_levels))
  pg_Round_levels : PySem.W.specialIn K (.ref p_Round_levels) "__get__" = some (some (.builtin "property.__get__"))
  pt_Round_levels : PySem.W.takesIn K (.ref p_Round_levels) = some true
  pr_Round_levels : ∃ rest, PySem.W.recIn K p_Round_levels "property" = some (.ref a_Round_levels :: rest)
  p_Round_lamps : Addr
  a_Round_lamps : Addr
  d_Round_lamps : FuncData
  F_Round_lamps : Fun K "lamps" "Round.lamps" s_Round_lamps a_Round_lamps d_Round_lamps
  b_Round_lamps : Binds K d_Round_lamps ["self"] []
  pa_Round_lamps : PySem.W.findIn K (.ref C_Round) "lamps" = some (some (.ref p_Round_lamps))
  pg_Round_lamps : PySem.W.specialIn K (.ref p_Round_lamps) "__get__" = some (some (.builtin "property.__get__"))
  pt_Round_lamps : PySem.W.takesIn K (.ref p_Round_lamps) = some true
  pr_Round_lamps : ∃ rest, PySem.W.recIn K p_Round_lamps "property" = some (.ref a_Round_lamps :: rest)
  p_Round_end : Addr
  a_Round_end : Addr
  d_Round_end : FuncData
  F_Round_end : Fun K "end" "Round.end" s_Round_end a_Round_end d_Round_end
  b_Round_end : Binds K d_Round_end ["self"] []
  pa_Round_end : PySem.W.findIn K (.ref C_Round) "end" = some (some (.ref p_Round_end))
  pg_Round_end : PySem.W.specialIn K (.ref p_Round_end) "__get__" = some (some (.builtin "property.__get__"))
  pt_Round_end : PySem.W.takesIn K (.ref p_Round_end) = some true
  pr_Round_end : ∃ rest, PySem.W.recIn K p_Round_end "property" = some (.ref a_Round_end :: rest)
  p_Round_text : Addr
  a_Round_text : Addr
  d_Round_text : FuncData
  F_Round_text : Fun K "text" "Round.text" s_Round_text a_Round_text d_Round_text
  b_Round_text : Binds K d_Round_text ["self"] []
  pa_Round_text : PySem.W.findIn K (.ref C_Round) "text" = some (some (.ref p_Round_text))
  pg_Round_text : PySem.W.specialIn K (.ref p_Round_text) "__get__" = some (some (.builtin "property.__get__"))
  pt_Round_text : PySem.W.takesIn K (.ref p_Round_text) = some true
  pr_Round_text : ∃ rest, PySem.W.recIn K p_Round_text "property" = some (.ref a_Round_text :: rest)
  a_Round_len : Addr
  d_Round_len : FuncData
  F_Round_len : Fun K "__len__" "Round.__len__" s_Round_len a_Round_len d_Round_len
  b_Round_len : Binds K d_Round_len ["self"] []
  fi_Round_len : PySem.W.findIn K (.ref C_Round) "__len__" = some (some (.ref a_Round_len))
  is_Round_len : PySem.W.isFn K (.ref a_Round_len) = true
  a_Round_bool : Addr
  d_Round_bool : FuncData
  F_Round_bool : Fun K "__bool__" "Round.__bool__" s_Round_bool a_Round_bool d_Round_bool
  b_Round_bool : Binds K d_Round_bool ["self"] []
  fi_Round_bool : PySem.W.findIn K (.ref C_Round) "__bool__" = some (some (.ref a_Round_bool))
  is_Round_bool : PySem.W.isFn K (.ref a_Round_bool) = true
  a_Round_eq : Addr
  d_Round_eq : FuncData
  F_Round_eq : Fun K "__eq__" "Round.__eq__" s_Round_eq a_Round_eq d_Round_eq
  b_Round_eq : Binds K d_Round_eq ["self", "other"] []
  fi_Round_eq : PySem.W.findIn K (.ref C_Round) "__eq__" = some (some (.ref a_Round_eq))
  is_Round_eq : PySem.W.isFn K (.ref a_Round_eq) = true
  a_Round_str : Addr
  d_Round_str : FuncData
  F_Round_str : Fun K "__str__" "Round.__str__" s_Round_str a_Round_str d_Round_str
  b_Round_str : Binds K d_Round_str ["self"] []
  fi_Round_str : PySem.W.findIn K (.ref C_Round) "__str__" = some (some (.ref a_Round_str))
  is_Round_str : PySem.W.isFn K (.ref a_Round_str) = true
  a_Round_repr : Addr
  d_Round_repr : FuncData
  F_Round_repr : Fun K "__repr__" "Round.__repr__" s_Round_repr a_Round_repr d_Round_repr
  b_Round_repr : Binds K d_Round_repr ["self"] []
  fi_Round_repr : PySem.W.findIn K (.ref C_Round) "__repr__" = some (some (.ref a_Round_repr))
  is_Round_repr : PySem.W.isFn K (.ref a_Round_repr) = true
  a_table : Addr
  d_table : FuncData
  F_table : Fun K "table" "table" s_table a_table d_table
  b_table : Binds K d_table ["trip"] []
  g_table : mg "table" = some (.ref a_table)
  a_made_round : Addr
  d_made_round : FuncData
  F_made_round : Fun K "made_round" "made_round" s_made_round a_made_round d_made_round
  b_made_round : Binds K d_made_round ["levels", "lamps", "end"] []
  g_made_round : mg "made_round" = some (.ref a_made_round)
  a_text_lamp : Addr
  d_text_lamp : FuncData
  F_text_lamp : Fun K "text_lamp" "text_lamp" s_text_lamp a_text_lamp d_text_lamp
  b_text_lamp : Binds K d_text_lamp ["word"] []
  g_text_lamp : mg "text_lamp" = some (.ref a_text_lamp)
  a_text_round : Addr
  d_text_round : FuncData
  F_text_round : Fun K "text_round" "text_round" s_text_round a_text_round d_text_round
  b_text_round : Binds K d_text_round ["value"] []
  g_text_round : mg "text_round" = some (.ref a_text_round)
  a_check_levels : Addr
  d_check_levels : FuncData
  F_check_levels : Fun K "check_levels" "check_levels" s_check_levels a_check_levels d_check_levels
  b_check_levels : Binds K d_check_levels ["value"] []
  g_check_levels : mg "check_levels" = some (.ref a_check_levels)
  a_check_number : Addr
  d_check_number : FuncData
  F_check_number : Fun K "check_number" "check_number" s_check_number a_check_number d_check_number
  b_check_number : Binds K d_check_number ["value"] []
  g_check_number : mg "check_number" = some (.ref a_check_number)
  a_check_round : Addr
  d_check_round : FuncData
  F_check_round : Fun K "check_round" "check_round" s_check_round a_check_round d_check_round
  b_check_round : Binds K d_check_round ["value"] []
  g_check_round : mg "check_round" = some (.ref a_check_round)
  a_check_pair : Addr
  d_check_pair : FuncData
  F_check_pair : Fun K "check_pair" "check_pair" s_check_pair a_check_pair d_check_pair
  b_check_pair : Binds K d_check_pair ["one", "other"] []
  g_check_pair : mg "check_pair" = some (.ref a_check_pair)
  a_then_of : Addr
  d_then_of : FuncData
  F_then_of : Fun K "then_of" "then_of" s_then_of a_then_of d_then_of
  b_then_of : Binds K d_then_of ["one", "other"] []
  g_then_of : mg "then_of" = some (.ref a_then_of)
  a_undone_of : Addr
  d_undone_of : FuncData
  F_undone_of : Fun K "undone_of" "undone_of" s_undone_of a_undone_of d_undone_of
  b_undone_of : Binds K d_undone_of ["trip"] []
  g_undone_of : mg "undone_of" = some (.ref a_undone_of)
  a_then : Addr
  d_then : FuncData
  F_then : Fun K "then" "then" s_then a_then d_then
  b_then : Binds K d_then ["trip", "second"] []
  kb_then_second_trip : KBn K d_then ["trip", "second"] 0 ["second", "trip"] (fun us ws => us ++ ((ws.drop 1).take 1 ++ (ws.drop 0).take 1)) (fun us ws => us ++ ((ws.drop 1).take 1 ++ (ws.drop 0).take 1))
  g_then : mg "then" = some (.ref a_then)
  a_undone : Addr
  d_undone : FuncData
  F_undone : Fun K "undone" "undone" s_undone a_undone d_undone
  b_undone : Binds K d_undone ["trip"] []
  kb_undone_trip : KBn K d_undone ["trip"] 0 ["trip"] (fun us ws => us ++ ws) (fun us ws => us ++ ws)
  g_undone : mg "undone" = some (.ref a_undone)
  a_law_begun : Addr
  d_law_begun : FuncData
  F_law_begun : Fun K "_law_begun" "_law_begun" s_law_begun a_law_begun d_law_begun
  b_law_begun : Binds K d_law_begun ["_law_script", "_law_turn"] []
  g_law_begun : mg "_law_begun" = some (.ref a_law_begun)
  a_law_cast : Addr
  d_law_cast : FuncData
  F_law_cast : Fun K "_law_cast" "_law_cast" s_law_cast a_law_cast d_law_cast
  b_law_cast : Binds K d_law_cast ["_law_pail", "_law_many"] []
  g_law_cast : mg "_law_cast" = some (.ref a_law_cast)
  a_law_any_of : Addr
  d_law_any_of : FuncData
  F_law_any_of : Fun K "_law_any_of" "_law_any_of" s_law_any_of a_law_any_of d_law_any_of
  b_law_any_of : Binds K d_law_any_of ["_law_pail", "_law_some"] []
  g_law_any_of : mg "_law_any_of" = some (.ref a_law_any_of)
  a_law_vast : Addr
  d_law_vast : FuncData
  F_law_vast : Fun K "_law_vast" "_law_vast" s_law_vast a_law_vast d_law_vast
  b_law_vast : Binds K d_law_vast ["_law_pail", "_law_many"] []
  g_law_vast : mg "_law_vast" = some (.ref a_law_vast)
  a_law_place : Addr
  d_law_place : FuncData
  F_law_place : Fun K "_law_place" "_law_place" s_law_place a_law_place d_law_place
  b_law_place : Binds K d_law_place ["_law_pail"] []
  g_law_place : mg "_law_place" = some (.ref a_law_place)
  a_law_picture : Addr
  d_law_picture : FuncData
  F_law_picture : Fun K "_law_picture" "_law_picture" s_law_picture a_law_picture d_law_picture
  b_law_picture : Binds K d_law_picture ["_law_pail", "_law_p", "_law_many"] []
  g_law_picture : mg "_law_picture" = some (.ref a_law_picture)
  a_law_sheet : Addr
  d_law_sheet : FuncData
  F_law_sheet : Fun K "_law_sheet" "_law_sheet" s_law_sheet a_law_sheet d_law_sheet
  b_law_sheet : Binds K d_law_sheet ["_law_parts"] []
  g_law_sheet : mg "_law_sheet" = some (.ref a_law_sheet)
  a_law_of : Addr
  d_law_of : FuncData
  F_law_of : Fun K "_law_of" "_law_of" s_law_of a_law_of d_law_of
  b_law_of : Binds K d_law_of ["_law_parts"] []
  g_law_of : mg "_law_of" = some (.ref a_law_of)
  a_law_built : Addr
  d_law_built : FuncData
  F_law_built : Fun K "_law_built" "_law_built" s_law_built a_law_built d_law_built
  b_law_built : Binds K d_law_built ["_law_pail", "_law_parts"] []
  g_law_built : mg "_law_built" = some (.ref a_law_built)
  a_law_tidy : Addr
  d_law_tidy : FuncData
  F_law_tidy : Fun K "_law_tidy" "_law_tidy" s_law_tidy a_law_tidy d_law_tidy
  b_law_tidy : Binds K d_law_tidy ["_law_p", "_law_chart"] []
  g_law_tidy : mg "_law_tidy" = some (.ref a_law_tidy)
  a_law_then : Addr
  d_law_then : FuncData
  F_law_then : Fun K "_law_then" "_law_then" s_law_then a_law_then d_law_then
  b_law_then : Binds K d_law_then ["_law_near", "_law_far"] []
  g_law_then : mg "_law_then" = some (.ref a_law_then)
  a_law_back : Addr
  d_law_back : FuncData
  F_law_back : Fun K "_law_back" "_law_back" s_law_back a_law_back d_law_back
  b_law_back : Binds K d_law_back ["_law_parts"] []
  g_law_back : mg "_law_back" = some (.ref a_law_back)
  a_law_mate : Addr
  d_law_mate : FuncData
  F_law_mate : Fun K "_law_mate" "_law_mate" s_law_mate a_law_mate d_law_mate
  b_law_mate : Binds K d_law_mate ["_law_pail", "_law_p"] []
  g_law_mate : mg "_law_mate" = some (.ref a_law_mate)
  a_law_told : Addr
  d_law_told : FuncData
  F_law_told : Fun K "_law_told" "_law_told" s_law_told a_law_told d_law_told
  b_law_told : Binds K d_law_told ["_law_mine"] []
  g_law_told : mg "_law_told" = some (.ref a_law_told)
  a_law_right : Addr
  d_law_right : FuncData
  F_law_right : Fun K "_law_right" "_law_right" s_law_right a_law_right d_law_right
  b_law_right : Binds K d_law_right ["_law_pail"] []
  g_law_right : mg "_law_right" = some (.ref a_law_right)
  a_law : Addr
  d_law : FuncData
  F_law : Fun K "law" "law" s_law a_law d_law
  b_law : Binds K d_law ["_law_script"] []
  bt_law : ∀ (s : Shared) (v : Value), BindsTo s d_law ⟨[v], []⟩ [("_law_script", v)]
  g_law : mg "law" = some (.ref a_law)
  kb_Round_init : KBn K d_Round_init ["self", "levels", "lamps", "end"] 1 ["end", "levels", "lamps"] (fun us ws => us ++ (ws.drop 1 ++ ws.take 1)) (fun us ws => us ++ (ws.drop 1 ++ ws.take 1))
  mk_Round : Mk K C_Round a_Round_init
  n_abs : mg "abs" = none
  n_all : mg "all" = none
  n_bool : mg "bool" = none
  n_dict : mg "dict" = none
  n_divmod : mg "divmod" = none
  n_enumerate : mg "enumerate" = none
  n_int : mg "int" = none
  n_isinstance : mg "isinstance" = none
  n_len : mg "len" = none
  n_list : mg "list" = none
  n_max : mg "max" = none
  n_min : mg "min" = none
  n_range : mg "range" = none
  n_repr : mg "repr" = none
  n_sorted : mg "sorted" = none
  n_str : mg "str" = none
  n_tuple : mg "tuple" = none
  x_LEVELS : Addr
  g_LEVELS : mg "LEVELS" = some (.ref x_LEVELS)
  w_LEVELS : ∀ H : Hp, SqT K H x_LEVELS [.int 2, .int 3, .int 5, .int 7]
  g_MOST_LAMPS : ∃ t, mg "MOST_LAMPS" = some (.int 400 t)
  g_DIGITS : ∃ t, mg "DIGITS" = some (.str "0123456789" t)
theorem mkTx {K : PySem.W.Frag} {h : Heap} {mg : Str → Option Value} {fa : Addr} (X : K.In h) (G : h.Ns mainGlobals mg) (hfa : mg "law" = some (.ref fa))
    {C_Round : Addr}
    {p_own_end : Addr}
    {p_own_lamps : Addr}
    {p_own_levels : Addr}
    {a_is_integer : Addr} {od_is_integer an_is_integer : Option Addr} {sl_is_integer : Array (Option Value)} {oc_is_integer kv_is_integer dc_is_integer pm_is_integer cd_is_integer ct_is_integer : Value}
    {a_written_integer : Addr} {od_written_integer an_written_integer : Option Addr} {sl_written_integer : Array (Option Value)} {oc_written_integer kv_written_integer dc_written_integer pm_written_integer cd_written_integer ct_written_integer : Value}
    {a_bent_lamp : Addr} {od_bent_lamp an_bent_lamp : Option Addr} {sl_bent_lamp : Array (Option Value)} {oc_bent_lamp kv_bent_lamp dc_bent_lamp pm_bent_lamp cd_bent_lamp ct_bent_lamp : Value}
    {a_wrong_lamp : Addr} {od_wrong_lamp an_wrong_lamp : Option Addr} {sl_wrong_lamp : Array (Option Value)} {oc_wrong_lamp kv_wrong_lamp dc_wrong_lamp pm_wrong_lamp cd_wrong_lamp ct_wrong_lamp : Value}
    {a_are_levels : Addr} {od_are_levels an_are_levels : Option Addr} {sl_are_levels : Array (Option Value)} {oc_are_levels kv_are_levels dc_are_levels pm_are_levels cd_are_levels ct_are_levels : Value}
    {a_added : Addr} {od_added an_added : Option Addr} {sl_added : Array (Option Value)} {oc_added kv_added dc_added pm_added cd_added ct_added : Value}
    {a_lamps_of : Addr} {od_lamps_of an_lamps_of : Option Addr} {sl_lamps_of : Array (Option Value)} {oc_lamps_of kv_lamps_of dc_lamps_of pm_lamps_of cd_lamps_of ct_lamps_of : Value}
    {a_Round_init : Addr} {od_Round_init an_Round_init : Option Addr} {sl_Round_init : Array (Option Value)} {oc_Round_init kv_Round_init dc_Round_init pm_Round_init cd_Round_init ct_Round_init : Value}
    {a_Round_read : Addr} {od_Round_read an_Round_read : Option Addr} {sl_Round_read : Array (Option Value)} {oc_Round_read kv_Round_read dc_Round_read pm_Round_read cd_Round_read ct_Round_read : Value}
    {p_Round_read : Addr} {r_Round_read : List Value}
    {a_Round_levels : Addr} {od_Round_levels an_Round_levels : Option Addr} {sl_Round_levels : Array (Option Value)} {oc_Round_levels kv_Round_levels dc_Round_levels pm_Round_levels cd_Round_levels ct_Round_levels : Value}
    {p_Round_levels : Addr} {r_Round_levels : List Value}
    {a_Round_lamps : Addr} {od_Round_lamps an_Round_lamps : Option Addr} {sl_Round_lamps : Array (Option Value)} {oc_Round_lamps kv_Round_lamps dc_Round_lamps pm_Round_lamps cd_Round_lamps ct_Round_lamps : Value}
    {p_Round_lamps : Addr} {r_Round_lamps : List Value}
    {a_Round_end : Addr} {od_Round_end an_Round_end : Option Addr} {sl_Round_end : Array (Option Value)} {oc_Round_end kv_Round_end dc_Round_end pm_Round_end cd_Round_end ct_Round_end : Value}
    {p_Round_end : Addr} {r_Round_end : List Value}
    {a_Round_text : Addr} {od_Round_text an_Round_text : Option Addr} {sl_Round_text : Array (Option Value)} {oc_Round_text kv_Round_text dc_Round_text pm_Round_text cd_Round_text ct_Round_text : Value}
    {p_Round_text : Addr} {r_Round_text : List Value}
    {a_Round_len : Addr} {od_Round_len an_Round_len : Option Addr} {sl_Round_len : Array (Option Value)} {oc_Round_len kv_Round_len dc_Round_len pm_Round_len cd_Round_len ct_Round_len : Value}
    {a_Round_bool : Addr} {od_Round_bool an_Round_bool : Option Addr} {sl_Round_bool : Array (Option Value)} {oc_Round_bool kv_Round_bool dc_Round_bool pm_Round_bool cd_Round_bool ct_Round_bool : Value}
    {a_Round_eq : Addr} {od_Round_eq an_Round_eq : Option Addr} {sl_Round_eq : Array (Option Value)} {oc_Round_eq kv_Round_eq dc_Round_eq pm_Round_eq cd_Round_eq ct_Round_eq : Value}
    {a_Round_str : Addr} {od_Round_str an_Round_str : Option Addr} {sl_Round_str : Array (Option Value)} {oc_Round_str kv_Round_str dc_Round_str pm_Round_str cd_Round_str ct_Round_str : Value}
    {a_Round_repr : Addr} {od_Round_repr an_Round_repr : Option Addr} {sl_Round_repr : Array (Option Value)} {oc_Round_repr kv_Round_repr dc_Round_repr pm_Round_repr cd_Round_repr ct_Round_repr : Value}
    {a_table : Addr} {od_table an_table : Option Addr} {sl_table : Array (Option Value)} {oc_table kv_table dc_table pm_table cd_table ct_table : Value}
    {a_made_round : Addr} {od_made_round an_made_round : Option Addr} {sl_made_round : Array (Option Value)} {oc_made_round kv_made_round dc_made_round pm_made_round cd_made_round ct_made_round : Value}
    {a_text_lamp : Addr} {od_text_lamp an_text_lamp : Option Addr} {sl_text_lamp : Array (Option Value)} {oc_text_lamp kv_text_lamp dc_text_lamp pm_text_lamp cd_text_lamp ct_text_lamp : Value}
    {a_text_round : Addr} {od_text_round an_text_round : Option Addr} {sl_text_round : Array (Option Value)} {oc_text_round kv_text_round dc_text_round pm_text_round cd_text_round ct_text_round : Value}
    {a_check_levels : Addr} {od_check_levels an_check_levels : Option Addr} {sl_check_levels : Array (Option Value)} {oc_check_levels kv_check_levels dc_check_levels pm_check_levels cd_check_levels ct_check_levels : Value}
    {a_check_number : Addr} {od_check_number an_check_number : Option Addr} {sl_check_number : Array (Option Value)} {oc_check_number kv_check_number dc_check_number pm_check_number cd_check_number ct_check_number : Value}
    {a_check_round : Addr} {od_check_round an_check_round : Option Addr} {sl_check_round : Array (Option Value)} {oc_check_round kv_check_round dc_check_round pm_check_round cd_check_round ct_check_round : Value}
    {a_check_pair : Addr} {od_check_pair an_check_pair : Option Addr} {sl_check_pair : Array (Option Value)} {oc_check_pair kv_check_pair dc_check_pair pm_check_pair cd_check_pair ct_check_pair : Value}
    {a_then_of : Addr} {od_then_of an_then_of : Option Addr} {sl_then_of : Array (Option Value)} {oc_then_of kv_then_of dc_then_of pm_then_of cd_then_of ct_then_of : Value}
    {a_undone_of : Addr} {od_undone_of an_undone_of : Option Addr} {sl_undone_of : Array (Option Value)} {oc_undone_of kv_undone_of dc_undone_of pm_undone_of cd_undone_of ct_undone_of : Value}
    {a_then : Addr} {od_then an_then : Option Addr} {sl_then : Array (Option Value)} {oc_then kv_then dc_then pm_then cd_then ct_then : Value}
    {a_undone : Addr} {od_undone an_undone : Option Addr} {sl_undone : Array (Option Value)} {oc_undone kv_undone dc_undone pm_undone cd_undone ct_undone : Value}
    {a_law_begun : Addr} {od_law_begun an_law_begun : Option Addr} {sl_law_begun : Array (Option Value)} {oc_law_begun kv_law_begun dc_law_begun pm_law_begun cd_law_begun ct_law_begun : Value}
    {a_law_cast : Addr} {od_law_cast an_law_cast : Option Addr} {sl_law_cast : Array (Option Value)} {oc_law_cast kv_law_cast dc_law_cast pm_law_cast cd_law_cast ct_law_cast : Value}
    {a_law_any_of : Addr} {od_law_any_of an_law_any_of : Option Addr} {sl_law_any_of : Array (Option Value)} {oc_law_any_of kv_law_any_of dc_law_any_of pm_law_any_of cd_law_any_of ct_law_any_of : Value}
    {a_law_vast : Addr} {od_law_vast an_law_vast : Option Addr} {sl_law_vast : Array (Option Value)} {oc_law_vast kv_law_vast dc_law_vast pm_law_vast cd_law_vast ct_law_vast : Value}
    {a_law_place : Addr} {od_law_place an_law_place : Option Addr} {sl_law_place : Array (Option Value)} {oc_law_place kv_law_place dc_law_place pm_law_place cd_law_place ct_law_place : Value}
    {a_law_picture : Addr} {od_law_picture an_law_picture : Option Addr} {sl_law_picture : Array (Option Value)} {oc_law_picture kv_law_picture dc_law_picture pm_law_picture cd_law_picture ct_law_picture : Value}
    {a_law_sheet : Addr} {od_law_sheet an_law_sheet : Option Addr} {sl_law_sheet : Array (Option Value)} {oc_law_sheet kv_law_sheet dc_law_sheet pm_law_sheet cd_law_sheet ct_law_sheet : Value}
    {a_law_of : Addr} {od_law_of an_law_of : Option Addr} {sl_law_of : Array (Option Value)} {oc_law_of kv_law_of dc_law_of pm_law_of cd_law_of ct_law_of : Value}
    {a_law_built : Addr} {od_law_built an_law_built : Option Addr} {sl_law_built : Array (Option Value)} {oc_law_built kv_law_built dc_law_built pm_law_built cd_law_built ct_law_built : Value}
    {a_law_tidy : Addr} {od_law_tidy an_law_tidy : Option Addr} {sl_law_tidy : Array (Option Value)} {oc_law_tidy kv_law_tidy dc_law_tidy pm_law_tidy cd_law_tidy ct_law_tidy : Value}
    {a_law_then : Addr} {od_law_then an_law_then : Option Addr} {sl_law_then : Array (Option Value)} {oc_law_then kv_law_then dc_law_then pm_law_then cd_law_then ct_law_then : Value}
    {a_law_back : Addr} {od_law_back an_law_back : Option Addr} {sl_law_back : Array (Option Value)} {oc_law_back kv_law_back dc_law_back pm_law_back cd_law_back ct_law_back : Value}
    {a_law_mate : Addr} {od_law_mate an_law_mate : Option Addr} {sl_law_mate : Array (Option Value)} {oc_law_mate kv_law_mate dc_law_mate pm_law_mate cd_law_mate ct_law_mate : Value}
    {a_law_told : Addr} {od_law_told an_law_told : Option Addr} {sl_law_told : Array (Option Value)} {oc_law_told kv_law_told dc_law_told pm_law_told cd_law_told ct_law_told : Value}
    {a_law_right : Addr} {od_law_right an_law_right : Option Addr} {sl_law_right : Array (Option Value)} {oc_law_right kv_law_right dc_law_right pm_law_right cd_law_right ct_law_right : Value}
    {a_law : Addr} {od_law an_law : Option Addr} {sl_law : Array (Option Value)} {oc_law kv_law dc_law pm_law cd_law ct_law : Value}
    {x_LEVELS : Addr} {o_LEVELS : Option Addr} {m_LEVELS : Nat} {z_LEVELS : Array (Option Value)} {t0_LEVELS t1_LEVELS t2_LEVELS t3_LEVELS : Tok}
    {t_MOST_LAMPS : Tok}
    {t_DIGITS : Tok}
    (e_Round : PySem.W.nsIn K mainGlobals "Round" = some (some (.ref C_Round)))
    (q1_Round : PySem.W.plainGet K C_Round Str.empty = true)
    (q2_Round : PySem.W.isClsIn K C_Round = true)
    (q3_Round : PySem.W.plainOver K C_Round = true)
    (q4_Round : PySem.W.findIn K (.ref C_Round) "__setattr__" = some (some (.builtin "object.__setattr__")))
    (q5_Round : PySem.W.findIn K (.ref C_Round) "__class__" = some (some (.builtin "object.__class__")))
    (q6_Round : PySem.W.specialIn K (.builtin "object.__class__") "__get__" = some (some (.builtin "getset_descriptor.__get__")))
    (q7_Round : PySem.W.takesIn K (.builtin "object.__class__") = some true)
    (q8_Round : PySem.W.mroIn K C_Round (.type "object") = some true)
    (s1_own_end : PySem.W.findIn K (.ref C_Round) "own_end" = some (some (.ref p_own_end)))
    (s2_own_end : PySem.W.specialIn K (.ref p_own_end) "__get__" = some (some (.builtin "member_descriptor.__get__")))
    (s3_own_end : PySem.W.takesIn K (.ref p_own_end) = some true)
    (s4_own_end : PySem.W.typeIn K (.ref p_own_end) = some (.type "member_descriptor"))
    (s5_own_end : PySem.W.slotIn K p_own_end C_Round = some 0)
    (s1_own_lamps : PySem.W.findIn K (.ref C_Round) "own_lamps" = some (some (.ref p_own_lamps)))
    (s2_own_lamps : PySem.W.specialIn K (.ref p_own_lamps) "__get__" = some (some (.builtin "member_descriptor.__get__")))
    (s3_own_lamps : PySem.W.takesIn K (.ref p_own_lamps) = some true)
    (s4_own_lamps : PySem.W.typeIn K (.ref p_own_lamps) = some (.type "member_descriptor"))
    (s5_own_lamps : PySem.W.slotIn K p_own_lamps C_Round = some 1)
    (s1_own_levels : PySem.W.findIn K (.ref C_Round) "own_levels" = some (some (.ref p_own_levels)))
    (s2_own_levels : PySem.W.specialIn K (.ref p_own_levels) "__get__" = some (some (.builtin "member_descriptor.__get__")))
    (s3_own_levels : PySem.W.takesIn K (.ref p_own_levels) = some true)
    (s4_own_levels : PySem.W.typeIn K (.ref p_own_levels) = some (.type "member_descriptor"))
    (s5_own_levels : PySem.W.slotIn K p_own_levels C_Round = some 2)
    (qd_Round : PySem.W.findIn K (.ref C_Round) "__ne__" = some (some (.builtin "object.__ne__")))
    (q9_Round : PySem.W.makesIn K C_Round = true)
    (qa_Round : PySem.W.keepIn K (.ref C_Round) = true)
    (qb_Round : PySem.W.readsIn K C_Round (.type "type") = true)
    (qc_Round : PySem.W.specialIn K (.ref C_Round) "__getattribute__" = some (some (.builtin "type.__getattribute__")))
    (e_is_integer : PySem.W.nsIn K mainGlobals "is_integer" = some (some (.ref a_is_integer)))
    (l_is_integer : K.lookup a_is_integer = some ⟨oc_is_integer, od_is_integer, .func (PySem.W.fnOf "is_integer" "is_integer" (defArgs s_is_integer) (defBody s_is_integer) (defScope s_is_integer) .none kv_is_integer dc_is_integer pm_is_integer an_is_integer cd_is_integer ct_is_integer), sl_is_integer⟩)
    (c_is_integer : PySem.W.codeIn K cd_is_integer "is_integer" = true)
    (k_is_integer : PySem.W.keepIn K (.ref a_is_integer) = true)
    (e_written_integer : PySem.W.nsIn K mainGlobals "written_integer" = some (some (.ref a_written_integer)))
    (l_written_integer : K.lookup a_written_integer = some ⟨oc_written_integer, od_written_integer, .func (PySem.W.fnOf "written_integer" "written_integer" (defArgs s_written_integer) (defBody s_written_integer) (defScope s_written_integer) .none kv_written_integer dc_written_integer pm_written_integer an_written_integer cd_written_integer ct_written_integer), sl_written_integer⟩)
    (c_written_integer : PySem.W.codeIn K cd_written_integer "written_integer" = true)
    (k_written_integer : PySem.W.keepIn K (.ref a_written_integer) = true)
    (e_bent_lamp : PySem.W.nsIn K mainGlobals "bent_lamp" = some (some (.ref a_bent_lamp)))
    (l_bent_lamp : K.lookup a_bent_lamp = some ⟨oc_bent_lamp, od_bent_lamp, .func (PySem.W.fnOf "bent_lamp" "bent_lamp" (defArgs s_bent_lamp) (defBody s_bent_lamp) (defScope s_bent_lamp) .none kv_bent_lamp dc_bent_lamp pm_bent_lamp an_bent_lamp cd_bent_lamp ct_bent_lamp), sl_bent_lamp⟩)
    (c_bent_lamp : PySem.W.codeIn K cd_bent_lamp "bent_lamp" = true)
    (k_bent_lamp : PySem.W.keepIn K (.ref a_bent_lamp) = true)
    (e_wrong_lamp : PySem.W.nsIn K mainGlobals "wrong_lamp" = some (some (.ref a_wrong_lamp)))
    (l_wrong_lamp : K.lookup a_wrong_lamp = some ⟨oc_wrong_lamp, od_wrong_lamp, .func (PySem.W.fnOf "wrong_lamp" "wrong_lamp" (defArgs s_wrong_lamp) (defBody s_wrong_lamp) (defScope s_wrong_lamp) .none kv_wrong_lamp dc_wrong_lamp pm_wrong_lamp an_wrong_lamp cd_wrong_lamp ct_wrong_lamp), sl_wrong_lamp⟩)
    (c_wrong_lamp : PySem.W.codeIn K cd_wrong_lamp "wrong_lamp" = true)
    (k_wrong_lamp : PySem.W.keepIn K (.ref a_wrong_lamp) = true)
    (e_are_levels : PySem.W.nsIn K mainGlobals "are_levels" = some (some (.ref a_are_levels)))
    (l_are_levels : K.lookup a_are_levels = some ⟨oc_are_levels, od_are_levels, .func (PySem.W.fnOf "are_levels" "are_levels" (defArgs s_are_levels) (defBody s_are_levels) (defScope s_are_levels) .none kv_are_levels dc_are_levels pm_are_levels an_are_levels cd_are_levels ct_are_levels), sl_are_levels⟩)
    (c_are_levels : PySem.W.codeIn K cd_are_levels "are_levels" = true)
    (k_are_levels : PySem.W.keepIn K (.ref a_are_levels) = true)
    (e_added : PySem.W.nsIn K mainGlobals "added" = some (some (.ref a_added)))
    (l_added : K.lookup a_added = some ⟨oc_added, od_added, .func (PySem.W.fnOf "added" "added" (defArgs s_added) (defBody s_added) (defScope s_added) .none kv_added dc_added pm_added an_added cd_added ct_added), sl_added⟩)
    (c_added : PySem.W.codeIn K cd_added "added" = true)
    (k_added : PySem.W.keepIn K (.ref a_added) = true)
    (e_lamps_of : PySem.W.nsIn K mainGlobals "lamps_of" = some (some (.ref a_lamps_of)))
    (l_lamps_of : K.lookup a_lamps_of = some ⟨oc_lamps_of, od_lamps_of, .func (PySem.W.fnOf "lamps_of" "lamps_of" (defArgs s_lamps_of) (defBody s_lamps_of) (defScope s_lamps_of) .none kv_lamps_of dc_lamps_of pm_lamps_of an_lamps_of cd_lamps_of ct_lamps_of), sl_lamps_of⟩)
    (c_lamps_of : PySem.W.codeIn K cd_lamps_of "lamps_of" = true)
    (k_lamps_of : PySem.W.keepIn K (.ref a_lamps_of) = true)
    (fi_Round_init : PySem.W.findIn K (.ref C_Round) "__init__" = some (some (.ref a_Round_init)))
    (is_Round_init : PySem.W.isFn K (.ref a_Round_init) = true)
    (l_Round_init : K.lookup a_Round_init = some ⟨oc_Round_init, od_Round_init, .func (PySem.W.fnOf "__init__" "Round.__init__" (defArgs s_Round_init) (defBody s_Round_init) (defScope s_Round_init) .none kv_Round_init dc_Round_init pm_Round_init an_Round_init cd_Round_init ct_Round_init), sl_Round_init⟩)
    (c_Round_init : PySem.W.codeIn K cd_Round_init "Round.__init__" = true)
    (k_Round_init : PySem.W.keepIn K (.ref a_Round_init) = true)
    (pa_Round_read : PySem.W.findCls K (.ref C_Round) (.type "type") "read" = some (.get (.builtin "classmethod.__get__") (.ref p_Round_read) .none (.ref C_Round)))
    (pr_Round_read : PySem.W.recIn K p_Round_read "classmethod" = some (.ref a_Round_read :: r_Round_read))
    (pf_Round_read : PySem.W.fnIn K a_Round_read = true)
    (l_Round_read : K.lookup a_Round_read = some ⟨oc_Round_read, od_Round_read, .func (PySem.W.fnOf "read" "Round.read" (defArgs s_Round_read) (defBody s_Round_read) (defScope s_Round_read) .none kv_Round_read dc_Round_read pm_Round_read an_Round_read cd_Round_read ct_Round_read), sl_Round_read⟩)
    (c_Round_read : PySem.W.codeIn K cd_Round_read "Round.read" = true)
    (k_Round_read : PySem.W.keepIn K (.ref a_Round_read) = true)
    (pa_Round_levels : PySem.W.findIn K (.ref C_Round) "levels" = some (some (.ref p_Round_levels)))
    (pg_Round_levels : PySem.W.specialIn K (.ref p_Round_levels) "__get__" = some (some (.builtin "property.__get__")))
    (pt_Round_levels : PySem.W.takesIn K (.ref p_Round_levels) = some true)
    (pr_Round_levels : PySem.W.recIn K p_Round_levels "property" = some (.ref a_Round_levels :: r_Round_levels))
    (l_Round_levels : K.lookup a_Round_levels = some ⟨oc_Round_levels, od_Round_levels, .func (PySem.W.fnOf "levels" "Round.levels" (defArgs s_Round_levels) (defBody s_Round_levels) (defScope s_Round_levels) .none kv_Round_levels dc_Round_levels pm_Round_levels an_Round_levels cd_Round_levels ct_Round_levels), sl_Round_levels⟩)
    (c_Round_levels : PySem.W.codeIn K cd_Round_levels "Round.levels" = true)
    (k_Round_levels : PySem.W.keepIn K (.ref a_Round_levels) = true)
    (pa_Round_lamps : PySem.W.findIn K (.ref C_Round) "lamps" = some (some (.ref p_Round_lamps)))
    (pg_Round_lamps : PySem.W.specialIn K (.ref p_Round_lamps) "__get__" = some (some (.builtin "property.__get__")))
    (pt_Round_lamps : PySem.W.takesIn K (.ref p_Round_lamps) = some true)
    (pr_Round_lamps : PySem.W.recIn K p_Round_lamps "property" = some (.ref a_Round_lamps :: r_Round_lamps))
    (l_Round_lamps : K.lookup a_Round_lamps = some ⟨oc_Round_lamps, od_Round_lamps, .func (PySem.W.fnOf "lamps" "Round.lamps" (defArgs s_Round_lamps) (defBody s_Round_lamps) (defScope s_Round_lamps) .none kv_Round_lamps dc_Round_lamps pm_Round_lamps an_Round_lamps cd_Round_lamps ct_Round_lamps), sl_Round_lamps⟩)
    (c_Round_lamps : PySem.W.codeIn K cd_Round_lamps "Round.lamps" = true)
    (k_Round_lamps : PySem.W.keepIn K (.ref a_Round_lamps) = true)
    (pa_Round_end : PySem.W.findIn K (.ref C_Round) "end" = some (some (.ref p_Round_end)))
    (pg_Round_end : PySem.W.specialIn K (.ref p_Round_end) "__get__" = some (some (.builtin "property.__get__")))
    (pt_Round_end : PySem.W.takesIn K (.ref p_Round_end) = some true)
    (pr_Round_end : PySem.W.recIn K p_Round_end "property" = some (.ref a_Round_end :: r_Round_end))
    (l_Round_end : K.lookup a_Round_end = some ⟨oc_Round_end, od_Round_end, .func (PySem.W.fnOf "end" "Round.end" (defArgs s_Round_end) (defBody s_Round_end) (defScope s_Round_end) .none kv_Round_end dc_Round_end pm_Round_end an_Round_end cd_Round_end ct_Round_end), sl_Round_end⟩)
    (c_Round_end : PySem.W.codeIn K cd_Round_end "Round.end" = true)
    (k_Round_end : PySem.W.keepIn K (.ref a_Round_end) = true)
    (pa_Round_text : PySem.W.findIn K (.ref C_Round) "text" = some (some (.ref p_Round_text)))
    (pg_Round_text : PySem.W.specialIn K (.ref p_Round_text) "__get__" = some (some (.builtin "property.__get__")))
    (pt_Round_text : PySem.W.takesIn K (.ref p_Round_text) = some true)
    (pr_Round_text : PySem.W.recIn K p_Round_text "property" = some (.ref a_Round_text :: r_Round_text))
    (l_Round_text : K.lookup a_Round_text = some ⟨oc_Round_text, od_Round_text, .func (PySem.W.fnOf "text" "Round.text" (defArgs s_Round_text) (defBody s_Round_text) (defScope s_Round_text) .none kv_Round_text dc_Round_text pm_Round_text an_Round_text cd_Round_text ct_Round_text), sl_Round_text⟩)
    (c_Round_text : PySem.W.codeIn K cd_Round_text "Round.text" = true)
    (k_Round_text : PySem.W.keepIn K (.ref a_Round_text) = true)
    (fi_Round_len : PySem.W.findIn K (.ref C_Round) "__len__" = some (some (.ref a_Round_len)))
    (is_Round_len : PySem.W.isFn K (.ref a_Round_len) = true)
    (l_Round_len : K.lookup a_Round_len = some ⟨oc_Round_len, od_Round_len, .func (PySem.W.fnOf "__len__" "Round.__len__" (defArgs s_Round_len) (defBody s_Round_len) (defScope s_Round_len) .none kv_Round_len dc_Round_len pm_Round_len an_Round_len cd_Round_len ct_Round_len), sl_Round_len⟩)
    (c_Round_len : PySem.W.codeIn K cd_Round_len "Round.__len__" = true)
    (k_Round_len : PySem.W.keepIn K (.ref a_Round_len) = true)
    (fi_Round_bool : PySem.W.findIn K (.ref C_Round) "__bool__" = some (some (.ref a_Round_bool)))
    (is_Round_bool : PySem.W.isFn K (.ref a_Round_bool) = true)
    (l_Round_bool : K.lookup a_Round_bool = some ⟨oc_Round_bool, od_Round_bool, .func (PySem.W.fnOf "__bool__" "Round.__bool__" (defArgs s_Round_bool) (defBody s_Round_bool) (defScope s_Round_bool) .none kv_Round_bool dc_Round_bool pm_Round_bool an_Round_bool cd_Round_bool ct_Round_bool), sl_Round_bool⟩)
    (c_Round_bool : PySem.W.codeIn K cd_Round_bool "Round.__bool__" = true)
    (k_Round_bool : PySem.W.keepIn K (.ref a_Round_bool) = true)
    (fi_Round_eq : PySem.W.findIn K (.ref C_Round) "__eq__" = some (some (.ref a_Round_eq)))
    (is_Round_eq : PySem.W.isFn K (.ref a_Round_eq) = true)
    (l_Round_eq : K.lookup a_Round_eq = some ⟨oc_Round_eq, od_Round_eq, .func (PySem.W.fnOf "__eq__" "Round.__eq__" (defArgs s_Round_eq) (defBody s_Round_eq) (defScope s_Round_eq) .none kv_Round_eq dc_Round_eq pm_Round_eq an_Round_eq cd_Round_eq ct_Round_eq), sl_Round_eq⟩)
    (c_Round_eq : PySem.W.codeIn K cd_Round_eq "Round.__eq__" = true)
    (k_Round_eq : PySem.W.keepIn K (.ref a_Round_eq) = true)
    (fi_Round_str : PySem.W.findIn K (.ref C_Round) "__str__" = some (some (.ref a_Round_str)))
    (is_Round_str : PySem.W.isFn K (.ref a_Round_str) = true)
    (l_Round_str : K.lookup a_Round_str = some ⟨oc_Round_str, od_Round_str, .func (PySem.W.fnOf "__str__" "Round.__str__" (defArgs s_Round_str) (defBody s_Round_str) (defScope s_Round_str) .none kv_Round_str dc_Round_str pm_Round_str an_Round_str cd_Round_str ct_Round_str), sl_Round_str⟩)
    (c_Round_str : PySem.W.codeIn K cd_Round_str "Round.__str__" = true)
    (k_Round_str : PySem.W.keepIn K (.ref a_Round_str) = true)
    (fi_Round_repr : PySem.W.findIn K (.ref C_Round) "__repr__" = some (some (.ref a_Round_repr)))
    (is_Round_repr : PySem.W.isFn K (.ref a_Round_repr) = true)
    (l_Round_repr : K.lookup a_Round_repr = some ⟨oc_Round_repr, od_Round_repr, .func (PySem.W.fnOf "__repr__" "Round.__repr__" (defArgs s_Round_repr) (defBody s_Round_repr) (defScope s_Round_repr) .none kv_Round_repr dc_Round_repr pm_Round_repr an_Round_repr cd_Round_repr ct_Round_repr), sl_Round_repr⟩)
    (c_Round_repr : PySem.W.codeIn K cd_Round_repr "Round.__repr__" = true)
    (k_Round_repr : PySem.W.keepIn K (.ref a_Round_repr) = true)
    (e_table : PySem.W.nsIn K mainGlobals "table" = some (some (.ref a_table)))
    (l_table : K.lookup a_table = some ⟨oc_table, od_table, .func (PySem.W.fnOf "table" "table" (defArgs s_table) (defBody s_table) (defScope s_table) .none kv_table dc_table pm_table an_table cd_table ct_table), sl_table⟩)
    (c_table : PySem.W.codeIn K cd_table "table" = true)
    (k_table : PySem.W.keepIn K (.ref a_table) = true)
    (e_made_round : PySem.W.nsIn K mainGlobals "made_round" = some (some (.ref a_made_round)))
    (l_made_round : K.lookup a_made_round = some ⟨oc_made_round, od_made_round, .func (PySem.W.fnOf "made_round" "made_round" (defArgs s_made_round) (defBody s_made_round) (defScope s_made_round) .none kv_made_round dc_made_round pm_made_round an_made_round cd_made_round ct_made_round), sl_made_round⟩)
    (c_made_round : PySem.W.codeIn K cd_made_round "made_round" = true)
    (k_made_round : PySem.W.keepIn K (.ref a_made_round) = true)
    (e_text_lamp : PySem.W.nsIn K mainGlobals "text_lamp" = some (some (.ref a_text_lamp)))
    (l_text_lamp : K.lookup a_text_lamp = some ⟨oc_text_lamp, od_text_lamp, .func (PySem.W.fnOf "text_lamp" "text_lamp" (defArgs s_text_lamp) (defBody s_text_lamp) (defScope s_text_lamp) .none kv_text_lamp dc_text_lamp pm_text_lamp an_text_lamp cd_text_lamp ct_text_lamp), sl_text_lamp⟩)
    (c_text_lamp : PySem.W.codeIn K cd_text_lamp "text_lamp" = true)
    (k_text_lamp : PySem.W.keepIn K (.ref a_text_lamp) = true)
    (e_text_round : PySem.W.nsIn K mainGlobals "text_round" = some (some (.ref a_text_round)))
    (l_text_round : K.lookup a_text_round = some ⟨oc_text_round, od_text_round, .func (PySem.W.fnOf "text_round" "text_round" (defArgs s_text_round) (defBody s_text_round) (defScope s_text_round) .none kv_text_round dc_text_round pm_text_round an_text_round cd_text_round ct_text_round), sl_text_round⟩)
    (c_text_round : PySem.W.codeIn K cd_text_round "text_round" = true)
    (k_text_round : PySem.W.keepIn K (.ref a_text_round) = true)
    (e_check_levels : PySem.W.nsIn K mainGlobals "check_levels" = some (some (.ref a_check_levels)))
    (l_check_levels : K.lookup a_check_levels = some ⟨oc_check_levels, od_check_levels, .func (PySem.W.fnOf "check_levels" "check_levels" (defArgs s_check_levels) (defBody s_check_levels) (defScope s_check_levels) .none kv_check_levels dc_check_levels pm_check_levels an_check_levels cd_check_levels ct_check_levels), sl_check_levels⟩)
    (c_check_levels : PySem.W.codeIn K cd_check_levels "check_levels" = true)
    (k_check_levels : PySem.W.keepIn K (.ref a_check_levels) = true)
    (e_check_number : PySem.W.nsIn K mainGlobals "check_number" = some (some (.ref a_check_number)))
    (l_check_number : K.lookup a_check_number = some ⟨oc_check_number, od_check_number, .func (PySem.W.fnOf "check_number" "check_number" (defArgs s_check_number) (defBody s_check_number) (defScope s_check_number) .none kv_check_number dc_check_number pm_check_number an_check_number cd_check_number ct_check_number), sl_check_number⟩)
    (c_check_number : PySem.W.codeIn K cd_check_number "check_number" = true)
    (k_check_number : PySem.W.keepIn K (.ref a_check_number) = true)
    (e_check_round : PySem.W.nsIn K mainGlobals "check_round" = some (some (.ref a_check_round)))
    (l_check_round : K.lookup a_check_round = some ⟨oc_check_round, od_check_round, .func (PySem.W.fnOf "check_round" "check_round" (defArgs s_check_round) (defBody s_check_round) (defScope s_check_round) .none kv_check_round dc_check_round pm_check_round an_check_round cd_check_round ct_check_round), sl_check_round⟩)
    (c_check_round : PySem.W.codeIn K cd_check_round "check_round" = true)
    (k_check_round : PySem.W.keepIn K (.ref a_check_round) = true)
    (e_check_pair : PySem.W.nsIn K mainGlobals "check_pair" = some (some (.ref a_check_pair)))
    (l_check_pair : K.lookup a_check_pair = some ⟨oc_check_pair, od_check_pair, .func (PySem.W.fnOf "check_pair" "check_pair" (defArgs s_check_pair) (defBody s_check_pair) (defScope s_check_pair) .none kv_check_pair dc_check_pair pm_check_pair an_check_pair cd_check_pair ct_check_pair), sl_check_pair⟩)
    (c_check_pair : PySem.W.codeIn K cd_check_pair "check_pair" = true)
    (k_check_pair : PySem.W.keepIn K (.ref a_check_pair) = true)
    (e_then_of : PySem.W.nsIn K mainGlobals "then_of" = some (some (.ref a_then_of)))
    (l_then_of : K.lookup a_then_of = some ⟨oc_then_of, od_then_of, .func (PySem.W.fnOf "then_of" "then_of" (defArgs s_then_of) (defBody s_then_of) (defScope s_then_of) .none kv_then_of dc_then_of pm_then_of an_then_of cd_then_of ct_then_of), sl_then_of⟩)
    (c_then_of : PySem.W.codeIn K cd_then_of "then_of" = true)
    (k_then_of : PySem.W.keepIn K (.ref a_then_of) = true)
    (e_undone_of : PySem.W.nsIn K mainGlobals "undone_of" = some (some (.ref a_undone_of)))
    (l_undone_of : K.lookup a_undone_of = some ⟨oc_undone_of, od_undone_of, .func (PySem.W.fnOf "undone_of" "undone_of" (defArgs s_undone_of) (defBody s_undone_of) (defScope s_undone_of) .none kv_undone_of dc_undone_of pm_undone_of an_undone_of cd_undone_of ct_undone_of), sl_undone_of⟩)
    (c_undone_of : PySem.W.codeIn K cd_undone_of "undone_of" = true)
    (k_undone_of : PySem.W.keepIn K (.ref a_undone_of) = true)
    (e_then : PySem.W.nsIn K mainGlobals "then" = some (some (.ref a_then)))
    (l_then : K.lookup a_then = some ⟨oc_then, od_then, .func (PySem.W.fnOf "then" "then" (defArgs s_then) (defBody s_then) (defScope s_then) .none kv_then dc_then pm_then an_then cd_then ct_then), sl_then⟩)
    (c_then : PySem.W.codeIn K cd_then "then" = true)
    (k_then : PySem.W.keepIn K (.ref a_then) = true)
    (e_undone : PySem.W.nsIn K mainGlobals "undone" = some (some (.ref a_undone)))
    (l_undone : K.lookup a_undone = some ⟨oc_undone, od_undone, .func (PySem.W.fnOf "undone" "undone" (defArgs s_undone) (defBody s_undone) (defScope s_undone) .none kv_undone dc_undone pm_undone an_undone cd_undone ct_undone), sl_undone⟩)
    (c_undone : PySem.W.codeIn K cd_undone "undone" = true)
    (k_undone : PySem.W.keepIn K (.ref a_undone) = true)
    (e_law_begun : PySem.W.nsIn K mainGlobals "_law_begun" = some (some (.ref a_law_begun)))
    (l_law_begun : K.lookup a_law_begun = some ⟨oc_law_begun, od_law_begun, .func (PySem.W.fnOf "_law_begun" "_law_begun" (defArgs s_law_begun) (defBody s_law_begun) (defScope s_law_begun) .none kv_law_begun dc_law_begun pm_law_begun an_law_begun cd_law_begun ct_law_begun), sl_law_begun⟩)
    (c_law_begun : PySem.W.codeIn K cd_law_begun "_law_begun" = true)
    (k_law_begun : PySem.W.keepIn K (.ref a_law_begun) = true)
    (e_law_cast : PySem.W.nsIn K mainGlobals "_law_cast" = some (some (.ref a_law_cast)))
    (l_law_cast : K.lookup a_law_cast = some ⟨oc_law_cast, od_law_cast, .func (PySem.W.fnOf "_law_cast" "_law_cast" (defArgs s_law_cast) (defBody s_law_cast) (defScope s_law_cast) .none kv_law_cast dc_law_cast pm_law_cast an_law_cast cd_law_cast ct_law_cast), sl_law_cast⟩)
    (c_law_cast : PySem.W.codeIn K cd_law_cast "_law_cast" = true)
    (k_law_cast : PySem.W.keepIn K (.ref a_law_cast) = true)
    (e_law_any_of : PySem.W.nsIn K mainGlobals "_law_any_of" = some (some (.ref a_law_any_of)))
    (l_law_any_of : K.lookup a_law_any_of = some ⟨oc_law_any_of, od_law_any_of, .func (PySem.W.fnOf "_law_any_of" "_law_any_of" (defArgs s_law_any_of) (defBody s_law_any_of) (defScope s_law_any_of) .none kv_law_any_of dc_law_any_of pm_law_any_of an_law_any_of cd_law_any_of ct_law_any_of), sl_law_any_of⟩)
    (c_law_any_of : PySem.W.codeIn K cd_law_any_of "_law_any_of" = true)
    (k_law_any_of : PySem.W.keepIn K (.ref a_law_any_of) = true)
    (e_law_vast : PySem.W.nsIn K mainGlobals "_law_vast" = some (some (.ref a_law_vast)))
    (l_law_vast : K.lookup a_law_vast = some ⟨oc_law_vast, od_law_vast, .func (PySem.W.fnOf "_law_vast" "_law_vast" (defArgs s_law_vast) (defBody s_law_vast) (defScope s_law_vast) .none kv_law_vast dc_law_vast pm_law_vast an_law_vast cd_law_vast ct_law_vast), sl_law_vast⟩)
    (c_law_vast : PySem.W.codeIn K cd_law_vast "_law_vast" = true)
    (k_law_vast : PySem.W.keepIn K (.ref a_law_vast) = true)
    (e_law_place : PySem.W.nsIn K mainGlobals "_law_place" = some (some (.ref a_law_place)))
    (l_law_place : K.lookup a_law_place = some ⟨oc_law_place, od_law_place, .func (PySem.W.fnOf "_law_place" "_law_place" (defArgs s_law_place) (defBody s_law_place) (defScope s_law_place) .none kv_law_place dc_law_place pm_law_place an_law_place cd_law_place ct_law_place), sl_law_place⟩)
    (c_law_place : PySem.W.codeIn K cd_law_place "_law_place" = true)
    (k_law_place : PySem.W.keepIn K (.ref a_law_place) = true)
    (e_law_picture : PySem.W.nsIn K mainGlobals "_law_picture" = some (some (.ref a_law_picture)))
    (l_law_picture : K.lookup a_law_picture = some ⟨oc_law_picture, od_law_picture, .func (PySem.W.fnOf "_law_picture" "_law_picture" (defArgs s_law_picture) (defBody s_law_picture) (defScope s_law_picture) .none kv_law_picture dc_law_picture pm_law_picture an_law_picture cd_law_picture ct_law_picture), sl_law_picture⟩)
    (c_law_picture : PySem.W.codeIn K cd_law_picture "_law_picture" = true)
    (k_law_picture : PySem.W.keepIn K (.ref a_law_picture) = true)
    (e_law_sheet : PySem.W.nsIn K mainGlobals "_law_sheet" = some (some (.ref a_law_sheet)))
    (l_law_sheet : K.lookup a_law_sheet = some ⟨oc_law_sheet, od_law_sheet, .func (PySem.W.fnOf "_law_sheet" "_law_sheet" (defArgs s_law_sheet) (defBody s_law_sheet) (defScope s_law_sheet) .none kv_law_sheet dc_law_sheet pm_law_sheet an_law_sheet cd_law_sheet ct_law_sheet), sl_law_sheet⟩)
    (c_law_sheet : PySem.W.codeIn K cd_law_sheet "_law_sheet" = true)
    (k_law_sheet : PySem.W.keepIn K (.ref a_law_sheet) = true)
    (e_law_of : PySem.W.nsIn K mainGlobals "_law_of" = some (some (.ref a_law_of)))
    (l_law_of : K.lookup a_law_of = some ⟨oc_law_of, od_law_of, .func (PySem.W.fnOf "_law_of" "_law_of" (defArgs s_law_of) (defBody s_law_of) (defScope s_law_of) .none kv_law_of dc_law_of pm_law_of an_law_of cd_law_of ct_law_of), sl_law_of⟩)
    (c_law_of : PySem.W.codeIn K cd_law_of "_law_of" = true)
    (k_law_of : PySem.W.keepIn K (.ref a_law_of) = true)
    (e_law_built : PySem.W.nsIn K mainGlobals "_law_built" = some (some (.ref a_law_built)))
    (l_law_built : K.lookup a_law_built = some ⟨oc_law_built, od_law_built, .func (PySem.W.fnOf "_law_built" "_law_built" (defArgs s_law_built) (defBody s_law_built) (defScope s_law_built) .none kv_law_built dc_law_built pm_law_built an_law_built cd_law_built ct_law_built), sl_law_built⟩)
    (c_law_built : PySem.W.codeIn K cd_law_built "_law_built" = true)
    (k_law_built : PySem.W.keepIn K (.ref a_law_built) = true)
    (e_law_tidy : PySem.W.nsIn K mainGlobals "_law_tidy" = some (some (.ref a_law_tidy)))
    (l_law_tidy : K.lookup a_law_tidy = some ⟨oc_law_tidy, od_law_tidy, .func (PySem.W.fnOf "_law_tidy" "_law_tidy" (defArgs s_law_tidy) (defBody s_law_tidy) (defScope s_law_tidy) .none kv_law_tidy dc_law_tidy pm_law_tidy an_law_tidy cd_law_tidy ct_law_tidy), sl_law_tidy⟩)
    (c_law_tidy : PySem.W.codeIn K cd_law_tidy "_law_tidy" = true)
    (k_law_tidy : PySem.W.keepIn K (.ref a_law_tidy) = true)
    (e_law_then : PySem.W.nsIn K mainGlobals "_law_then" = some (some (.ref a_law_then)))
    (l_law_then : K.lookup a_law_then = some ⟨oc_law_then, od_law_then, .func (PySem.W.fnOf "_law_then" "_law_then" (defArgs s_law_then) (defBody s_law_then) (defScope s_law_then) .none kv_law_then dc_law_then pm_law_then an_law_then cd_law_then ct_law_then), sl_law_then⟩)
    (c_law_then : PySem.W.codeIn K cd_law_then "_law_then" = true)
    (k_law_then : PySem.W.keepIn K (.ref a_law_then) = true)
    (e_law_back : PySem.W.nsIn K mainGlobals "_law_back" = some (some (.ref a_law_back)))
    (l_law_back : K.lookup a_law_back = some ⟨oc_law_back, od_law_back, .func (PySem.W.fnOf "_law_back" "_law_back" (defArgs s_law_back) (defBody s_law_back) (defScope s_law_back) .none kv_law_back dc_law_back pm_law_back an_law_back cd_law_back ct_law_back), sl_law_back⟩)
    (c_law_back : PySem.W.codeIn K cd_law_back "_law_back" = true)
    (k_law_back : PySem.W.keepIn K (.ref a_law_back) = true)
    (e_law_mate : PySem.W.nsIn K mainGlobals "_law_mate" = some (some (.ref a_law_mate)))
    (l_law_mate : K.lookup a_law_mate = some ⟨oc_law_mate, od_law_mate, .func (PySem.W.fnOf "_law_mate" "_law_mate" (defArgs s_law_mate) (defBody s_law_mate) (defScope s_law_mate) .none kv_law_mate dc_law_mate pm_law_mate an_law_mate cd_law_mate ct_law_mate), sl_law_mate⟩)
    (c_law_mate : PySem.W.codeIn K cd_law_mate "_law_mate" = true)
    (k_law_mate : PySem.W.keepIn K (.ref a_law_mate) = true)
    (e_law_told : PySem.W.nsIn K mainGlobals "_law_told" = some (some (.ref a_law_told)))
    (l_law_told : K.lookup a_law_told = some ⟨oc_law_told, od_law_told, .func (PySem.W.fnOf "_law_told" "_law_told" (defArgs s_law_told) (defBody s_law_told) (defScope s_law_told) .none kv_law_told dc_law_told pm_law_told an_law_told cd_law_told ct_law_told), sl_law_told⟩)
    (c_law_told : PySem.W.codeIn K cd_law_told "_law_told" = true)
    (k_law_told : PySem.W.keepIn K (.ref a_law_told) = true)
    (e_law_right : PySem.W.nsIn K mainGlobals "_law_right" = some (some (.ref a_law_right)))
    (l_law_right : K.lookup a_law_right = some ⟨oc_law_right, od_law_right, .func (PySem.W.fnOf "_law_right" "_law_right" (defArgs s_law_right) (defBody s_law_right) (defScope s_law_right) .none kv_law_right dc_law_right pm_law_right an_law_right cd_law_right ct_law_right), sl_law_right⟩)
    (c_law_right : PySem.W.codeIn K cd_law_right "_law_right" = true)
    (k_law_right : PySem.W.keepIn K (.ref a_law_right) = true)
    (e_law : PySem.W.nsIn K mainGlobals "law" = some (some (.ref a_law)))
    (l_law : K.lookup a_law = some ⟨oc_law, od_law, .func (PySem.W.fnOf "law" "law" (defArgs s_law) (defBody s_law) (defScope s_law) .none kv_law dc_law pm_law an_law cd_law ct_law), sl_law⟩)
    (c_law : PySem.W.codeIn K cd_law "law" = true)
    (k_law : PySem.W.keepIn K (.ref a_law) = true)
    (n_abs : PySem.W.nsIn K mainGlobals "abs" = some none)
    (n_all : PySem.W.nsIn K mainGlobals "all" = some none)
    (n_bool : PySem.W.nsIn K mainGlobals "bool" = some none)
    (n_dict : PySem.W.nsIn K mainGlobals "dict" = some none)
    (n_divmod : PySem.W.nsIn K mainGlobals "divmod" = some none)
    (n_enumerate : PySem.W.nsIn K mainGlobals "enumerate" = some none)
    (n_int : PySem.W.nsIn K mainGlobals "int" = some none)
    (n_isinstance : PySem.W.nsIn K mainGlobals "isinstance" = some none)
    (n_len : PySem.W.nsIn K mainGlobals "len" = some none)
    (n_list : PySem.W.nsIn K mainGlobals "list" = some none)
    (n_max : PySem.W.nsIn K mainGlobals "max" = some none)
    (n_min : PySem.W.nsIn K mainGlobals "min" = some none)
    (n_range : PySem.W.nsIn K mainGlobals "range" = some none)
    (n_repr : PySem.W.nsIn K mainGlobals "repr" = some none)
    (n_sorted : PySem.W.nsIn K mainGlobals "sorted" = some none)
    (n_str : PySem.W.nsIn K mainGlobals "str" = some none)
    (n_tuple : PySem.W.nsIn K mainGlobals "tuple" = some none)
    (e_LEVELS : PySem.W.nsIn K mainGlobals "LEVELS" = some (some (.ref x_LEVELS)))
    (y_LEVELS : K.lookup x_LEVELS = some ⟨.type "tuple", o_LEVELS, .seq #[.int 2 t0_LEVELS, .int 3 t1_LEVELS, .int 5 t2_LEVELS, .int 7 t3_LEVELS] m_LEVELS, z_LEVELS⟩)
    (e_MOST_LAMPS : PySem.W.nsIn K mainGlobals "MOST_LAMPS" = some (some (.int 400 t_MOST_LAMPS)))
    (e_DIGITS : PySem.W.nsIn K mainGlobals "DIGITS" = some (some (.str "0123456789" t_DIGITS))) : ∃ T : Tx K mg, T.a_law = fa := by
  have e := hfa.symm.trans (PySem.W.mg_of X G e_law)
  cases e
  exact ⟨{
      C_Round := C_Round
      g_Round := (PySem.W.mg_of X G e_Round)
      sc_Round := (⟨q1_Round, q2_Round, q3_Round, q4_Round⟩)
      si_Round := (⟨q5_Round, q6_Round, q7_Round, q8_Round⟩)
      p_own_end := p_own_end
      sl_own_end := (⟨s1_own_end, s2_own_end, s3_own_end, s4_own_end, s5_own_end, by decide⟩)
      p_own_lamps := p_own_lamps
      sl_own_lamps := (⟨s1_own_lamps, s2_own_lamps, s3_own_lamps, s4_own_lamps, s5_own_lamps, by decide⟩)
      p_own_levels := p_own_levels
      sl_own_levels := (⟨s1_own_levels, s2_own_levels, s3_own_levels, s4_own_levels, s5_own_levels, by decide⟩)
      ne_Round := qd_Round
      cr_Round := (⟨qb_Round, qc_Round⟩)
      a_is_integer := a_is_integer
      d_is_integer := _
      F_is_integer := (fun_mk (st := s_is_integer) l_is_integer c_is_integer k_is_integer)
      b_is_integer := ((fun_mk (st := s_is_integer) l_is_integer c_is_integer k_is_integer).binds (ps := ["value"]) fun _ _ _ _ _ _ us hl => match us, hl with | [_], _ => rfl)
      g_is_integer := (PySem.W.mg_of X G e_is_integer)
      a_written_integer := a_written_integer
      d_written_integer := _
      F_written_integer := (fun_mk (st := s_written_integer) l_written_integer c_written_integer k_written_integer)
      b_written_integer := ((fun_mk (st := s_written_integer) l_written_integer c_written_integer k_written_integer).binds (ps := ["word"]) fun _ _ _ _ _ _ us hl => match us, hl with | [_], _ => rfl)
      g_written_integer := (PySem.W.mg_of X G e_written_integer)
      a_bent_lamp := a_bent_lamp
      d_bent_lamp := _
      F_bent_lamp := (fun_mk (st := s_bent_lamp) l_bent_lamp c_bent_lamp k_bent_lamp)
      b_bent_lamp := ((fun_mk (st := s_bent_lamp) l_bent_lamp c_bent_lamp k_bent_lamp).binds (ps := ["levels", "value"]) fun _ _ _ _ _ _ us hl => match us, hl with | [_, _], _ => rfl)
      g_bent_lamp := (PySem.W.mg_of X G e_bent_lamp)
      a_wrong_lamp := a_wrong_lamp
      d_wrong_lamp := _
      F_wrong_lamp := (fun_mk (st := s_wrong_lamp) l_wrong_lamp c_wrong_lamp k_wrong_lamp)
      b_wrong_lamp := ((fun_mk (st := s_wrong_lamp) l_wrong_lamp c_wrong_lamp k_wrong_lamp).binds (ps := ["levels", "value"]) fun _ _ _ _ _ _ us hl => match us, hl with | [_, _], _ => rfl)
      g_wrong_lamp := (PySem.W.mg_of X G e_wrong_lamp)
      a_are_levels := a_are_levels
      d_are_levels := _
      F_are_levels := (fun_mk (st := s_are_levels) l_are_levels c_are_levels k_are_levels)
      b_are_levels := ((fun_mk (st := s_are_levels) l_are_levels c_are_levels k_are_levels).binds (ps := ["value"]) fun _ _ _ _ _ _ us hl => match us, hl with | [_], _ => rfl)
      g_are_levels := (PySem.W.mg_of X G e_are_levels)
      a_added := a_added
      d_added := _
      F_added := (fun_mk (st := s_added) l_added c_added k_added)
      b_added := ((fun_mk (st := s_added) l_added c_added k_added).binds (ps := ["levels", "one", "other", "move", "by"]) fun _ _ _ _ _ _ us hl => match us, hl with | [_, _, _, _, _], _ => rfl)
      g_added := (PySem.W.mg_of X G e_added)
      a_lamps_of := a_lamps_of
      d_lamps_of := _
      F_lamps_of := (fun_mk (st := s_lamps_of) l_lamps_of c_lamps_of k_lamps_of)
      b_lamps_of := ((fun_mk (st := s_lamps_of) l_lamps_of c_lamps_of k_lamps_of).binds (ps := ["table"]) fun _ _ _ _ _ _ us hl => match us, hl with | [_], _ => rfl)
      g_lamps_of := (PySem.W.mg_of X G e_lamps_of)
      a_Round_init := a_Round_init
      d_Round_init := _
      F_Round_init := (fun_mk (st := s_Round_init) l_Round_init c_Round_init k_Round_init)
      b_Round_init := ((fun_mk (st := s_Round_init) l_Round_init c_Round_init k_Round_init).binds (ps := ["self", "levels", "lamps", "end"]) fun _ _ _ _ _ _ us hl => match us, hl with | [_, _, _, _], _ => rfl)
      fi_Round_init := fi_Round_init
      is_Round_init := is_Round_init
      p_Round_read := p_Round_read
      a_Round_read := a_Round_read
      d_Round_read := _
      F_Round_read := (fun_mk (st := s_Round_read) l_Round_read c_Round_read k_Round_read)
      b_Round_read := ((fun_mk (st := s_Round_read) l_Round_read c_Round_read k_Round_read).binds (ps := ["cls", "text"]) fun _ _ _ _ _ _ us hl => match us, hl with | [_, _], _ => rfl)
      bk_Round_read := (fun s c v => .of_eq rfl)
      cm_Round_read := (⟨pa_Round_read, ⟨_, pr_Round_read⟩, pf_Round_read⟩)
      p_Round_levels := p_Round_levels
      a_Round_levels := a_Round_levels
      d_Round_levels := _
      F_Round_levels := (fun_mk (st := s_Round_levels) l_Round_levels c_Round_levels k_Round_levels)
      b_Round_levels := ((fun_mk (st := s_Round_levels) l_Round_levels c_Round_levels k_Round_levels).binds (ps := ["self"]) fun _ _ _ _ _ _ us hl => match us, hl with | [_], _ => rfl)
      pa_Round_levels := pa_Round_levels
      pg_Round_levels := pg_Round_levels
      pt_Round_levels := pt_Round_levels
      pr_Round_levels := (⟨_, pr_Round_levels⟩)
      p_Round_lamps := p_Round_lamps
      a_Round_lamps := a_Round_lamps
      d_Round_lamps := _
      F_Round_lamps := (fun_mk (st := s_Round_lamps) l_Round_lamps c_Round_lamps k_Round_lamps)
      b_Round_lamps := ((fun_mk (st := s_Round_lamps) l_Round_lamps c_Round_lamps k_Round_lamps).binds (ps := ["self"]) fun _ _ _ _ _ _ us hl => match us, hl with | [_], _ => rfl)
      pa_Round_lamps := pa_Round_lamps
      pg_Round_lamps := pg_Round_lamps
      pt_Round_lamps := pt_Round_lamps
      pr_Round_lamps := (⟨_, pr_Round_lamps⟩)
      p_Round_end := p_Round_end
      a_Round_end := a_Round_end
      d_Round_end := _
      F_Round_end := (fun_mk (st := s_Round_end) l_Round_end c_Round_end k_Round_end)
      b_Round_end := ((fun_mk (st := s_Round_end) l_Round_end c_Round_end k_Round_end).binds (ps := ["self"]) fun _ _ _ _ _ _ us hl => match us, hl with | [_], _ => rfl)
      pa_Round_end := pa_Round_end
      pg_Round_end := pg_Round_end
      pt_Round_end := pt_Round_end
      pr_Round_end := (⟨_, pr_Round_end⟩)
      p_Round_text := p_Round_text
      a_Round_text := a_Round_text
      d_Round_text := _
      F_Round_text := (fun_mk (st := s_Round_text) l_Round_text c_Round_text k_Round_text)
      b_Round_text := ((fun_mk (st := s_Round_text) l_Round_text c_Round_text k_Round_text).binds (ps := ["self"]) fun _ _ _ _ _ _ us hl => match us, hl with | [_], _ => rfl)
      pa_Round_text := pa_Round_text
      pg_Round_text := pg_Round_text
      pt_Round_text := pt_Round_text
      pr_Round_text := (⟨_, pr_Round_text⟩)
      a_Round_len := a_Round_len
      d_Round_len := _
      F_Round_len := (fun_mk (st := s_Round_len) l_Round_len c_Round_len k_Round_len)
      b_Round_len := ((fun_mk (st := s_Round_len) l_Round_len c_Round_len k_Round_len).binds (ps := ["self"]) fun _ _ _ _ _ _ us hl => match us, hl with | [_], _ => rfl)
      fi_Round_len := fi_Round_len
      is_Round_len := is_Round_len
      a_Round_bool := a_Round_bool
      d_Round_bool := _
      F_Round_bool := (fun_mk (st := s_Round_bool) l_Round_bool c_Round_bool k_Round_bool)
      b_Round_bool := ((fun_mk (st := s_Round_bool) l_Round_bool c_Round_bool k_Round_bool).binds (ps := ["self"]) fun _ _ _ _ _ _ us hl => match us, hl with | [_], _ => rfl)
      fi_Round_bool := fi_Round_bool
      is_Round_bool := is_Round_bool
      a_Round_eq := a_Round_eq
      d_Round_eq := _
      F_Round_eq := (fun_mk (st := s_Round_eq) l_Round_eq c_Round_eq k_Round_eq)
      b_Round_eq := ((fun_mk (st := s_Round_eq) l_Round_eq c_Round_eq k_Round_eq).binds (ps := ["self", "other"]) fun _ _ _ _ _ _ us hl => match us, hl with | [_, _], _ => rfl)
      fi_Round_eq := fi_Round_eq
      is_Round_eq := is_Round_eq
      a_Round_str := a_Round_str
      d_Round_str := _
      F_Round_str := (fun_mk (st := s_Round_str) l_Round_str c_Round_str k_Round_str)
      b_Round_str := ((fun_mk (st := s_Round_str) l_Round_str c_Round_str k_Round_str).binds (ps := ["self"]) fun _ _ _ _ _ _ us hl => match us, hl with | [_], _ => rfl)
      fi_Round_str := fi_Round_str
      is_Round_str := is_Round_str
      a_Round_repr := a_Round_repr
      d_Round_repr := _
      F_Round_repr := (fun_mk (st := s_Round_repr) l_Round_repr c_Round_repr k_Round_repr)
      b_Round_repr := ((fun_mk (st := s_Round_repr) l_Round_repr c_Round_repr k_Round_repr).binds (ps := ["self"]) fun _ _ _ _ _ _ us hl => match us, hl with | [_], _ => rfl)
      fi_Round_repr := fi_Round_repr
      is_Round_repr := is_Round_repr
      a_table := a_table
      d_table := _
      F_table := (fun_mk (st := s_table) l_table c_table k_table)
      b_table := ((fun_mk (st := s_table) l_table c_table k_table).binds (ps := ["trip"]) fun _ _ _ _ _ _ us hl => match us, hl with | [_], _ => rfl)
      g_table := (PySem.W.mg_of X G e_table)
      a_made_round := a_made_round
      d_made_round := _
      F_made_round := (fun_mk (st := s_made_round) l_made_round c_made_round k_made_round)
      b_made_round := ((fun_mk (st := s_made_round) l_made_round c_made_round k_made_round).binds (ps := ["levels", "lamps", "end"]) fun _ _ _ _ _ _ us hl => match us, hl with | [_, _, _], _ => rfl)
      g_made_round := (PySem.W.mg_of X G e_made_round)
      a_text_lamp := a_text_lamp
      d_text_lamp := _
      F_text_lamp := (fun_mk (st := s_text_lamp) l_text_lamp c_text_lamp k_text_lamp)
      b_text_lamp := ((fun_mk (st := s_text_lamp) l_text_lamp c_text_lamp k_text_lamp).binds (ps := ["word"]) fun _ _ _ _ _ _ us hl => match us, hl with | [_], _ => rfl)
      g_text_lamp := (PySem.W.mg_of X G e_text_lamp)
      a_text_round := a_text_round
      d_text_round := _
      F_text_round := (fun_mk (st := s_text_round) l_text_round c_text_round k_text_round)
      b_text_round := ((fun_mk (st := s_text_round) l_text_round c_text_round k_text_round).binds (ps := ["value"]) fun _ _ _ _ _ _ us hl => match us, hl with | [_], _ => rfl)
      g_text_round := (PySem.W.mg_of X G e_text_round)
      a_check_levels := a_check_levels
      d_check_levels := _
      F_check_levels := (fun_mk (st := s_check_levels) l_check_levels c_check_levels k_check_levels)
      b_check_levels := ((fun_mk (st := s_check_levels) l_check_levels c_check_levels k_check_levels).binds (ps := ["value"]) fun _ _ _ _ _ _ us hl => match us, hl with | [_], _ => rfl)
      g_check_levels := (PySem.W.mg_of X G e_check_levels)
      a_check_number := a_check_number
      d_check_number := _
      F_check_number := (fun_mk (st := s_check_number) l_check_number c_check_number k_check_number)
      b_check_number := ((fun_mk (st := s_check_number) l_check_number c_check_number k_check_number).binds (ps := ["value"]) fun _ _ _ _ _ _ us hl => match us, hl with | [_], _ => rfl)
      g_check_number := (PySem.W.mg_of X G e_check_number)
      a_check_round := a_check_round
      d_check_round := _
      F_check_round := (fun_mk (st := s_check_round) l_check_round c_check_round k_check_round)
      b_check_round := ((fun_mk (st := s_check_round) l_check_round c_check_round k_check_round).binds (ps := ["value"]) fun _ _ _ _ _ _ us hl => match us, hl with | [_], _ => rfl)
      g_check_round := (PySem.W.mg_of X G e_check_round)
      a_check_pair := a_check_pair
      d_check_pair := _
      F_check_pair := (fun_mk (st := s_check_pair) l_check_pair c_check_pair k_check_pair)
      b_check_pair := ((fun_mk (st := s_check_pair) l_check_pair c_check_pair k_check_pair).binds (ps := ["one", "other"]) fun _ _ _ _ _ _ us hl => match us, hl with | [_, _], _ => rfl)
      g_check_pair := (PySem.W.mg_of X G e_check_pair)
      a_then_of := a_then_of
      d_then_of := _
      F_then_of := (fun_mk (st := s_then_of) l_then_of c_then_of k_then_of)
      b_then_of := ((fun_mk (st := s_then_of) l_then_of c_then_of k_then_of).binds (ps := ["one", "other"]) fun _ _ _ _ _ _ us hl => match us, hl with | [_, _], _ => rfl)
      g_then_of := (PySem.W.mg_of X G e_then_of)
      a_undone_of := a_undone_of
      d_undone_of := _
      F_undone_of := (fun_mk (st := s_undone_of) l_undone_of c_undone_of k_undone_of)
      b_undone_of := ((fun_mk (st := s_undone_of) l_undone_of c_undone_of k_undone_of).binds (ps := ["trip"]) fun _ _ _ _ _ _ us hl => match us, hl with | [_], _ => rfl)
      g_undone_of := (PySem.W.mg_of X G e_undone_of)
      a_then := a_then
      d_then := _
      F_then := (fun_mk (st := s_then) l_then c_then k_then)
      b_then := ((fun_mk (st := s_then) l_then c_then k_then).binds (ps := ["trip", "second"]) fun _ _ _ _ _ _ us hl => match us, hl with | [_, _], _ => rfl)
      kb_then_second_trip := (⟨fun s us ws _ l1 l2 => match us, ws, l1, l2 with | [], [_, _], _, _ => .of_eq rfl, fun r1 r2 => Vals.append r1 (Vals.append (Vals.take 1 (Vals.drop 1 r2)) (Vals.take 1 (Vals.drop 0 r2)))⟩)
      g_then := (PySem.W.mg_of X G e_then)
      a_undone := a_undone
      d_undone := _
      F_undone := (fun_mk (st := s_undone) l_undone c_undone k_undone)
      b_undone := ((fun_mk (st := s_undone) l_undone c_undone k_undone).binds (ps := ["trip"]) fun _ _ _ _ _ _ us hl => match us, hl with | [_], _ => rfl)
      kb_undone_trip := (⟨fun s us ws _ l1 l2 => match us, ws, l1, l2 with | [], [_], _, _ => .of_eq rfl, fun r1 r2 => Vals.append r1 r2⟩)
      g_undone := (PySem.W.mg_of X G e_undone)
      a_law_begun := a_law_begun
      d_law_begun := _
      F_law_begun := (fun_mk (st := s_law_begun) l_law_begun c_law_begun k_law_begun)
      b_law_begun := ((fun_mk (st := s_law_begun) l_law_begun c_law_begun k_law_begun).binds (ps := ["_law_script", "_law_turn"]) fun _ _ _ _ _ _ us hl => match us, hl with | [_, _], _ => rfl)
      g_law_begun := (PySem.W.mg_of X G e_law_begun)
      a_law_cast := a_law_cast
      d_law_cast := _
      F_law_cast := (fun_mk (st := s_law_cast) l_law_cast c_law_cast k_law_cast)
      b_law_cast := ((fun_mk (st := s_law_cast) l_law_cast c_law_cast k_law_cast).binds (ps := ["_law_pail", "_law_many"]) fun _ _ _ _ _ _ us hl => match us, hl with | [_, _], _ => rfl)
      g_law_cast := (PySem.W.mg_of X G e_law_cast)
      a_law_any_of := a_law_any_of
      d_law_any_of := _
      F_law_any_of := (fun_mk (st := s_law_any_of) l_law_any_of c_law_any_of k_law_any_of)
      b_law_any_of := ((fun_mk (st := s_law_any_of) l_law_any_of c_law_any_of k_law_any_of).binds (ps := ["_law_pail", "_law_some"]) fun _ _ _ _ _ _ us hl => match us, hl with | [_, _], _ => rfl)
      g_law_any_of := (PySem.W.mg_of X G e_law_any_of)
      a_law_vast := a_law_vast
      d_law_vast := _
      F_law_vast := (fun_mk (st := s_law_vast) l_law_vast c_law_vast k_law_vast)
      b_law_vast := ((fun_mk (st := s_law_vast) l_law_vast c_law_vast k_law_vast).binds (ps := ["_law_pail", "_law_many"]) fun _ _ _ _ _ _ us hl => match us, hl with | [_, _], _ => rfl)
      g_law_vast := (PySem.W.mg_of X G e_law_vast)
      a_law_place := a_law_place
      d_law_place := _
      F_law_place := (fun_mk (st := s_law_place) l_law_place c_law_place k_law_place)
      b_law_place := ((fun_mk (st := s_law_place) l_law_place c_law_place k_law_place).binds (ps := ["_law_pail"]) fun _ _ _ _ _ _ us hl => match us, hl with | [_], _ => rfl)
      g_law_place := (PySem.W.mg_of X G e_law_place)
      a_law_picture := a_law_picture
      d_law_picture := _
      F_law_picture := (fun_mk (st := s_law_picture) l_law_picture c_law_picture k_law_picture)
      b_law_picture := ((fun_mk (st := s_law_picture) l_law_picture c_law_picture k_law_picture).binds (ps := ["_law_pail", "_law_p", "_law_many"]) fun _ _ _ _ _ _ us hl => match us, hl with | [_, _, _], _ => rfl)
      g_law_picture := (PySem.W.mg_of X G e_law_picture)
      a_law_sheet := a_law_sheet
      d_law_sheet := _
      F_law_sheet := (fun_mk (st := s_law_sheet) l_law_sheet c_law_sheet k_law_sheet)
      b_law_sheet := ((fun_mk (st := s_law_sheet) l_law_sheet c_law_sheet k_law_sheet).binds (ps := ["_law_parts"]) fun _ _ _ _ _ _ us hl => match us, hl with | [_], _ => rfl)
      g_law_sheet := (PySem.W.mg_of X G e_law_sheet)
      a_law_of := a_law_of
      d_law_of := _
      F_law_of := (fun_mk (st := s_law_of) l_law_of c_law_of k_law_of)
      b_law_of := ((fun_mk (st := s_law_of) l_law_of c_law_of k_law_of).binds (ps := ["_law_parts"]) fun _ _ _ _ _ _ us hl => match us, hl with | [_], _ => rfl)
      g_law_of := (PySem.W.mg_of X G e_law_of)
      a_law_built := a_law_built
      d_law_built := _
      F_law_built := (fun_mk (st := s_law_built) l_law_built c_law_built k_law_built)
      b_law_built := ((fun_mk (st := s_law_built) l_law_built c_law_built k_law_built).binds (ps := ["_law_pail", "_law_parts"]) fun _ _ _ _ _ _ us hl => match us, hl with | [_, _], _ => rfl)
      g_law_built := (PySem.W.mg_of X G e_law_built)
      a_law_tidy := a_law_tidy
      d_law_tidy := _
      F_law_tidy := (fun_mk (st := s_law_tidy) l_law_tidy c_law_tidy k_law_tidy)
      b_law_tidy := ((fun_mk (st := s_law_tidy) l_law_tidy c_law_tidy k_law_tidy).binds (ps := ["_law_p", "_law_chart"]) fun _ _ _ _ _ _ us hl => match us, hl with | [_, _], _ => rfl)
      g_law_tidy := (PySem.W.mg_of X G e_law_tidy)
      a_law_then := a_law_then
      d_law_then := _
      F_law_then := (fun_mk (st := s_law_then) l_law_then c_law_then k_law_then)
      b_law_then := ((fun_mk (st := s_law_then) l_law_then c_law_then k_law_then).binds (ps := ["_law_near", "_law_far"]) fun _ _ _ _ _ _ us hl => match us, hl with | [_, _], _ => rfl)
      g_law_then := (PySem.W.mg_of X G e_law_then)
      a_law_back := a_law_back
      d_law_back := _
      F_law_back := (fun_mk (st := s_law_back) l_law_back c_law_back k_law_back)
      b_law_back := ((fun_mk (st := s_law_back) l_law_back c_law_back k_law_back).binds (ps := ["_law_parts"]) fun _ _ _ _ _ _ us hl => match us, hl with | [_], _ => rfl)
      g_law_back := (PySem.W.mg_of X G e_law_back)
      a_law_mate := a_law_mate
      d_law_mate := _
      F_law_mate := (fun_mk (st := s_law_mate) l_law_mate c_law_mate k_law_mate)
      b_law_mate := ((fun_mk (st := s_law_mate) l_law_mate c_law_mate k_law_mate).binds (ps := ["_law_pail", "_law_p"]) fun _ _ _ _ _ _ us hl => match us, hl with | [_, _], _ => rfl)
      g_law_mate := (PySem.W.mg_of X G e_law_mate)
      a_law_told := a_law_told
      d_law_told := _
      F_law_told := (fun_mk (st := s_law_told) l_law_told c_law_told k_law_told)
      b_law_told := ((fun_mk (st := s_law_told) l_law_told c_law_told k_law_told).binds (ps := ["_law_mine"]) fun _ _ _ _ _ _ us hl => match us, hl with | [_], _ => rfl)
      g_law_told := (PySem.W.mg_of X G e_law_told)
      a_law_right := a_law_right
      d_law_right := _
      F_law_right := (fun_mk (st := s_law_right) l_law_right c_law_right k_law_right)
      b_law_right := ((fun_mk (st := s_law_right) l_law_right c_law_right k_law_right).binds (ps := ["_law_pail"]) fun _ _ _ _ _ _ us hl => match us, hl with | [_], _ => rfl)
      g_law_right := (PySem.W.mg_of X G e_law_right)
      a_law := fa
      d_law := _
      F_law := (fun_mk (st := s_law) l_law c_law k_law)
      b_law := ((fun_mk (st := s_law) l_law c_law k_law).binds (ps := ["_law_script"]) fun _ _ _ _ _ _ us hl => match us, hl with | [_], _ => rfl)
      bt_law := (fun s v => .of_eq rfl)
      g_law := (PySem.W.mg_of X G e_law)
      kb_Round_init := (⟨fun s us ws _ l1 l2 => match us, ws, l1, l2 with | [_], [_, _, _], _, _ => .of_eq rfl, fun r1 r2 => Vals.append r1 (Vals.append (Vals.drop 1 r2) (Vals.take 1 r2))⟩)
      mk_Round := (⟨q9_Round, fi_Round_init, is_Round_init, qa_Round⟩)
      n_abs := (PySem.W.mg_none_of X G n_abs)
      n_all := (PySem.W.mg_none_of X G n_all)
      n_bool := (PySem.W.mg_none_of X G n_bool)
      n_dict := (PySem.W.mg_none_of X G n_dict)
      n_divmod := (PySem.W.mg_none_of X G n_divmod)
      n_enumerate := (PySem.W.mg_none_of X G n_enumerate)
      n_int := (PySem.W.mg_none_of X G n_int)
      n_isinstance := (PySem.W.mg_none_of X G n_isinstance)
      n_len := (PySem.W.mg_none_of X G n_len)
      n_list := (PySem.W.mg_none_of X G n_list)
      n_max := (PySem.W.mg_none_of X G n_max)
      n_min := (PySem.W.mg_none_of X G n_min)
      n_range := (PySem.W.mg_none_of X G n_range)
      n_repr := (PySem.W.mg_none_of X G n_repr)
      n_sorted := (PySem.W.mg_none_of X G n_sorted)
      n_str := (PySem.W.mg_none_of X G n_str)
      n_tuple := (PySem.W.mg_none_of X G n_tuple)
      x_LEVELS := x_LEVELS
      g_LEVELS := (PySem.W.mg_of X G e_LEVELS)
      w_LEVELS := (fun _ => Or.inr ⟨_, _, _, y_LEVELS, rfl, rfl, (by show 4 ≤ sizeLine; decide), Paired.cons ⟨t0_LEVELS, rfl⟩ (Paired.cons ⟨t1_LEVELS, rfl⟩ (Paired.cons ⟨t2_LEVELS, rfl⟩ (Paired.cons ⟨t3_LEVELS, rfl⟩ (Paired.nil))))⟩)
      g_MOST_LAMPS := (⟨_, PySem.W.mg_of X G e_MOST_LAMPS⟩)
      g_DIGITS := (⟨_, PySem.W.mg_of X G e_DIGITS⟩)
    }, rfl⟩
end Lamp
namespace Lamp
open PySem PySem.Spec PyProof.Rows L2
local macro_rules | `(tactic| walk_at "n") => `(tactic| first | (show (0 : Int) < _; first | assumption | decide | omega) | (refine Or.inl ⟨?_, ?_⟩ <;> first | decide | omega) | (refine Or.inr ⟨?_, ?_⟩ <;> first | decide | omega) | (refine ⟨?_, ?_⟩ <;> first | decide | omega) | (refine ⟨?_, ?_, ?_⟩ <;> first | decide | omega) | omega | decide)
local macro_rules | `(tactic| walk_at "h") => `(tactic| first | assumption | exact L2.upd_same | exact L2.SqL.of (by assumption) | exact L2.SqT.of (by assumption) | exact L2.SqL.of L2.upd_same | exact L2.SqT.of L2.upd_same | exact Or.inl (Or.inr ⟨_, by assumption⟩))
local macro_rules | `(tactic| walk_at "g1") => `(tactic| first
  | (refine ⟨_, rfl, ?_⟩)
  | (refine ⟨_, _, rfl, rfl, (show L2.CMul _ _ from by walk_at "n"), ?_⟩)
  | (refine ⟨_, _, rfl, rfl, (show L2.CDiv _ _ from by walk_at "n"), ?_⟩)
  | (refine ⟨_, _, rfl, rfl, (show L2.CPow _ _ from by walk_at "n"), ?_⟩)
  | (refine ⟨_, _, rfl, rfl, (show (0 : Int) < _ from by walk_at "n"), ?_⟩)
  | (refine ⟨_, _, rfl, rfl, ?_⟩)
  | (refine Or.inl ⟨_, rfl, ?_⟩)
  | (refine ⟨_, _, _, _, rfl, rfl, (by walk_at "h"), (by assumption), ?_⟩)
  | (refine ⟨_, _, _, _, rfl, rfl, (by walk_at "h"), by rfl, ?_⟩)
  | (refine ⟨_, _, rfl, Or.inl (by walk_at "h"), ?_⟩)
  | (refine ⟨_, _, rfl, Or.inr (by walk_at "h"), ?_⟩)
  | (refine ⟨(show L2.scal _ _ = true from rfl), ?_⟩)
  | (refine ⟨_, _, _, _, _, _, _, rfl, (by assumption), (by assumption), (by assumption), rfl, ?_⟩)
  | (refine ⟨(show Nat.log2 _ < _ from by assumption), ?_⟩)
  | (refine ⟨(show PySem.Str.length _ ≤ _ from by assumption), ?_⟩)
  | (refine ⟨⟨_, rfl⟩, ?_⟩)
  | (refine ⟨(show _ = L2.V.non from rfl), ?_⟩)
  | (refine ⟨_, _, _, _, true, rfl, L2.ClsV.ty _, L2.TyX.base (.int _), L2.kit_ty (by decide +kernel), ?_⟩)
  | (refine ⟨_, _, _, _, true, rfl, L2.ClsV.ty _, L2.TyX.base (.tup (by walk_at "h")), L2.kit_ty (by decide +kernel), ?_⟩)
  | (refine ⟨_, _, _, _, true, rfl, L2.ClsV.ty _, L2.TyX.base (.str _), L2.kit_ty (by decide +kernel), ?_⟩)
  | (refine ⟨_, _, _, _, true, rfl, L2.ClsV.ty _, L2.TyX.base (.lst (by walk_at "h")), L2.kit_ty (by decide +kernel), ?_⟩)
  | (refine ⟨_, _, _, _, false, rfl, L2.ClsV.ty _, L2.TyX.base (.int _), L2.kit_ty (by decide +kernel), ?_⟩)
  | (refine ⟨_, _, _, _, false, rfl, L2.ClsV.ty _, L2.TyX.base (.tup (by walk_at "h")), L2.kit_ty (by decide +kernel), ?_⟩)
  | (refine ⟨_, _, _, _, false, rfl, L2.ClsV.ty _, L2.TyX.base (.str _), L2.kit_ty (by decide +kernel), ?_⟩)
  | (refine ⟨_, _, _, _, false, rfl, L2.ClsV.ty _, L2.TyX.base (.lst (by walk_at "h")), L2.kit_ty (by decide +kernel), ?_⟩)
  | (refine ⟨_, _, _, _, true, rfl, L2.ClsV.ty _, L2.TyX.fTuple (by assumption), L2.kit_ty (by decide +kernel), ?_⟩)
  | (refine ⟨_, _, _, _, false, rfl, L2.ClsV.ty _, L2.TyX.fTuple (by assumption), L2.kit_ty (by decide +kernel), ?_⟩)
  | fail "g")
local macro_rules | `(tactic| walk_at "g") => `(tactic| repeat' (walk_at "g1"))
local macro_rules | `(tactic| walk_at "d1") => `(tactic| first
  | (refine ⟨true, congrArg L2.V.bl (decide_eq_true (by assumption)), ?_⟩)
  | (refine ⟨false, congrArg L2.V.bl (decide_eq_false (by assumption)), ?_⟩)
  | (refine ⟨true, congrArg L2.V.bl (by assumption), ?_⟩)
  | (refine ⟨false, congrArg L2.V.bl (by assumption), ?_⟩)
  | (refine ⟨false, congrArg L2.V.bl (congrArg Bool.not (by assumption)), ?_⟩)
  | (refine ⟨true, congrArg L2.V.bl (congrArg Bool.not (by assumption)), ?_⟩)
  | walk_at "g1"
  | fail "d")
local macro_rules | `(tactic| walk_at "d") => `(tactic| repeat' (walk_at "d1"))
section
variable {P : Program} {w : World} {K : PySem.W.Frag} {mg : Str → Option Value} {base : Heap}

/-- the pail: a number from 0 on, a number below a bound, a count -/
def Pl (H : Hp) (a : Addr) : Prop := ∃ x y z : Int, H a = some (.lst [.int x, .int y, .int z]) ∧ 0 ≤ x ∧ 0 ≤ y ∧ y < 2147483629
def sp_cast : Sp := fun vs H Q _ => ∃ (a : Addr) (m : Int), vs = [.ref a, .int m] ∧ Pl H a ∧ 0 < m ∧ m < 1073741824 ∧ ∀ (k : Int) (H' : Hp), 0 ≤ k → k < m → Pl H' a → Oth a H H' → Q (.int k) H'
theorem ok_law_cast (T : Tx K mg) : FnOk P w K mg base CX0 1 T.a_law_cast T.d_law_cast ["_law_pail", "_law_many"] sp_cast := by
  refine T.F_law_cast.ok sc_law_cast (fun vs H Q E h => ?_) (fun cdv A outer s H vs Q E hr h => ?_)
  · obtain ⟨a, m, rfl, _⟩ := h
    rfl
  · obtain ⟨a, m, rfl, ⟨x, y, z, hp, hx, hy, hz⟩, hm0, hm1, k⟩ := h
    refine ⟨_, (pss_cons (ps_if (pt_cmpR op_gt (pe_ix ix_list (pv 0) pe_int (fun _ _ => rfl)) pe_int (nomark _)) (pss_cons (ps_asg (pe_callB call_divmod (by rfl) T.n_divmod (by decide +kernel) (pa_cons (pe_ix ix_list (pv 0) pe_int (fun _ _ => rfl)) (pa_cons (pv 1) pa_nil))) (pg_tupK 2 rfl rfl (pgs_cons (pg_sub (pv 0) pe_int set_list) (pgs_cons (pg_name (i := 2) sc_law_cast.nd rfl (Or.inl rfl)) pgs_nil))))
      (pss_one (ps_ret (pv 2)))) pss_nil)
      (pss_cons (ps_asg (pe_op op_add (pe_ix ix_list (pv 0) pe_int (fun _ _ => rfl)) pe_int) (pg_sub (pv 0) pe_int set_list))
      (pss_cons (ps_set (i := 3) sc_law_cast.nd rfl (Or.inl rfl) (pe_op op_mod (pe_callTy call_int1 (by rfl) T.n_int (by decide +kernel) (pa_cons (pe_op op_add (pe_op op_add (pe_op op_mul (pe_ix ix_list (pv 0) pe_int (fun _ _ => rfl)) (pe_op op_add pe_int (pe_op op_mul pe_int (pe_ix ix_list (pv 0) pe_int (fun _ _ => rfl))))) (pe_op op_mul pe_int (pe_ix ix_list (pv 0) pe_int (fun _ _ => rfl)))) pe_int) pa_nil)) pe_int))
      (pss_cons (ps_asg (pe_op op_mod (pe_callTy call_int1 (by rfl) T.n_int (by decide +kernel) (pa_cons (pe_op op_add (pe_op op_add (pe_op op_mul (pv 3) pe_int) (pe_op op_mul pe_int (pe_ix ix_list (pv 0) pe_int (fun _ _ => rfl)))) pe_int) pa_nil)) pe_int) (pg_sub (pv 0) pe_int set_list))
      (pss_one (ps_ret (pe_op op_mod (pe_callTy call_int1 (by rfl) T.n_int (by decide +kernel) (pa_cons (pe_op op_fdiv (pe_ix ix_list (pv 0) pe_int (fun _ _ => rfl)) pe_int) pa_nil)) (pv 1)))))))), ?_⟩
    walk_at "g"
    refine ite2 (fun c => ?_) (fun c => ?_)
    · walk_at "g"
      refine ⟨_, _, rfl, ⟨hm0, hm1⟩, fun p hq => ?_⟩
      have hpa : p ≠ a := (ne_of_none hp hq).symm
      refine ⟨p, _, rfl, SqT.of upd_same, rfl, _, _, rfl, ?_⟩
      refine ⟨_, rfl, a, _, _, _, rfl, rfl, (by rw [upd_ne hpa.symm]; exact hp), by rfl, ?_⟩
      refine ⟨_, _, rfl, ⟨rfl, _, rfl, ?_⟩⟩
      refine k _ _ (Int.emod_nonneg _ (by omega)) (Int.emod_lt_of_pos _ hm0) ⟨_, _, _, upd_same, Int.ediv_nonneg hx (by omega), hy, hz⟩ ?_
      intro b o e n
      rw [upd_ne n, upd_ne (ne_of_none e hq)]
      exact e
    · walk_at "g"
      refine k _ _ (Int.emod_nonneg _ (by omega)) (Int.emod_lt_of_pos _ hm0) ⟨_, _, _, upd_same, hx, Int.emod_nonneg _ (by omega), ?_⟩ (Oth.refl H).put.put
      exact Int.lt_trans (Int.emod_lt_of_pos _ (by decide)) (by decide)


def sp_any : Sp := fun vs H Q _ => ∃ (a l : Addr) (xs : List V), vs = [.ref a, .ref l] ∧ Pl H a ∧ l ≠ a ∧ H l = some (.lst xs) ∧ 0 < xs.length ∧ xs.length < 1000 ∧ ∀ (j : Nat) (v : V) (H' : Hp), xs[j]? = some v → Pl H' a → Oth a H H' → Q v H'
theorem ok_law_any_of (T : Tx K mg) : FnOk P w K mg base CX0 2 T.a_law_any_of T.d_law_any_of ["_law_pail", "_law_some"] sp_any := by
  refine T.F_law_any_of.ok sc_law_any_of (fun vs H Q E h => ?_) (fun cdv A outer s H vs Q E hr h => ?_)
  · obtain ⟨a, l, xs, rfl, _⟩ := h
    rfl
  · obtain ⟨a, l, xs, rfl, hP, hne, hl, h0, h1, k⟩ := h
    refine ⟨_, (pss_one (ps_ret (pe_ix ix_list (pv 1) (pe_call (ok_law_cast T) (hr.mono (by decide)) rfl T.g_law_cast T.F_law_cast.kp T.b_law_cast .nil pass0 (pa_cons (pv 0) (pa_cons (pe_callB call_len_seq (by rfl) T.n_len (by decide +kernel) (pa_cons (pv 1) pa_nil)) pa_nil))) (fun _ _ => rfl)))), ?_⟩
    walk_at "g"
    refine ⟨a, _, rfl, hP, by omega, by omega, fun i H' hi0 hi1 hP' hO => ?_⟩
    obtain ⟨j, rfl⟩ : ∃ j : Nat, i = (j : Int) := ⟨i.toNat, by omega⟩
    obtain ⟨v, hv⟩ : ∃ v, xs[j]? = some v := ⟨_, List.getElem?_eq_getElem (by omega)⟩
    exact ⟨l, xs, _, v, rfl, rfl, SqL.of (hO l _ hl hne), atI_nat hv, k j v H' hv hP' hO⟩


def sp_vast : Sp := fun vs H Q _ => ∃ (a : Addr) (m : Int), vs = [.ref a, .int m] ∧ Pl H a ∧ 0 < m ∧ ∀ (k : Int) (H' : Hp), 0 ≤ k → k < m → Pl H' a → Oth a H H' → Q (.int k) H'
theorem ok_law_vast (T : Tx K mg) : FnOk P w K mg base CX0 2 T.a_law_vast T.d_law_vast ["_law_pail", "_law_many"] sp_vast := by
  refine T.F_law_vast.ok sc_law_vast (fun vs H Q E h => ?_) (fun cdv A outer s H vs Q E hr h => ?_)
  · obtain ⟨a, m, rfl, _⟩ := h
    rfl
  · obtain ⟨a, m, rfl, hP, hm0, k⟩ := h
    refine ⟨_, (pss_cons (ps_set (i := 2) sc_law_vast.nd rfl (Or.inl rfl) pe_int)
      (pss_cons (ps_for PassesOwn.never rfl (pi_range1 (by rfl) T.n_range (pa_cons pe_int pa_nil)) (pg_name (i := 3) sc_law_vast.nd rfl (Or.inl rfl)) (pss_one (ps_set (i := 2) sc_law_vast.nd rfl (Or.inl rfl) (pe_op op_add (pe_op op_mul (pv 2) pe_int) (pe_call (ok_law_cast T) (hr.mono (by decide)) rfl T.g_law_cast T.F_law_cast.kp T.b_law_cast .nil pass0 (pa_cons (pv 0) (pa_cons pe_int pa_nil)))))))
      (pss_one (ps_ret (pe_op op_mod (pe_callTy call_int1 (by rfl) T.n_int (by decide +kernel) (pa_cons (pv 2) pa_nil)) (pv 1)))))), ?_⟩
    refine ⟨_, rfl, by decide, by decide, for_range (n := 6) (fun i σ H' => ∃ (f : Int) (v : Option V), σ = [some (.ref a), some (.int m), some (.int f), v] ∧ Pl H' a ∧ Oth a H H') ⟨0, none, rfl, hP, Oth.refl H⟩ ?_ ?_⟩
    · rintro i σ H' hi ⟨f, v, rfl, hP', hO⟩
      walk_at "g"
      refine ⟨a, _, rfl, hP', by decide, by decide, fun k H2 h0 h1 hP2 hO2 => ?_⟩
      walk_at "g"
      exact ⟨_, _, rfl, hP2, hO.trans hO2⟩
    · rintro σ H' ⟨f, v, rfl, hP', hO⟩
      walk_at "g"
      exact k _ _ (Int.emod_nonneg _ (by omega)) (Int.emod_lt_of_pos _ hm0) hP' hO


/-- numbers of which a few may be put together -/
def Fin0 (i : Int) : Prop := -(10 ^ 100) < i ∧ i < 10 ^ 100
theorem Fin0.fin {i : Int} (h : Fin0 i) : Fin1 i := by
  obtain ⟨h1, h2⟩ := h
  have e : (10 ^ 100 : Int) < 10 ^ 200 := by decide +kernel
  exact ⟨by omega, by omega⟩
def sp_place : Sp := fun vs H Q _ => ∃ (a : Addr), vs = [.ref a] ∧ Pl H a ∧ ∀ (k : Int) (H' : Hp), Fin0 k → Pl H' a → Oth a H H' → Q (.int k) H'
theorem ok_law_place (T : Tx K mg) : FnOk P w K mg base CX0 3 T.a_law_place T.d_law_place ["_law_pail"] sp_place := by
  refine T.F_law_place.ok sc_law_place (fun vs H Q E h => ?_) (fun cdv A outer s H vs Q E hr h => ?_)
  · obtain ⟨a, rfl, _⟩ := h
    rfl
  · obtain ⟨a, rfl, hP, k⟩ := h
    refine ⟨_, (pss_cons (ps_set (i := 1) sc_law_place.nd rfl (Or.inl rfl) (pe_call (ok_law_cast T) (hr.mono (by decide)) rfl T.g_law_cast T.F_law_cast.kp T.b_law_cast .nil pass0 (pa_cons (pv 0) (pa_cons pe_int pa_nil))))
      (pss_cons (ps_if (pt_cmpR op_lt (pv 1) pe_int (nomark _)) (pss_one (ps_ret (pe_op op_sub (pe_call (ok_law_cast T) (hr.mono (by decide)) rfl T.g_law_cast T.F_law_cast.kp T.b_law_cast .nil pass0 (pa_cons (pv 0) (pa_cons pe_int pa_nil))) pe_int))) pss_nil)
      (pss_one (ps_ret (pe_ifExp (pt_cmpR op_eq (pv 1) pe_int (nomark _)) (pe_op op_sub (pe_call (ok_law_cast T) (hr.mono (by decide)) rfl T.g_law_cast T.F_law_cast.kp T.b_law_cast .nil pass0 (pa_cons (pv 0) (pa_cons pe_int pa_nil))) pe_int) (pe_op op_sub (pe_call (ok_law_vast T) (hr.mono (by decide)) rfl T.g_law_vast T.F_law_vast.kp T.b_law_vast .nil pass0 (pa_cons (pv 0) (pa_cons (pe_op op_pow pe_int pe_int) pa_nil))) (pe_op op_pow pe_int pe_int))))))), ?_⟩
    walk_at "g"
    refine ⟨a, _, rfl, hP, by decide, by decide, fun c H1 c0 c1 hP1 hO1 => ?_⟩
    walk_at "g"
    refine ite2 (fun _ => ?_) (fun _ => ?_)
    · walk_at "g"
      refine ⟨a, _, rfl, hP1, by decide, by decide, fun d H2 d0 d1 hP2 hO2 => ?_⟩
      walk_at "g"
      exact k _ _ ⟨by omega, by omega⟩ hP2 (hO1.trans hO2)
    · by_cases c6 : V.int c = V.int 6
      · walk_at "d"
        refine ⟨a, _, rfl, hP1, by decide, by decide, fun d H2 d0 d1 hP2 hO2 => ?_⟩
        walk_at "g"
        exact k _ _ ⟨by omega, by omega⟩ hP2 (hO1.trans hO2)
      · walk_at "d"
        refine ⟨a, _, rfl, hP1, by decide, fun d H2 d0 d1 hP2 hO2 => ?_⟩
        walk_at "g"
        have d1' : d < 10 ^ 39 := d1
        exact k _ _ ⟨by show -(10 ^ 100) < d - 10 ^ 38; omega, by show d - 10 ^ 38 < 10 ^ 100; omega⟩ hP2 (hO1.trans hO2)


def sp_begun (K : PySem.W.Frag) : Sp := fun vs H Q _ => ∃ (a : Addr) (t : Int) (ns : List Int), vs = [.ref a, .int t] ∧ SqL K H a (ns.map V.int) ∧ 0 ≤ t ∧ t < 1000 ∧ (∀ z ∈ ns, Builtin.Int.intBits z ≤ 1048576) ∧ ∀ (p : Addr) (H' : Hp), H p = none → Same H H' → Pl H' p → Q (.ref p) H'
theorem ok_law_begun (T : Tx K mg) : FnOk P w K mg base CX0 1 T.a_law_begun T.d_law_begun ["_law_script", "_law_turn"] (sp_begun K) := by
  refine T.F_law_begun.ok sc_law_begun (fun vs H Q E h => ?_) (fun cdv A outer s H vs Q E hr h => ?_)
  · obtain ⟨a, t, ns, rfl, _⟩ := h
    rfl
  · obtain ⟨a, t, ns, rfl, hS, ht0, ht1, hb, k⟩ := h
    refine ⟨_, (Evl.pss_cut (ps_set (i := 2) sc_law_begun.nd rfl (Or.inl rfl) (pe_ifExp (pt_cmpR op_lt (pv 1) (pe_callB call_len_seq (by rfl) T.n_len (by decide +kernel) (pa_cons (pv 0) pa_nil)) (nomark _)) (pe_ix ix_list (pv 0) (pv 1) (fun _ _ => rfl)) pe_int))
      (pss_cons (ps_set (i := 3) sc_law_begun.nd rfl (Or.inl rfl) (pe_op op_add pe_int (pe_op op_mul pe_int (pv 1))))
      (pss_cons (ps_for PassesOwn.never rfl (pi_list (pe_slice sl_list (pv 0) po_none (po_some pe_int))) (pg_name (i := 4) sc_law_begun.nd rfl (Or.inl rfl)) (pss_one (ps_set (i := 3) sc_law_begun.nd rfl (Or.inl rfl) (pe_op op_mod (pe_callTy call_int1 (by rfl) T.n_int (by decide +kernel) (pa_cons (pe_op op_add (pe_op op_add (pe_op op_mul (pv 3) pe_int) (pe_op op_mul (pv 4) pe_int)) pe_int) pa_nil)) pe_int))))
      (pss_one (ps_ret (pe_lst (pa_cons (pe_ifExp (PW.pt (pw_or (pt_cmpR op_lt (pv 2) pe_int (nomark _)) (pw_or1 (pt_cmpR op_ge (pv 2) (pe_op op_pow pe_int pe_int) (nomark _))))) (pe_callB call_abs (by rfl) T.n_abs (by decide +kernel) (pa_cons (pv 2) pa_nil)) pe_int) (pa_cons (pe_op op_mod (pe_callTy call_int1 (by rfl) T.n_int (by decide +kernel) (pa_cons (pe_op op_add (pe_op op_add (pe_op op_mul (pv 3) pe_int) (pe_op op_mulI (pv 2) (pv 2))) (pe_op op_mul pe_int (pv 1))) pa_nil)) pe_int) (pa_cons pe_int pa_nil))))))))), ?_⟩
    -- the own cell
    refine ⟨fun σ' H' => ∃ own : Int, Builtin.Int.intBits own ≤ 1048576 ∧ σ' = [some (.ref a), some (.int t), some (.int own), none, none] ∧ Same H H', ?_, ?_⟩
    · refine ⟨_, rfl, _, rfl, a, _, rfl, Or.inl hS, _, _, rfl, rfl, _, rfl, ?_⟩
      rw [List.length_map]
      refine ite2 (fun c => ?_) (fun c => ?_)
      · have c' : t < (ns.length : Int) := of_decide_eq_true c
        obtain ⟨j, rfl⟩ : ∃ j : Nat, t = (j : Int) := ⟨t.toNat, by omega⟩
        have hj : j < ns.length := by omega
        have hv : (ns.map V.int)[j]? = some (.int ns[j]) := by simp [hj]
        exact ⟨_, rfl, _, rfl, a, _, _, _, rfl, rfl, hS, atI_nat hv, ns[j], hb _ (List.getElem_mem hj), rfl, Same.refl H⟩
      · exact ⟨0, by decide, rfl, Same.refl H⟩
    · rintro σ' H1 ⟨own, ho, rfl, hs1⟩
      walk_at "g"
      -- the mixing
      refine ⟨a, _, rfl, hs1.seq hS, fun l hl => ?_⟩
      have hs2 : Same H (upd H1 l (.lst (cutV (ns.map V.int) none (some 6)))) := hs1.trans (Same.new hl)
      refine ⟨l, rfl, ⟨_, SqL.of upd_same⟩, for_list (K := K) (a := l) (xs := cutV (ns.map V.int) none (some 6)) (fun i σ H2 => ∃ (st : Int) (v : Option V), σ = [some (.ref a), some (.int t), some (.int own), some (.int st), v] ∧ H2 = upd H1 l (.lst (cutV (ns.map V.int) none (some 6))))
        ⟨_, none, rfl, rfl⟩ (fun i σ H2 _ ⟨_, _, _, e⟩ => by rw [e]; exact SqL.of upd_same) ?_ ?_⟩
      · rintro i x σ H2 hi ⟨st, v, rfl, rfl⟩
        obtain ⟨z, rfl⟩ := int_of_mem (mem_cutV hi)
        walk_at "g"
        exact ⟨_, _, rfl, rfl⟩
      · rintro σ H2 ⟨st, v, rfl, rfl⟩
        have abs0 : ∀ z : Int, 0 ≤ (if z < 0 then -z else z) := fun z => by split <;> omega
        walk_at "g"
        by_cases c1 : own < 0
        · rw [decide_eq_true c1]
          refine iteT (iteT ?_)
          walk_at "g"
          refine ⟨mul_ok_bits (by omega) (by omega), ?_⟩
          walk_at "g"
          refine ⟨by show 3 ≤ sizeLine; decide, fun p hp => ?_⟩
          exact k p _ (hs2.free hp) (hs2.trans (Same.new hp)) ⟨_, _, _, upd_same, abs0 _, Int.emod_nonneg _ (by decide), Int.emod_lt_of_pos _ (by decide)⟩
        · rw [decide_eq_false c1]
          refine iteF ?_
          walk_at "g"
          refine ite2 (fun c2 => ?_) (fun c2 => ?_)
          · walk_at "g"
            refine ⟨mul_ok_bits (by omega) (by omega), ?_⟩
            walk_at "g"
            refine ⟨by show 3 ≤ sizeLine; decide, fun p hp => ?_⟩
            exact k p _ (hs2.free hp) (hs2.trans (Same.new hp)) ⟨_, _, _, upd_same, abs0 _, Int.emod_nonneg _ (by decide), Int.emod_lt_of_pos _ (by decide)⟩
          · walk_at "g"
            refine ⟨mul_ok_bits (by omega) (by omega), ?_⟩
            walk_at "g"
            refine ⟨by show 3 ≤ sizeLine; decide, fun p hp => ?_⟩
            exact k p _ (hs2.free hp) (hs2.trans (Same.new hp)) ⟨_, _, _, upd_same, Int.le_refl 0, Int.emod_nonneg _ (by decide), Int.emod_lt_of_pos _ (by decide)⟩


/-- places that stand in rising order, each with its level -/
def sp_picture : Sp := fun vs H Q _ => ∃ (a : Addr) (p m : Int), vs = [.ref a, .int p, .int m] ∧ Pl H a ∧ 1 < p ∧ p < 100 ∧ 0 ≤ m ∧ m ≤ 10 ∧
  ∀ (t : Addr) (ls : List (Int × Int)) (H' : Hp), H t = none → Good p ls → (ls.length : Int) ≤ m → (∀ ab ∈ ls, Fin0 ab.1) → Pic H' t ls → Pl H' a → Oth a H H' → Q (.ref t) H'
theorem ok_law_picture (T : Tx K mg) : FnOk P w K mg base CX0 4 T.a_law_picture T.d_law_picture ["_law_pail", "_law_p", "_law_many"] sp_picture := by
  refine T.F_law_picture.ok sc_law_picture (fun vs H Q E h => ?_) (fun cdv A outer s H vs Q E hr h => ?_)
  · obtain ⟨a, p, m, rfl, _⟩ := h
    rfl
  · obtain ⟨a, p, m, rfl, hP, hp1, hp2, hm0, hm1, k⟩ := h
    refine ⟨_, (pss_cons (ps_set (i := 3) sc_law_picture.nd rfl (Or.inr rfl) pe_dnewK)
      (pss_cons (ps_for PassesOwn.never rfl (pi_range1 (by rfl) T.n_range (pa_cons (pv 2) pa_nil)) (pg_name (i := 4) sc_law_picture.nd rfl (Or.inl rfl)) (pss_one (ps_dput (hu_of hr) (pv 3) (pe_call (ok_law_place T) (hr.mono (by decide)) rfl T.g_law_place T.F_law_place.kp T.b_law_place .nil pass0 (pa_cons (pv 0) pa_nil)) (pe_op op_add pe_int (pe_call (ok_law_cast T) (hr.mono (by decide)) rfl T.g_law_cast T.F_law_cast.kp T.b_law_cast .nil pass0 (pa_cons (pv 0) (pa_cons (pe_op op_sub (pv 1) pe_int) pa_nil)))) rfl)))
      (pss_one (ps_ret (pe_callTy call_tupF (by rfl) T.n_tuple (by decide +kernel) (pa_cons (pe_lc (own := [("_law_at", 5)]) rfl sc_law_picture.nd (pi_list (pe_callB cr_sortedI (by rfl) T.n_sorted (by decide +kernel) (pa_cons (pe_callTy (call_listD rfl) (by rfl) T.n_list (by decide +kernel) (pa_cons (pv 3) pa_nil)) pa_nil))) (blkOk_by (own := [("_law_at", 5)]) (N := ["_law_pail", "_law_p", "_law_many", "_law_chart", "_law_k", "_law_at"]) (sc := defScope s_law_picture) (by decide +kernel)) (fun _ _ _ _ _ => (pg_name (i := 5) sc_law_picture.nd rfl (Or.inl rfl) (Or.inr rfl))) (fun _ _ _ _ _ => pts_nil) (fun _ _ _ _ _ => (pe_tup (pa_cons (pv 5) (pa_cons (pe_dget (hu_of hr) (pv 3) (pv 5) (fun _ _ => rfl)) pa_nil))))) pa_nil)))))), ?_⟩
    intro c hc
    have hca : c ≠ a := by
      obtain ⟨_, _, _, hP, _⟩ := hP
      exact (ne_of_none hP hc).symm
    -- the chart grows
    have hP0 : Pl (upd H c (.dK [])) a := by
      obtain ⟨x, y, z, hP, h⟩ := hP
      exact ⟨x, y, z, by rw [upd_ne hca.symm]; exact hP, h⟩
    refine ⟨_, rfl, m, rfl, by omega, by omega, for_range (n := m.toNat) (fun i σ H' => ∃ (tab : List (Int × Int)) (v : Option V), σ = [some (.ref a), some (.int p), some (.int m), some (.ref c), v, none] ∧ H' c = some (.dK (dI tab)) ∧ (keysOf tab).Nodup ∧ tab.length ≤ i ∧
      (∀ ab ∈ tab, Fin0 ab.1 ∧ 0 < ab.2 ∧ ab.2 < p) ∧ Pl H' a ∧ Oth a H H') ⟨[], none, rfl, upd_same, List.nodup_nil, Nat.le_refl _, (fun _ h => by cases h), hP0, Oth.of (Same.new hc)⟩ ?_ ?_⟩
    · rintro i σ H' hi ⟨tab, v, rfl, hch, hnd, hlen, hall, hP1, hO1⟩
      walk_at "g"
      refine ⟨a, _, rfl, hP1, by show (0 : Int) < p - 1; omega, by show p - 1 < 1073741824; omega, fun l H2 l0 l1 hP2 hO2 => ?_⟩
      have l1' : l < p - 1 := l1
      walk_at "g"
      refine ⟨hP2, fun q H3 hq hP3 hO3 => ?_⟩
      have h3 : H3 c = some (.dK (dI tab)) := hO3 c _ (hO2 c _ hch hca) hca
      have lz : (dI tab).length < sizeLine := by
        rw [dI_len]
        exact small1000 (by omega)
      refine ⟨c, _, rfl, DPut.k (k := Sum.inl q) h3 lz, ?_⟩
      refine ⟨tput tab q (1 + l), _, rfl, by rw [upd_same, ← dI_put], nodup_tput _ _ hnd, Nat.le_trans (len_tput _ _ _) (by omega), ?_, ?_, ?_⟩
      · intro ab hab
        rcases mem_tput hab with h | h
        · exact hall ab h
        · rw [h]
          exact ⟨hq, by show 0 < 1 + l; omega, by show 1 + l < p; omega⟩
      · obtain ⟨x, y, z, h, h'⟩ := hP3
        exact ⟨x, y, z, by rw [upd_ne hca.symm]; exact h, h'⟩
      · intro b o e n
        have nbc : b ≠ c := ne_of_none e hc
        rw [upd_ne nbc]
        exact hO3 b o (hO2 b o (hO1 b o e n) n) n
    · rintro σ H' ⟨tab, v, rfl, hch, hnd, hlen, hall, hP1, hO1⟩
      walk_at "g"
      intro q hq
      refine ⟨q, keysOf tab, rfl, by rw [← dI_keys]; exact SqL.of upd_same, fun ns r hperm hsrt hr => ?_⟩
      have ndn : ns.Nodup := hperm.nodup_iff.mpr hnd
      have lenn : ns.length ≤ 10 := by
        have e1 := hperm.length_eq
        have e2 : (keysOf tab).length = tab.length := List.length_map _
        omega
      have s4 : Same H' (upd (upd H' q (.lst ((dI tab).map fun kv => kV kv.1))) r (.lst (ns.map V.int))) := (Same.new hq).trans (Same.new hr)
      refine ⟨r, rfl, ⟨_, SqL.of upd_same⟩, fun D hD => lc_list (K := K) (a := r) (xs := ns.map V.int) (fun i H2 => ∃ vs, Grow (upd (upd H' q (.lst ((dI tab).map fun kv => kV kv.1))) r (.lst (ns.map V.int))) D H2 vs ((ns.take i).map fun k => (k, (tget tab k).getD 0)))
        ⟨[], Grow.start hD⟩ (fun i H2 _ ⟨vs, g⟩ => SqL.of (g.same _ _ upd_same)) ?_ ?_⟩
      · rintro i x H2 hi ⟨vs, g⟩
        obtain ⟨z, hz, rfl⟩ := int_at hi
        obtain ⟨l, hl⟩ := tget_of_key (hperm.mem_iff.mp (List.mem_of_getElem? hz))
        have ec : valV (dI tab) (Sum.inl z) = some (V.int l) := by rw [dI_get, hl]; rfl
        refine ⟨rfl, ?_⟩
        refine ⟨_, rfl, _, rfl, _, rfl, c, V.int l, rfl, ?_, ?_⟩
        · rw [← ec]
          exact DGet.k (k := Sum.inl z) (g.same _ _ (s4 _ _ hch))
        · refine ⟨by show 2 ≤ sizeLine; decide, fun u hu => ⟨vs, ?_, ?_, vs ++ [.ref u], ?_⟩⟩
          · rw [upd_ne (ne_of_none g.lst hu)]
            exact g.lst
          · have e1 := Paired.len g.all
            rw [List.length_map, List.length_take] at e1
            exact small1000 (by omega)
          · have e2 : (ns.take (i + 1)).map (fun k => (k, (tget tab k).getD 0)) = (ns.take i).map (fun k => (k, (tget tab k).getD 0)) ++ [(z, l)] := by
              rw [take_more hz, List.map_append]
              show _ ++ [(z, (tget tab z).getD 0)] = _
              rw [hl]
              rfl
            rw [e2]
            exact g.more hu z l
      · rintro H2 ⟨vs, g⟩
        rw [List.length_map, List.take_length] at g
        refine ⟨D, vs, rfl, SqL.of g.lst, fun t itp ht => ?_⟩
        have gs : Same H' H2 := s4.trans g.same
        have hOO : Oth a H (upd H2 t (.frz (plainT itp) (.tup vs))) := hO1.trans ((Oth.of gs).trans (Oth.of (Same.new ht)))
        have back : H t = none := by
          cases e : H t with
          | none => rfl
          | some o =>
            by_cases hta : t = a
            · subst hta
              obtain ⟨x, y, z, h, _⟩ := hP1
              rw [gs _ _ h] at ht
              cases ht
            · rw [gs _ _ (hO1 _ _ e hta)] at ht
              cases ht
        refine k t (ns.map fun k => (k, (tget tab k).getD 0)) _ back ⟨?_, ?_⟩ ?_ ?_ ⟨vs, ⟨itp, upd_same⟩, Paired.mapP g.all fun _ _ => At2.same (Same.new ht)⟩ ?_ hOO
        · show (List.map (·.1) (ns.map fun k => (k, (tget tab k).getD 0))).Pairwise (· < ·)
          rw [map_fst_pair]
          exact rising hsrt ndn
        · intro ab hab
          obtain ⟨z, hz, rfl⟩ := List.mem_map.mp hab
          obtain ⟨l, hl⟩ := tget_of_key (hperm.mem_iff.mp hz)
          have := hall _ (tget_mem hl)
          show 0 < (tget tab z).getD 0 ∧ (tget tab z).getD 0 < p
          rw [hl]
          exact this.2
        · have e1 := hperm.length_eq
          have e2 : (keysOf tab).length = tab.length := List.length_map _
          rw [List.length_map]
          omega
        · intro ab hab
          obtain ⟨z, hz, rfl⟩ := List.mem_map.mp hab
          obtain ⟨l, hl⟩ := tget_of_key (hperm.mem_iff.mp hz)
          exact (hall _ (tget_mem hl)).1
        · obtain ⟨x, y, z, h, h'⟩ := hP1
          exact ⟨x, y, z, (Same.new ht) _ _ (gs _ _ h), h'⟩


def sp_isint : Sp := fun vs H Q _ => ∃ i : Int, vs = [.int i] ∧ Q (.bl true) H
theorem ok_is_integer (T : Tx K mg) : FnOk P w K mg base CX0 1 T.a_is_integer T.d_is_integer ["value"] sp_isint := by
  refine T.F_is_integer.ok sc_is_integer (fun vs H Q E h => ?_) (fun cdv A outer s H vs Q E hr h => ?_)
  · obtain ⟨i, rfl, _⟩ := h
    rfl
  · obtain ⟨i, rfl, k⟩ := h
    refine ⟨_, (pss_one (ps_ret (pe_and (pe_callB call_isi (by rfl) T.n_isinstance (by decide +kernel) (pa_cons (pv 0) (pa_cons (pe_bltn (v := .ty "int") (by rfl) T.n_int (by decide +kernel) rfl) pa_nil))) (pe_one (pe_not (pe_callB call_isi (by rfl) T.n_isinstance (by decide +kernel) (pa_cons (pv 0) (pa_cons (pe_bltn (v := .ty "bool") (by rfl) T.n_bool (by decide +kernel) rfl) pa_nil)))))))), ?_⟩
    walk_at "g"
    exact k


def Lv (p : Int) : Prop := p = 2 ∨ p = 3 ∨ p = 5 ∨ p = 7
def sp_arelv : Sp := fun vs H Q _ => ∃ p : Int, vs = [.int p] ∧ Lv p ∧ Q (.bl true) H
theorem ok_are_levels (T : Tx K mg) : FnOk P w K mg base CX0 2 T.a_are_levels T.d_are_levels ["value"] sp_arelv := by
  refine T.F_are_levels.ok sc_are_levels (fun vs H Q E h => ?_) (fun cdv A outer s H vs Q E hr h => ?_)
  · obtain ⟨i, rfl, _⟩ := h
    rfl
  · obtain ⟨p, rfl, hp, k⟩ := h
    refine ⟨_, (pss_one (ps_ret (pe_and (pe_call (ok_is_integer T) (hr.mono (by decide)) rfl T.g_is_integer T.F_is_integer.kp T.b_is_integer .nil pass0 (pa_cons (pv 0) pa_nil)) (pe_one (pe_cmpR op_in_seq (pv 0) (pe_glob (v := .ref T.x_LEVELS) rfl T.g_LEVELS rfl) rfl))))), ?_⟩
    walk_at "g"
    refine ⟨_, _, rfl, Or.inr (T.w_LEVELS H), rfl, rfl, ?_⟩
    rcases hp with rfl | rfl | rfl | rfl <;> exact k


def sp_chklv : Sp := fun vs H Q _ => ∃ p : Int, vs = [.int p] ∧ Lv p ∧ Q .non H
theorem ok_check_levels (T : Tx K mg) : FnOk P w K mg base CX0 3 T.a_check_levels T.d_check_levels ["value"] sp_chklv := by
  refine T.F_check_levels.ok sc_check_levels (fun vs H Q E h => ?_) (fun cdv A outer s H vs Q E hr h => ?_)
  · obtain ⟨i, rfl, _⟩ := h
    rfl
  · obtain ⟨p, rfl, hp, k⟩ := h
    refine ⟨_, (pss_one (ps_if (pt_not (pt_val (pe_call (ok_are_levels T) (hr.mono (by decide)) rfl T.g_are_levels T.F_are_levels.kp T.b_are_levels .nil pass0 (pa_cons (pv 0) pa_nil)))) (pss_one ps_never) pss_nil)), ?_⟩
    walk_at "g"
    refine ⟨hp, ?_⟩
    walk_at "g"
    exact k


def sp_chknum : Sp := fun vs H Q _ => ∃ p : Int, vs = [.int p] ∧ Q .non H
theorem ok_check_number (T : Tx K mg) : FnOk P w K mg base CX0 3 T.a_check_number T.d_check_number ["value"] sp_chknum := by
  refine T.F_check_number.ok sc_check_number (fun vs H Q E h => ?_) (fun cdv A outer s H vs Q E hr h => ?_)
  · obtain ⟨i, rfl, _⟩ := h
    rfl
  · obtain ⟨p, rfl, k⟩ := h
    refine ⟨_, (pss_one (ps_if (pt_not (pt_val (pe_call (ok_is_integer T) (hr.mono (by decide)) rfl T.g_is_integer T.F_is_integer.kp T.b_is_integer .nil pass0 (pa_cons (pv 0) pa_nil)))) (pss_one ps_never) pss_nil)), ?_⟩
    walk_at "g"
    exact k


def sp_bent : Sp := fun vs H Q _ => ∃ (p : Int) (t : Addr) (ls : List (Int × Int)), vs = [.int p, .ref t] ∧ Pic H t ls ∧ Good p ls ∧ ∀ H', Same H H' → Q .non H'
theorem ok_bent_lamp (T : Tx K mg) : FnOk P w K mg base CX0 2 T.a_bent_lamp T.d_bent_lamp ["levels", "value"] sp_bent := by
  refine T.F_bent_lamp.ok sc_bent_lamp (fun vs H Q E h => ?_) (fun cdv A outer s H vs Q E hr h => ?_)
  · obtain ⟨i, t, ls, rfl, _⟩ := h
    rfl
  · obtain ⟨p, t, ls, rfl, hP, hG, k⟩ := h
    obtain ⟨vs, ⟨itp, ht⟩, hall⟩ := id hP
    refine ⟨_, (pss_cons (ps_if (pt_not (pt_val (pe_callB call_isi (by rfl) T.n_isinstance (by decide +kernel) (pa_cons (pv 1) (pa_cons (pe_bltn (v := .ty "tuple") (by rfl) T.n_tuple (by decide +kernel) rfl) pa_nil))))) (pss_one (ps_ret (pe_un un_neg pe_int))) pss_nil)
      (pss_cons (ps_for PassesOwn.never rfl (pi_enumT (by rfl) T.n_enumerate (pa_cons (pv 1) pa_nil)) (pg_tupK 2 rfl rfl (pgs_cons (pg_name (i := 2) sc_bent_lamp.nd rfl (Or.inl rfl)) (pgs_cons (pg_name (i := 3) sc_bent_lamp.nd rfl (Or.inl rfl)) pgs_nil))) (pss_cons (ps_if (PW.pt (pw_or (pt_not (pt_val (pe_callB call_isi (by rfl) T.n_isinstance (by decide +kernel) (pa_cons (pv 3) (pa_cons (pe_bltn (v := .ty "tuple") (by rfl) T.n_tuple (by decide +kernel) rfl) pa_nil))))) (pw_or (pt_cmpR op_ne (pe_callB call_len_seq (by rfl) T.n_len (by decide +kernel) (pa_cons (pv 3) pa_nil)) pe_int (nomark _)) (pw_or (pt_not (pt_val (pe_call (ok_is_integer T) (hr.mono (by decide)) rfl T.g_is_integer T.F_is_integer.kp T.b_is_integer .nil pass0 (pa_cons (pe_ix ix_tup (pv 3) pe_int (fun _ _ => rfl)) pa_nil)))) (pw_or1 (pt_not (pt_val (pe_call (ok_is_integer T) (hr.mono (by decide)) rfl T.g_is_integer T.F_is_integer.kp T.b_is_integer .nil pass0 (pa_cons (pe_ix ix_tup (pv 3) pe_int (fun _ _ => rfl)) pa_nil))))))))) (pss_one (ps_ret (pv 2))) pss_nil)
      (pss_one (ps_if (PW.pt (pw_or (pt_not (pt_chain op_lt op_lt pe_int (pe_ix ix_tup (pv 3) pe_int (fun _ _ => rfl)) (pv 0))) (pw_or1 (PW.pt (pw_and (pt_cmpR op_gt (pv 2) pe_int (nomark _)) (pw_and1 (pt_cmpR op_ge (pe_ix ix_tup (pe_ix ix_tup (pv 1) (pe_op op_sub (pv 2) pe_int) (fun _ _ => rfl)) pe_int (fun _ _ => rfl)) (pe_ix ix_tup (pv 3) pe_int (fun _ _ => rfl)) (nomark _)))))))) (pss_one (ps_ret (pv 2))) pss_nil))))
      (pss_one (ps_ret pe_non)))), ?_⟩
    walk_at "g"
    refine ⟨t, vs, rfl, sqF ht, for_it walk_enumT (fun i σ H' => ∃ a b, σ = [some (.int p), some (.ref t), a, b] ∧ Same H H') ⟨_, _, rfl, fun _ _ e => e⟩ (fun i σ H' _ ⟨_, _, _, s⟩ => sqF (s _ _ ht)) ?_ ?_⟩
    · rintro i x σ H1 H2 hi ⟨a, b, rfl, s1⟩ ⟨q, x1, x2, rfl, hq, rfl, e1, e2⟩
      have e1' : V.int (i : Nat) = x1 := Option.some.inj e1
      subst e1'
      obtain ⟨cd, q2, ec, rfl, hq2⟩ := pic_at hall e2
      have s2 : Same H (upd H1 q (.tup [.int (i : Nat), .ref q2])) := s1.trans (Same.new hq)
      have hq2' := s2 _ _ hq2
      have ht2 := s2 _ _ ht
      refine ⟨q, _, rfl, SqT.of upd_same, rfl, _, _, rfl, _, _, rfl, rfl, ?_⟩
      walk_at "g"
      have hl := hG.lev cd (List.mem_of_getElem? ec)
      rw [decide_eq_true hl.1]
      refine iteT ?_
      walk_at "g"
      rw [decide_eq_true hl.2]
      have out : ∀ b : Bool, b = false → ∃ a b, [some (V.int p), some (V.ref t), some (V.int (i : Nat)), some (V.ref q2)] = [some (.int p), some (.ref t), a, b] ∧ Same H (upd H1 q (.tup [.int (i : Nat), .ref q2])) := fun _ _ => ⟨_, _, rfl, s2⟩
      rcases i with _ | j
      · walk_at "g"
        exact ⟨_, _, rfl, s2⟩
      · refine ⟨_, rfl, ?_⟩
        refine ⟨_, _, rfl, rfl, ?_⟩
        have hj : decide ((0 : Int) < ((j + 1 : Nat) : Int)) = true := decide_eq_true (by omega)
        refine ⟨true, congrArg V.bl hj, ?_⟩
        have hjl : j < vs.length := by
          have h1 := (List.getElem?_eq_some_iff.mp (show vs[j + 1]? = _ from e2)).1
          omega
        have ej : vs[j]? = some vs[j] := List.getElem?_eq_getElem hjl
        obtain ⟨ab, q0, eab, ev, hq0⟩ := pic_at hall ej
        have ej2 : atI vs (((j + 1 : Nat) : Int) - 1) = some (.ref q0) := by
          have e0 : ((j + 1 : Nat) : Int) - 1 = (j : Int) := by omega
          rw [e0, ← ev]
          exact atI_nat ej
        have hlt := asc_at hG.asc eab ec
        refine ⟨_, rfl, _, rfl, _, _, rfl, rfl, t, vs, _, _, rfl, rfl, sqF ht2, ej2, ?_⟩
        have hq0' := s2 _ _ hq0
        walk_at "g"
        have hd : decide (cd.1 ≤ ab.1) = false := decide_eq_false (by omega)
        rw [hd]
        walk_at "g"
        exact ⟨_, _, rfl, s2⟩
    · rintro σ H1 ⟨a, b, rfl, s1⟩
      exact k _ s1


def sp_wrong : Sp := fun vs H Q _ => ∃ (p : Int) (t : Addr) (ls : List (Int × Int)), vs = [.int p, .ref t] ∧ Pic H t ls ∧ Good p ls ∧ ls.length ≤ 400 ∧ ∀ H', Same H H' → Q .non H'
theorem ok_wrong_lamp (T : Tx K mg) : FnOk P w K mg base CX0 3 T.a_wrong_lamp T.d_wrong_lamp ["levels", "value"] sp_wrong := by
  refine T.F_wrong_lamp.ok sc_wrong_lamp (fun vs H Q E h => ?_) (fun cdv A outer s H vs Q E hr h => ?_)
  · obtain ⟨i, t, ls, rfl, _⟩ := h
    rfl
  · obtain ⟨p, t, ls, rfl, hP, hG, hl, k⟩ := h
    refine ⟨_, (pss_cons (ps_set (i := 2) sc_wrong_lamp.nd rfl (Or.inl rfl) (pe_call (ok_bent_lamp T) (hr.mono (by decide)) rfl T.g_bent_lamp T.F_bent_lamp.kp T.b_bent_lamp .nil pass0 (pa_cons (pv 0) (pa_cons (pv 1) pa_nil))))
      (pss_cons (ps_if (PW.pt (pw_and (pt_val (pe_callB call_isi (by rfl) T.n_isinstance (by decide +kernel) (pa_cons (pv 1) (pa_cons (pe_bltn (v := .ty "tuple") (by rfl) T.n_tuple (by decide +kernel) rfl) pa_nil)))) (pw_and (pt_cmpR op_gt (pe_callB call_len_seq (by rfl) T.n_len (by decide +kernel) (pa_cons (pv 1) pa_nil)) (pe_glob (v := .int 400) rfl T.g_MOST_LAMPS.choose_spec ⟨_, rfl⟩) (nomark _)) (pw_and1 (PW.pt (pw_or (pt_cmpR op_isN (pv 2) pe_non (nomark _)) (pw_or1 (pt_cmpR op_gt (pv 2) (pe_glob (v := .int 400) rfl T.g_MOST_LAMPS.choose_spec ⟨_, rfl⟩) (nomark _))))))))) (pss_one (ps_ret (pe_glob (v := .int 400) rfl T.g_MOST_LAMPS.choose_spec ⟨_, rfl⟩))) pss_nil)
      (pss_one (ps_ret (pv 2))))), ?_⟩
    walk_at "g"
    refine ⟨p, t, ls, rfl, hP, hG, fun H' s1 => ?_⟩
    obtain ⟨vs, ⟨itp, ht⟩, hall⟩ := Pic.same s1 hP
    have hlen : ¬ (400 : Int) < (vs.length : Int) := by
      have e1 := Paired.len hall
      omega
    walk_at "d"
    exact k _ s1


/-- a round as it stands in the heap -/
def RoundAt (C : Addr) (H : Hp) (x : Addr) (p : Int) (ls : List (Int × Int)) (e : Int) : Prop := ∃ dx t, SlX.Slt H x C dx [some (.int e), some (.ref t), some (.int p)] ∧ Pic H t ls
structure GoodR (p : Int) (ls : List (Int × Int)) (e : Int) : Prop where
  lv : Lv p
  pic : Good p ls
  few : ls.length ≤ 400
  fin : ∀ ab ∈ ls, Fin1 ab.1
  fe : Fin1 e
/-- a round whose numbers fit, at x -/
def RoundG (C : Addr) (H : Hp) (x : Addr) (p : Int) (ls : List (Int × Int)) (e : Int) : Prop := RoundAt C H x p ls e ∧ GoodR p ls e
theorem RoundAt.same {C : Addr} {H H' : Hp} {x : Addr} {p e : Int} {ls : List (Int × Int)} (s : Same H H') (h : RoundAt C H x p ls e) : RoundAt C H' x p ls e := by
  obtain ⟨dx, t, h1, h2⟩ := h
  exact ⟨dx, t, Slt_same s h1, h2.same s⟩
theorem GoodR.fls {p e : Int} {ls : List (Int × Int)} (h : GoodR p ls e) : ∀ ab ∈ ls, Fin1 ab.1 ∧ Fin1 ab.2 := fun ab m => ⟨h.fin ab m, lev_fin h.lv (h.pic.lev ab m).1 (h.pic.lev ab m).2⟩
theorem GoodR.fp {p e : Int} {ls : List (Int × Int)} (h : GoodR p ls e) : Fin1 p := Lv.fin h.lv
/-- all that stood but x and its dict stands -/
def sp_init (C : Addr) : Sp := fun vs H Q _ => ∃ (x dx : Addr) (p : Int) (t : Addr) (e : Int) (ls : List (Int × Int)), vs = [.ref x, .int p, .ref t, .int e] ∧ H x = some (.ins C dx []) ∧ dx ≠ x ∧ Pic H t ls ∧ Lv p ∧ Good p ls ∧ ls.length ≤ 400 ∧
  ∀ H', SlX.Slt H' x C dx [some (.int e), some (.ref t), some (.int p)] → (∀ b o, b ≠ x → b ≠ dx → H b = some o → H' b = some o) → Q .non H'
theorem make_go {C x dx t : Addr} {p e : Int} {ls : List (Int × Int)} {H : Hp} {Q : VK} {E : XK} (hx : H x = none) (hdx : H dx = none) (hne : dx ≠ x) (hP : Pic H t ls) (hg : GoodR p ls e)
    (k : ∀ H', RoundG C H' x p ls e → Same H H' → Q (.ref x) H') : sp_init C [.ref x, .int p, .ref t, .int e] (upd (upd H dx (.own x)) x (.ins C dx [])) (fun v H2 => v = .non ∧ Q (.ref x) H2) E := by
  have hx1 : upd H dx (.own x) x = none := by
    rw [upd_ne hne.symm]
    exact hx
  have s1 : Same H (upd (upd H dx (.own x)) x (.ins C dx [])) := (Same.new hdx).trans (Same.new hx1)
  refine ⟨x, dx, p, t, e, ls, rfl, upd_same, hne, hP.same s1, hg.lv, hg.pic, hg.few, fun H' hs ho => ⟨rfl, ?_⟩⟩
  have s2 : Same H H' := fun b o h => ho b o (ne_of_none h hx) (ne_of_none h hdx) (s1 _ _ h)
  exact k H' ⟨⟨dx, t, hs, hP.same s2⟩, hg⟩ s2
theorem ok_Round_init (T : Tx K mg) : FnOk P w K mg base CX0 4 T.a_Round_init T.d_Round_init ["self", "levels", "lamps", "end"] (sp_init T.C_Round) := by
  refine T.F_Round_init.ok sc_Round_init (fun vs H Q E h => ?_) (fun cdv A outer s H vs Q E hr h => ?_)
  · obtain ⟨x, dx, p, t, e, ls, rfl, _⟩ := h
    rfl
  · obtain ⟨x, dx, p, t, e, ls, rfl, hx, hd, hP, hlv, hG, hl, k⟩ := h
    refine ⟨_, (pss_cons (ps_expr (pe_call (ok_check_levels T) (hr.mono (by decide)) rfl T.g_check_levels T.F_check_levels.kp T.b_check_levels .nil pass0 (pa_cons (pv 1) pa_nil)))
      (pss_cons (ps_set (i := 4) sc_Round_init.nd rfl (Or.inl rfl) (pe_call (ok_wrong_lamp T) (hr.mono (by decide)) rfl T.g_wrong_lamp T.F_wrong_lamp.kp T.b_wrong_lamp .nil pass0 (pa_cons (pv 1) (pa_cons (pv 2) pa_nil))))
      (pss_cons (ps_if (pt_cmpR op_notN (pv 4) pe_non (nomark _)) (pss_one ps_never) pss_nil)
      (pss_cons (ps_expr (pe_call (ok_check_number T) (hr.mono (by decide)) rfl T.g_check_number T.F_check_number.kp T.b_check_number .nil pass0 (pa_cons (pv 3) pa_nil)))
      (pss_cons (SlX.ps_sl (pv 0) (pv 1))
      (pss_cons (SlX.ps_sl (pv 0) (pv 2))
      (pss_one (SlX.ps_sl (pv 0) (pv 3))))))))), ?_⟩
    walk_at "g"
    refine ⟨hlv, ?_⟩
    walk_at "g"
    refine ⟨p, t, ls, rfl, hP, hG, hl, fun H1 s1 => ?_⟩
    walk_at "g"
    refine ⟨x, T.C_Round, dx, _, [], _, rfl, Or.inl ⟨s1 _ _ hx, rfl⟩, T.sc_Round, T.sl_own_levels, ?_⟩
    walk_at "g"
    refine ⟨x, T.C_Round, dx, _, _, _, rfl, SlX.slH_slt hd, T.sc_Round, T.sl_own_lamps, ?_⟩
    walk_at "g"
    refine ⟨x, T.C_Round, dx, _, _, _, rfl, SlX.slH_slt hd, T.sc_Round, T.sl_own_end, ?_⟩
    rw [SlX.slH_twice hd, SlX.slH_twice hd]
    refine k _ (SlX.slH_slt hd) ?_
    intro b o n1 n2 h
    rw [SlX.slH_ne n1 n2]
    exact s1 _ _ h


def sp_levels (C : Addr) : Sp := fun vs H Q _ => ∃ (x dx : Addr) (p : Int) (t : Addr) (e : Int), vs = [.ref x] ∧ SlX.Slt H x C dx [some (.int e), some (.ref t), some (.int p)] ∧ Q (.int p) H
theorem ok_Round_levels (T : Tx K mg) : FnOk P w K mg base CX0 1 T.a_Round_levels T.d_Round_levels ["self"] (sp_levels T.C_Round) := by
  refine T.F_Round_levels.ok sc_Round_levels (fun vs H Q E h => ?_) (fun cdv A outer s H vs Q E hr h => ?_)
  · obtain ⟨x, dx, p, t, e, rfl, _⟩ := h
    rfl
  · obtain ⟨x, dx, p, t, e, rfl, hx, k⟩ := h
    refine ⟨_, (pss_one (ps_ret (SlX.pe_sl (pv 0)))), ?_⟩
    walk_at "g"
    exact ⟨x, _, dx, _, _, 2, _, rfl, hx, T.sc_Round, T.sl_own_levels, rfl, k⟩
theorem rok_Round_levels (T : Tx K mg) : FnR P w K mg base CX0 1 T.a_Round_levels (sp_levels T.C_Round) := raw0 (ok_Round_levels T) T.b_Round_levels


def sp_end (C : Addr) : Sp := fun vs H Q _ => ∃ (x dx : Addr) (p : Int) (t : Addr) (e : Int), vs = [.ref x] ∧ SlX.Slt H x C dx [some (.int e), some (.ref t), some (.int p)] ∧ Q (.int e) H
theorem ok_Round_end (T : Tx K mg) : FnOk P w K mg base CX0 1 T.a_Round_end T.d_Round_end ["self"] (sp_end T.C_Round) := by
  refine T.F_Round_end.ok sc_Round_end (fun vs H Q E h => ?_) (fun cdv A outer s H vs Q E hr h => ?_)
  · obtain ⟨x, dx, p, t, e, rfl, _⟩ := h
    rfl
  · obtain ⟨x, dx, p, t, e, rfl, hx, k⟩ := h
    refine ⟨_, (pss_one (ps_ret (SlX.pe_sl (pv 0)))), ?_⟩
    walk_at "g"
    exact ⟨x, _, dx, _, _, 0, _, rfl, hx, T.sc_Round, T.sl_own_end, rfl, k⟩
theorem rok_Round_end (T : Tx K mg) : FnR P w K mg base CX0 1 T.a_Round_end (sp_end T.C_Round) := raw0 (ok_Round_end T) T.b_Round_end


def sp_lamps (C : Addr) : Sp := fun vs H Q _ => ∃ (x dx : Addr) (p : Int) (t : Addr) (e : Int), vs = [.ref x] ∧ SlX.Slt H x C dx [some (.int e), some (.ref t), some (.int p)] ∧ Q (.ref t) H
theorem ok_Round_lamps (T : Tx K mg) : FnOk P w K mg base CX0 1 T.a_Round_lamps T.d_Round_lamps ["self"] (sp_lamps T.C_Round) := by
  refine T.F_Round_lamps.ok sc_Round_lamps (fun vs H Q E h => ?_) (fun cdv A outer s H vs Q E hr h => ?_)
  · obtain ⟨x, dx, p, t, e, rfl, _⟩ := h
    rfl
  · obtain ⟨x, dx, p, t, e, rfl, hx, k⟩ := h
    refine ⟨_, (pss_one (ps_ret (SlX.pe_sl (pv 0)))), ?_⟩
    walk_at "g"
    exact ⟨x, _, dx, _, _, 1, _, rfl, hx, T.sc_Round, T.sl_own_lamps, rfl, k⟩
theorem rok_Round_lamps (T : Tx K mg) : FnR P w K mg base CX0 1 T.a_Round_lamps (sp_lamps T.C_Round) := raw0 (ok_Round_lamps T) T.b_Round_lamps


def sp_str (C : Addr) : Sp := fun vs H Q _ => ∃ (x : Addr) (p : Int) (ls : List (Int × Int)) (e : Int), vs = [.ref x] ∧ RoundG C H x p ls e ∧ ∀ H', Same H H' → Q (.str (textT p ls e)) H'
theorem ok_Round_str (T : Tx K mg) : FnOk P w K mg base CX0 2 T.a_Round_str T.d_Round_str ["self"] (sp_str T.C_Round) := by
  refine T.F_Round_str.ok sc_Round_str (fun vs H Q E h => ?_) (fun cdv A outer s H vs Q E hr h => ?_)
  · obtain ⟨x, p, ls, e, rfl, _⟩ := h
    rfl
  · obtain ⟨x, p, ls, e, rfl, ⟨⟨dx, t, hx, vs, ⟨itp, ht⟩, hall⟩, hg⟩, k⟩ := h
    refine ⟨_, (pss_cons (ps_set (i := 1) sc_Round_str.nd rfl (Or.inl rfl) (pe_lst (pa_cons pe_str (pa_cons (pe_callTy call_str_int (by rfl) T.n_str (by decide +kernel) (pa_cons (SlX.pe_sl (pv 0)) pa_nil)) (pa_cons pe_str (pa_cons (pe_callTy call_str_int (by rfl) T.n_str (by decide +kernel) (pa_cons (SlX.pe_sl (pv 0)) pa_nil)) pa_nil))))))
      (pss_cons (ps_expr (pe_bm PySem.F.plainAttrs_list PySem.F.slot_list_append PySem.F.type_list_append mt_append (pv 1) (pa_cons (pe_ifExp (pt_cmpR op_gt (pe_callB call_len_seq (by rfl) T.n_len (by decide +kernel) (pa_cons (SlX.pe_sl (pv 0)) pa_nil)) pe_int (nomark _)) pe_str pe_str) pa_nil)))
      (pss_cons (ps_expr (pe_bm PySem.F.plainAttrs_list PySem.F.slot_list_extend PySem.F.type_list_extend mt_extend (pv 1) (pa_cons (pe_lc (own := [("place", 2), ("level", 3)]) rfl sc_Round_str.nd (pi_tup (SlX.pe_sl (pv 0))) (blkOk_by (own := [("place", 2), ("level", 3)]) (N := ["self", "words", "place", "level"]) (sc := defScope s_Round_str) (by decide +kernel)) (fun _ _ _ _ _ => (pg_tupK 2 rfl rfl (pgs_cons (pg_name (i := 2) sc_Round_str.nd rfl (Or.inl rfl) (Or.inr rfl)) (pgs_cons (pg_name (i := 3) sc_Round_str.nd rfl (Or.inl rfl) (Or.inr rfl)) pgs_nil)))) (fun _ _ _ _ _ => pts_nil) (fun _ _ _ _ _ => (pe_joined (PJ.cons (pe_fmt (pv 2)) (PJ.cons pe_str (PJ.cons (pe_fmt (pv 3)) PJ.nil)))))) pa_nil)))
      (pss_one (ps_ret (pe_join pe_str (pv 1))))))), ?_⟩
    have hsc := T.sc_Round
    have hs0 := T.sl_own_end
    have hs1 := T.sl_own_lamps
    have hs2 := T.sl_own_levels
    have fp := Lv.fin hg.lv
    have lp : p.natAbs.log2 < 1920 := fp.log
    have le : e.natAbs.log2 < 1920 := hg.fe.log
    have fls : ∀ ab ∈ ls, Fin1 ab.1 ∧ Fin1 ab.2 := fun ab h => ⟨hg.fin ab h, lev_fin hg.lv (hg.pic.lev ab h).1 (hg.pic.lev ab h).2⟩
    have hlen := Paired.len hall
    walk_at "g"
    refine ⟨by show 4 ≤ sizeLine; decide, fun wd hwd => ?_⟩
    have sA : Same H (upd H wd (.lst [.str "levels", .str (iS p), .str "end", .str (iS e)])) := Same.new hwd
    have hxA : SlX.Slt (upd H wd (.lst [.str "levels", .str (iS p), .str "end", .str (iS e)])) x T.C_Round dx [some (.int e), some (.ref t), some (.int p)] := by
      rcases hx with ⟨_, h⟩ | ⟨h1, h2⟩
      · cases h
      · exact Or.inr ⟨sA _ _ h1, sA _ _ h2⟩
    have htA := sA _ _ ht
    walk_at "g"
    refine ⟨Or.inl ⟨rfl, _, SqL.of upd_same⟩, ?_⟩
    have hw1 : (0 : Int) < (vs.length : Int) → (if ls = [] then ("dark" : Str) else ("lamps" : Str)) = ("lamps" : Str) := fun h => if_neg fun q => by
      rw [q] at hlen
      rw [hlen] at h
      exact absurd h (by decide)
    have hw2 : ¬ (0 : Int) < (vs.length : Int) → (if ls = [] then ("dark" : Str) else ("lamps" : Str)) = ("dark" : Str) := fun h => if_pos (List.eq_nil_of_length_eq_zero (by omega))
    have fin : ∀ (W : Str) (H1 : Hp), (if ls = [] then ("dark" : Str) else ("lamps" : Str)) = W → [V.str "levels", .str (iS p), .str "end", .str (iS e)] ++ [V.str W] ++ (ls.map fun ab => V.str (lampW ab)) = (wordsT p ls e).map V.str := by
      rintro W H1 rfl
      unfold wordsT
      simp
    by_cases c : (0 : Int) < (vs.length : Int)
    all_goals
      walk_at "d"
      refine ⟨wd, _, _, rfl, rfl, upd_same, (by show 4 < sizeLine; decide), ?_⟩
      walk_at "g"
      refine ⟨Or.inl ⟨rfl, _, SqL.of upd_same⟩, ?_⟩
      rw [upd_upd]
      refine ⟨_, rfl, x, _, dx, _, _, _, _, rfl, Slt_same (Same.new hwd) hx, hsc, hs1, rfl, t, rfl, ⟨vs, sqF (Same.new hwd _ _ ht)⟩, fun D hD => lc_tup (te := teLamp 2 3) (K := K) (a := t) (xs := vs) (fun i H2 => H2 = upd _ D (.lst ((ls.take i).map fun ab => V.str (lampW ab)))) rfl (fun i H2 _ h => by rw [h]; exact sqF (Same.new hD _ _ (Same.new hwd _ _ ht))) ?_ ?_⟩
      · rintro i v H2 hi rfl
        obtain ⟨ab, q, eab, rfl, hq⟩ := pic_at hall hi
        have hab := fls ab (List.mem_of_getElem? eab)
        have n1 := iS_len hab.1
        have n2 := iS_len hab.2
        have n3 : (Str.ofString ":").length = 1 := by decide +kernel
        have n4 : Str.empty.length = 0 := by decide +kernel
        refine ⟨q, _, rfl, SqT.of (Same.new hD _ _ (Same.new hwd _ _ hq)), rfl, _, _, rfl, _, _, rfl, rfl, rfl, ?_⟩
        refine ⟨_, rfl, Or.inr ⟨ab.1, rfl, hab.1.log, iS ab.1, rfl, sz_le (by rw [len_app]; omega), ?_⟩⟩
        refine ⟨_, rfl, sz_le (by rw [len_app, len_app]; omega), ?_⟩
        refine ⟨_, rfl, Or.inr ⟨ab.2, rfl, hab.2.log, iS ab.2, rfl, sz_le (by rw [len_app, len_app, len_app]; omega), ?_⟩⟩
        have hil := (List.getElem?_eq_some_iff.mp eab).1
        have hfew := hg.few
        refine ⟨_, upd_same, small1M (by rw [List.length_map, List.length_take]; omega), ?_⟩
        rw [upd_upd, take_more eab, List.map_append]
        have eg := lamp_glued ab.1 ab.2
        rw [eg]
        rfl
      · rintro H2 rfl
        rw [hlen, List.take_length]
        have hDw : D ≠ wd := fun h => by
          rw [h, upd_same] at hD
          cases hD
        refine ⟨wd, D, _, _, rfl, rfl, (by rw [upd_ne hDw.symm]; exact upd_same), upd_same, sz_le (by rw [List.length_map]; show 5 + ls.length ≤ _; have := hg.few; omega), ?_⟩
        refine ⟨⟨_, rfl⟩, _, rfl, _, wd, wordsT p ls e, rfl, rfl, Or.inl (SqL.of (by rw [upd_same]; first | exact congrArg (fun z => some (HO.lst z)) (fin _ H (hw1 c)) | exact congrArg (fun z => some (HO.lst z)) (fin _ H (hw2 c)))), words_fit fp hg.fe fls hg.few, k _ ?_⟩
        intro b o h
        have n1 := ne_of_none h hwd
        have n2 : b ≠ D := ne_of_none (Same.new hwd _ _ h) hD
        rw [upd_ne n1, upd_ne n2, upd_ne n1]
        exact h


theorem ok_Round_text (T : Tx K mg) : FnOk P w K mg base CX0 5 T.a_Round_text T.d_Round_text ["self"] (sp_str T.C_Round) := by
  refine T.F_Round_text.ok sc_Round_text (fun vs H Q E h => ?_) (fun cdv A outer s H vs Q E hr h => ?_)
  · obtain ⟨x, p, ls, e, rfl, _⟩ := h
    rfl
  · obtain ⟨x, p, ls, e, rfl, hR, k⟩ := h
    obtain ⟨⟨dx, t, hx, hP⟩, hg⟩ := id hR
    refine ⟨_, (pss_one (ps_ret (pe_callTy (call_strOwn T.fi_Round_str T.is_Round_str (raw0 (ok_Round_str T) T.b_Round_str) hr pass0) (by rfl) T.n_str (by decide +kernel) (pa_cons (pv 0) pa_nil)))), ?_⟩
    walk_at "g"
    exact ⟨x, dx, _, rfl, hx, x, p, ls, e, rfl, hR, fun H' s => ⟨_, rfl, k H' s⟩⟩
theorem rok_Round_text (T : Tx K mg) : FnR P w K mg base CX0 5 T.a_Round_text (sp_str T.C_Round) := raw0 (ok_Round_text T) T.b_Round_text


/-- two rounds, both with numbers that fit in their places -/
def sp_eq (C : Addr) : Sp := fun vs H Q _ => ∃ (x y : Addr) (p p' e e' : Int) (ls ls' : List (Int × Int)), vs = [.ref x, .ref y] ∧ RoundAt C H x p ls e ∧ RoundAt C H y p' ls' e' ∧ ∀ H', Same H H' → Q (.bl (decide (p = p' ∧ ls = ls' ∧ e = e'))) H'
theorem ok_Round_eq (T : Tx K mg) : FnOk P w K mg base CX0 2 T.a_Round_eq T.d_Round_eq ["self", "other"] (sp_eq T.C_Round) := by
  refine T.F_Round_eq.ok sc_Round_eq (fun vs H Q E h => ?_) (fun cdv A outer s H vs Q E hr h => ?_)
  · obtain ⟨x, y, p, p', e, e', ls, ls', rfl, _⟩ := h
    rfl
  · obtain ⟨x, y, p, p', e, e', ls, ls', rfl, ⟨dx, t, hx, hP⟩, ⟨dy, t', hy, hP'⟩, k⟩ := h
    refine ⟨_, (pss_cons (ps_if (pt_not (pt_val (pe_callB (SlX.call_isiSl (.ref T.C_Round)) (by rfl) T.n_isinstance (by decide +kernel) (pa_cons (pv 1) (pa_cons (pe_glob (v := .ref T.C_Round) rfl T.g_Round rfl) pa_nil))))) (pss_one (ps_ret pe_bl)) pss_nil)
      (pss_cons (ps_set (i := 2) sc_Round_eq.nd rfl (Or.inl rfl) (pe_tup (pa_cons (SlX.pe_sl (pv 0)) (pa_cons (SlX.pe_sl (pv 0)) (pa_cons (SlX.pe_sl (pv 0)) pa_nil)))))
      (pss_one (ps_ret (pe_cmpR (op_eqD hr.units) (pv 2) (pe_tup (pa_cons (SlX.pe_sl (pv 1)) (pa_cons (SlX.pe_sl (pv 1)) (pa_cons (SlX.pe_sl (pv 1)) pa_nil)))) (nomark _)))))), ?_⟩
    have hsc := T.sc_Round
    have hs0 := T.sl_own_end
    have hs1 := T.sl_own_lamps
    have hs2 := T.sl_own_levels
    walk_at "g"
    refine ⟨y, _, dy, _, _, true, rfl, rfl, (fun _ h => h), hy, hsc, T.si_Round, kit_self _, ?_⟩
    walk_at "g"
    refine ⟨by show 3 ≤ sizeLine; decide, fun m hm => ?_⟩
    have s1 : Same H (upd H m (.tup [.int p, .ref t, .int e])) := Same.new hm
    have hx1 := Slt_same s1 hx
    have hy1 := Slt_same s1 hy
    walk_at "g"
    refine ⟨by show 3 ≤ sizeLine; decide, fun n hn => ?_⟩
    have s2 : Same H (upd (upd H m (.tup [.int p, .ref t, .int e])) n (.tup [.int p', .ref t', .int e'])) := s1.trans (Same.new hn)
    have hmn : m ≠ n := ne_of_none upd_same hn
    refine ⟨dMine p ls e, dMine p' ls' e', .tup (SqT.of (by rw [upd_ne hmn]; exact upd_same)) (.cons (.int _) (.cons (Dp.pic (hP.same s2)) (.cons (.int _) .nil))), .tup (SqT.of upd_same) (.cons (.int _) (.cons (Dp.pic (hP'.same s2)) (.cons (.int _) .nil))), mine_shaped .., mine_shaped .., ?_⟩
    rw [eqv_mine]
    exact k _ s2


def sp_writ : Sp := fun vs H Q _ => ∃ i : Int, vs = [.str (iS i)] ∧ Fin1 i ∧ ∀ H', Same H H' → Q (.int i) H'
theorem ok_written_integer (T : Tx K mg) : FnOk P w K mg base CX0 1 T.a_written_integer T.d_written_integer ["word"] sp_writ := by
  refine T.F_written_integer.ok sc_written_integer (fun vs H Q E h => ?_) (fun cdv A outer s H vs Q E hr h => ?_)
  · obtain ⟨i, rfl, _⟩ := h
    rfl
  · obtain ⟨i, rfl, hi, k⟩ := h
    have hz : (iS i).length ≤ sizeLine := sz_le (Nat.le_trans (iS_len hi) (by decide))
    refine ⟨_, (Evl.pss_cut (ps_set (i := 1) sc_written_integer.nd rfl (Or.inl rfl) (pe_ifExp (pt_cmpR op_eq (pe_slice sl_str (pv 0) po_none (po_some pe_int)) pe_str (nomark _)) (pe_slice sl_str (pv 0) (po_some pe_int) po_none) (pv 0)))
      (pss_cons (ps_if (PW.pt (pw_or (pt_cmpR op_eq (pv 1) pe_str (nomark _)) (pw_or (pt_cmpR op_gt (pe_callB call_len_str (by rfl) T.n_len (by decide +kernel) (pa_cons (pv 1) pa_nil)) pe_int (nomark _)) (pw_or1 (pt_not (pt_val (pe_callB (cr_all rfl) (by rfl) T.n_all (by decide +kernel) (pa_cons (pe_lc (own := [("sign", 2)]) rfl sc_written_integer.nd (pi_str (pv 1)) (blkOk_by (own := [("sign", 2)]) (N := ["word", "digits", "sign"]) (sc := defScope s_written_integer) (by decide +kernel)) (fun _ _ _ _ _ => (pg_name (i := 2) sc_written_integer.nd rfl (Or.inl rfl) (Or.inr rfl))) (fun _ _ _ _ _ => pts_nil) (fun _ _ _ _ _ => (pe_cmpR op_in_sign (pv 2) (pe_glob (v := .str "0123456789") rfl T.g_DIGITS.choose_spec ⟨_, rfl⟩) rfl))) pa_nil)))))))) (pss_one (ps_ret pe_non)) pss_nil)
      (pss_one (ps_ret (pe_ifExp (pt_cmpR op_eq (pe_callTy call_str_int (by rfl) T.n_str (by decide +kernel) (pa_cons (pe_callTy call_int_str (by rfl) T.n_int (by decide +kernel) (pa_cons (pv 0) pa_nil)) pa_nil)) (pv 0) (nomark _)) (pe_callTy call_int_str (by rfl) T.n_int (by decide +kernel) (pa_cons (pv 0) pa_nil)) pe_non))))), ?_⟩
    refine ⟨fun σ' H' => σ' = [some (.str (iS i)), some (.str (digS i)), none] ∧ H' = H, ?_, ?_⟩
    · by_cases hn : i < 0
      · have h1 := vstr_eq (neg_head hn)
        walk_at "d"
        rw [neg_tail hn]
        exact ⟨rfl, rfl⟩
      · have h1 := vstr_ne (pos_head hn)
        walk_at "d"
        rw [← pos_dig hn]
        exact ⟨rfl, rfl⟩
    · rintro σ' H' ⟨rfl, rfl⟩
      have hdl := digS_len hi
      have h1 := vstr_ne (digS_ne i)
      have h2 : (digS i).length ≤ sizeLine := sz_le (Nat.le_trans hdl (by decide))
      have h3 : ¬ (4000 : Int) < ((digS i).length : Int) := by omega
      walk_at "d"
      refine fun D hD => lc_it walk_str (fun k H2 => H2 = upd H' D (.lst ((List.replicate k true).map V.bl))) rfl (fun _ _ _ _ => trivial) ?_ ?_
      · rintro k v H2 H3 hk rfl ⟨rfl, c, hc, rfl⟩
        refine ⟨rfl, ?_⟩
        refine ⟨_, rfl, c, _, rfl, rfl, ?_⟩
        refine ⟨_, upd_same, small1M (by rw [List.length_map, List.length_replicate]; have e : (digS i).cps.size = (digS i).length := rfl; omega), ?_⟩
        rw [upd_upd, rep_more]
        have e := digS_at hc
        rw [← e]
      · rintro H2 rfl
        refine ⟨D, _, rfl, SqL.of upd_same, ?_⟩
        rw [all_trues]
        have h640 : (iS i).length ≤ 640 := Nat.le_trans (iS_len hi) (by decide)
        have h4 : decide (V.str (iS i) = V.str (iS i)) = true := vstr_eq rfl
        walk_at "d"
        refine ⟨_, _, rfl, int_iS hi, h640, _, rfl, hi.log, ?_⟩
        walk_at "d"
        refine ⟨_, _, rfl, int_iS hi, h640, k _ (Same.new hD)⟩


def sp_tlamp : Sp := fun vs H Q _ => ∃ ab : Int × Int, vs = [.str (lampW ab)] ∧ Fin1 ab.1 ∧ Fin1 ab.2 ∧ ∀ r H', H r = none → H' r = some (.tup [.int ab.1, .int ab.2]) → Same H H' → Q (.ref r) H'
theorem ok_text_lamp (T : Tx K mg) : FnOk P w K mg base CX0 2 T.a_text_lamp T.d_text_lamp ["word"] sp_tlamp := by
  refine T.F_text_lamp.ok sc_text_lamp (fun vs H Q E h => ?_) (fun cdv A outer s H vs Q E hr h => ?_)
  · obtain ⟨i, rfl, _⟩ := h
    rfl
  · obtain ⟨ab, rfl, h1, h2, k⟩ := h
    refine ⟨_, (pss_cons (ps_setLc (i := 1) (own := [("part", 2)]) rfl sc_text_lamp.nd rfl rfl (sw_true rfl rfl rfl (by decide +kernel)) (pi_list (pe_split (pv 0) pe_str)) (blkOk_by (own := [("part", 2)]) (N := ["word", "parts", "part"]) (sc := defScope s_text_lamp) (by decide +kernel)) (fun _ _ _ _ _ => (pg_name (i := 2) sc_text_lamp.nd rfl (Or.inl rfl) (Or.inr rfl))) (fun _ _ _ _ _ => pts_nil) (fun _ _ _ _ _ => (pe_call (ok_written_integer T) (hr.mono (by decide)) rfl T.g_written_integer T.F_written_integer.kp T.b_written_integer .nil pass0 (pa_cons (pv 2) pa_nil))))
      (pss_one (ps_ret (pe_ifExp (PW.pt (pw_or (pt_cmpR op_ne (pe_callB call_len_seq (by rfl) T.n_len (by decide +kernel) (pa_cons (pv 1) pa_nil)) pe_int (nomark _)) (pw_or1 (pt_cmpR op_in_seq pe_non (pv 1) rfl)))) (pe_tup pa_nil) (pe_callTy call_tuple_of (by rfl) T.n_tuple (by decide +kernel) (pa_cons (pv 1) pa_nil)))))), ?_⟩
    have hz : (lampW ab).length + 2 ≤ sizeLine := sz_le (by have := lampW_len h1 h2; omega)
    have hsp : Txt.split (lampW ab) (Str.ofString ":") = [iS ab.1, iS ab.2] := split_lamp ab
    refine ⟨_, rfl, ⟨_, rfl⟩, _, _, rfl, rfl, (by decide +kernel), hz, ?_⟩
    intro w1 hw1
    rw [hsp]
    have sW : Same H (upd H w1 (.lst ([iS ab.1, iS ab.2].map V.str))) := Same.new hw1
    refine ⟨w1, rfl, ⟨_, SqL.of upd_same⟩, fun D hD => lc_list (K := K) (a := w1) (xs := [ab.1, ab.2].map fun z => V.str (iS z)) (fun i H2 => Same (upd H w1 (.lst ([iS ab.1, iS ab.2].map V.str))) H2 ∧ H2 D = some (.lst (([ab.1, ab.2].take i).map V.int)))
      ⟨Same.new hD, upd_same⟩ (fun i H2 _ h => SqL.of (h.1 _ _ upd_same)) ?_ ?_⟩
    · rintro i x H2 hi ⟨sm, hDD⟩
      obtain ⟨z, hz, rfl, hf⟩ : ∃ z, [ab.1, ab.2][i]? = some z ∧ x = V.str (iS z) ∧ Fin1 z := by
        rw [List.getElem?_map] at hi
        cases e : [ab.1, ab.2][i]? with
        | none =>
          rw [e] at hi
          cases hi
        | some z =>
          rw [e] at hi
          refine ⟨z, rfl, (Option.some.inj hi).symm, ?_⟩
          have hm := List.mem_of_getElem? e
          simp only [List.mem_cons, List.not_mem_nil, or_false] at hm
          rcases hm with rfl | rfl
          · exact h1
          · exact h2
      refine ⟨rfl, ?_⟩
      refine ⟨_, rfl, z, rfl, hf, fun H3 s3 => ?_⟩
      refine ⟨_, s3 _ _ hDD, small1M (by rw [List.length_map, List.length_take]; show min i 2 ≤ _; omega), Same.put (sm.trans s3) hD, ?_⟩
      rw [upd_same, take_more hz, List.map_append]
      rfl
    · rintro H2 ⟨sm, hDD⟩
      have hDD' : H2 D = some (.lst [.int ab.1, .int ab.2]) := hDD
      walk_at "g"
      refine ⟨rfl, rfl, ?_⟩
      walk_at "g"
      refine ⟨_, _, rfl, Or.inl ⟨SqL.of hDD', fun r hr => ?_⟩⟩
      have s4 := (sW.trans sm).trans (Same.new (o := .tup [.int ab.1, .int ab.2]) hr)
      exact k r _ (back (sW.trans sm) hr) upd_same s4


def sp_tround (C : Addr) : Sp := fun vs H Q _ => ∃ (p e : Int) (ls : List (Int × Int)), vs = [.str (textT p ls e)] ∧ GoodR p ls e ∧ ∀ x H', H x = none → RoundG C H' x p ls e → Same H H' → Q (.ref x) H'
theorem ok_text_round (T : Tx K mg) : FnOk P w K mg base CX0 6 T.a_text_round T.d_text_round ["value"] (sp_tround T.C_Round) := by
  refine T.F_text_round.ok sc_text_round (fun vs H Q E h => ?_) (fun cdv A outer s H vs Q E hr h => ?_)
  · obtain ⟨p, e, ls, rfl, _⟩ := h
    rfl
  · obtain ⟨p, e, ls, rfl, hg, k⟩ := h
    refine ⟨_, (pss_cons (ps_if (pt_not (pt_val (pe_callB call_isi (by rfl) T.n_isinstance (by decide +kernel) (pa_cons (pv 0) (pa_cons (pe_bltn (v := .ty "str") (by rfl) T.n_str (by decide +kernel) rfl) pa_nil))))) (pss_one (ps_ret pe_non)) pss_nil)
      (pss_cons (ps_set (i := 1) sc_text_round.nd rfl (Or.inl rfl) (pe_split (pv 0) pe_str))
      (pss_cons (ps_if (PW.pt (pw_or (pt_cmpR op_lt (pe_callB call_len_seq (by rfl) T.n_len (by decide +kernel) (pa_cons (pv 1) pa_nil)) pe_int (nomark _)) (pw_or (pt_cmpR op_ne (pe_ix ix_list (pv 1) pe_int (fun _ _ => rfl)) pe_str (nomark _)) (pw_or (pt_cmpR op_ne (pe_ix ix_list (pv 1) pe_int (fun _ _ => rfl)) pe_str (nomark _)) (pw_or1 (pt_cmpR op_notIn_seq (pe_ix ix_list (pv 1) pe_int (fun _ _ => rfl)) (pe_tup (pa_cons pe_str (pa_cons pe_str pa_nil))) rfl)))))) (pss_one (ps_ret pe_non)) pss_nil)
      (pss_cons (ps_par (i := 2) (j := 3) rfl sc_text_round.nd rfl rfl (by decide) rfl rfl (pa_cons (pe_call (ok_written_integer T) (hr.mono (by decide)) rfl T.g_written_integer T.F_written_integer.kp T.b_written_integer .nil pass0 (pa_cons (pe_ix ix_list (pv 1) pe_int (fun _ _ => rfl)) pa_nil)) (pa_cons (pe_call (ok_written_integer T) (hr.mono (by decide)) rfl T.g_written_integer T.F_written_integer.kp T.b_written_integer .nil pass0 (pa_cons (pe_ix ix_list (pv 1) pe_int (fun _ _ => rfl)) pa_nil)) pa_nil)) rfl)
      (pss_cons (ps_if (PW.pt (pw_or (pt_not (pt_val (pe_call (ok_are_levels T) (hr.mono (by decide)) rfl T.g_are_levels T.F_are_levels.kp T.b_are_levels .nil pass0 (pa_cons (pv 2) pa_nil)))) (pw_or (pt_cmpR op_isN (pv 3) pe_non (nomark _)) (pw_or1 (pt_cmpR op_ne (pe_cmpR op_eq (pe_callB call_len_seq (by rfl) T.n_len (by decide +kernel) (pa_cons (pv 1) pa_nil)) pe_int (nomark _)) (pe_cmpR op_eq (pe_ix ix_list (pv 1) pe_int (fun _ _ => rfl)) pe_str (nomark _)) (nomark _)))))) (pss_one (ps_ret pe_non)) pss_nil)
      (pss_cons (ps_set (i := 4) sc_text_round.nd rfl (Or.inl rfl) (pe_callTy call_tupF (by rfl) T.n_tuple (by decide +kernel) (pa_cons (pe_lc (own := [("word", 5)]) rfl sc_text_round.nd (pi_list (pe_slice sl_list (pv 1) (po_some pe_int) po_none)) (blkOk_by (own := [("word", 5)]) (N := ["value", "words", "levels", "end", "lamps", "word"]) (sc := defScope s_text_round) (by decide +kernel)) (fun _ _ _ _ _ => (pg_name (i := 5) sc_text_round.nd rfl (Or.inl rfl) (Or.inr rfl))) (fun _ _ _ _ _ => pts_nil) (fun _ _ _ _ _ => (pe_call (ok_text_lamp T) (hr.mono (by decide)) rfl T.g_text_lamp T.F_text_lamp.kp T.b_text_lamp .nil pass0 (pa_cons (pv 5) pa_nil)))) pa_nil)))
      (pss_one (ps_ret (pe_ifExp (pt_cmpR op_isN (pe_call (ok_wrong_lamp T) (hr.mono (by decide)) rfl T.g_wrong_lamp T.F_wrong_lamp.kp T.b_wrong_lamp .nil pass0 (pa_cons (pv 2) (pa_cons (pv 4) pa_nil))) pe_non (nomark _)) (pe_make T.mk_Round (ok_Round_init T) (hr.mono (by decide)) rfl T.g_Round T.b_Round_init .nil pass0 (pa_cons (pv 2) (pa_cons (pv 4) (pa_cons (pv 3) pa_nil)))) pe_non))))))))), ?_⟩
    have hsp : Txt.split (textT p ls e) (Str.ofString " ") = wordsT p ls e := split_text p ls e
    have hz : (textT p ls e).length + 2 ≤ sizeLine := sz_le (by have h1 := (plain_text hg.fp hg.fe hg.fls).1; have h2 := hg.few; omega)
    walk_at "g"
    refine ⟨by decide +kernel, hz, ?_⟩
    intro w1 hw1
    rw [hsp]
    have sW : Same H (upd H w1 (.lst ((wordsT p ls e).map V.str))) := Same.new hw1
    have hlen : ((wordsT p ls e).map V.str).length = ls.length + 5 := by rw [List.length_map, words_count]
    have hL : upd H w1 (.lst ((wordsT p ls e).map V.str)) w1 = some (.lst ((wordsT p ls e).map V.str)) := upd_same
    have a0 : atI ((wordsT p ls e).map V.str) 0 = some (.str "levels") := atI_nat (j := 0) rfl
    have a1 : atI ((wordsT p ls e).map V.str) 1 = some (.str (iS p)) := atI_nat (j := 1) rfl
    have a2 : atI ((wordsT p ls e).map V.str) 2 = some (.str "end") := atI_nat (j := 2) rfl
    have a3 : atI ((wordsT p ls e).map V.str) 3 = some (.str (iS e)) := atI_nat (j := 3) rfl
    have a4 : atI ((wordsT p ls e).map V.str) 4 = some (.str (if ls = [] then ("dark" : Str) else ("lamps" : Str))) := atI_nat (j := 4) rfl
    have n5 : ¬ (((wordsT p ls e).map V.str).length : Int) < 5 := by rw [hlen]; omega
    have c0 : decide (V.str "levels" = V.str "levels") = true := vstr_eq rfl
    have c2 : decide (V.str "end" = V.str "end") = true := vstr_eq rfl
    have cI := inv_word ls
    have cD := dark_word p e ls
    walk_at "d"
    refine ⟨by show 2 ≤ sizeLine; decide, fun t1 ht1 => ?_⟩
    refine ⟨t1, _, rfl, Or.inr (SqT.of upd_same), rfl, rfl, ?_⟩
    have s2 : Same H (upd (upd H w1 (.lst ((wordsT p ls e).map V.str))) t1 (.tup [.str "dark", .str "lamps"])) := sW.trans (Same.new ht1)
    have hL2 : (upd (upd H w1 (.lst ((wordsT p ls e).map V.str))) t1 (.tup [.str "dark", .str "lamps"])) w1 = _ := Same.new ht1 _ _ hL
    refine ⟨false, (show V.bl (!inV _ _) = _ from congrArg V.bl (congrArg Bool.not cI)), ?_⟩
    walk_at "d"
    refine ⟨hg.fp, fun H3 s3 => ?_⟩
    have hL3 := s3 _ _ hL2
    walk_at "d"
    refine ⟨hg.fe, fun H4 s4 => ?_⟩
    have hL4 := s4 _ _ hL3
    refine ⟨_, _, rfl, ?_⟩
    walk_at "d"
    refine ⟨hg.lv, ?_⟩
    walk_at "d"
    refine ⟨w1, _, rfl, SqL.of hL4, fun w2 hw2 => ?_⟩
    rw [words_tail]
    have s5 : Same H (upd H4 w2 (.lst (ls.map fun ab => V.str (lampW ab)))) := ((s2.trans s3).trans s4).trans (Same.new hw2)
    refine ⟨w2, rfl, ⟨_, SqL.of upd_same⟩, fun D hD => lc_list (K := K) (a := w2) (xs := ls.map fun ab => V.str (lampW ab)) (fun i H2 => ∃ vs, Grow (upd H4 w2 (.lst (ls.map fun ab => V.str (lampW ab)))) D H2 vs (ls.take i))
      ⟨[], Grow.start hD⟩ (fun i H2 _ ⟨vs, g⟩ => SqL.of (g.same _ _ upd_same)) ?_ ?_⟩
    · rintro i x H5 hi ⟨vs, g⟩
      obtain ⟨ab, hab, rfl⟩ : ∃ ab, ls[i]? = some ab ∧ x = V.str (lampW ab) := by
        rw [List.getElem?_map] at hi
        cases h : ls[i]? with
        | none =>
          rw [h] at hi
          cases hi
        | some ab =>
          rw [h] at hi
          exact ⟨ab, rfl, (Option.some.inj hi).symm⟩
      have hf := hg.fls ab (List.mem_of_getElem? hab)
      refine ⟨rfl, ?_⟩
      refine ⟨_, rfl, ab, rfl, hf.1, hf.2, fun r H6 hr h6 s6 => ?_⟩
      refine ⟨vs, s6 _ _ g.lst, small1M (by have e1 := Paired.len g.all; have e2 := hg.few; rw [List.length_take] at e1; omega), vs ++ [.ref r], ?_⟩
      rw [take_more hab]
      exact g.call s6 hr h6
    · rintro H5 ⟨vs, g⟩
      rw [List.length_map, List.take_length] at g
      refine ⟨D, vs, rfl, SqL.of g.lst, fun t itp ht => ?_⟩
      have s7 : Same H (upd H5 t (.frz (plainT itp) (.tup vs))) := (s5.trans g.same).trans (Same.new ht)
      have hP : Pic (upd H5 t (.frz (plainT itp) (.tup vs))) t ls := ⟨vs, ⟨itp, upd_same⟩, Paired.mapP g.all fun _ _ => At2.same (Same.new ht)⟩
      walk_at "d"
      refine ⟨p, t, ls, rfl, hP, hg.pic, hg.few, fun H8 s8 => ?_⟩
      walk_at "d"
      intro x dx hx hdx hne
      exact make_go hx hdx hne (hP.same s8) hg fun H9 hR s9 => k x H9 (back (s7.trans s8) hx) hR ((s7.trans s8).trans s9)


def sp_read (C : Addr) : Sp := fun vs H Q _ => ∃ (c : Addr) (p e : Int) (ls : List (Int × Int)), vs = [.ref c, .str (textT p ls e)] ∧ GoodR p ls e ∧ ∀ x H', H x = none → RoundG C H' x p ls e → Same H H' → Q (.ref x) H'
theorem ok_Round_read (T : Tx K mg) : FnOk P w K mg base CX0 7 T.a_Round_read T.d_Round_read ["cls", "text"] (sp_read T.C_Round) := by
  refine T.F_Round_read.ok sc_Round_read (fun vs H Q E h => ?_) (fun cdv A outer s H vs Q E hr h => ?_)
  · obtain ⟨c, p, e, ls, rfl, _⟩ := h
    rfl
  · obtain ⟨c, p, e, ls, rfl, hg, k⟩ := h
    refine ⟨_, (pss_cons (ps_set (i := 2) sc_Round_read.nd rfl (Or.inl rfl) (pe_call (ok_text_round T) (hr.mono (by decide)) rfl T.g_text_round T.F_text_round.kp T.b_text_round .nil pass0 (pa_cons (pv 1) pa_nil)))
      (pss_cons (ps_if (pt_cmpR op_isN (pv 2) pe_non (nomark _)) (pss_one ps_never) pss_nil)
      (pss_one (ps_ret (pv 2))))), ?_⟩
    walk_at "g"
    refine ⟨p, e, ls, rfl, hg, fun x H' hx hR s1 => ?_⟩
    walk_at "d"
    exact k x H' hx hR s1
theorem rok_Round_read (T : Tx K mg) : FnR P w K mg base CX0 7 T.a_Round_read (sp_read T.C_Round) := raw0 (ok_Round_read T) T.b_Round_read


def PartsAt (H : Hp) (l : Addr) (p : Int) (ls : List (Int × Int)) (e : Int) : Prop := ∃ t, H l = some (.lst [.int p, .ref t, .int e]) ∧ Pic H t ls
theorem Pl.new {H : Hp} {a b : Addr} {o : HO} (h : Pl H a) (hb : H b = none) : Pl (upd H b o) a := by
  obtain ⟨x, y, z, h, r⟩ := h
  exact ⟨x, y, z, Same.new hb _ _ h, r⟩
theorem Pl.same {H H' : Hp} {a : Addr} (s : Same H H') (h : Pl H a) : Pl H' a := by
  obtain ⟨x, y, z, h, r⟩ := h
  exact ⟨x, y, z, s _ _ h, r⟩
theorem PartsAt.same {H H' : Hp} {l : Addr} {p e : Int} {ls : List (Int × Int)} (s : Same H H') (h : PartsAt H l p ls e) : PartsAt H' l p ls e := by
  obtain ⟨t, h1, h2⟩ := h
  exact ⟨t, s _ _ h1, h2.same s⟩
theorem RoundG.same {C : Addr} {H H' : Hp} {x : Addr} {p e : Int} {ls : List (Int × Int)} (s : Same H H') (h : RoundG C H x p ls e) : RoundG C H' x p ls e := ⟨h.1.same s, h.2⟩
theorem backO {a l : Addr} {H H' : Hp} (s : Oth a H H') (hP : Pl H' a) (h : H' l = none) : H l = none := by
  cases e : H l with
  | none => rfl
  | some o =>
    by_cases hla : l = a
    · subst hla
      obtain ⟨x, y, z, h2, _⟩ := hP
      rw [h2] at h
      cases h
    · rw [s _ _ e hla] at h
      cases h
theorem Pic.othP {a t : Addr} {H H' : Hp} {ls : List (Int × Int)} (hP : Pl H a) (s : Oth a H H') (h : Pic H t ls) : Pic H' t ls := by
  obtain ⟨x, y, z, h2, _⟩ := hP
  exact Pic.oth s h2 h
theorem lv_list {j : Nat} {v : V} (h : [V.int 2, .int 3, .int 5, .int 7][j]? = some v) : ∃ p, v = .int p ∧ Lv p := by
  have hm := List.mem_of_getElem? h
  simp only [List.mem_cons, List.not_mem_nil, or_false] at hm
  rcases hm with rfl | rfl | rfl | rfl
  · exact ⟨2, rfl, Or.inl rfl⟩
  · exact ⟨3, rfl, Or.inr (Or.inl rfl)⟩
  · exact ⟨5, rfl, Or.inr (Or.inr (Or.inl rfl))⟩
  · exact ⟨7, rfl, Or.inr (Or.inr (Or.inr rfl))⟩
theorem few_list {j : Nat} {v : V} (h : [V.int 0, .int 1, .int 2, .int 3, .int 5][j]? = some v) : ∃ m : Int, v = .int m ∧ 0 ≤ m ∧ m ≤ 10 := by
  have hm := List.mem_of_getElem? h
  simp only [List.mem_cons, List.not_mem_nil, or_false] at hm
  rcases hm with rfl | rfl | rfl | rfl | rfl
  · exact ⟨0, rfl, by decide, by decide⟩
  · exact ⟨1, rfl, by decide, by decide⟩
  · exact ⟨2, rfl, by decide, by decide⟩
  · exact ⟨3, rfl, by decide, by decide⟩
  · exact ⟨5, rfl, by decide, by decide⟩
theorem Pl.ne {a b : Addr} {H : Hp} (hP : Pl H a) (hb : H b = none) : b ≠ a := fun q => by
  obtain ⟨x, y, z, h2, _⟩ := hP
  rw [q, h2] at hb
  cases hb


def sp_sheet : Sp := fun vs H Q _ => ∃ (l : Addr) (p e : Int) (ls : List (Int × Int)), vs = [.ref l] ∧ PartsAt H l p ls e ∧ GoodR p ls e ∧ ∀ H', Same H H' → Q (.str (textT p ls e)) H'
theorem ok_law_sheet (T : Tx K mg) : FnOk P w K mg base CX0 1 T.a_law_sheet T.d_law_sheet ["_law_parts"] sp_sheet := by
  refine T.F_law_sheet.ok sc_law_sheet (fun vs H Q E h => ?_) (fun cdv A outer s H vs Q E hr h => ?_)
  · obtain ⟨l, p, e, ls, rfl, _⟩ := h
    rfl
  · obtain ⟨l, p, e, ls, rfl, ⟨t, hl, hPic⟩, hg, k⟩ := h
    obtain ⟨vs, ⟨itp, ht⟩, hall⟩ := id hPic
    refine ⟨_, (pss_cons (ps_asg (pv 0) (pg_unlK 3 rfl rfl (pgs_cons (pg_name (i := 1) sc_law_sheet.nd rfl (Or.inl rfl)) (pgs_cons (pg_name (i := 2) sc_law_sheet.nd rfl (Or.inl rfl)) (pgs_cons (pg_name (i := 3) sc_law_sheet.nd rfl (Or.inl rfl)) pgs_nil)))))
      (pss_cons (ps_set (i := 4) sc_law_sheet.nd rfl (Or.inl rfl) pe_str)
      (Evl.pss_cut (ps_if (pt_cmpR (op_neD hr.units) (pv 2) (pe_tup pa_nil) (nomark _)) (pss_one (ps_set (i := 4) sc_law_sheet.nd rfl (Or.inl rfl) (pe_op op_add_str pe_str (pe_join pe_str (pe_lc (own := [("_law_at", 5), ("_law_level", 6)]) rfl sc_law_sheet.nd (pi_tup (pv 2)) (blkOk_by (own := [("_law_at", 5), ("_law_level", 6)]) (N := ["_law_parts", "_law_p", "_law_lamps_here", "_law_last", "_law_tail", "_law_at", "_law_level"]) (sc := defScope s_law_sheet) (by decide +kernel)) (fun _ _ _ _ _ => (pg_tupK 2 rfl rfl (pgs_cons (pg_name (i := 5) sc_law_sheet.nd rfl (Or.inl rfl) (Or.inr rfl)) (pgs_cons (pg_name (i := 6) sc_law_sheet.nd rfl (Or.inl rfl) (Or.inr rfl)) pgs_nil)))) (fun _ _ _ _ _ => pts_nil) (fun _ _ _ _ _ => (pe_op op_add_str (pe_op op_add_str (pe_callTy call_str_int (by rfl) T.n_str (by decide +kernel) (pa_cons (pv 5) pa_nil)) pe_str) (pe_callTy call_str_int (by rfl) T.n_str (by decide +kernel) (pa_cons (pv 6) pa_nil))))))))) pss_nil)
      (pss_one (ps_ret (pe_op op_add_str (pe_op op_add_str (pe_op op_add_str (pe_op op_add_str (pe_op op_add_str pe_str (pe_callTy call_str_int (by rfl) T.n_str (by decide +kernel) (pa_cons (pv 1) pa_nil))) pe_str) (pe_callTy call_str_int (by rfl) T.n_str (by decide +kernel) (pa_cons (pv 3) pa_nil))) pe_str) (pv 4))))))), ?_⟩
    walk_at "g"
    refine ⟨l, _, rfl, SqL.of hl, rfl, ?_⟩
    refine ⟨_, _, rfl, _, _, rfl, _, _, rfl, rfl, ?_⟩
    have hfl := hg.fls
    have hlen := Paired.len hall
    have hfew := hg.few
    have plw : ∀ y ∈ ls.map lampW, Plain y 403 := by
      intro y hy
      refine plain_words hg.fp hg.fe hfl y ?_
      unfold wordsT
      exact List.mem_cons_of_mem _ (List.mem_cons_of_mem _ (List.mem_cons_of_mem _ (List.mem_cons_of_mem _ (List.mem_cons_of_mem _ hy))))
    have plJ := plain_join plw
    rw [List.length_map] at plJ
    have pl0 : Plain (if ls = [] then ("dark" : Str) else ("lamps " : Str) ++ Txt.join space (ls.map lampW)) 170000 := by
      split
      · exact ⟨by decide +kernel, by decide +kernel⟩
      · have hq : Plain ("lamps " : Str) 6 := ⟨by decide +kernel, by decide +kernel⟩
        exact (hq.app plJ).mono (by omega)
    refine ⟨fun σ' H' => σ' = [some (.ref l), some (.int p), some (.ref t), some (.int e), some (.str (if ls = [] then ("dark" : Str) else ("lamps " : Str) ++ Txt.join space (ls.map lampW))), none, none] ∧ Same H H', ?_, ?_⟩
    · walk_at "g"
      refine ⟨by decide, fun t0 ht0 => ?_⟩
      have s1 : Same H (upd H t0 (.tup [])) := Same.new ht0
      have ht1 := s1 _ _ ht
      refine ⟨dPic ls, dPic [], Dp.pic (hPic.same s1), .tup (SqT.of upd_same) .nil, pic_shaped _, pic_shaped _, ?_⟩
      rw [eqv_pic]
      by_cases hn : ls = []
      · rw [decide_eq_true hn]
        walk_at "g"
        rw [if_pos hn]
        exact ⟨rfl, s1⟩
      · rw [decide_eq_false hn]
        walk_at "g"
        refine ⟨⟨vs, sqF ht1⟩, fun D hD => lc_tup (K := K) (a := t) (xs := vs) (fun i H2 => H2 = upd _ D (.lst ((ls.take i).map fun ab => V.str (lampW ab)))) rfl (fun i H2 _ h => by rw [h]; exact sqF (Same.new hD _ _ ht1)) ?_ ?_⟩
        · rintro i v H2 hi rfl
          obtain ⟨ab, q, eab, rfl, hq⟩ := pic_at hall hi
          have hab := hfl ab (List.mem_of_getElem? eab)
          have n1 := iS_len hab.1
          have n2 := iS_len hab.2
          have n3 : (Str.ofString ":").length = 1 := by decide +kernel
          have hil := (List.getElem?_eq_some_iff.mp eab).1
          refine ⟨q, _, rfl, SqT.of (Same.new hD _ _ (s1 _ _ hq)), rfl, _, _, rfl, _, _, rfl, rfl, rfl, ?_⟩
          refine ⟨_, rfl, ab.1, rfl, hab.1.log, _, _, rfl, rfl, sz_le (show (iS ab.1).length + (Str.ofString ":").length ≤ _ by omega), ?_⟩
          refine ⟨_, rfl, ab.2, rfl, hab.2.log, _, _, rfl, rfl, sz_le (show (iS ab.1 ++ Str.ofString ":").length + (iS ab.2).length ≤ _ by rw [len_app]; omega), ?_⟩
          refine ⟨_, upd_same, small1M (by rw [List.length_map, List.length_take]; omega), ?_⟩
          rw [upd_upd, take_more eab, List.map_append]
          rfl
        · rintro H2 rfl
          rw [hlen, List.take_length]
          refine ⟨_, D, ls.map lampW, rfl, rfl, Or.inl (SqL.of (by rw [upd_same, List.map_map]; rfl)), ?_, _, _, rfl, rfl, ?_, ?_⟩
          · have h1 := sum_le (fun y hy => (plw y hy).1)
            have h2 : (Str.ofString " ").length = 1 := by decide +kernel
            rw [List.length_map] at h1 ⊢
            rw [h2]
            omega
          · have h1 := plJ.1
            have h2 : (Str.ofString "lamps ").length = 6 := by decide +kernel
            exact sz_le (show (Str.ofString "lamps ").length + (Txt.join space (ls.map lampW)).length ≤ _ by omega)
          · rw [if_neg hn]
            exact ⟨rfl, s1.trans (Same.new hD)⟩
    · rintro σ' H' ⟨rfl, s1⟩
      have n1 := iS_len hg.fp
      have n2 := iS_len hg.fe
      have n3 := pl0.1
      have m1 : (Str.ofString "levels ").length = 7 := by decide +kernel
      have m2 : (Str.ofString " end ").length = 5 := by decide +kernel
      have m3 : (Str.ofString " ").length = 1 := by decide +kernel
      refine ⟨_, rfl, p, rfl, hg.fp.log, _, _, rfl, rfl, sz_le (show (Str.ofString "levels ").length + (iS p).length ≤ _ by omega), ?_⟩
      refine ⟨_, _, rfl, rfl, sz_le (show (Str.ofString "levels " ++ iS p).length + (Str.ofString " end ").length ≤ _ by rw [len_app]; omega), ?_⟩
      refine ⟨_, rfl, e, rfl, hg.fe.log, _, _, rfl, rfl, sz_le (show (Str.ofString "levels " ++ iS p ++ Str.ofString " end ").length + (iS e).length ≤ _ by rw [len_app, len_app]; omega), ?_⟩
      refine ⟨_, _, rfl, rfl, sz_le (show (Str.ofString "levels " ++ iS p ++ Str.ofString " end " ++ iS e).length + (Str.ofString " ").length ≤ _ by rw [len_app, len_app, len_app]; omega), ?_⟩
      refine ⟨_, rfl, _, _, rfl, rfl, sz_le (show (Str.ofString "levels " ++ iS p ++ Str.ofString " end " ++ iS e ++ Str.ofString " ").length + _ ≤ _ by rw [len_app, len_app, len_app, len_app]; omega), ?_⟩
      have e0 := textT_glued p ls e
      have z := k H' s1
      rw [← e0] at z
      exact z


def sp_of (C : Addr) : Sp := fun vs H Q _ => ∃ (l : Addr) (p e : Int) (ls : List (Int × Int)), vs = [.ref l] ∧ PartsAt H l p ls e ∧ GoodR p ls e ∧ ∀ x H', H x = none → RoundG C H' x p ls e → Same H H' → Q (.ref x) H'
theorem ok_law_of (T : Tx K mg) : FnOk P w K mg base CX0 6 T.a_law_of T.d_law_of ["_law_parts"] (sp_of T.C_Round) := by
  refine T.F_law_of.ok sc_law_of (fun vs H Q E h => ?_) (fun cdv A outer s H vs Q E hr h => ?_)
  · obtain ⟨l, p, e, ls, rfl, _⟩ := h
    rfl
  · obtain ⟨l, p, e, ls, rfl, ⟨t, hl, hPic⟩, hg, k⟩ := h
    refine ⟨_, (pss_one (ps_ret (pe_make T.mk_Round (ok_Round_init T) (hr.mono (by decide)) rfl T.g_Round T.b_Round_init .nil pass0 (pa_cons (pe_ix ix_list (pv 0) pe_int (fun _ _ => rfl)) (pa_cons (pe_ix ix_list (pv 0) pe_int (fun _ _ => rfl)) (pa_cons (pe_ix ix_list (pv 0) pe_int (fun _ _ => rfl)) pa_nil)))))), ?_⟩
    walk_at "g"
    intro x dx hx hdx hne
    exact make_go hx hdx hne hPic hg fun H9 hR s9 => k x H9 hx hR s9


def sp_len (C : Addr) : Sp := fun vs H Q _ => ∃ (x : Addr) (p e : Int) (ls : List (Int × Int)), vs = [.ref x] ∧ RoundAt C H x p ls e ∧ Q (.int (ls.length : Nat)) H
theorem ok_Round_len (T : Tx K mg) : FnOk P w K mg base CX0 1 T.a_Round_len T.d_Round_len ["self"] (sp_len T.C_Round) := by
  refine T.F_Round_len.ok sc_Round_len (fun vs H Q E h => ?_) (fun cdv A outer s H vs Q E hr h => ?_)
  · obtain ⟨x, p, e, ls, rfl, _⟩ := h
    rfl
  · obtain ⟨x, p, e, ls, rfl, ⟨dx, t, hx, vs, ⟨itp, ht⟩, hall⟩, k⟩ := h
    refine ⟨_, (pss_one (ps_ret (pe_callB call_len_seq (by rfl) T.n_len (by decide +kernel) (pa_cons (SlX.pe_sl (pv 0)) pa_nil)))), ?_⟩
    have e1 := Paired.len hall
    have hsc := T.sc_Round
    have hs1 := T.sl_own_lamps
    rw [← e1] at k
    exact ⟨_, rfl, x, _, dx, _, _, _, _, rfl, hx, hsc, hs1, rfl, t, vs, rfl, Or.inr (sqF ht), k⟩


def sp_bool : Sp := fun vs H Q _ => ∃ x : V, vs = [x] ∧ Q (.bl true) H
theorem ok_Round_bool (T : Tx K mg) : FnOk P w K mg base CX0 1 T.a_Round_bool T.d_Round_bool ["self"] sp_bool := by
  refine T.F_Round_bool.ok sc_Round_bool (fun vs H Q E h => ?_) (fun cdv A outer s H vs Q E hr h => ?_)
  · obtain ⟨x, rfl, _⟩ := h
    rfl
  · obtain ⟨x, rfl, k⟩ := h
    exact ⟨_, (pss_one (ps_ret pe_bl)), k⟩


def reprT (n : Int) : Str := ("Round of " : Str) ++ iS n ++ (" lamps" : Str)
theorem reprT_glued (n : Int) : Str.empty ++ ("Round of " : Str) ++ iS n ++ (" lamps" : Str) = reprT n := by
  refine str_eq ?_
  unfold reprT
  rw [TL.tl_append, TL.tl_append, TL.tl_append, TL.tl_append, TL.tl_append]
  rfl
theorem Fin1.small {i : Int} (h0 : -1000000 ≤ i) (h1 : i ≤ 1000000) : Fin1 i := by
  constructor
  · have : -(10 ^ 200 : Int) < -1000000 := by decide +kernel
    omega
  · have : (1000000 : Int) < 10 ^ 200 := by decide +kernel
    omega
theorem reprT_plain {n : Int} (h : Fin1 n) : Plain (reprT n) 220 := by
  have h1 : Plain ("Round of " : Str) 9 := ⟨by decide +kernel, by decide +kernel⟩
  have h2 : Plain (" lamps" : Str) 6 := ⟨by decide +kernel, by decide +kernel⟩
  exact ((h1.app (iS_plain h)).app h2).mono (by decide)
def sp_repr (C : Addr) : Sp := fun vs H Q _ => ∃ (x : Addr) (p e : Int) (ls : List (Int × Int)), vs = [.ref x] ∧ RoundAt C H x p ls e ∧ ls.length ≤ 400 ∧ Q (.str (reprT (ls.length : Nat))) H
theorem ok_Round_repr (T : Tx K mg) : FnOk P w K mg base CX0 1 T.a_Round_repr T.d_Round_repr ["self"] (sp_repr T.C_Round) := by
  refine T.F_Round_repr.ok sc_Round_repr (fun vs H Q E h => ?_) (fun cdv A outer s H vs Q E hr h => ?_)
  · obtain ⟨x, p, e, ls, rfl, _⟩ := h
    rfl
  · obtain ⟨x, p, e, ls, rfl, ⟨dx, t, hx, vs, ⟨itp, ht⟩, hall⟩, hn, k⟩ := h
    refine ⟨_, (pss_one (ps_ret (pe_joined (PJ.cons pe_str (PJ.cons (pe_fmt (pe_callB call_len_seq (by rfl) T.n_len (by decide +kernel) (pa_cons (SlX.pe_sl (pv 0)) pa_nil))) (PJ.cons pe_str PJ.nil)))))), ?_⟩
    have e1 := Paired.len hall
    have hsc := T.sc_Round
    have hs1 := T.sl_own_lamps
    rw [← e1] at k
    have hf : Fin1 (vs.length : Int) := Fin1.small (by omega) (by omega)
    have n1 := iS_len hf
    have n2 : (Str.ofString "Round of ").length = 9 := by decide +kernel
    have n3 : (Str.ofString " lamps").length = 6 := by decide +kernel
    have n4 : Str.empty.length = 0 := by decide +kernel
    refine ⟨_, rfl, sz_le (by rw [len_app]; omega), ?_⟩
    refine ⟨_, rfl, x, _, dx, _, _, _, _, rfl, hx, hsc, hs1, rfl, t, vs, rfl, Or.inr (sqF ht), ?_⟩
    refine Or.inr ⟨_, rfl, hf.log, iS vs.length, rfl, sz_le (by rw [len_app, len_app]; omega), ?_⟩
    refine ⟨_, rfl, sz_le (by rw [len_app, len_app, len_app]; omega), ?_⟩
    rw [← reprT_glued] at k
    exact k


def sp_built (C : Addr) : Sp := fun vs H Q _ => ∃ (a l : Addr) (p e : Int) (ls : List (Int × Int)), vs = [.ref a, .ref l] ∧ Pl H a ∧ l ≠ a ∧ PartsAt H l p ls e ∧ GoodR p ls e ∧ ∀ x H', H x = none → RoundG C H' x p ls e → Pl H' a → Oth a H H' → Q (.ref x) H'
theorem PartsAt.oth {a l : Addr} {H H' : Hp} {p e : Int} {ls : List (Int × Int)} (hP : Pl H a) (hn : l ≠ a) (s : Oth a H H') (h : PartsAt H l p ls e) : PartsAt H' l p ls e := by
  obtain ⟨t, h1, h2⟩ := h
  exact ⟨t, s _ _ h1 hn, Pic.othP hP s h2⟩
theorem ok_law_built (T : Tx K mg) : FnOk P w K mg base CX0 8 T.a_law_built T.d_law_built ["_law_pail", "_law_parts"] (sp_built T.C_Round) := by
  refine T.F_law_built.ok sc_law_built (fun vs H Q E h => ?_) (fun cdv A outer s H vs Q E hr h => ?_)
  · obtain ⟨a, l, p, e, ls, rfl, _⟩ := h
    rfl
  · obtain ⟨a, l, p, e, ls, rfl, hP, hla, hparts, hg, k⟩ := h
    refine ⟨_, (pss_cons (ps_set (i := 2) sc_law_built.nd rfl (Or.inl rfl) (pe_call (ok_law_cast T) (hr.mono (by decide)) rfl T.g_law_cast T.F_law_cast.kp T.b_law_cast .nil pass0 (pa_cons (pv 0) (pa_cons pe_int pa_nil))))
      (pss_cons (ps_if (pt_cmpR op_eq (pv 2) pe_int (nomark _)) (pss_one (ps_ret (pe_call (ok_law_of T) (hr.mono (by decide)) rfl T.g_law_of T.F_law_of.kp T.b_law_of .nil pass0 (pa_cons (pv 1) pa_nil)))) pss_nil)
      (pss_one (ps_ret (pe_ifExp (pt_cmpR op_eq (pv 2) pe_int (nomark _)) (pe_makeK0 (E := E0) T.mk_Round (ok_Round_init T) (hr.mono (by decide)) rfl T.g_Round T.kb_Round_init pass0 (pk_cons (pe_ix ix_list (pv 1) pe_int (fun _ _ => rfl)) (pk_cons (pe_ix ix_list (pv 1) pe_int (fun _ _ => rfl)) (pk_cons (pe_ix ix_list (pv 1) pe_int (fun _ _ => rfl)) pk_nil)))) (ClX.pe_cmeth (pe_glob (v := .ref T.C_Round) rfl T.g_Round rfl) T.cr_Round T.cm_Round_read (rok_Round_read T) (hr.mono (by decide)) pass0 (pa_cons (pe_call (ok_law_sheet T) (hr.mono (by decide)) rfl T.g_law_sheet T.F_law_sheet.kp T.b_law_sheet .nil pass0 (pa_cons (pv 1) pa_nil)) pa_nil))))))), ?_⟩
    walk_at "g"
    refine ⟨a, _, rfl, hP, by decide, by decide, fun c H1 c0 c1 hP1 hO1 => ?_⟩
    have hparts1 := hparts.oth hP hla hO1
    have fin : ∀ x H', H1 x = none → RoundG T.C_Round H' x p ls e → Same H1 H' → Q (.ref x) H' := fun x H' hx hR s => k x H' (backO hO1 hP1 hx) hR (hP1.same s) (hO1.trans (Oth.of s))
    by_cases e0 : V.int c = V.int 0
    · walk_at "d"
      exact ⟨l, p, e, ls, rfl, hparts1, hg, fin⟩
    · obtain ⟨t, hl, hpic⟩ := id hparts1
      by_cases e1 : V.int c = V.int 1
      · walk_at "d"
        refine ⟨rfl, rfl, ?_⟩
        intro x dx hx hdx hne
        exact make_go hx hdx hne hpic hg fun H9 hR s9 => fin x H9 hx hR s9
      · walk_at "d"
        refine ⟨rfl, _, rfl, l, p, e, ls, rfl, hparts1, hg, fun H2 s2 => ?_⟩
        exact ⟨T.C_Round, p, e, ls, rfl, hg, fun x H3 hx hR s3 => fin x H3 (back s2 hx) hR (s2.trans s3)⟩


def sp_chkr (C : Addr) : Sp := fun vs H Q _ => ∃ (x dx : Addr) (ws : List (Option V)), vs = [.ref x] ∧ SlX.Slt H x C dx ws ∧ Q .non H
theorem ok_check_round (T : Tx K mg) : FnOk P w K mg base CX0 1 T.a_check_round T.d_check_round ["value"] (sp_chkr T.C_Round) := by
  refine T.F_check_round.ok sc_check_round (fun vs H Q E h => ?_) (fun cdv A outer s H vs Q E hr h => ?_)
  · obtain ⟨x, dx, ws, rfl, _⟩ := h
    rfl
  · obtain ⟨x, dx, ws, rfl, hx, k⟩ := h
    refine ⟨_, (pss_one (ps_if (pt_not (pt_val (pe_callB (SlX.call_isiSl (.ref T.C_Round)) (by rfl) T.n_isinstance (by decide +kernel) (pa_cons (pv 0) (pa_cons (pe_glob (v := .ref T.C_Round) rfl T.g_Round rfl) pa_nil))))) (pss_one ps_never) pss_nil)), ?_⟩
    walk_at "g"
    refine ⟨x, _, dx, _, _, true, rfl, rfl, (fun _ h => h), hx, T.sc_Round, T.si_Round, kit_self _, ?_⟩
    walk_at "g"
    exact k


def sp_chkp (C : Addr) : Sp := fun vs H Q _ => ∃ (x y : Addr) (p e e' : Int) (ls ls' : List (Int × Int)), vs = [.ref x, .ref y] ∧ RoundAt C H x p ls e ∧ RoundAt C H y p ls' e' ∧ Q .non H
theorem ok_check_pair (T : Tx K mg) : FnOk P w K mg base CX0 3 T.a_check_pair T.d_check_pair ["one", "other"] (sp_chkp T.C_Round) := by
  refine T.F_check_pair.ok sc_check_pair (fun vs H Q E h => ?_) (fun cdv A outer s H vs Q E hr h => ?_)
  · obtain ⟨x, y, p, e, e', ls, ls', rfl, _⟩ := h
    rfl
  · obtain ⟨x, y, p, e, e', ls, ls', rfl, ⟨dx, t, hx, _⟩, ⟨dy, t', hy, _⟩, k⟩ := h
    refine ⟨_, (pss_cons (ps_expr (pe_call (ok_check_round T) (hr.mono (by decide)) rfl T.g_check_round T.F_check_round.kp T.b_check_round .nil pass0 (pa_cons (pv 0) pa_nil)))
      (pss_cons (ps_expr (pe_call (ok_check_round T) (hr.mono (by decide)) rfl T.g_check_round T.F_check_round.kp T.b_check_round .nil pass0 (pa_cons (pv 1) pa_nil)))
      (pss_one (ps_if (pt_cmpR op_ne (SlX.pe_propSl (E := E0) (pv 0) T.sc_Round T.pa_Round_levels T.pg_Round_levels T.pt_Round_levels T.pr_Round_levels (rok_Round_levels T) (hr.mono (by decide)) (fun _ _ _ _ z => z)) (SlX.pe_propSl (E := E0) (pv 1) T.sc_Round T.pa_Round_levels T.pg_Round_levels T.pt_Round_levels T.pr_Round_levels (rok_Round_levels T) (hr.mono (by decide)) (fun _ _ _ _ z => z)) (nomark _)) (pss_one ps_never) pss_nil)))), ?_⟩
    have c1 : decide (V.int p = V.int p) = true := decide_eq_true rfl
    walk_at "g"
    refine ⟨x, dx, _, rfl, hx, ?_⟩
    walk_at "g"
    refine ⟨y, dy, _, rfl, hy, ?_⟩
    refine ⟨_, rfl, x, dx, _, rfl, hx, x, dx, p, t, e, rfl, hx, ?_⟩
    refine ⟨_, rfl, y, dy, _, rfl, hy, y, dy, p, t', e', rfl, hy, ?_⟩
    refine ⟨rfl, false, congrArg V.bl (congrArg Bool.not c1), ?_⟩
    exact k


def sp_table (C : Addr) : Sp := fun vs H Q _ => ∃ (x : Addr) (p e : Int) (ls : List (Int × Int)), vs = [.ref x] ∧ RoundAt C H x p ls e ∧ (keysOf ls).Nodup ∧ ∀ d, H d = none → Q (.ref d) (upd H d (.dK (dI ls)))
theorem ok_table (T : Tx K mg) : FnOk P w K mg base CX0 1 T.a_table T.d_table ["trip"] (sp_table T.C_Round) := by
  refine T.F_table.ok sc_table (fun vs H Q E h => ?_) (fun cdv A outer s H vs Q E hr h => ?_)
  · obtain ⟨x, p, e, ls, rfl, _⟩ := h
    rfl
  · obtain ⟨x, p, e, ls, rfl, ⟨dx, t, hx, hP⟩, hn, k⟩ := h
    refine ⟨_, (pss_one (ps_ret (pe_callTy (call_dictT rfl) (by rfl) T.n_dict (by decide +kernel) (pa_cons (SlX.pe_sl (pv 0)) pa_nil)))), ?_⟩
    have hsc := T.sc_Round
    have hs1 := T.sl_own_lamps
    refine ⟨_, rfl, x, _, dx, _, _, _, _, rfl, hx, hsc, hs1, rfl, t, ls, rfl, hP, fun d hd => ?_⟩
    have em : mergeK [] (dI ls) = dI ls := mergeK_dI ls [] hn
    rw [em]
    exact k d hd


def sp_added : Sp := fun vs H Q _ => ∃ (o1 o2 : Addr) (p m c : Int) (t1 t2 : List (Int × Int)), vs = [.int p, .ref o1, .ref o2, .int m, .int c] ∧ H o1 = some (.dK (dI t1)) ∧ H o2 = some (.dK (dI t2)) ∧ 0 < p ∧ -1000 < c ∧ c < 1000 ∧ (∀ ab ∈ t2, 0 < ab.2 ∧ ab.2 < 1000) ∧ t1.length + t2.length ≤ 1000 ∧
  ∀ d H', H d = none → H' d = some (.dK (dI (addT p t1 t2 m c))) → Same H H' → Q (.ref d) H'
theorem tdel_none {t : List (Int × Int)} {k : Int} (h : tget t k = none) : tdel t k = t := by
  unfold tdel
  refine List.filter_eq_self.mpr fun ab hm => ?_
  refine decide_eq_true fun e => ?_
  obtain ⟨v, hv⟩ := tget_of_key (t := t) (k := k) (List.mem_map.mpr ⟨ab, hm, e⟩)
  rw [h] at hv
  cases hv
theorem upd_self' {H : Hp} {a : Addr} {o : HO} (h : H a = some o) : upd H a o = H := by
  funext b
  by_cases e : b = a
  · subst e
    rw [upd_same, h]
  · rw [upd_ne e]
theorem ok_added (T : Tx K mg) : FnOk P w K mg base CX0 1 T.a_added T.d_added ["levels", "one", "other", "move", "by"] sp_added := by
  refine T.F_added.ok sc_added (fun vs H Q E h => ?_) (fun cdv A outer s H vs Q E hr h => ?_)
  · obtain ⟨o1, o2, p, m, c, t1, t2, rfl, _⟩ := h
    rfl
  · obtain ⟨o1, o2, p, m, c, t1, t2, rfl, h1, h2, hp, hc0, hc1, hl2, hlen, k⟩ := h
    refine ⟨_, (pss_cons (ps_set (i := 5) sc_added.nd rfl (Or.inl rfl) (pe_callTy call_dictD (by rfl) T.n_dict (by decide +kernel) (pa_cons (pv 1) pa_nil)))
      (pss_cons (ps_lock (ps_for PassesOwn.never rfl (pi_items (pv 2)) (pg_tupK 2 rfl rfl (pgs_cons (pg_name (i := 6) sc_added.nd rfl (Or.inl rfl)) (pgs_cons (pg_name (i := 7) sc_added.nd rfl (Or.inl rfl)) pgs_nil))) (pss_cons (ps_set (i := 8) sc_added.nd rfl (Or.inl rfl) (pe_op op_mod (pe_op op_add (pe_dget2 (hu_of hr) (pv 5) (pe_op op_add (pv 6) (pv 3)) pe_int ⟨rfl, rfl, rfl, rfl⟩) (pe_op op_mul (pv 4) (pv 7))) (pv 0)))
      (pss_one (ps_if (pt_cmpR op_eq (pv 8) pe_int (nomark _)) (pss_one (ps_expr (pe_dpop2 (pv 5) (pe_op op_add (pv 6) (pv 3)) pe_non ⟨rfl, rfl, rfl, rfl⟩))) (pss_one (ps_dput (hu_of hr) (pv 5) (pe_op op_add (pv 6) (pv 3)) (pv 8) rfl)))))))
      (pss_one (ps_ret (pv 5))))), ?_⟩
    walk_at "g"
    intro d hd
    have s1 : Same H (upd H d (.dK (dI t1))) := Same.new hd
    have h2' := s1 _ _ h2
    have hdo : d ≠ o2 := (ne_of_none h2 hd).symm
    refine ⟨o2, _, h2', True.intro, fun od => ?_⟩
    refine ⟨_, rfl, o2, od, dI t2, rfl, upd_same, for_it walk_items (fun i σ H' => ∃ a b c', σ = [some (.int p), some (.ref o1), some (.ref o2), some (.int m), some (.int c), some (.ref d), a, b, c'] ∧ H' o2 = some (.frz od (.dK (dI t2))) ∧ H' d = some (.dK (dI (addT p t1 (t2.take i) m c))) ∧ Oth o2 H H')
      ⟨_, _, _, rfl, upd_same, (by rw [upd_ne hdo]; exact upd_same), (Oth.of s1).put⟩ (fun i σ H' _ ⟨_, _, _, _, h, _⟩ => h) ?_ ?_⟩
    · rintro i v σ H1 H2 hi ⟨a, b, c', rfl, ho, hd', hO⟩ ⟨q, x, y, rfl, hq, rfl, e1, e2⟩
      have hi2 : i < t2.length := by
        rw [dI_len] at hi
        exact hi
      obtain ⟨ab, eab⟩ : ∃ ab, t2[i]? = some ab := ⟨_, List.getElem?_eq_getElem hi2⟩
      have edi : (dI t2)[i]? = some (Sum.inl ab.1, V.int ab.2) := by
        unfold dI
        rw [List.getElem?_map, eab]
        rfl
      have e1 : (((dI t2)[i]?).map fun kv => kV kv.1) = some x := e1
      have e2 : ((dI t2)[i]?).map Prod.snd = some y := e2
      rw [edi] at e1 e2
      have ex : V.int ab.1 = x := Option.some.inj e1
      have ey : V.int ab.2 = y := Option.some.inj e2
      subst ex ey
      have hab := hl2 ab (List.mem_of_getElem? eab)
      have hqd : q ≠ d := (ne_of_none hd' hq).symm
      have hqo : q ≠ o2 := (ne_of_none ho hq).symm
      have hd2 : upd H1 q (.tup [.int ab.1, .int ab.2]) d = some (.dK (dI (addT p t1 (t2.take i) m c))) := by
        rw [upd_ne hqd.symm]
        exact hd'
      have ho2 : upd H1 q (.tup [.int ab.1, .int ab.2]) o2 = some (.frz od (.dK (dI t2))) := by
        rw [upd_ne hqo.symm]
        exact ho
      have hO2 : Oth o2 H (upd H1 q (.tup [.int ab.1, .int ab.2])) := hO.trans (Oth.of (Same.new hq))
      have enext : addT p t1 (t2.take (i + 1)) m c = addS p m c (addT p t1 (t2.take i) m c) ab := by
        rw [take_more eab]
        unfold addT
        rw [List.foldl_append]
        rfl
      have hacc : (addT p t1 (t2.take i) m c).length < sizeLine := small1M (by have z := addT_len p m c (t2.take i) t1; rw [List.length_take] at z; omega)
      have eg : (valV (dI (addT p t1 (t2.take i) m c)) (Sum.inl (ab.1 + m))).getD (V.int 0) = V.int (lv (addT p t1 (t2.take i) m c) (ab.1 + m)) := by
        rw [dI_get]
        unfold lv
        cases tget (addT p t1 (t2.take i) m c) (ab.1 + m) <;> rfl
      have hdH : H d = none := hd
      generalize addT p t1 (t2.take i) m c = acc at hd2 enext hacc eg
      have hqH3 : upd H1 q (.tup [.int ab.1, .int ab.2]) q = some (.tup [.int ab.1, .int ab.2]) := upd_same
      generalize upd H1 q (.tup [.int ab.1, .int ab.2]) = H3 at hd2 ho2 hO2 hqH3 ⊢
      refine ⟨q, _, rfl, SqT.of hqH3, rfl, _, _, rfl, _, _, rfl, rfl, ?_⟩
      refine ⟨_, rfl, d, rfl, Or.inl ⟨_, Or.inl hd2⟩, _, rfl, _, rfl, _, _, rfl, rfl, _, DGet.k (k := Sum.inl (ab.1 + m)) hd2, ?_⟩
      rw [eg]
      refine ⟨_, rfl, _, rfl, _, _, rfl, rfl, (show CMul c ab.2 from by walk_at "n"), _, _, rfl, rfl, _, rfl, _, _, rfl, rfl, hp, ?_⟩
      have fin : ∀ H4 w8, H4 = upd H3 d (.dK (dI (addS p m c acc ab))) → ∃ a b c', [some (V.int p), some (.ref o1), some (.ref o2), some (.int m), some (.int c), some (.ref d), some (.int ab.1), some (.int ab.2), w8] = [some (V.int p), some (.ref o1), some (.ref o2), some (.int m), some (.int c), some (.ref d), a, b, c'] ∧ H4 o2 = some (.frz od (.dK (dI t2))) ∧ H4 d = some (.dK (dI (addT p t1 (t2.take (i + 1)) m c))) ∧ Oth o2 H H4 := by
        rintro H4 w8 rfl
        refine ⟨_, _, _, rfl, by rw [upd_ne hdo.symm]; exact ho2, by rw [upd_same, enext], fun b o hb hbo => ?_⟩
        rw [upd_ne (ne_of_none hb hdH)]
        exact hO2 b o hb hbo
      by_cases hz : V.int ((lv acc (ab.1 + m) + c * ab.2) % p) = V.int 0
      · have hz' : (lv acc (ab.1 + m) + c * ab.2) % p = 0 := V.int.inj hz
        have eS : addS p m c acc ab = tdel acc (ab.1 + m) := by
          unfold addS
          rw [if_pos hz']
        walk_at "d"
        refine ⟨Or.inl ⟨_, Or.inl hd2⟩, _, rfl, _, rfl, _, _, rfl, rfl, _, Sum.inl (ab.1 + m), hd2, rfl, fun v hv => ?_, fun hv => ?_⟩
        · rw [dI_del, ← eS]
          exact fin _ _ rfl
        · have en : tdel acc (ab.1 + m) = acc := tdel_none (by rw [dI_get] at hv; cases e : tget acc (ab.1 + m) with | none => rfl | some z => rw [e] at hv; cases hv)
          refine fin _ _ ?_
          rw [eS, en]
          exact (upd_self' hd2).symm
      · have hz' : ¬ (lv acc (ab.1 + m) + c * ab.2) % p = 0 := fun q => hz (congrArg V.int q)
        have eS : addS p m c acc ab = tput acc (ab.1 + m) ((lv acc (ab.1 + m) + c * ab.2) % p) := by
          unfold addS
          rw [if_neg hz']
        walk_at "d"
        refine ⟨d, _, rfl, DPut.k (k := Sum.inl (ab.1 + m)) hd2 (by rw [dI_len]; exact hacc), ?_⟩
        rw [dI_put, ← eS]
        exact fin _ _ rfl
    · rintro σ H1 ⟨a, b, c', rfl, ho, hd', hO⟩
      rw [dI_len, List.take_length] at hd'
      refine ⟨ho, _, rfl, k d _ hd (by rw [upd_ne hdo]; exact hd') ?_⟩
      intro b o hb
      by_cases e : b = o2
      · subst e
        rw [upd_same, ← hb, h2]
      · rw [upd_ne e]
        exact hO b o hb e


def sp_lampsof : Sp := fun vs H Q _ => ∃ (d : Addr) (tab : List (Int × Int)), vs = [.ref d] ∧ H d = some (.dK (dI tab)) ∧ (keysOf tab).Nodup ∧ tab.length ≤ 1000 ∧
  ∀ t ls H', H t = none → ls.Perm tab → (keysOf ls).Pairwise (· < ·) → Pic H' t ls → Same H H' → Q (.ref t) H'
theorem ok_lamps_of (T : Tx K mg) : FnOk P w K mg base CX0 1 T.a_lamps_of T.d_lamps_of ["table"] sp_lampsof := by
  refine T.F_lamps_of.ok sc_lamps_of (fun vs H Q E h => ?_) (fun cdv A outer s H vs Q E hr h => ?_)
  · obtain ⟨d, tab, rfl, _⟩ := h
    rfl
  · obtain ⟨d, tab, rfl, hd, hn, hlen, k⟩ := h
    refine ⟨_, (pss_one (ps_ret (pe_callTy call_tupF (by rfl) T.n_tuple (by decide +kernel) (pa_cons (pe_callB (cr_sortedItemsI rfl) (by rfl) T.n_sorted (by decide +kernel) (pa_cons (pe_bm0 PySem.F.plainAttrs_dict PySem.F.slot_dict_items PySem.F.type_dict_items mt_itemsK (pv 0)) pa_nil)) pa_nil)))), ?_⟩
    refine ⟨_, rfl, Or.inr (Or.inr (Or.inl ⟨rfl, Or.inl ⟨_, hd⟩⟩)), d, _, rfl, rfl, hd, fun p hp => ?_⟩
    have s1 : Same H (upd H p (DX.itemsO p d)) := Same.new hp
    refine ⟨p, d, tab, rfl, upd_same, s1 _ _ hd, hn, fun l ps ls H1 hl hperm hasc hL hall s2 => ?_⟩
    refine ⟨l, ps, rfl, SqL.of hL, fun t its ht => ?_⟩
    have s3 := (s1.trans s2).trans (Same.new (o := .frz (plainT its) (.tup ps)) ht)
    exact k t ls _ (back (s1.trans s2) ht) hperm hasc ⟨ps, ⟨its, upd_same⟩, Paired.mapP hall fun _ _ => At2.same (Same.new ht)⟩ s3


/-- what makes a table a round -/
structure TabR (p : Int) (tab : List (Int × Int)) (e : Int) : Prop where
  lv : Lv p
  tb : Tab p tab
  few : tab.length ≤ 400
  fin : ∀ ab ∈ tab, Fin1 ab.1
  fe : Fin1 e
theorem TabR.good {p e : Int} {tab ls : List (Int × Int)} (h : TabR p tab e) (hp : ls.Perm tab) (ha : (keysOf ls).Pairwise (· < ·)) : GoodR p ls e :=
  ⟨h.lv, h.tb.good hp ha, by rw [hp.length_eq]; exact h.few, fun ab hm => h.fin ab (hp.mem_iff.mp hm), h.fe⟩
def sp_made (C : Addr) : Sp := fun vs H Q _ => ∃ (d : Addr) (p e : Int) (tab : List (Int × Int)), vs = [.int p, .ref d, .int e] ∧ H d = some (.dK (dI tab)) ∧ TabR p tab e ∧
  ∀ x ls H', H x = none → ls.Perm tab → RoundG C H' x p ls e → Same H H' → Q (.ref x) H'
theorem ok_made_round (T : Tx K mg) : FnOk P w K mg base CX0 6 T.a_made_round T.d_made_round ["levels", "lamps", "end"] (sp_made T.C_Round) := by
  refine T.F_made_round.ok sc_made_round (fun vs H Q E h => ?_) (fun cdv A outer s H vs Q E hr h => ?_)
  · obtain ⟨d, p, e, tab, rfl, _⟩ := h
    rfl
  · obtain ⟨d, p, e, tab, rfl, hd, hT, k⟩ := h
    refine ⟨_, (pss_cons (ps_if (pt_cmpR op_gt (pe_callB call_lenD (by rfl) T.n_len (by decide +kernel) (pa_cons (pv 1) pa_nil)) (pe_glob (v := .int 400) rfl T.g_MOST_LAMPS.choose_spec ⟨_, rfl⟩) (nomark _)) (pss_one ps_never) pss_nil)
      (pss_one (ps_ret (pe_make T.mk_Round (ok_Round_init T) (hr.mono (by decide)) rfl T.g_Round T.b_Round_init .nil pass0 (pa_cons (pv 0) (pa_cons (pe_call (ok_lamps_of T) (hr.mono (by decide)) rfl T.g_lamps_of T.F_lamps_of.kp T.b_lamps_of .nil pass0 (pa_cons (pv 1) pa_nil)) (pa_cons (pv 2) pa_nil))))))), ?_⟩
    have hlen : ¬ (400 : Int) < ((dI tab).length : Int) := by
      have := hT.few
      rw [dI_len]
      omega
    refine ⟨_, rfl, d, dI tab, rfl, hd, ?_⟩
    walk_at "d"
    refine ⟨d, tab, rfl, hd, hT.tb.nd, by have := hT.few; omega, fun t ls H1 ht hp ha hPic s1 => ?_⟩
    walk_at "g"
    intro x dx hx hdx hne
    exact make_go hx hdx hne hPic (hT.good hp ha) fun H2 hR s2 => k x ls H2 (back s1 hx) hp hR (s1.trans s2)


def sp_thenof (C : Addr) : Sp := fun vs H Q _ => ∃ (x y : Addr) (p e e' : Int) (ls ls' : List (Int × Int)), vs = [.ref x, .ref y] ∧ RoundG C H x p ls e ∧ RoundG C H y p ls' e' ∧ TabR p (addT p ls ls' e 1) (e + e') ∧
  ∀ z lz H', H z = none → lz.Perm (addT p ls ls' e 1) → RoundG C H' z p lz (e + e') → Same H H' → Q (.ref z) H'
theorem Lv.pos {p : Int} (h : Lv p) : 0 < p ∧ p < 100 := by
  rcases h with rfl | rfl | rfl | rfl <;> decide
theorem ok_then_of (T : Tx K mg) : FnOk P w K mg base CX0 7 T.a_then_of T.d_then_of ["one", "other"] (sp_thenof T.C_Round) := by
  refine T.F_then_of.ok sc_then_of (fun vs H Q E h => ?_) (fun cdv A outer s H vs Q E hr h => ?_)
  · obtain ⟨x, y, p, e, e', ls, ls', rfl, _⟩ := h
    rfl
  · obtain ⟨x, y, p, e, e', ls, ls', rfl, hx, hy, hT, k⟩ := h
    obtain ⟨⟨dx, t, hsx, hpx⟩, hgx⟩ := id hx
    obtain ⟨⟨dy, t', hsy, hpy⟩, hgy⟩ := id hy
    have hpp := Lv.pos hgx.lv
    refine ⟨_, (pss_one (ps_ret (pe_call (ok_made_round T) (hr.mono (by decide)) rfl T.g_made_round T.F_made_round.kp T.b_made_round .nil pass0 (pa_cons (SlX.pe_propSl (E := E0) (pv 0) T.sc_Round T.pa_Round_levels T.pg_Round_levels T.pt_Round_levels T.pr_Round_levels (rok_Round_levels T) (hr.mono (by decide)) (fun _ _ _ _ z => z)) (pa_cons (pe_call (ok_added T) (hr.mono (by decide)) rfl T.g_added T.F_added.kp T.b_added .nil pass0 (pa_cons (SlX.pe_propSl (E := E0) (pv 0) T.sc_Round T.pa_Round_levels T.pg_Round_levels T.pt_Round_levels T.pr_Round_levels (rok_Round_levels T) (hr.mono (by decide)) (fun _ _ _ _ z => z)) (pa_cons (pe_call (ok_table T) (hr.mono (by decide)) rfl T.g_table T.F_table.kp T.b_table .nil pass0 (pa_cons (pv 0) pa_nil)) (pa_cons (pe_call (ok_table T) (hr.mono (by decide)) rfl T.g_table T.F_table.kp T.b_table .nil pass0 (pa_cons (pv 1) pa_nil)) (pa_cons (SlX.pe_propSl (E := E0) (pv 0) T.sc_Round T.pa_Round_end T.pg_Round_end T.pt_Round_end T.pr_Round_end (rok_Round_end T) (hr.mono (by decide)) (fun _ _ _ _ z => z)) (pa_cons pe_int pa_nil)))))) (pa_cons (pe_op op_add (SlX.pe_propSl (E := E0) (pv 0) T.sc_Round T.pa_Round_end T.pg_Round_end T.pt_Round_end T.pr_Round_end (rok_Round_end T) (hr.mono (by decide)) (fun _ _ _ _ z => z)) (SlX.pe_propSl (E := E0) (pv 1) T.sc_Round T.pa_Round_end T.pg_Round_end T.pt_Round_end T.pr_Round_end (rok_Round_end T) (hr.mono (by decide)) (fun _ _ _ _ z => z))) pa_nil)))))), ?_⟩
    refine ⟨_, rfl, x, dx, _, rfl, hsx, x, dx, p, t, e, rfl, hsx, ?_⟩
    refine ⟨_, rfl, x, dx, _, rfl, hsx, x, dx, p, t, e, rfl, hsx, ?_⟩
    refine ⟨_, rfl, x, p, e, ls, rfl, hx.1, hgx.pic.tab.nd, fun d1 hd1 => ?_⟩
    have s1 : Same H (upd H d1 (.dK (dI ls))) := Same.new hd1
    refine ⟨_, rfl, y, p, e', ls', rfl, hy.1.same s1, hgy.pic.tab.nd, fun d2 hd2 => ?_⟩
    have s2 : Same (upd H d1 (.dK (dI ls))) (upd (upd H d1 (.dK (dI ls))) d2 (.dK (dI ls'))) := Same.new hd2
    have s12 := s1.trans s2
    have hsx2 := Slt_same s12 hsx
    refine ⟨_, rfl, x, dx, _, rfl, hsx2, x, dx, p, t, e, rfl, hsx2, ?_⟩
    refine ⟨d1, d2, p, e, 1, ls, ls', rfl, s2 _ _ upd_same, upd_same, hpp.1, by decide, by decide, fun ab hm => ⟨(hgy.pic.lev ab hm).1, by have := (hgy.pic.lev ab hm).2; omega⟩, by have := hgx.few; have := hgy.few; omega, fun d3 H3 hd3 hd3' s3 => ?_⟩
    have s13 := s12.trans s3
    have hsx3 := Slt_same s13 hsx
    have hsy3 := Slt_same s13 hsy
    refine ⟨_, rfl, x, dx, _, rfl, hsx3, x, dx, p, t, e, rfl, hsx3, ?_⟩
    refine ⟨_, rfl, y, dy, _, rfl, hsy3, y, dy, p, t', e', rfl, hsy3, ?_⟩
    refine ⟨_, _, rfl, rfl, ?_⟩
    exact ⟨d3, p, e + e', _, rfl, hd3', hT, fun z lz H4 hz hperm hR s4 => k z lz H4 (back s13 hz) hperm hR (s13.trans s4)⟩


def sp_undoneof (C : Addr) : Sp := fun vs H Q _ => ∃ (x : Addr) (p e : Int) (ls : List (Int × Int)), vs = [.ref x] ∧ RoundG C H x p ls e ∧ TabR p (addT p [] ls (-e) (-1)) (-e) ∧
  ∀ z lz H', H z = none → lz.Perm (addT p [] ls (-e) (-1)) → RoundG C H' z p lz (-e) → Same H H' → Q (.ref z) H'
theorem ok_undone_of (T : Tx K mg) : FnOk P w K mg base CX0 7 T.a_undone_of T.d_undone_of ["trip"] (sp_undoneof T.C_Round) := by
  refine T.F_undone_of.ok sc_undone_of (fun vs H Q E h => ?_) (fun cdv A outer s H vs Q E hr h => ?_)
  · obtain ⟨x, p, e, ls, rfl, _⟩ := h
    rfl
  · obtain ⟨x, p, e, ls, rfl, hx, hT, k⟩ := h
    obtain ⟨⟨dx, t, hsx, hpx⟩, hgx⟩ := id hx
    have hpp := Lv.pos hgx.lv
    refine ⟨_, (pss_one (ps_ret (pe_call (ok_made_round T) (hr.mono (by decide)) rfl T.g_made_round T.F_made_round.kp T.b_made_round .nil pass0 (pa_cons (SlX.pe_propSl (E := E0) (pv 0) T.sc_Round T.pa_Round_levels T.pg_Round_levels T.pt_Round_levels T.pr_Round_levels (rok_Round_levels T) (hr.mono (by decide)) (fun _ _ _ _ z => z)) (pa_cons (pe_call (ok_added T) (hr.mono (by decide)) rfl T.g_added T.F_added.kp T.b_added .nil pass0 (pa_cons (SlX.pe_propSl (E := E0) (pv 0) T.sc_Round T.pa_Round_levels T.pg_Round_levels T.pt_Round_levels T.pr_Round_levels (rok_Round_levels T) (hr.mono (by decide)) (fun _ _ _ _ z => z)) (pa_cons pe_dnewK (pa_cons (pe_call (ok_table T) (hr.mono (by decide)) rfl T.g_table T.F_table.kp T.b_table .nil pass0 (pa_cons (pv 0) pa_nil)) (pa_cons (pe_un un_neg (SlX.pe_propSl (E := E0) (pv 0) T.sc_Round T.pa_Round_end T.pg_Round_end T.pt_Round_end T.pr_Round_end (rok_Round_end T) (hr.mono (by decide)) (fun _ _ _ _ z => z))) (pa_cons (pe_un un_neg pe_int) pa_nil)))))) (pa_cons (pe_un un_neg (SlX.pe_propSl (E := E0) (pv 0) T.sc_Round T.pa_Round_end T.pg_Round_end T.pt_Round_end T.pr_Round_end (rok_Round_end T) (hr.mono (by decide)) (fun _ _ _ _ z => z))) pa_nil)))))), ?_⟩
    refine ⟨_, rfl, x, dx, _, rfl, hsx, x, dx, p, t, e, rfl, hsx, ?_⟩
    refine ⟨_, rfl, x, dx, _, rfl, hsx, x, dx, p, t, e, rfl, hsx, ?_⟩
    intro d1 hd1
    have s1 : Same H (upd H d1 (.dK [])) := Same.new hd1
    refine ⟨_, rfl, x, p, e, ls, rfl, hx.1.same s1, hgx.pic.tab.nd, fun d2 hd2 => ?_⟩
    have s2 : Same (upd H d1 (.dK [])) (upd (upd H d1 (.dK [])) d2 (.dK (dI ls))) := Same.new hd2
    have s12 := s1.trans s2
    have hsx2 := Slt_same s12 hsx
    refine ⟨_, rfl, x, dx, _, rfl, hsx2, x, dx, p, t, e, rfl, hsx2, ?_⟩
    refine ⟨_, rfl, _, rfl, ?_⟩
    refine ⟨d1, d2, p, -e, -1, [], ls, rfl, s2 _ _ upd_same, upd_same, hpp.1, by decide, by decide, fun ab hm => ⟨(hgx.pic.lev ab hm).1, by have := (hgx.pic.lev ab hm).2; omega⟩, by have := hgx.few; show 0 + ls.length ≤ _; omega, fun d3 H3 hd3 hd3' s3 => ?_⟩
    have s13 := s12.trans s3
    have hsx3 := Slt_same s13 hsx
    refine ⟨_, rfl, x, dx, _, rfl, hsx3, x, dx, p, t, e, rfl, hsx3, ?_⟩
    refine ⟨_, rfl, ?_⟩
    exact ⟨d3, p, -e, _, rfl, hd3', hT, fun z lz H4 hz hperm hR s4 => k z lz H4 (back s13 hz) hperm hR (s13.trans s4)⟩


theorem ok_then (T : Tx K mg) : FnOk P w K mg base CX0 8 T.a_then T.d_then ["trip", "second"] (sp_thenof T.C_Round) := by
  refine T.F_then.ok sc_then (fun vs H Q E h => ?_) (fun cdv A outer s H vs Q E hr h => ?_)
  · obtain ⟨x, y, p, e, e', ls, ls', rfl, _⟩ := h
    rfl
  · obtain ⟨x, y, p, e, e', ls, ls', rfl, hx, hy, hT, k⟩ := h
    refine ⟨_, (pss_cons (ps_expr (pe_call (ok_check_pair T) (hr.mono (by decide)) rfl T.g_check_pair T.F_check_pair.kp T.b_check_pair .nil pass0 (pa_cons (pv 0) (pa_cons (pv 1) pa_nil))))
      (pss_one (ps_ret (pe_call (ok_then_of T) (hr.mono (by decide)) rfl T.g_then_of T.F_then_of.kp T.b_then_of .nil pass0 (pa_cons (pv 0) (pa_cons (pv 1) pa_nil)))))), ?_⟩
    refine ⟨_, rfl, _, rfl, x, y, p, e, e', ls, ls', rfl, hx.1, hy.1, ?_⟩
    exact ⟨_, rfl, _, rfl, x, y, p, e, e', ls, ls', rfl, hx, hy, hT, k⟩


theorem ok_undone (T : Tx K mg) : FnOk P w K mg base CX0 8 T.a_undone T.d_undone ["trip"] (sp_undoneof T.C_Round) := by
  refine T.F_undone.ok sc_undone (fun vs H Q E h => ?_) (fun cdv A outer s H vs Q E hr h => ?_)
  · obtain ⟨x, p, e, ls, rfl, _⟩ := h
    rfl
  · obtain ⟨x, p, e, ls, rfl, hx, hT, k⟩ := h
    obtain ⟨⟨dx, t, hsx, hpx⟩, hgx⟩ := id hx
    refine ⟨_, (pss_cons (ps_expr (pe_call (ok_check_round T) (hr.mono (by decide)) rfl T.g_check_round T.F_check_round.kp T.b_check_round .nil pass0 (pa_cons (pv 0) pa_nil)))
      (pss_one (ps_ret (pe_call (ok_undone_of T) (hr.mono (by decide)) rfl T.g_undone_of T.F_undone_of.kp T.b_undone_of .nil pass0 (pa_cons (pv 0) pa_nil))))), ?_⟩
    refine ⟨_, rfl, x, dx, _, rfl, hsx, ?_⟩
    exact ⟨_, rfl, x, p, e, ls, rfl, hx, hT, k⟩


def sp_told (C : Addr) : Sp := fun vs H Q _ => ∃ (x : Addr) (p e : Int) (ls : List (Int × Int)), vs = [.ref x] ∧ RoundAt C H x p ls e ∧ ∀ l H', H l = none → PartsAt H' l p ls e → Same H H' → Q (.ref l) H'
theorem ok_law_told (T : Tx K mg) : FnOk P w K mg base CX0 3 T.a_law_told T.d_law_told ["_law_mine"] (sp_told T.C_Round) := by
  refine T.F_law_told.ok sc_law_told (fun vs H Q E h => ?_) (fun cdv A outer s H vs Q E hr h => ?_)
  · obtain ⟨x, p, e, ls, rfl, _⟩ := h
    rfl
  · obtain ⟨x, p, e, ls, rfl, ⟨dx, t, hx, hP⟩, k⟩ := h
    refine ⟨_, (pss_one (ps_ret (pe_lst (pa_cons (SlX.pe_propSl (E := E0) (pv 0) T.sc_Round T.pa_Round_levels T.pg_Round_levels T.pt_Round_levels T.pr_Round_levels (rok_Round_levels T) (hr.mono (by decide)) (fun _ _ _ _ z => z)) (pa_cons (SlX.pe_propSl (E := E0) (pv 0) T.sc_Round T.pa_Round_lamps T.pg_Round_lamps T.pt_Round_lamps T.pr_Round_lamps (rok_Round_lamps T) (hr.mono (by decide)) (fun _ _ _ _ z => z)) (pa_cons (SlX.pe_propSl (E := E0) (pv 0) T.sc_Round T.pa_Round_end T.pg_Round_end T.pt_Round_end T.pr_Round_end (rok_Round_end T) (hr.mono (by decide)) (fun _ _ _ _ z => z)) pa_nil)))))), ?_⟩
    refine ⟨_, rfl, x, dx, _, rfl, hx, x, dx, p, t, e, rfl, hx, ?_⟩
    refine ⟨_, rfl, x, dx, _, rfl, hx, x, dx, p, t, e, rfl, hx, ?_⟩
    refine ⟨_, rfl, x, dx, _, rfl, hx, x, dx, p, t, e, rfl, hx, ?_⟩
    refine ⟨by show 3 ≤ sizeLine; decide, fun l hl => ?_⟩
    exact k l _ hl ⟨t, upd_same, hP.same (Same.new hl)⟩ (Same.new hl)


theorem lv_filter (f : Int → Int) : ∀ {ns : List Int}, ns.Nodup → ∀ k, lv ((ns.map fun z => (z, f z)).filter fun ab => decide (ab.2 ≠ 0)) k = if k ∈ ns then f k else 0
  | [], _, k => by
    rw [if_neg (by simp)]
    rfl
  | n :: ns, h, k => by
    have hn := List.nodup_cons.mp h
    have ih := lv_filter f hn.2 k
    rw [List.map_cons]
    by_cases h0 : f n = 0
    · rw [List.filter_cons_of_neg (by simp [h0]), ih]
      by_cases e : k = n
      · subst e
        rw [if_neg hn.1, if_pos (List.mem_cons_self ..), h0]
      · by_cases m : k ∈ ns
        · rw [if_pos m, if_pos (List.mem_cons_of_mem _ m)]
        · rw [if_neg m, if_neg]
          intro q
          rcases List.mem_cons.mp q with q | q
          · exact e q
          · exact m q
    · rw [List.filter_cons_of_pos (by simp [h0]), lv_cons, ih]
      by_cases e : n = k
      · subst e
        rw [if_pos rfl, if_pos (List.mem_cons_self ..)]
      · rw [if_neg e]
        by_cases m : k ∈ ns
        · rw [if_pos m, if_pos (List.mem_cons_of_mem _ m)]
        · rw [if_neg m, if_neg]
          intro q
          rcases List.mem_cons.mp q with q | q
          · exact e q.symm
          · exact m q
def sp_tidy : Sp := fun vs H Q _ => ∃ (d : Addr) (p : Int) (tab : List (Int × Int)), vs = [.int p, .ref d] ∧ H d = some (.dK (dI tab)) ∧ (keysOf tab).Nodup ∧ 0 < p ∧ tab.length ≤ 900 ∧
  ∀ t ls H', H t = none → Good p ls → (∀ k, lv ls k = lv tab k % p) → ls.length ≤ tab.length → Pic H' t ls → Same H H' → Q (.ref t) H'
theorem ok_law_tidy (T : Tx K mg) : FnOk P w K mg base CX0 1 T.a_law_tidy T.d_law_tidy ["_law_p", "_law_chart"] sp_tidy := by
  refine T.F_law_tidy.ok sc_law_tidy (fun vs H Q E h => ?_) (fun cdv A outer s H vs Q E hr h => ?_)
  · obtain ⟨d, p, tab, rfl, _⟩ := h
    rfl
  · obtain ⟨d, p, tab, rfl, hd, hnd, hp, hlen, k⟩ := h
    refine ⟨_, (pss_cons (ps_setLc (i := 2) (own := [("_law_at", 3)]) rfl sc_law_tidy.nd rfl rfl (sw_true rfl rfl rfl (by decide +kernel)) (pi_list (pe_callB cr_sortedI (by rfl) T.n_sorted (by decide +kernel) (pa_cons (pe_callTy (call_listD rfl) (by rfl) T.n_list (by decide +kernel) (pa_cons (pv 1) pa_nil)) pa_nil))) (blkOk_by (own := [("_law_at", 3)]) (N := ["_law_p", "_law_chart", "_law_found", "_law_at", "_law_pair"]) (sc := defScope s_law_tidy) (by decide +kernel)) (fun _ _ _ _ _ => (pg_name (i := 3) sc_law_tidy.nd rfl (Or.inl rfl) (Or.inr rfl))) (fun _ _ _ _ _ => pts_nil) (fun _ _ _ _ _ => (pe_tup (pa_cons (pv 3) (pa_cons (pe_op op_mod (pe_callTy call_int1 (by rfl) T.n_int (by decide +kernel) (pa_cons (pe_dget (hu_of hr) (pv 1) (pv 3) (fun _ _ => rfl)) pa_nil)) (pv 0)) pa_nil)))))
      (pss_one (ps_ret (pe_callTy call_tupF (by rfl) T.n_tuple (by decide +kernel) (pa_cons (pe_lc (own := [("_law_pair", 4)]) rfl sc_law_tidy.nd (pi_list (pv 2)) (blkOk_by (own := [("_law_pair", 4)]) (N := ["_law_p", "_law_chart", "_law_found", "_law_at", "_law_pair"]) (sc := defScope s_law_tidy) (by decide +kernel)) (fun _ _ _ _ _ => (pg_name (i := 4) sc_law_tidy.nd rfl (Or.inl rfl) (Or.inr rfl))) (fun _ _ _ _ _ => (pts_one (pt_cmpR op_ne (pe_ix (ix_tupK rfl) (pv 4) pe_int (fun _ _ => rfl)) pe_int (nomark _)))) (fun _ _ _ _ _ => (pv 4))) pa_nil))))), ?_⟩
    walk_at "g"
    intro q hq
    refine ⟨q, keysOf tab, rfl, by rw [← dI_keys]; exact SqL.of upd_same, fun ns r hperm hsrt hr => ?_⟩
    have ndn : ns.Nodup := hperm.nodup_iff.mpr hnd
    have lenn : ns.length = tab.length := by
      have e1 := hperm.length_eq
      have e2 : (keysOf tab).length = tab.length := List.length_map _
      omega
    have s1 : Same H (upd (upd H q (.lst ((dI tab).map fun kv => kV kv.1))) r (.lst (ns.map V.int))) := (Same.new hq).trans (Same.new hr)
    refine ⟨r, rfl, ⟨_, SqL.of upd_same⟩, fun D hD => lc_list (K := K) (a := r) (xs := ns.map V.int) (fun i H2 => ∃ vs, Grow (upd (upd H q (.lst ((dI tab).map fun kv => kV kv.1))) r (.lst (ns.map V.int))) D H2 vs ((ns.take i).map fun z => (z, lv tab z % p)))
      ⟨[], Grow.start hD⟩ (fun i H2 _ ⟨vs, g⟩ => SqL.of (g.same _ _ upd_same)) ?_ ?_⟩
    · rintro i x H2 hi ⟨vs, g⟩
      obtain ⟨z, hz, rfl⟩ := int_at hi
      obtain ⟨l, hl⟩ := tget_of_key (hperm.mem_iff.mp (List.mem_of_getElem? hz))
      have ec : valV (dI tab) (Sum.inl z) = some (V.int l) := by rw [dI_get, hl]; rfl
      have elv : lv tab z = l := by
        unfold lv
        rw [hl]
        rfl
      refine ⟨rfl, ?_⟩
      refine ⟨_, rfl, _, rfl, _, rfl, d, V.int l, rfl, ?_, ?_⟩
      · rw [← ec]
        exact DGet.k (k := Sum.inl z) (g.same _ _ (s1 _ _ hd))
      · refine Or.inl ⟨l, rfl, _, rfl, _, _, rfl, rfl, hp, by show 2 ≤ sizeLine; decide, fun u hu => ⟨vs, ?_, ?_, vs ++ [.ref u], ?_⟩⟩
        · rw [upd_ne (ne_of_none g.lst hu)]
          exact g.lst
        · have e1 := Paired.len g.all
          rw [List.length_map, List.length_take] at e1
          exact small1M (by omega)
        · have e2 : (ns.take (i + 1)).map (fun z => (z, lv tab z % p)) = (ns.take i).map (fun z => (z, lv tab z % p)) ++ [(z, l % p)] := by
            rw [take_more hz, List.map_append]
            show _ ++ [(z, lv tab z % p)] = _
            rw [elv]
          rw [e2]
          exact g.more hu z (l % p)
    · rintro H2 ⟨vs, g⟩
      rw [List.length_map, List.take_length] at g
      have s2 : Same H H2 := s1.trans g.same
      have hvl : vs.length = ns.length := by
        have e1 := Paired.len g.all
        rw [List.length_map] at e1
        exact e1
      refine ⟨_, rfl, D, rfl, ⟨_, SqL.of g.lst⟩, fun D2 hD2 => lc_list (K := K) (a := D) (xs := vs) (fun i H3 => ∃ ws, H3 D2 = some (.lst ws) ∧ Paired (At2 H3) ws (((ns.map fun z => (z, lv tab z % p)).take i).filter fun ab => decide (ab.2 ≠ 0)) ∧ Same H2 H3)
        ⟨[], upd_same, .nil, Same.new hD2⟩ (fun i H3 _ ⟨_, _, _, sm⟩ => SqL.of (sm _ _ g.lst)) ?_ ?_⟩
      · rintro i x H3 hi ⟨ws, hw, hall, sm⟩
        obtain ⟨ab, u, eab, rfl, hu⟩ := pic_at g.all hi
        have hu3 := sm _ _ hu
        have enx : ((ns.map fun z => (z, lv tab z % p)).take (i + 1)).filter (fun ab => decide (ab.2 ≠ 0)) = ((ns.map fun z => (z, lv tab z % p)).take i).filter (fun ab => decide (ab.2 ≠ 0)) ++ [ab].filter (fun ab => decide (ab.2 ≠ 0)) := by
          rw [take_more eab, List.filter_append]
        refine ⟨rfl, ?_⟩
        by_cases h0 : ab.2 = 0
        · refine ⟨_, rfl, u, _, _, _, rfl, rfl, SqT.of hu3, atI_nat (j := 1) rfl, rfl, false, congrArg V.bl (congrArg Bool.not (show decide (V.int ab.2 = V.int 0) = true from decide_eq_true (congrArg V.int h0))), ?_⟩
          refine ⟨ws, hw, ?_, sm⟩
          rw [enx, List.filter_cons_of_neg (by simp [h0]), List.filter_nil, List.append_nil]
          exact hall
        · refine ⟨_, rfl, u, _, _, _, rfl, rfl, SqT.of hu3, atI_nat (j := 1) rfl, rfl, true, congrArg V.bl (congrArg Bool.not (show decide (V.int ab.2 = V.int 0) = false from decide_eq_false fun q => h0 (V.int.inj q))), ?_⟩
          have wl : ws.length ≤ i := by
            have e1 := Paired.len hall
            have e2 := List.length_filter_le (fun ab : Int × Int => decide (ab.2 ≠ 0)) ((ns.map fun z => (z, lv tab z % p)).take i)
            rw [List.length_take] at e2
            omega
          have il := (List.getElem?_eq_some_iff.mp hi).1
          have keepA : ∀ v cd, At2 H3 v cd → At2 (upd H3 D2 (.lst (ws ++ [.ref u]))) v cd := by
            rintro v cd ⟨r2, e, h⟩
            refine ⟨r2, e, ?_⟩
            rw [upd_ne (ne_of h hw fun c => by cases c)]
            exact h
          refine ⟨_, rfl, ws, hw, small1M (by omega), ws ++ [.ref u], upd_same, ?_, Same.put sm hD2⟩
          rw [enx, List.filter_cons_of_pos (by simp [h0]), List.filter_nil]
          exact Paired.snoc (Paired.mapP hall keepA) (keepA _ _ ⟨u, rfl, hu3⟩)
      · rintro H3 ⟨ws, hw, hall, sm⟩
        have elen : ((ns.map fun z => (z, lv tab z % p)).take vs.length) = ns.map fun z => (z, lv tab z % p) := by
          rw [List.take_of_length_le]
          rw [List.length_map, hvl]
          exact Nat.le_refl _
        rw [elen] at hall
        refine ⟨D2, ws, rfl, SqL.of hw, fun t its ht => ?_⟩
        have s4 : Same H (upd H3 t (.frz (plainT its) (.tup ws))) := (s2.trans sm).trans (Same.new ht)
        have hkeys : ∀ z, z ∈ ns ↔ z ∈ keysOf tab := fun z => hperm.mem_iff
        have hmk : keysOf (ns.map fun z => (z, lv tab z % p)) = ns := by
          unfold keysOf
          rw [map_fst_pair]
        refine k t ((ns.map fun z => (z, lv tab z % p)).filter fun ab => decide (ab.2 ≠ 0)) _ (back (s2.trans sm) ht) ⟨?_, ?_⟩ ?_ ?_ ⟨ws, ⟨its, upd_same⟩, Paired.mapP hall fun _ _ => At2.same (Same.new ht)⟩ s4
        · have hr := rising hsrt ndn
          rw [← hmk] at hr
          exact hr.sublist (List.filter_sublist.map _)
        · intro ab hab
          obtain ⟨h1, h2⟩ := List.mem_filter.mp hab
          have h2' : ab.2 ≠ 0 := of_decide_eq_true h2
          obtain ⟨z, _, rfl⟩ := List.mem_map.mp h1
          have m1 := Int.emod_nonneg (lv tab z) (Int.ne_of_gt hp)
          have m2 := Int.emod_lt_of_pos (lv tab z) hp
          exact ⟨by show 0 < lv tab z % p; have h3 : lv tab z % p ≠ 0 := h2'; omega, m2⟩
        · intro j
          rw [lv_filter (fun z => lv tab z % p) ndn j]
          by_cases m : j ∈ ns
          · rw [if_pos m]
          · rw [if_neg m, lv_out fun q => m ((hkeys j).mpr q), Int.zero_emod]
        · have e1 := List.length_filter_le (fun ab : Int × Int => decide (ab.2 ≠ 0)) (ns.map fun z => (z, lv tab z % p))
          rw [List.length_map] at e1
          omega


def sumS (m : Int) (acc : List (Int × Int)) (ab : Int × Int) : List (Int × Int) := tput acc (ab.1 + m) (lv acc (ab.1 + m) + ab.2)
def sumT (one other : List (Int × Int)) (m : Int) : List (Int × Int) := other.foldl (sumS m) one
theorem sumT_nd {m : Int} : ∀ {other acc : List (Int × Int)}, (keysOf acc).Nodup → (keysOf (sumT acc other m)).Nodup
  | [], _, h => h
  | ab :: r, acc, h => sumT_nd (other := r) (acc := sumS m acc ab) (nodup_tput _ _ h)
theorem sumT_len (m : Int) : ∀ (other acc : List (Int × Int)), (sumT acc other m).length ≤ acc.length + other.length
  | [], acc => Nat.le_refl _
  | ab :: r, acc => by
    have h1 := sumT_len m r (sumS m acc ab)
    have h2 := len_tput acc (ab.1 + m) (lv acc (ab.1 + m) + ab.2)
    show (sumT (sumS m acc ab) r m).length ≤ _
    have h3 : (sumS m acc ab).length ≤ acc.length + 1 := h2
    rw [List.length_cons]
    omega
theorem sumT_lv {m : Int} : ∀ {other acc : List (Int × Int)}, (keysOf other).Nodup → ∀ j, lv (sumT acc other m) j = lv acc j + lv other (j - m)
  | [], acc, _, j => by
    have e0 : lv [] (j - m) = 0 := rfl
    show lv acc j = _
    rw [e0, Int.add_zero]
  | ab :: r, acc, hn, j => by
    have hn' := List.nodup_cons.mp (show (ab.1 :: keysOf r).Nodup from hn)
    have ih := sumT_lv (m := m) (other := r) (acc := sumS m acc ab) hn'.2 j
    show lv (sumT (sumS m acc ab) r m) j = _
    rw [ih]
    unfold sumS
    rw [lv_put, lv_cons]
    by_cases e : j = ab.1 + m
    · have e2 : ab.1 = j - m := by omega
      have e3 : lv r (j - m) = 0 := by
        rw [← e2]
        exact lv_out hn'.1
      rw [if_pos e, if_pos e2, e3, ← e, Int.add_zero]
    · have e2 : ¬ ab.1 = j - m := by omega
      rw [if_neg e, if_neg e2]
/-- the parts of one round behind another -/
def Then (p : Int) (ls ls' : List (Int × Int)) (e : Int) (lz : List (Int × Int)) : Prop := Good p lz ∧ ∀ k, lv lz k = (lv ls k + lv ls' (k - e)) % p
def sp_lthen : Sp := fun vs H Q _ => ∃ (a b : Addr) (p e e' : Int) (ls ls' : List (Int × Int)), vs = [.ref a, .ref b] ∧ PartsAt H a p ls e ∧ PartsAt H b p ls' e' ∧ 0 < p ∧ Good p ls ∧ Good p ls' ∧ ls.length + ls'.length ≤ 900 ∧
  ∀ l lz H', H l = none → Then p ls ls' e lz → lz.length ≤ ls.length + ls'.length → PartsAt H' l p lz (e + e') → Same H H' → Q (.ref l) H'
theorem ok_law_then (T : Tx K mg) : FnOk P w K mg base CX0 2 T.a_law_then T.d_law_then ["_law_near", "_law_far"] sp_lthen := by
  refine T.F_law_then.ok sc_law_then (fun vs H Q E h => ?_) (fun cdv A outer s H vs Q E hr h => ?_)
  · obtain ⟨a, b, p, e, e', ls, ls', rfl, _⟩ := h
    rfl
  · obtain ⟨a, b, p, e, e', ls, ls', rfl, ⟨t, ha, hP⟩, ⟨t', hb, hP'⟩, hp, hg, hg', hlen, k⟩ := h
    refine ⟨_, (pss_cons (ps_asg (pv 0) (pg_unlK 3 rfl rfl (pgs_cons (pg_name (i := 2) sc_law_then.nd rfl (Or.inl rfl)) (pgs_cons (pg_name (i := 3) sc_law_then.nd rfl (Or.inl rfl)) (pgs_cons (pg_name (i := 4) sc_law_then.nd rfl (Or.inl rfl)) pgs_nil)))))
      (pss_cons (ps_set (i := 5) sc_law_then.nd rfl (Or.inl rfl) (pe_callTy (call_dictT rfl) (by rfl) T.n_dict (by decide +kernel) (pa_cons (pv 3) pa_nil)))
      (pss_cons (ps_for PassesOwn.never rfl (pi_tup (pe_ix ix_list (pv 1) pe_int (fun _ _ => rfl))) (pg_tupK 2 rfl rfl (pgs_cons (pg_name (i := 6) sc_law_then.nd rfl (Or.inl rfl)) (pgs_cons (pg_name (i := 7) sc_law_then.nd rfl (Or.inl rfl)) pgs_nil))) (pss_one (ps_dput (hu_of hr) (pv 5) (pe_op op_add (pv 6) (pv 4)) (pe_op op_add (pe_dget2 (hu_of hr) (pv 5) (pe_op op_add (pv 6) (pv 4)) pe_int ⟨rfl, rfl, rfl, rfl⟩) (pv 7)) rfl)))
      (pss_one (ps_ret (pe_lst (pa_cons (pv 2) (pa_cons (pe_call (ok_law_tidy T) (hr.mono (by decide)) rfl T.g_law_tidy T.F_law_tidy.kp T.b_law_tidy .nil pass0 (pa_cons (pv 2) (pa_cons (pv 5) pa_nil))) (pa_cons (pe_op op_add (pv 4) (pe_ix ix_list (pv 1) pe_int (fun _ _ => rfl))) pa_nil))))))))), ?_⟩
    refine ⟨_, rfl, a, _, rfl, SqL.of ha, rfl, _, _, rfl, _, _, rfl, _, _, rfl, rfl, ?_⟩
    refine ⟨_, rfl, t, ls, rfl, hP, fun d hd => ?_⟩
    have em : mergeK [] (dI ls) = dI ls := mergeK_dI ls [] hg.tab.nd
    rw [em]
    have s1 : Same H (upd H d (.dK (dI ls))) := Same.new hd
    obtain ⟨vs', ⟨itp, ht'⟩, hall'⟩ := hP'.same s1
    have hvl : vs'.length = ls'.length := Paired.len hall'
    refine ⟨_, rfl, b, _, _, _, rfl, rfl, SqL.of (s1 _ _ hb), by rfl, t', rfl, ⟨_, sqF ht'⟩, for_tup (K := K) (a := t') (xs := vs') (fun i σ H' => ∃ c1 c2, σ = [some (.ref a), some (.ref b), some (.int p), some (.ref t), some (.int e), some (.ref d), c1, c2] ∧ H' = upd H d (.dK (dI (sumT ls (ls'.take i) e))))
      ⟨_, _, rfl, rfl⟩ (fun i σ H' _ ⟨_, _, _, h⟩ => by rw [h]; exact sqF (by rw [upd_ne (ne_of ht' upd_same fun c => by cases c)]; rw [upd_ne (ne_of ht' upd_same fun c => by cases c)] at ht'; exact ht')) ?_ ?_⟩
    · rintro i v σ H1 hi ⟨c1, c2, rfl, rfl⟩
      obtain ⟨ab, q, eab, rfl, hq⟩ := pic_at hall' hi
      have hqd : q ≠ d := ne_of hq upd_same fun c => by cases c
      rw [upd_ne hqd] at hq
      have hq2 : upd H d (.dK (dI (sumT ls (ls'.take i) e))) q = some (.tup [.int ab.1, .int ab.2]) := by
        rw [upd_ne hqd]
        exact hq
      have enx : sumT ls (ls'.take (i + 1)) e = sumS e (sumT ls (ls'.take i) e) ab := by
        rw [take_more eab]
        unfold sumT
        rw [List.foldl_append]
        rfl
      have hacc : (sumT ls (ls'.take i) e).length < sizeLine := small1M (by have z := sumT_len e (ls'.take i) ls; rw [List.length_take] at z; omega)
      have eg : (valV (dI (sumT ls (ls'.take i) e)) (Sum.inl (ab.1 + e))).getD (V.int 0) = V.int (lv (sumT ls (ls'.take i) e) (ab.1 + e)) := by
        rw [dI_get]
        unfold lv
        cases tget (sumT ls (ls'.take i) e) (ab.1 + e) <;> rfl
      generalize sumT ls (ls'.take i) e = acc at hq2 enx hacc eg ⊢
      refine ⟨q, _, rfl, SqT.of hq2, rfl, _, _, rfl, _, _, rfl, rfl, ?_⟩
      refine ⟨_, rfl, d, rfl, Or.inl ⟨_, Or.inl upd_same⟩, _, rfl, _, rfl, _, _, rfl, rfl, _, DGet.k (k := Sum.inl (ab.1 + e)) upd_same, ?_⟩
      rw [eg]
      refine ⟨_, rfl, _, _, rfl, rfl, _, rfl, _, rfl, _, rfl, _, _, rfl, rfl, d, _, rfl, DPut.k (k := Sum.inl (ab.1 + e)) upd_same (by rw [dI_len]; exact hacc), ?_⟩
      refine ⟨_, _, rfl, ?_⟩
      rw [dI_put, enx, upd_upd]
      rfl
    · rintro σ H1 ⟨c1, c2, rfl, rfl⟩
      rw [hvl, List.take_length]
      have s2 : Same H (upd H d (.dK (dI (sumT ls ls' e)))) := Same.new hd
      have hsl := sumT_len e ls' ls
      refine ⟨_, rfl, _, rfl, _, rfl, d, p, sumT ls ls' e, rfl, upd_same, sumT_nd hg.tab.nd, hp, by omega, fun t2 lz H2 ht2 hgz hlv hlz hPz s3 => ?_⟩
      have s4 := s2.trans s3
      refine ⟨_, rfl, _, rfl, b, _, _, _, rfl, rfl, SqL.of (s4 _ _ hb), by rfl, _, _, rfl, rfl, by show 3 ≤ sizeLine; decide, fun l hl => ?_⟩
      refine k l lz _ (back s4 hl) ⟨hgz, fun j => ?_⟩ (by omega) ⟨t2, upd_same, hPz.same (Same.new hl)⟩ (s4.trans (Same.new hl))
      rw [hlv j, sumT_lv hg'.tab.nd]


/-- the parts of a round undone -/
def Back (p : Int) (ls : List (Int × Int)) (e : Int) (lz : List (Int × Int)) : Prop := Good p lz ∧ ∀ k, lv lz k = (-(lv ls (k + e))) % p
theorem back_lv {p e : Int} : ∀ {ls : List (Int × Int)}, (∀ ab ∈ ls, 0 < ab.2 ∧ ab.2 < p) → ∀ k, lv (ls.map fun ab => (ab.1 - e, p - ab.2)) k = (-(lv ls (k + e))) % p
  | [], _, k => by
    have e0 : lv [] (k + e) = 0 := rfl
    rw [e0]
    show (0 : Int) = _
    rw [Int.neg_zero, Int.zero_emod]
  | ab :: r, h, k => by
    have ih := back_lv (e := e) (ls := r) (fun cd hc => h cd (List.mem_cons_of_mem _ hc)) k
    have hab := h ab (List.mem_cons_self ..)
    rw [List.map_cons, lv_cons, lv_cons, ih]
    by_cases e1 : ab.1 = k + e
    · have e2 : ab.1 - e = k := by omega
      rw [if_pos e1, if_pos e2]
      have e3 : (-ab.2) % p = p - ab.2 := by
        have e4 : -ab.2 = (p - ab.2) + p * (-1) := by omega
        rw [e4, Int.add_mul_emod_self_left, Int.emod_eq_of_lt (by omega) (by omega)]
      rw [e3]
    · have e2 : ¬ ab.1 - e = k := by omega
      rw [if_neg e1, if_neg e2]
theorem back_good {p e : Int} {ls : List (Int × Int)} (h : Good p ls) : Good p (ls.map fun ab => (ab.1 - e, p - ab.2)) := by
  refine ⟨?_, fun cd hc => ?_⟩
  · have e1 : keysOf (ls.map fun ab => (ab.1 - e, p - ab.2)) = (keysOf ls).map fun z => z - e := by
      unfold keysOf
      rw [List.map_map, List.map_map]
      rfl
    rw [e1, List.pairwise_map]
    exact h.asc.imp fun h => by omega
  · obtain ⟨ab, hm, rfl⟩ := List.mem_map.mp hc
    have := h.lev ab hm
    exact ⟨by show 0 < p - ab.2; omega, by show p - ab.2 < p; omega⟩
def sp_lback : Sp := fun vs H Q _ => ∃ (a : Addr) (p e : Int) (ls : List (Int × Int)), vs = [.ref a] ∧ PartsAt H a p ls e ∧ Good p ls ∧ ls.length ≤ 900 ∧
  ∀ l lz H', H l = none → Back p ls e lz → lz.length = ls.length → PartsAt H' l p lz (-e) → Same H H' → Q (.ref l) H'
theorem ok_law_back (T : Tx K mg) : FnOk P w K mg base CX0 2 T.a_law_back T.d_law_back ["_law_parts"] sp_lback := by
  refine T.F_law_back.ok sc_law_back (fun vs H Q E h => ?_) (fun cdv A outer s H vs Q E hr h => ?_)
  · obtain ⟨a, p, e, ls, rfl, _⟩ := h
    rfl
  · obtain ⟨a, p, e, ls, rfl, ⟨t, ha, hP⟩, hg, hlen, k⟩ := h
    obtain ⟨vs, ⟨itp, ht⟩, hall⟩ := id hP
    have hvl : vs.length = ls.length := Paired.len hall
    refine ⟨_, (pss_cons (ps_asg (pv 0) (pg_unlK 3 rfl rfl (pgs_cons (pg_name (i := 1) sc_law_back.nd rfl (Or.inr rfl)) (pgs_cons (pg_name (i := 2) sc_law_back.nd rfl (Or.inl rfl)) (pgs_cons (pg_name (i := 3) sc_law_back.nd rfl (Or.inr rfl)) pgs_nil)))))
      (pss_one (ps_ret (pe_lst (pa_cons (pv 1) (pa_cons (pe_callTy call_tupF (by rfl) T.n_tuple (by decide +kernel) (pa_cons (pe_lc (own := [("_law_at", 4), ("_law_level", 5)]) rfl sc_law_back.nd (pi_tup (pv 2)) (blkOk_by (own := [("_law_at", 4), ("_law_level", 5)]) (N := ["_law_parts", "_law_p", "_law_lamps_here", "_law_last", "_law_at", "_law_level"]) (sc := defScope s_law_back) (by decide +kernel)) (fun _ _ _ _ _ => (pg_tupK 2 rfl rfl (pgs_cons (pg_name (i := 4) sc_law_back.nd rfl (Or.inl rfl) (Or.inr rfl)) (pgs_cons (pg_name (i := 5) sc_law_back.nd rfl (Or.inl rfl) (Or.inr rfl)) pgs_nil)))) (fun _ _ _ _ _ => pts_nil) (fun _ _ _ _ _ => (pe_tup (pa_cons (pe_op op_sub (pv 4) (pv 3)) (pa_cons (pe_op op_sub (pv 1) (pv 5)) pa_nil))))) pa_nil)) (pa_cons (pe_op op_sub pe_int (pv 3)) pa_nil))))))), ?_⟩
    refine ⟨_, rfl, a, _, rfl, SqL.of ha, rfl, _, _, rfl, _, _, rfl, _, _, rfl, rfl, ?_⟩
    refine ⟨_, rfl, _, rfl, t, rfl, ⟨vs, sqF ht⟩, fun D hD => lc_tup (K := K) (a := t) (xs := vs) (fun i H2 => ∃ ws, Grow H D H2 ws ((ls.take i).map fun ab => (ab.1 - e, p - ab.2)))
      ⟨[], Grow.start hD⟩ (fun i H2 _ ⟨ws, g⟩ => sqF (g.same _ _ ht)) ?_ ?_⟩
    · rintro i v H2 hi ⟨ws, g⟩
      obtain ⟨ab, q, eab, rfl, hq⟩ := pic_at hall hi
      refine ⟨q, _, rfl, SqT.of (g.same _ _ hq), rfl, _, _, rfl, _, _, rfl, rfl, rfl, ?_⟩
      refine ⟨_, rfl, _, rfl, _, _, rfl, rfl, _, rfl, _, rfl, _, _, rfl, rfl, by show 2 ≤ sizeLine; decide, fun u hu => ⟨ws, ?_, ?_, ws ++ [.ref u], ?_⟩⟩
      · rw [upd_ne (ne_of_none g.lst hu)]
        exact g.lst
      · have e1 := Paired.len g.all
        rw [List.length_map, List.length_take] at e1
        exact small1M (by omega)
      · rw [take_more eab, List.map_append]
        exact g.more hu (ab.1 - e) (p - ab.2)
    · rintro H2 ⟨ws, g⟩
      rw [hvl, List.take_length] at g
      refine ⟨D, ws, rfl, SqL.of g.lst, fun t2 its ht2 => ?_⟩
      have s1 : Same H (upd H2 t2 (.frz (plainT its) (.tup ws))) := Same.trans g.same (Same.new ht2)
      refine ⟨_, rfl, _, _, rfl, rfl, by show 3 ≤ sizeLine; decide, fun l hl => ?_⟩
      have hPz : Pic (upd H2 t2 (.frz (plainT its) (.tup ws))) t2 (ls.map fun ab => (ab.1 - e, p - ab.2)) := ⟨ws, ⟨its, upd_same⟩, Paired.mapP g.all fun _ _ => At2.same (Same.new ht2)⟩
      have ez : (0 : Int) - e = -e := Int.zero_sub e
      exact k l _ _ (back s1 hl) ⟨back_good hg, back_lv hg.lev⟩ (List.length_map _) ⟨t2, upd_same.trans (congrArg (fun z => some (HO.lst [V.int p, V.ref t2, V.int z])) ez), hPz.same (Same.new hl)⟩ (s1.trans (Same.new hl))


/-- a mate: few lamps, moderate numbers -/
def Mate (p : Int) (ls : List (Int × Int)) (e : Int) : Prop := GoodR p ls e ∧ ls.length ≤ 3 ∧ (∀ ab ∈ ls, Fin0 ab.1) ∧ Fin0 e
def sp_mate : Sp := fun vs H Q _ => ∃ (a : Addr) (p : Int), vs = [.ref a, .int p] ∧ Pl H a ∧ Lv p ∧ ∀ (l : Addr) (e : Int) (ls : List (Int × Int)) (H' : Hp), H l = none → Mate p ls e → PartsAt H' l p ls e → Pl H' a → Oth a H H' → Q (.ref l) H'
theorem few3_list {j : Nat} {v : V} (h : [V.int 0, .int 1, .int 2, .int 3][j]? = some v) : ∃ m : Int, v = .int m ∧ 0 ≤ m ∧ m ≤ 3 := by
  have hm := List.mem_of_getElem? h
  simp only [List.mem_cons, List.not_mem_nil, or_false] at hm
  rcases hm with rfl | rfl | rfl | rfl
  · exact ⟨0, rfl, by decide, by decide⟩
  · exact ⟨1, rfl, by decide, by decide⟩
  · exact ⟨2, rfl, by decide, by decide⟩
  · exact ⟨3, rfl, by decide, by decide⟩
theorem Fin0.small {i : Int} (h0 : -1000000 ≤ i) (h1 : i ≤ 1000000) : Fin0 i := by
  constructor
  · have : -(10 ^ 100 : Int) < -1000000 := by decide +kernel
    omega
  · have : (1000000 : Int) < 10 ^ 100 := by decide +kernel
    omega
theorem end_list {z : Int} (hz : Fin0 z) {j : Nat} {v : V} (h : [V.int 0, .int 1, .int (-1), .int 2, .int z][j]? = some v) : ∃ m : Int, v = .int m ∧ Fin0 m := by
  have hm := List.mem_of_getElem? h
  simp only [List.mem_cons, List.not_mem_nil, or_false] at hm
  rcases hm with rfl | rfl | rfl | rfl | rfl
  · exact ⟨0, rfl, Fin0.small (by decide) (by decide)⟩
  · exact ⟨1, rfl, Fin0.small (by decide) (by decide)⟩
  · exact ⟨-1, rfl, Fin0.small (by decide) (by decide)⟩
  · exact ⟨2, rfl, Fin0.small (by decide) (by decide)⟩
  · exact ⟨z, rfl, hz⟩
theorem ok_law_mate (T : Tx K mg) : FnOk P w K mg base CX0 5 T.a_law_mate T.d_law_mate ["_law_pail", "_law_p"] sp_mate := by
  refine T.F_law_mate.ok sc_law_mate (fun vs H Q E h => ?_) (fun cdv A outer s H vs Q E hr h => ?_)
  · obtain ⟨a, p, rfl, _⟩ := h
    rfl
  · obtain ⟨a, p, rfl, hP, hp, k⟩ := h
    have hpp := Lv.pos hp
    refine ⟨_, (pss_cons (ps_set (i := 2) sc_law_mate.nd rfl (Or.inl rfl) (pe_call (ok_law_picture T) (hr.mono (by decide)) rfl T.g_law_picture T.F_law_picture.kp T.b_law_picture .nil pass0 (pa_cons (pv 0) (pa_cons (pv 1) (pa_cons (pe_call (ok_law_any_of T) (hr.mono (by decide)) rfl T.g_law_any_of T.F_law_any_of.kp T.b_law_any_of .nil pass0 (pa_cons (pv 0) (pa_cons (pe_lst (pa_cons pe_int (pa_cons pe_int (pa_cons pe_int (pa_cons pe_int pa_nil))))) pa_nil))) pa_nil)))))
      (pss_one (ps_ret (pe_lst (pa_cons (pv 1) (pa_cons (pv 2) (pa_cons (pe_call (ok_law_any_of T) (hr.mono (by decide)) rfl T.g_law_any_of T.F_law_any_of.kp T.b_law_any_of .nil pass0 (pa_cons (pv 0) (pa_cons (pe_lst (pa_cons pe_int (pa_cons pe_int (pa_cons (pe_un un_neg pe_int) (pa_cons pe_int (pa_cons (pe_call (ok_law_place T) (hr.mono (by decide)) rfl T.g_law_place T.F_law_place.kp T.b_law_place .nil pass0 (pa_cons (pv 0) pa_nil)) pa_nil)))))) pa_nil))) pa_nil))))))), ?_⟩
    walk_at "g"
    refine ⟨by show 4 ≤ sizeLine; decide, fun l1 hl1 => ?_⟩
    refine ⟨a, l1, [.int 0, .int 1, .int 2, .int 3], rfl, hP.new hl1, hP.ne hl1, upd_same, by decide, by decide, fun j v H1 hv hP1 hO1 => ?_⟩
    obtain ⟨m, rfl, hm0, hm1⟩ := few3_list hv
    refine ⟨a, p, m, rfl, hP1, by have := hp; rcases hp with rfl | rfl | rfl | rfl <;> decide, hpp.2, hm0, by omega, fun t ls H2 ht hG hlen hfin hPic hP2 hO2 => ?_⟩
    walk_at "g"
    refine ⟨hP2, fun z H3 hz hP3 hO3 => ?_⟩
    refine ⟨by show 5 ≤ sizeLine; decide, fun l2 hl2 => ?_⟩
    refine ⟨a, l2, [.int 0, .int 1, .int (-1), .int 2, .int z], rfl, hP3.new hl2, hP3.ne hl2, upd_same, (show 0 < 5 by decide), (show 5 < 1000 by decide), fun j2 v2 H4 hv2 hP4 hO4 => ?_⟩
    obtain ⟨e, rfl, he⟩ := end_list hz hv2
    refine ⟨by show 3 ≤ sizeLine; decide, fun l hl => ?_⟩
    have hO5 : Oth a H H4 := (Oth.of (Same.new hl1)).trans (hO1.trans (hO2.trans (hO3.trans ((Oth.of (Same.new hl2)).trans hO4))))
    have hP5 : Pic H4 t ls := Pic.othP (hP3.new hl2) hO4 ((Pic.othP hP2 hO3 hPic).same (Same.new hl2))
    exact k l e ls _ (backO hO5 hP4 hl) ⟨⟨hp, hG, by omega, fun ab h => (hfin ab h).fin, he.fin⟩, by omega, hfin, he⟩ ⟨t, upd_same, hP5.same (Same.new hl)⟩ (hP4.new hl) (hO5.trans (Oth.of (Same.new hl)))


theorem pe_tup0 {X : Cx} {x1 : Nat} {pos : Pos} : PE X (.Tuple [] x1 pos) (fun σ H Q => ∀ p, H p = none → Q (.ref p) (upd H p (.frz (plainT []) (.tup [])))) := by
  refine ⟨fun pins s σ H Q I hq => ?_⟩
  refine wpAny_Tuple_spliced (thn ((pa_nil (X := X)).run pos pins s σ H (fun vs H1 => vs = [] ∧ H1 = H) I ⟨rfl, rfl⟩) fun us s1 ⟨xs, H1, I1, r, ex, eh⟩ => ?_)
  subst ex eh
  cases r
  refine ⟨Nat.zero_le _, ?_⟩
  have hf : H1 s1.heap.objs.size = none := I1.hok.fresh (Nat.le_refl _)
  refine ⟨.ref s1.heap.objs.size, upd H1 s1.heap.objs.size (.frz (plainT []) (.tup [])), I1.laid (t' := s1.toks) (fun b u e => Heap.get?_push_of_some _ e) (Nat.le_refl _) ?_, rfl, hq _ hf⟩
  exact ⟨Heap.get?_push_size _ rfl, Nat.zero_le _, [], .nil, ⟨_, Heap.get?_push_size _ rfl, rfl, _, rfl⟩⟩
theorem make_go2 {C x dx t : Addr} {p e : Int} {ls : List (Int × Int)} {H : Hp} {R : Hp → Prop} {E : XK} (hx : H x = none) (hdx : H dx = none) (hne : dx ≠ x) (hP : Pic H t ls) (hg : GoodR p ls e)
    (k : ∀ H', RoundG C H' x p ls e → Same H H' → R H') : sp_init C [.ref x, .int p, .ref t, .int e] (upd (upd H dx (.own x)) x (.ins C dx [])) (fun v H2 => v = .non ∧ R H2) E :=
  make_go (Q := fun _ H => R H) hx hdx hne hP hg k
/-! sizes and sums of rounds -/
structure Sz (n b : Nat) (p : Int) (ls : List (Int × Int)) (e : Int) : Prop where
  g : GoodR p ls e
  len : ls.length ≤ n
  pl : ∀ ab ∈ ls, -((b : Int) * 10 ^ 100) < ab.1 ∧ ab.1 < (b : Int) * 10 ^ 100
  en : -((b : Int) * 10 ^ 100) < e ∧ e < (b : Int) * 10 ^ 100
theorem em1 (a b p : Int) : (a % p + b) % p = (a + b) % p := by
  have h := Int.emod_add_mul_ediv a p
  have e : a % p + b = (a + b) + p * (-(a / p)) := by
    rw [Int.mul_neg]
    omega
  rw [e, Int.add_mul_emod_self_left]
theorem em2 (a b p : Int) : (a + b % p) % p = (a + b) % p := by
  rw [Int.add_comm, em1, Int.add_comm]
theorem em3 (a p : Int) : (-(a % p)) % p = (-a) % p := by
  have h := Int.emod_add_mul_ediv a p
  have e : -(a % p) = -a + p * (a / p) := by omega
  rw [e, Int.add_mul_emod_self_left]
theorem fin_of {b : Nat} {i : Int} (hb : b ≤ 100) (h : -((b : Int) * 10 ^ 100) < i ∧ i < (b : Int) * 10 ^ 100) : Fin1 i := by
  have e1 : (b : Int) ≤ 100 := by omega
  have e2 : (b : Int) * 10 ^ 100 ≤ 100 * 10 ^ 100 := Int.mul_le_mul_of_nonneg_right e1 (by decide +kernel)
  have e3 : (100 * 10 ^ 100 : Int) < 10 ^ 200 := by decide +kernel
  exact ⟨by omega, by omega⟩
theorem thenSz {n n' b b' : Nat} {p e e' : Int} {ls ls' : List (Int × Int)} (hx : Sz n b p ls e) (hy : Sz n' b' p ls' e') (hn : n + n' ≤ 400) (hb : b + b' ≤ 100) :
    TabR p (addT p ls ls' e 1) (e + e') ∧ ∀ lz, lz.Perm (addT p ls ls' e 1) → GoodR p lz (e + e') → Sz (n + n') (b + b') p lz (e + e') ∧ Then p ls ls' e lz := by
  have hp := (Lv.pos hx.g.lv).1
  have ht := Tab.addT (m := e) (c := 1) hp (other := ls') hx.g.pic.tab
  have hl := addT_len p e 1 ls' ls
  have l1 := hx.len
  have l2 := hy.len
  have sum : ((b + b' : Nat) : Int) * 10 ^ 100 = (b : Int) * 10 ^ 100 + (b' : Int) * 10 ^ 100 := by
    rw [Int.natCast_add, Int.add_mul]
  have q1 : 0 ≤ (b : Int) * 10 ^ 100 := Int.mul_nonneg (by omega) (by decide +kernel)
  have q2 : 0 ≤ (b' : Int) * 10 ^ 100 := Int.mul_nonneg (by omega) (by decide +kernel)
  have pl : ∀ ab ∈ addT p ls ls' e 1, -(((b + b' : Nat) : Int) * 10 ^ 100) < ab.1 ∧ ab.1 < ((b + b' : Nat) : Int) * 10 ^ 100 := by
    intro ab hm
    rw [sum]
    have h3 := hx.en
    rcases addT_mem hm with h | ⟨cd, h, e1⟩
    · have h4 := hx.pl ab h
      omega
    · have h4 := hy.pl cd h
      omega
  have en : -(((b + b' : Nat) : Int) * 10 ^ 100) < e + e' ∧ e + e' < ((b + b' : Nat) : Int) * 10 ^ 100 := by
    rw [sum]
    have h3 := hx.en
    have h4 := hy.en
    omega
  refine ⟨⟨hx.g.lv, ht, by omega, fun ab hm => fin_of hb (pl ab hm), fin_of hb en⟩, fun lz hperm hg => ⟨⟨hg, by rw [hperm.length_eq]; omega, fun ab hm => pl ab (hperm.mem_iff.mp hm), en⟩, hg.pic, fun k => ?_⟩⟩
  rw [lv_perm hg.pic.tab.nd hperm, addT_lv hp hx.g.pic.tab hy.g.pic.tab.nd, Int.one_mul]
theorem undSz {n b : Nat} {p e : Int} {ls : List (Int × Int)} (hx : Sz n b p ls e) (hn : n ≤ 400) (hb : b + b ≤ 100) :
    TabR p (addT p [] ls (-e) (-1)) (-e) ∧ ∀ lz, lz.Perm (addT p [] ls (-e) (-1)) → GoodR p lz (-e) → Sz n (b + b) p lz (-e) ∧ Back p ls e lz := by
  have hp := (Lv.pos hx.g.lv).1
  have t0 : Tab p [] := ⟨List.nodup_nil, fun _ h => by cases h⟩
  have ht := Tab.addT (m := -e) (c := -1) hp (other := ls) t0
  have hl := addT_len p (-e) (-1) ls []
  have hl' : (addT p [] ls (-e) (-1)).length ≤ ls.length := by
    have z : ([] : List (Int × Int)).length = 0 := rfl
    omega
  have l1 := hx.len
  have sum : ((b + b : Nat) : Int) * 10 ^ 100 = (b : Int) * 10 ^ 100 + (b : Int) * 10 ^ 100 := by
    rw [Int.natCast_add, Int.add_mul]
  have q1 : 0 ≤ (b : Int) * 10 ^ 100 := Int.mul_nonneg (by omega) (by decide +kernel)
  have h3 := hx.en
  have pl : ∀ ab ∈ addT p [] ls (-e) (-1), -(((b + b : Nat) : Int) * 10 ^ 100) < ab.1 ∧ ab.1 < ((b + b : Nat) : Int) * 10 ^ 100 := by
    intro ab hm
    rw [sum]
    rcases addT_mem hm with h | ⟨cd, h, e1⟩
    · cases h
    · have h4 := hx.pl cd h
      omega
  have en : -(((b + b : Nat) : Int) * 10 ^ 100) < -e ∧ -e < ((b + b : Nat) : Int) * 10 ^ 100 := by
    rw [sum]
    omega
  refine ⟨⟨hx.g.lv, ht, by omega, fun ab hm => fin_of hb (pl ab hm), fin_of hb en⟩, fun lz hperm hg => ⟨⟨hg, by rw [hperm.length_eq]; omega, fun ab hm => pl ab (hperm.mem_iff.mp hm), en⟩, hg.pic, fun k => ?_⟩⟩
  have e0 : lv [] k = 0 := rfl
  have e1 : k - -e = k + e := by omega
  rw [lv_perm hg.pic.tab.nd hperm, addT_lv hp t0 hx.g.pic.tab.nd, e0, Int.zero_add, e1]
  have e2 : -1 * lv ls (k + e) = -(lv ls (k + e)) := by omega
  rw [e2]
theorem Mate.sz {p e : Int} {ls : List (Int × Int)} (h : Mate p ls e) : Sz 3 1 p ls e := by
  obtain ⟨h1, h2, h3, h4⟩ := h
  refine ⟨h1, h2, fun ab hm => ?_, ?_⟩
  · have := h3 ab hm
    rw [Int.natCast_one, Int.one_mul]
    exact this
  · rw [Int.natCast_one, Int.one_mul]
    exact h4
theorem still_good {p : Int} (h : Lv p) : GoodR p [] 0 := ⟨h, ⟨List.Pairwise.nil, (fun _ h => by cases h)⟩, Nat.zero_le _, (fun _ h => by cases h), Fin1.small (by decide) (by decide)⟩
theorem still_sz {p : Int} (h : Lv p) : Sz 0 1 p [] 0 := ⟨still_good h, Nat.le_refl _, (fun _ h => by cases h), by rw [Int.natCast_one, Int.one_mul]; decide +kernel⟩
/-! the group's laws -/
section
variable {p : Int} {ls ls' ls'' l1 l2 l3 l4 : List (Int × Int)} {e e' : Int}
theorem lv_mod (hp : 0 < p) (h : Good p ls) (k : Int) : lv ls k % p = lv ls k := by
  have := h.tab.lv hp k
  exact Int.emod_eq_of_lt this.1 this.2
theorem lv_nil (k : Int) : lv [] k = 0 := rfl
theorem then_still (hp : 0 < p) (h : Good p ls) (t : Then p ls [] e l1) : l1 = ls := Good.ext t.1 h fun k => by rw [t.2, lv_nil, Int.add_zero, lv_mod hp h]
theorem still_then (hp : 0 < p) (h : Good p ls) (t : Then p [] ls 0 l1) : l1 = ls := Good.ext t.1 h fun k => by rw [t.2, lv_nil, Int.zero_add, Int.sub_zero, lv_mod hp h]
theorem then_same (t : Then p ls ls' e l1) (u : Then p ls ls' e l2) : l1 = l2 := Good.ext t.1 u.1 fun k => by rw [t.2, u.2]
theorem back_same (t : Back p ls e l1) (u : Back p ls e l2) : l1 = l2 := Good.ext t.1 u.1 fun k => by rw [t.2, u.2]
theorem assoc (t1 : Then p ls ls' e l1) (t2 : Then p l1 ls'' (e + e') l2) (t3 : Then p ls' ls'' e' l3) (t4 : Then p ls l3 e l4) : l2 = l4 := Good.ext t2.1 t4.1 fun k => by
  have e1 : k - (e + e') = k - e - e' := by omega
  rw [t2.2, t1.2, t4.2, t3.2, em1, em2, e1, Int.add_assoc]
theorem then_back (t : Back p ls e l1) (u : Then p ls l1 e l2) : l2 = [] := Good.ext u.1 ⟨List.Pairwise.nil, fun _ h => by cases h⟩ fun k => by
  have e1 : k - e + e = k := by omega
  rw [u.2, t.2, em2, lv_nil, e1, Int.add_right_neg, Int.zero_emod]
theorem back_then (t : Back p ls e l1) (u : Then p l1 ls (-e) l2) : l2 = [] := Good.ext u.1 ⟨List.Pairwise.nil, fun _ h => by cases h⟩ fun k => by
  have e1 : k - -e = k + e := by omega
  rw [u.2, t.2, em1, lv_nil, e1, Int.add_left_neg, Int.zero_emod]
theorem back_back (hp : 0 < p) (h : Good p ls) (t : Back p ls e l1) (u : Back p l1 (-e) l2) : l2 = ls := Good.ext u.1 h fun k => by
  have e1 : k + -e + e = k := by omega
  rw [u.2, t.2, em3, e1, Int.neg_neg, lv_mod hp h]
theorem back_of_then (t1 : Then p ls ls' e l1) (t2 : Back p l1 (e + e') l2) (t3 : Back p ls' e' l3) (t4 : Back p ls e l4) {l5 : List (Int × Int)} (t5 : Then p l3 l4 (-e') l5) : l2 = l5 := Good.ext t2.1 t5.1 fun k => by
  have e1 : k + (e + e') - e = k + e' := by omega
  have e2 : k - -e' + e = k + (e + e') := by omega
  rw [t2.2, t1.2, t5.2, t3.2, t4.2, em3, em1, em2, e1, e2, Int.neg_add, Int.add_comm]
theorem still_back (t : Back p [] 0 l1) : l1 = [] := Good.ext t.1 ⟨List.Pairwise.nil, fun _ h => by cases h⟩ fun k => by rw [t.2, lv_nil, Int.neg_zero, Int.zero_emod, lv_nil]
end


def sp_right : Sp := fun vs H Q _ => ∃ a : Addr, vs = [.ref a] ∧ Pl H a ∧ ∀ H', Oth a H H' → Q (.bl true) H'
def dTwo (p : Int) (ls : List (Int × Int)) (e : Int) : PyData := .list [dParts p ls e, dParts p ls e]
theorem rp_two {p e : Int} {ls : List (Int × Int)} (hp : Fin1 p) (he : Fin1 e) (hl : ∀ ab ∈ ls, Fin1 ab.1 ∧ Fin1 ab.2) (hn : ls.length ≤ 1000) : Rp (dTwo p ls e) := by
  obtain ⟨s1, s2, s3⟩ := show_pairs hl
  have d1 := parts_depth p ls e
  refine Rp.of ?_ ?_ ?_ ?_ ?_
  · simp [dTwo, dParts, dPic, PyData.showable, PyData.showableAll, s1, hp.log, he.log]
  · simp [dTwo, dParts, dPic, PyData.hasDict, PyData.hasDictAll, s2]
  · unfold dTwo
    rw [PyData.depth]
    simp only [PyData.depthAll]
    omega
  · have e1 : decide ((PyData.shown (.int p)).length ≤ 201) = true := hp.short
    have e2 : decide ((PyData.shown (.int e)).length ≤ 201) = true := he.short
    simp only [dTwo, dParts, dPic, PyData.leavesShort, PyData.leavesShortAll, s3, e1, e2]
    rfl
  · simp only [dTwo, dParts, dPic, PyData.bulk, PyData.bulkAll, bulk_pairs]
    omega
theorem Dp.parts {K : PySem.W.Frag} {H : Hp} {l : Addr} {p e : Int} {ls : List (Int × Int)} (h : PartsAt H l p ls e) : Dp K H (.ref l) (dParts p ls e) := by
  obtain ⟨t, h1, h2⟩ := h
  exact .lst (SqL.of h1) (.cons (.int _) (.cons (Dp.pic h2) (.cons (.int _) .nil)))
/-- what != is asked: both rounds are there, alike -/
theorem ne_same {K : PySem.W.Frag} {C x y : Addr} {H : Hp} {p e : Int} {ls : List (Int × Int)} {E : XK} {R : V → Hp → Prop} (hx : RoundAt C H x p ls e) (hy : RoundAt C H y p ls e) (k : ∀ H', Same H H' → R (.bl false) H') : rNeOwn K C (sp_eq C) E (.ref x) (.ref y) H R := by
  obtain ⟨dx, t, h1, h2⟩ := id hx
  obtain ⟨dy, t', h3, h4⟩ := id hy
  refine ⟨x, dx, _, y, C, dy, _, rfl, rfl, h1, h3, notFirst_self _, x, y, p, p, e, e, ls, ls, rfl, hx, hy, fun H' s => ⟨_, rfl, ?_⟩⟩
  have c : decide (p = p ∧ ls = ls ∧ e = e) = true := decide_eq_true ⟨rfl, rfl, rfl⟩
  rw [c]
  exact k H' s
theorem ok_law_right (T : Tx K mg) : Gd.FnG P w K mg base CX0 20 T.a_law_right T.d_law_right ["_law_pail"] sp_right := by
  refine okG0 T.F_law_right sc_law_right (fun vs H Q E h => ?_) (fun cdv A outer s H vs Q E hgd hr h => ?_)
  · obtain ⟨a, rfl, _⟩ := h
    rfl
  · obtain ⟨a, rfl, hP, k⟩ := h
    refine ⟨_, (pss_cons (ps_for PassesOwn.never rfl (pi_range1 (by rfl) T.n_range (pa_cons pe_int pa_nil)) (pg_name (i := 1) sc_law_right.nd rfl (Or.inl rfl)) (pss_cons (ps_set (i := 2) sc_law_right.nd rfl (Or.inl rfl) (pe_call (ok_law_any_of T) (hr.mono (by decide)) rfl T.g_law_any_of T.F_law_any_of.kp T.b_law_any_of .nil pass0 (pa_cons (pv 0) (pa_cons (pe_lst (pa_cons pe_int (pa_cons pe_int (pa_cons pe_int (pa_cons pe_int pa_nil))))) pa_nil))))
      (pss_cons (ps_par3 (i := 3) (j := 4) (l := 5) rfl sc_law_right.nd rfl rfl rfl (by decide) (by decide) (by decide) rfl rfl rfl (pa_cons (pe_call (ok_law_mate T) (hr.mono (by decide)) rfl T.g_law_mate T.F_law_mate.kp T.b_law_mate .nil pass0 (pa_cons (pv 0) (pa_cons (pv 2) pa_nil))) (pa_cons (pe_call (ok_law_mate T) (hr.mono (by decide)) rfl T.g_law_mate T.F_law_mate.kp T.b_law_mate .nil pass0 (pa_cons (pv 0) (pa_cons (pv 2) pa_nil))) (pa_cons (pe_call (ok_law_mate T) (hr.mono (by decide)) rfl T.g_law_mate T.F_law_mate.kp T.b_law_mate .nil pass0 (pa_cons (pv 0) (pa_cons (pv 2) pa_nil))) pa_nil))) rfl)
      (pss_cons (ps_par3 (i := 6) (j := 7) (l := 8) rfl sc_law_right.nd rfl rfl rfl (by decide) (by decide) (by decide) rfl rfl rfl (pa_cons (pe_call (ok_law_built T) (hr.mono (by decide)) rfl T.g_law_built T.F_law_built.kp T.b_law_built .nil pass0 (pa_cons (pv 0) (pa_cons (pv 3) pa_nil))) (pa_cons (pe_call (ok_law_of T) (hr.mono (by decide)) rfl T.g_law_of T.F_law_of.kp T.b_law_of .nil pass0 (pa_cons (pv 4) pa_nil)) (pa_cons (pe_call (ok_law_of T) (hr.mono (by decide)) rfl T.g_law_of T.F_law_of.kp T.b_law_of .nil pass0 (pa_cons (pv 5) pa_nil)) pa_nil))) rfl)
      (pss_cons (ps_par (i := 9) (j := 10) rfl sc_law_right.nd rfl rfl (by decide) rfl rfl (pa_cons (pe_make T.mk_Round (ok_Round_init T) (hr.mono (by decide)) rfl T.g_Round T.b_Round_init .nil pass0 (pa_cons (pv 2) (pa_cons pe_tup0 (pa_cons pe_int pa_nil)))) (pa_cons (pe_call (ok_law_then T) (hr.mono (by decide)) rfl T.g_law_then T.F_law_then.kp T.b_law_then .nil pass0 (pa_cons (pv 3) (pa_cons (pv 4) pa_nil))) pa_nil)) rfl)
      (pss_cons (ps_if (pt_cmpR op_ne (pe_callB (Gd.call_repr hgd hr) (by rfl) T.n_repr (by decide +kernel) (pa_cons (pe_lst (pa_cons (pe_call (ok_law_told T) (hr.mono (by decide)) rfl T.g_law_told T.F_law_told.kp T.b_law_told .nil pass0 (pa_cons (pe_call (ok_then T) (hr.mono (by decide)) rfl T.g_then T.F_then.kp T.b_then .nil pass0 (pa_cons (pv 6) (pa_cons (pv 7) pa_nil))) pa_nil)) (pa_cons (pe_call (ok_law_told T) (hr.mono (by decide)) rfl T.g_law_told T.F_law_told.kp T.b_law_told .nil pass0 (pa_cons (pe_callK0 (E := E0) (ok_then T) (hr.mono (by decide)) rfl T.g_then T.F_then.kp T.kb_then_second_trip pass0 (pk_cons (pv 7) (pk_cons (pv 6) pk_nil))) pa_nil)) pa_nil))) pa_nil)) (pe_callB (Gd.call_repr hgd hr) (by rfl) T.n_repr (by decide +kernel) (pa_cons (pe_lst (pa_cons (pv 10) (pa_cons (pv 10) pa_nil))) pa_nil)) (nomark _)) (pss_one (ps_ret pe_bl)) pss_nil)
      (pss_cons (ps_if (PW.pt (pw_or (pt_cmpR (op_neOwn (E := E0) T.si_Round.cm T.ne_Round T.fi_Round_eq T.is_Round_eq (raw0 (ok_Round_eq T) T.b_Round_eq) (hr.mono (by decide)) pass0) (pe_call (ok_then T) (hr.mono (by decide)) rfl T.g_then T.F_then.kp T.b_then .nil pass0 (pa_cons (pv 6) (pa_cons (pv 9) pa_nil))) (pv 6) (nomark _)) (pw_or (pt_cmpR (op_neOwn (E := E0) T.si_Round.cm T.ne_Round T.fi_Round_eq T.is_Round_eq (raw0 (ok_Round_eq T) T.b_Round_eq) (hr.mono (by decide)) pass0) (pe_call (ok_then T) (hr.mono (by decide)) rfl T.g_then T.F_then.kp T.b_then .nil pass0 (pa_cons (pv 9) (pa_cons (pv 6) pa_nil))) (pv 6) (nomark _)) (pw_or1 (pt_cmpR (op_neOwn (E := E0) T.si_Round.cm T.ne_Round T.fi_Round_eq T.is_Round_eq (raw0 (ok_Round_eq T) T.b_Round_eq) (hr.mono (by decide)) pass0) (pe_call (ok_then T) (hr.mono (by decide)) rfl T.g_then T.F_then.kp T.b_then .nil pass0 (pa_cons (pe_call (ok_then T) (hr.mono (by decide)) rfl T.g_then T.F_then.kp T.b_then .nil pass0 (pa_cons (pv 6) (pa_cons (pv 7) pa_nil))) (pa_cons (pv 8) pa_nil))) (pe_call (ok_then T) (hr.mono (by decide)) rfl T.g_then T.F_then.kp T.b_then .nil pass0 (pa_cons (pv 6) (pa_cons (pe_call (ok_then T) (hr.mono (by decide)) rfl T.g_then T.F_then.kp T.b_then .nil pass0 (pa_cons (pv 7) (pa_cons (pv 8) pa_nil))) pa_nil))) (nomark _)))))) (pss_one (ps_ret pe_bl)) pss_nil)
      (pss_cons (ps_set (i := 11) sc_law_right.nd rfl (Or.inl rfl) (pe_call (ok_law_back T) (hr.mono (by decide)) rfl T.g_law_back T.F_law_back.kp T.b_law_back .nil pass0 (pa_cons (pv 3) pa_nil)))
      (pss_cons (ps_if (pt_cmpR op_ne (pe_callB (Gd.call_repr hgd hr) (by rfl) T.n_repr (by decide +kernel) (pa_cons (pe_lst (pa_cons (pe_call (ok_law_told T) (hr.mono (by decide)) rfl T.g_law_told T.F_law_told.kp T.b_law_told .nil pass0 (pa_cons (pe_call (ok_undone T) (hr.mono (by decide)) rfl T.g_undone T.F_undone.kp T.b_undone .nil pass0 (pa_cons (pv 6) pa_nil)) pa_nil)) (pa_cons (pe_call (ok_law_told T) (hr.mono (by decide)) rfl T.g_law_told T.F_law_told.kp T.b_law_told .nil pass0 (pa_cons (pe_callK0 (E := E0) (ok_undone T) (hr.mono (by decide)) rfl T.g_undone T.F_undone.kp T.kb_undone_trip pass0 (pk_cons (pv 6) pk_nil)) pa_nil)) pa_nil))) pa_nil)) (pe_callB (Gd.call_repr hgd hr) (by rfl) T.n_repr (by decide +kernel) (pa_cons (pe_lst (pa_cons (pv 11) (pa_cons (pv 11) pa_nil))) pa_nil)) (nomark _)) (pss_one (ps_ret pe_bl)) pss_nil)
      (pss_cons (ps_if (PW.pt (pw_or (pt_cmpR (op_neOwn (E := E0) T.si_Round.cm T.ne_Round T.fi_Round_eq T.is_Round_eq (raw0 (ok_Round_eq T) T.b_Round_eq) (hr.mono (by decide)) pass0) (pe_call (ok_then T) (hr.mono (by decide)) rfl T.g_then T.F_then.kp T.b_then .nil pass0 (pa_cons (pv 6) (pa_cons (pe_call (ok_undone T) (hr.mono (by decide)) rfl T.g_undone T.F_undone.kp T.b_undone .nil pass0 (pa_cons (pv 6) pa_nil)) pa_nil))) (pv 9) (nomark _)) (pw_or (pt_cmpR (op_neOwn (E := E0) T.si_Round.cm T.ne_Round T.fi_Round_eq T.is_Round_eq (raw0 (ok_Round_eq T) T.b_Round_eq) (hr.mono (by decide)) pass0) (pe_call (ok_then T) (hr.mono (by decide)) rfl T.g_then T.F_then.kp T.b_then .nil pass0 (pa_cons (pe_call (ok_undone T) (hr.mono (by decide)) rfl T.g_undone T.F_undone.kp T.b_undone .nil pass0 (pa_cons (pv 6) pa_nil)) (pa_cons (pv 6) pa_nil))) (pv 9) (nomark _)) (pw_or1 (pt_cmpR (op_neOwn (E := E0) T.si_Round.cm T.ne_Round T.fi_Round_eq T.is_Round_eq (raw0 (ok_Round_eq T) T.b_Round_eq) (hr.mono (by decide)) pass0) (pe_call (ok_undone T) (hr.mono (by decide)) rfl T.g_undone T.F_undone.kp T.b_undone .nil pass0 (pa_cons (pe_call (ok_undone T) (hr.mono (by decide)) rfl T.g_undone T.F_undone.kp T.b_undone .nil pass0 (pa_cons (pv 6) pa_nil)) pa_nil)) (pv 6) (nomark _)))))) (pss_one (ps_ret pe_bl)) pss_nil)
      (pss_one (ps_if (PW.pt (pw_or (pt_cmpR (op_neOwn (E := E0) T.si_Round.cm T.ne_Round T.fi_Round_eq T.is_Round_eq (raw0 (ok_Round_eq T) T.b_Round_eq) (hr.mono (by decide)) pass0) (pe_call (ok_undone T) (hr.mono (by decide)) rfl T.g_undone T.F_undone.kp T.b_undone .nil pass0 (pa_cons (pe_call (ok_then T) (hr.mono (by decide)) rfl T.g_then T.F_then.kp T.b_then .nil pass0 (pa_cons (pv 6) (pa_cons (pv 7) pa_nil))) pa_nil)) (pe_call (ok_then T) (hr.mono (by decide)) rfl T.g_then T.F_then.kp T.b_then .nil pass0 (pa_cons (pe_call (ok_undone T) (hr.mono (by decide)) rfl T.g_undone T.F_undone.kp T.b_undone .nil pass0 (pa_cons (pv 7) pa_nil)) (pa_cons (pe_call (ok_undone T) (hr.mono (by decide)) rfl T.g_undone T.F_undone.kp T.b_undone .nil pass0 (pa_cons (pv 6) pa_nil)) pa_nil))) (nomark _)) (pw_or1 (pt_cmpR (op_neOwn (E := E0) T.si_Round.cm T.ne_Round T.fi_Round_eq T.is_Round_eq (raw0 (ok_Round_eq T) T.b_Round_eq) (hr.mono (by decide)) pass0) (pe_call (ok_undone T) (hr.mono (by decide)) rfl T.g_undone T.F_undone.kp T.b_undone .nil pass0 (pa_cons (pv 9) pa_nil)) (pv 9) (nomark _))))) (pss_one (ps_ret pe_bl)) pss_nil))))))))))))
      (pss_one (ps_ret pe_bl))), ?_⟩
    refine ⟨_, rfl, by decide, by decide, for_range (n := 8) (fun i σ H' => ∃ v1 v2 v3 v4 v5 v6 v7 v8 v9 va vb, σ = [some (.ref a), v1, v2, v3, v4, v5, v6, v7, v8, v9, va, vb] ∧ Pl H' a ∧ Oth a H H') ⟨_, _, _, _, _, _, _, _, _, _, _, rfl, hP, Oth.refl H⟩ ?_ ?_⟩
    · rintro i σ H1 hi ⟨v1, v2, v3, v4, v5, v6, v7, v8, v9, va, vb, rfl, hP1, hO1⟩
      refine ⟨_, rfl, by show 4 ≤ sizeLine; decide, fun l1 hl1 => ?_⟩
      refine ⟨a, l1, [.int 2, .int 3, .int 5, .int 7], rfl, hP1.new hl1, hP1.ne hl1, upd_same, by decide, by decide, fun j v H2 hv hP2 hO2 => ?_⟩
      obtain ⟨p, rfl, hp⟩ := lv_list hv
      have hpp := (Lv.pos hp).1
      have hO2' : Oth a H H2 := hO1.trans ((Oth.of (Same.new hl1)).trans hO2)
      refine ⟨_, rfl, _, rfl, a, p, rfl, hP2, hp, fun near e1 ls1 H3 hn3 hM1 hA1 hP3 hO3 => ?_⟩
      refine ⟨_, rfl, _, rfl, a, p, rfl, hP3, hp, fun far e2 ls2 H4 hn4 hM2 hA2 hP4 hO4 => ?_⟩
      refine ⟨_, rfl, _, rfl, a, p, rfl, hP4, hp, fun more e3 ls3 H5 hn5 hM3 hA3 hP5 hO5 => ?_⟩
      have hna := hP2.ne hn3
      have hfa := hP3.ne hn4
      have hma := hP4.ne hn5
      have hA1' := (hA1.oth hP3 hna hO4).oth hP4 hna hO5
      have hA2' := hA2.oth hP4 hfa hO5
      refine ⟨_, _, _, rfl, ?_⟩
      refine ⟨_, rfl, _, rfl, a, near, p, e1, ls1, rfl, hP5, hna, hA1', hM1.1, fun x H6 hx6 hRx hP6 hO6 => ?_⟩
      have hB1 := hA1'.oth hP5 hna hO6
      have hB2 := hA2'.oth hP5 hfa hO6
      have hB3 := hA3.oth hP5 hma hO6
      refine ⟨_, rfl, far, p, e2, ls2, rfl, hB2, hM2.1, fun y H7 hy7 hRy s7 => ?_⟩
      refine ⟨_, rfl, more, p, e3, ls3, rfl, hB3.same s7, hM3.1, fun z H8 hz8 hRz s8 => ?_⟩
      refine ⟨_, _, _, rfl, ?_⟩
      have z1 := hM1.sz
      have z2 := hM2.sz
      have z3 := hM3.sz
      have z0 := still_sz hp
      refine ⟨_, rfl, ?_⟩
      intro q hq
      intro st dst hst hdst hnst
      have s9a : Same H8 (upd H8 q (.frz (plainT []) (.tup []))) := Same.new hq
      refine make_go2 hst hdst hnst ⟨[], ⟨[], upd_same⟩, .nil⟩ (still_good hp) fun H9 hRs s9b => ?_
      have s9 := s9a.trans s9b
      have s69 := (s7.trans s8).trans s9
      refine ⟨_, rfl, _, rfl, near, far, p, e1, e2, ls1, ls2, rfl, hB1.same s69, hB2.same s69, hpp, hM1.1.pic, hM2.1.pic, (by have h1 := hM1.2.1; have h2 := hM2.2.1; omega), fun due lz H10 hdue hTz hlz hPd s10 => ?_⟩
      have s610 := s69.trans s10
      have hX := hRx.same s610
      have hY := hRy.same ((s8.trans s9).trans s10)
      have hZ := hRz.same (s9.trans s10)
      have hS := hRs.same s10
      have hA1'' := hB1.same s610
      refine ⟨_, _, rfl, ?_⟩
      clear hRx hRy hRz hRs
      have hOO : ∀ H', Same H10 H' → Pl H' a ∧ Oth a H H' := fun H' s => ⟨hP6.same (s610.trans s), hO2'.trans (hO3.trans (hO4.trans (hO5.trans (hO6.trans (Oth.of (s610.trans s))))))⟩
      generalize hH10 : H10 = HA at hX hY hZ hS hPd hA1'' hOO hdue s10 ⊢
      -- the first test
      have y12 := thenSz z1 z2 (by decide) (by decide)
      refine ⟨_, rfl, _, rfl, x, y, p, e1, e2, ls1, ls2, rfl, hX, hY, y12.1, fun w1 lw1 G1 hw1 hpm1 hRw1 t1 => ?_⟩
      have hw1 := y12.2 lw1 hpm1 hRw1.2
      have ew1 := then_same hw1.2 hTz
      subst ew1
      refine ⟨w1, p, e1 + e2, lw1, rfl, hRw1.1, fun r1 G2 hr1 hAr1 t2 => ?_⟩
      have t12 := t1.trans t2
      refine ⟨_, rfl, _, rfl, rfl, rfl, x, y, p, e1, e2, ls1, ls2, rfl, hX.same t12, hY.same t12, y12.1, fun w2 lw2 G3 hw2 hpm2 hRw2 t3 => ?_⟩
      have hw2 := y12.2 lw2 hpm2 hRw2.2
      have ew2 := then_same hw2.2 hTz
      subst ew2
      refine ⟨w2, p, e1 + e2, lw2, rfl, hRw2.1, fun r2 G4 hr2 hAr2 t4 => ?_⟩
      have t14 := (t12.trans t3).trans t4
      refine ⟨by show 2 ≤ sizeLine; decide, fun n1 hn1 => ?_⟩
      have rp2 := rp_two z1.g.fp hw2.1.g.fe hw2.1.g.fls (by have := hw2.1.len; omega)
      have k1 : Same G4 (upd G4 n1 (.lst [.ref r1, .ref r2])) := Same.new hn1
      refine ⟨n1, dTwo p lw2 (e1 + e2), rfl, .lst (SqL.of upd_same) (.cons (Dp.parts (((hAr1.same t3).same t4).same k1)) (.cons (Dp.parts (hAr2.same k1)) .nil)), rp2.sh, rp2.nd, rp2.dp, rp2.ln, ?_⟩
      have t15 := t14.trans k1
      refine ⟨_, rfl, _, rfl, by show 2 ≤ sizeLine; decide, fun n2 hn2 => ?_⟩
      have k2 : Same (upd G4 n1 (.lst [.ref r1, .ref r2])) (upd (upd G4 n1 (.lst [.ref r1, .ref r2])) n2 (.lst [.ref due, .ref due])) := Same.new hn2
      have t16 := t15.trans k2
      refine ⟨n2, dTwo p lw2 (e1 + e2), rfl, .lst (SqL.of upd_same) (.cons (Dp.parts (hPd.same t16)) (.cons (Dp.parts (hPd.same t16)) .nil)), rp2.sh, rp2.nd, rp2.dp, rp2.ln, ?_⟩
      have c1 : decide (V.str (dTwo p lw2 (e1 + e2)).shown = V.str (dTwo p lw2 (e1 + e2)).shown) = true := vstr_eq rfl
      refine ⟨rfl, false, congrArg V.bl (congrArg Bool.not c1), ?_⟩
      generalize upd (upd G4 n1 (.lst [.ref r1, .ref r2])) n2 (.lst [.ref due, .ref due]) = HB at t16 ⊢
      clear t12 t14 t15 k1 k2
      -- the second test
      have y10 := thenSz z1 z0 (by decide) (by decide)
      have y01 := thenSz z0 z1 (by decide) (by decide)
      have y23 := thenSz z2 z3 (by decide) (by decide)
      refine ⟨_, rfl, _, rfl, x, st, p, e1, 0, ls1, [], rfl, hX.same t16, hS.same t16, y10.1, fun u1 lu1 J1 hu1 hp1 hQ1 a1 => ?_⟩
      rw [then_still hpp hM1.1.pic (y10.2 lu1 hp1 hQ1.2).2, Int.add_zero] at hQ1
      have b1 := t16.trans a1
      refine ⟨_, rfl, ne_same hQ1.1 (hX.same b1).1 fun J2 a2 => ?_⟩
      have b2 := b1.trans a2
      refine ⟨_, rfl, ?_⟩
      refine ⟨_, rfl, _, rfl, st, x, p, 0, e1, [], ls1, rfl, hS.same b2, hX.same b2, y01.1, fun u2 lu2 J3 hu2 hp2 hQ2 a3 => ?_⟩
      rw [still_then hpp hM1.1.pic (y01.2 lu2 hp2 hQ2.2).2, Int.zero_add] at hQ2
      have b3 := b2.trans a3
      refine ⟨_, rfl, ne_same hQ2.1 (hX.same b3).1 fun J4 a4 => ?_⟩
      have b4 := b3.trans a4
      refine ⟨_, rfl, ?_⟩
      refine ⟨_, rfl, _, rfl, x, y, p, e1, e2, ls1, ls2, rfl, hX.same b4, hY.same b4, y12.1, fun u3 lu3 J5 hu3 hp3 hQ3 a5 => ?_⟩
      have b5 := b4.trans a5
      have g3 := y12.2 lu3 hp3 hQ3.2
      have y123 := thenSz g3.1 z3 (by decide) (by decide)
      refine ⟨_, rfl, u3, z, p, e1 + e2, e3, lu3, ls3, rfl, hQ3, hZ.same b5, y123.1, fun u4 lu4 J6 hu4 hp4 hQ4 a6 => ?_⟩
      have b6 := b5.trans a6
      have g4 := y123.2 lu4 hp4 hQ4.2
      refine ⟨_, rfl, _, rfl, _, rfl, y, z, p, e2, e3, ls2, ls3, rfl, hY.same b6, hZ.same b6, y23.1, fun u5 lu5 J7 hu5 hp5 hQ5 a7 => ?_⟩
      have b7 := b6.trans a7
      have g5 := y23.2 lu5 hp5 hQ5.2
      have y1v := thenSz z1 g5.1 (by decide) (by decide)
      refine ⟨x, u5, p, e1, e2 + e3, ls1, lu5, rfl, hX.same b7, hQ5, y1v.1, fun u6 lu6 J8 hu6 hp6 hQ6 a8 => ?_⟩
      have b8 := b7.trans a8
      have g6 := y1v.2 lu6 hp6 hQ6.2
      have hQ4' := (hQ4.same a7).same a8
      rw [assoc g3.2 g4.2 g5.2 g6.2, Int.add_assoc] at hQ4'
      refine ne_same hQ4'.1 hQ6.1 fun J9 a9 => ?_
      have b9 := b8.trans a9
      refine ⟨_, rfl, ?_⟩
      -- undone
      refine ⟨_, rfl, near, p, e1, ls1, rfl, hA1''.same b9, hM1.1.pic, (by have := hM1.2.1; omega), fun bk lb J10 hbk hBk hlb hPb a10 => ?_⟩
      have b10 := b9.trans a10
      have ux := undSz z1 (by decide) (by decide)
      have uy := undSz z2 (by decide) (by decide)
      have us := undSz z0 (by decide) (by decide)
      refine ⟨_, rfl, x, p, e1, ls1, rfl, hX.same b10, ux.1, fun w3 lw3 J11 hw3 hq3 hW3 a11 => ?_⟩
      have v3 := ux.2 lw3 hq3 hW3.2
      rw [back_same v3.2 hBk] at hW3
      refine ⟨w3, p, -e1, lb, rfl, hW3.1, fun r3 J12 hr3 hAr3 a12 => ?_⟩
      have b12 := (b10.trans a11).trans a12
      refine ⟨_, rfl, rfl, rfl, x, p, e1, ls1, rfl, hX.same b12, ux.1, fun w4 lw4 J13 hw4 hq4 hW4 a13 => ?_⟩
      have v4 := ux.2 lw4 hq4 hW4.2
      rw [back_same v4.2 hBk] at hW4
      refine ⟨w4, p, -e1, lb, rfl, hW4.1, fun r4 J14 hr4 hAr4 a14 => ?_⟩
      have b14 := (b12.trans a13).trans a14
      refine ⟨by show 2 ≤ sizeLine; decide, fun n3 hn3 => ?_⟩
      have rp3 := rp_two z1.g.fp hW4.2.fe hW4.2.fls (by have := hW4.2.few; omega)
      have k3 : Same J14 (upd J14 n3 (.lst [.ref r3, .ref r4])) := Same.new hn3
      refine ⟨n3, dTwo p lb (-e1), rfl, .lst (SqL.of upd_same) (.cons (Dp.parts (((hAr3.same a13).same a14).same k3)) (.cons (Dp.parts (hAr4.same k3)) .nil)), rp3.sh, rp3.nd, rp3.dp, rp3.ln, ?_⟩
      refine ⟨_, rfl, _, rfl, by show 2 ≤ sizeLine; decide, fun n4 hn4 => ?_⟩
      have k4 : Same (upd J14 n3 (.lst [.ref r3, .ref r4])) (upd (upd J14 n3 (.lst [.ref r3, .ref r4])) n4 (.lst [.ref bk, .ref bk])) := Same.new hn4
      have b16 := (b14.trans k3).trans k4
      have hPb4 := (((((hPb.same a11).same a12).same a13).same a14).same k3).same k4
      refine ⟨n4, dTwo p lb (-e1), rfl, .lst (SqL.of upd_same) (.cons (Dp.parts hPb4) (.cons (Dp.parts hPb4) .nil)), rp3.sh, rp3.nd, rp3.dp, rp3.ln, ?_⟩
      have c2 : decide (V.str (dTwo p lb (-e1)).shown = V.str (dTwo p lb (-e1)).shown) = true := vstr_eq rfl
      refine ⟨rfl, false, congrArg V.bl (congrArg Bool.not c2), ?_⟩
      generalize upd (upd J14 n3 (.lst [.ref r3, .ref r4])) n4 (.lst [.ref bk, .ref bk]) = HC at b16 ⊢
      -- the fourth test
      refine ⟨_, rfl, _, rfl, x, p, e1, ls1, rfl, hX.same b16, ux.1, fun w5 lw5 L1 hw5 hq5 hW5 d1 => ?_⟩
      have c1' := b16.trans d1
      have v5 := ux.2 lw5 hq5 hW5.2
      have y5 := thenSz z1 v5.1 (by decide) (by decide)
      refine ⟨x, w5, p, e1, -e1, ls1, lw5, rfl, hX.same c1', hW5, y5.1, fun w6 lw6 L2' hw6 hq6 hW6 d2 => ?_⟩
      have c2' := c1'.trans d2
      rw [then_back v5.2 (y5.2 lw6 hq6 hW6.2).2, Int.add_right_neg] at hW6
      refine ⟨_, rfl, ne_same hW6.1 (hS.same c2').1 fun L3 d3 => ?_⟩
      have c3' := c2'.trans d3
      refine ⟨_, rfl, ?_⟩
      refine ⟨_, rfl, x, p, e1, ls1, rfl, hX.same c3', ux.1, fun w7 lw7 L4 hw7 hq7 hW7 d4 => ?_⟩
      have c4' := c3'.trans d4
      have v7 := ux.2 lw7 hq7 hW7.2
      have y7 := thenSz v7.1 z1 (by decide) (by decide)
      refine ⟨_, rfl, w7, x, p, -e1, e1, lw7, ls1, rfl, hW7, hX.same c4', y7.1, fun w8 lw8 L5 hw8 hq8 hW8 d5 => ?_⟩
      have c5' := c4'.trans d5
      rw [back_then v7.2 (y7.2 lw8 hq8 hW8.2).2, Int.add_left_neg] at hW8
      refine ⟨_, rfl, ne_same hW8.1 (hS.same c5').1 fun L6 d6 => ?_⟩
      have c6' := c5'.trans d6
      refine ⟨_, rfl, ?_⟩
      refine ⟨_, rfl, x, p, e1, ls1, rfl, hX.same c6', ux.1, fun w9 lw9 L7 hw9 hq9 hW9 d7 => ?_⟩
      have c7' := c6'.trans d7
      have v9 := ux.2 lw9 hq9 hW9.2
      have u9 := undSz v9.1 (by decide) (by decide)
      refine ⟨w9, p, -e1, lw9, rfl, hW9, u9.1, fun wa lwa L8 hwa hqa hWa d8 => ?_⟩
      have c8' := c7'.trans d8
      rw [back_back hpp hM1.1.pic v9.2 (u9.2 lwa hqa hWa.2).2, Int.neg_neg] at hWa
      refine ⟨_, rfl, ne_same hWa.1 (hX.same c8').1 fun L9 d9 => ?_⟩
      have c9' := c8'.trans d9
      refine ⟨_, rfl, ?_⟩
      -- the fifth test
      refine ⟨_, rfl, _, rfl, x, y, p, e1, e2, ls1, ls2, rfl, hX.same c9', hY.same c9', y12.1, fun wb lwb M1 hwb hqb hWb f1 => ?_⟩
      have m1 := c9'.trans f1
      have vb' := y12.2 lwb hqb hWb.2
      have ub := undSz vb'.1 (by decide) (by decide)
      refine ⟨wb, p, e1 + e2, lwb, rfl, hWb, ub.1, fun wc lwc M2 hwc hqc hWc f2 => ?_⟩
      have m2 := m1.trans f2
      have vc := ub.2 lwc hqc hWc.2
      refine ⟨_, rfl, y, p, e2, ls2, rfl, hY.same m2, uy.1, fun wd lwd M3 hwd hqd hWd f3 => ?_⟩
      have m3 := m2.trans f3
      have vd := uy.2 lwd hqd hWd.2
      refine ⟨_, rfl, x, p, e1, ls1, rfl, hX.same m3, ux.1, fun we lwe M4 hwe hqe hWe f4 => ?_⟩
      have m4 := m3.trans f4
      have ve := ux.2 lwe hqe hWe.2
      have yde := thenSz vd.1 ve.1 (by decide) (by decide)
      refine ⟨wd, we, p, -e2, -e1, lwd, lwe, rfl, hWd.same f4, hWe, yde.1, fun wf lwf M5 hwf hqf hWf f5 => ?_⟩
      have m5 := m4.trans f5
      have hWc' := ((hWc.same f3).same f4).same f5
      have ee : -(e1 + e2) = -e2 + -e1 := by omega
      rw [back_of_then vb'.2 vc.2 vd.2 ve.2 (yde.2 lwf hqf hWf.2).2, ee] at hWc'
      refine ne_same hWc'.1 hWf.1 fun M6 f6 => ?_
      have m6 := m5.trans f6
      refine ⟨_, rfl, ?_⟩
      refine ⟨_, rfl, st, p, 0, [], rfl, hS.same m6, us.1, fun wg lwg M7 hwg hqg hWg f7 => ?_⟩
      have m7 := m6.trans f7
      rw [still_back (us.2 lwg hqg hWg.2).2, Int.neg_zero] at hWg
      refine ⟨_, rfl, ne_same hWg.1 (hS.same m7).1 fun M8 f8 => ?_⟩
      have m8 := m7.trans f8
      refine ⟨_, rfl, ?_⟩
      exact ⟨_, _, _, _, _, _, _, _, _, _, _, rfl, (hOO _ m8).1, (hOO _ m8).2⟩
    · rintro σ H1 ⟨v1, v2, v3, v4, v5, v6, v7, v8, v9, va, vb, rfl, hP1, hO1⟩
      exact k _ hO1


def sp_law (K : PySem.W.Frag) : Sp := fun vs H Q _ => ∃ (a : Addr) (ns : List Int), vs = [.ref a] ∧ SqL K H a (ns.map V.int) ∧ ns.length ≤ 63 ∧ (∀ z ∈ ns, Builtin.Int.intBits z ≤ 1048576) ∧ ∀ H', Q (.bl true) H'
theorem ok_law (T : Tx K mg) : Gd.FnG P w K mg base CX0 21 T.a_law T.d_law ["_law_script"] (sp_law K) := by
  refine okG0 T.F_law sc_law (fun vs H Q E h => ?_) (fun cdv A outer s H vs Q E hgd hr h => ?_)
  · obtain ⟨a, ns, rfl, _⟩ := h
    rfl
  · obtain ⟨a, ns, rfl, hS, hn, hb, k⟩ := h
    refine ⟨_, (pss_one (ps_ret (pe_callB (cr_all rfl) (by rfl) T.n_all (by decide +kernel) (pa_cons (pe_lc (own := [("_law_turn", 1)]) rfl sc_law.nd (pi_range1 (by rfl) T.n_range (pa_cons (pe_callB (call_max2 rfl) (by rfl) T.n_max (by decide +kernel) (pa_cons pe_int (pa_cons (pe_callB (call_min2 rfl) (by rfl) T.n_min (by decide +kernel) (pa_cons (pe_callB call_len_seq (by rfl) T.n_len (by decide +kernel) (pa_cons (pv 0) pa_nil)) (pa_cons pe_int pa_nil))) pa_nil))) pa_nil)) (blkOk_by (own := [("_law_turn", 1)]) (N := ["_law_script", "_law_turn"]) (sc := defScope s_law) (by decide +kernel)) (fun _ _ _ _ _ => (pg_name (i := 1) sc_law.nd rfl (Or.inl rfl) (Or.inr rfl))) (fun _ _ _ _ _ => pts_nil) (fun _ _ _ _ _ => (Gd.pe_callG (ok_law_right T) hgd (hr.mono (by decide)) rfl T.g_law_right T.F_law_right.kp T.b_law_right pass0 (pa_cons (pe_call (ok_law_begun T) (hr.mono (by decide)) rfl T.g_law_begun T.F_law_begun.kp T.b_law_begun .nil pass0 (pa_cons (pv 0) (pa_cons (pv 1) pa_nil))) pa_nil)))) pa_nil)))), ?_⟩
    walk_at "g"
    have hN : ∀ L : Int, 0 ≤ L → 0 ≤ (if (if (5 : Int) < L then 5 else L) > 2 then (if (5 : Int) < L then 5 else L) else 2) ∧ (if (if (5 : Int) < L then 5 else L) > 2 then (if (5 : Int) < L then 5 else L) else 2) ≤ 5 := by
      intro L h
      split <;> split <;> omega
    have hN1 := hN ((ns.map V.int).length : Int) (by omega)
    refine ⟨_, _, rfl, _, _, rfl, _, rfl, (by omega), (by omega), fun D hD => lc_range (n := (if (if (5 : Int) < ((ns.map V.int).length : Int) then 5 else ((ns.map V.int).length : Int)) > 2 then (if (5 : Int) < ((ns.map V.int).length : Int) then 5 else ((ns.map V.int).length : Int)) else 2).toNat)
      (fun i H2 => Same H H2 ∧ H2 D = some (.lst ((List.replicate i true).map V.bl))) ⟨Same.new hD, upd_same⟩ ?_ ?_⟩
    · rintro i H2 hi ⟨sm, hDD⟩
      refine ⟨rfl, ?_⟩
      refine ⟨_, rfl, _, rfl, a, _, ns, rfl, sm.seq hS, (by omega), (by omega), hb, fun p H3 hp s3 hP => ?_⟩
      refine ⟨p, rfl, hP, fun H4 hO => ?_⟩
      have hDp : D ≠ p := ne_of_none hDD hp
      refine ⟨_, hO _ _ (s3 _ _ hDD) hDp, small1M (by rw [List.length_map, List.length_replicate]; omega), ?_, ?_⟩
      · refine Same.put (fun b o h => ?_) hD
        have h2 := sm _ _ h
        exact hO _ _ (s3 _ _ h2) (ne_of_none h2 hp)
      · rw [upd_same, rep_more]
    · rintro H2 ⟨sm, hDD⟩
      refine ⟨D, _, rfl, SqL.of hDD, ?_⟩
      rw [all_trues]
      exact k _

theorem withTx {fa : Addr} {Z : Prop} (hT : ∃ T : Tx K mg, T.a_law = fa) (F : ∀ T : Tx K mg, T.a_law = fa → Z) : Z := by
  obtain ⟨T, h⟩ := hT
  exact F T h
end
end Lamp
open PySem PySem.W PyProof.Rows
set_option maxRecDepth 100000 in
set_option maxHeartbeats 0 in
theorem PySem.Challenge.cw_lamprounds_k07_whole_rounds_one_behind_a_holds : PySem.Challenge.rw_lamprounds_k07_whole_rounds_one_behind_a.Holds := by
  w_on; o_law; k_head; (case hw => w_witness2)
  k_fill
  refine Gd.walkG (l := PySem.Challenge.rw_lamprounds_k07_whole_rounds_one_behind_a) (k := 21) (x := "_law_script") (sp := Lamp.sp_law) rfl rfl ⟨rfl, by decide, by decide⟩ (fun w h Y => PySem.W.kIn_of Y) ?F ?S
  case F =>
    intro w mg fa h KX G hmg
    refine' Lamp.withTx (Lamp.mkTx KX G hmg ?e_Round ?q1_Round ?q2_Round ?q3_Round ?q4_Round ?q5_Round ?q6_Round ?q7_Round ?q8_Round ?s1_own_end ?s2_own_end ?s3_own_end ?s4_own_end ?s5_own_end ?s1_own_lamps ?s2_own_lamps ?s3_own_lamps ?s4_own_lamps ?s5_own_lamps ?s1_own_levels ?s2_own_levels ?s3_own_levels ?s4_own_levels ?s5_own_levels ?qd_Round ?q9_Round ?qa_Round ?qb_Round ?qc_Round ?e_is_integer ?l_is_integer ?c_is_integer ?k_is_integer ?e_written_integer ?l_written_integer ?c_written_integer ?k_written_integer ?e_bent_lamp ?l_bent_lamp ?c_bent_lamp ?k_bent_lamp ?e_wrong_lamp ?l_wrong_lamp ?c_wrong_lamp ?k_wrong_lamp ?e_are_levels ?l_are_levels ?c_are_levels ?k_are_levels ?e_added ?l_added ?c_added ?k_added ?e_lamps_of ?l_lamps_of ?c_lamps_of ?k_lamps_of ?fi_Round_init ?is_Round_init ?l_Round_init ?c_Round_init ?k_Round_init ?pa_Round_read ?pr_Round_read ?pf_Round_read ?l_Round_read ?c_Round_read ?k_Round_read ?pa_Round_levels ?pg_Round_levels ?pt_Round_levels ?pr_Round_levels ?l_Round_levels ?c_Round_levels ?k_Round_levels ?pa_Round_lamps ?pg_Round_lamps ?pt_Round_lamps ?pr_Round_lamps ?l_Round_lamps ?c_Round_lamps ?k_Round_lamps ?pa_Round_end ?pg_Round_end ?pt_Round_end ?pr_Round_end ?l_Round_end ?c_Round_end ?k_Round_end ?pa_Round_text ?pg_Round_text ?pt_Round_text ?pr_Round_text ?l_Round_text ?c_Round_text ?k_Round_text ?fi_Round_len ?is_Round_len ?l_Round_len ?c_Round_len ?k_Round_len ?fi_Round_bool ?is_Round_bool ?l_Round_bool ?c_Round_bool ?k_Round_bool ?fi_Round_eq ?is_Round_eq ?l_Round_eq ?c_Round_eq ?k_Round_eq ?fi_Round_str ?is_Round_str ?l_Round_str ?c_Round_str ?k_Round_str ?fi_Round_repr ?is_Round_repr ?l_Round_repr ?c_Round_repr ?k_Round_repr ?e_table ?l_table ?c_table ?k_table ?e_made_round ?l_made_round ?c_made_round ?k_made_round ?e_text_lamp ?l_text_lamp ?c_text_lamp ?k_text_lamp ?e_text_round ?l_text_round ?c_text_round ?k_text_round ?e_check_levels ?l_check_levels ?c_check_levels ?k_check_levels ?e_check_number ?l_check_number ?c_check_number ?k_check_number ?e_check_round ?l_check_round ?c_check_round ?k_check_round ?e_check_pair ?l_check_pair ?c_check_pair ?k_check_pair ?e_then_of ?l_then_of ?c_then_of ?k_then_of ?e_undone_of ?l_undone_of ?c_undone_of ?k_undone_of ?e_then ?l_then ?c_then ?k_then ?e_undone ?l_undone ?c_undone ?k_undone ?e_law_begun ?l_law_begun ?c_law_begun ?k_law_begun ?e_law_cast ?l_law_cast ?c_law_cast ?k_law_cast ?e_law_any_of ?l_law_any_of ?c_law_any_of ?k_law_any_of ?e_law_vast ?l_law_vast ?c_law_vast ?k_law_vast ?e_law_place ?l_law_place ?c_law_place ?k_law_place ?e_law_picture ?l_law_picture ?c_law_picture ?k_law_picture ?e_law_sheet ?l_law_sheet ?c_law_sheet ?k_law_sheet ?e_law_of ?l_law_of ?c_law_of ?k_law_of ?e_law_built ?l_law_built ?c_law_built ?k_law_built ?e_law_tidy ?l_law_tidy ?c_law_tidy ?k_law_tidy ?e_law_then ?l_law_then ?c_law_then ?k_law_then ?e_law_back ?l_law_back ?c_law_back ?k_law_back ?e_law_mate ?l_law_mate ?c_law_mate ?k_law_mate ?e_law_told ?l_law_told ?c_law_told ?k_law_told ?e_law_right ?l_law_right ?c_law_right ?k_law_right ?e_law ?l_law ?c_law ?k_law ?n_abs ?n_all ?n_bool ?n_dict ?n_divmod ?n_enumerate ?n_int ?n_isinstance ?n_len ?n_list ?n_max ?n_min ?n_range ?n_repr ?n_sorted ?n_str ?n_tuple ?e_LEVELS ?y_LEVELS ?e_MOST_LAMPS ?e_DIGITS) (fun T hT => ?lastT)
    (case e_Round => k_is)
    (case q1_Round => k_is)
    (case q2_Round => k_is)
    (case q3_Round => k_is)
    (case q4_Round => k_is)
    (case q5_Round => k_is)
    (case q6_Round => k_is)
    (case q7_Round => k_is)
    (case q8_Round => k_is)
    (case s1_own_end => k_is)
    (case s2_own_end => k_is)
    (case s3_own_end => k_is)
    (case s4_own_end => k_is)
    (case s5_own_end => k_is)
    (case s1_own_lamps => k_is)
    (case s2_own_lamps => k_is)
    (case s3_own_lamps => k_is)
    (case s4_own_lamps => k_is)
    (case s5_own_lamps => k_is)
    (case s1_own_levels => k_is)
    (case s2_own_levels => k_is)
    (case s3_own_levels => k_is)
    (case s4_own_levels => k_is)
    (case s5_own_levels => k_is)
    (case qd_Round => k_is)
    (case q9_Round => k_is)
    (case qa_Round => k_is)
    (case qb_Round => k_is)
    (case qc_Round => k_is)
    (case e_is_integer => k_is)
    (case l_is_integer => k_is)
    (case c_is_integer => k_is)
    (case k_is_integer => k_is)
    (case e_written_integer => k_is)
    (case l_written_integer => k_is)
    (case c_written_integer => k_is)
    (case k_written_integer => k_is)
    (case e_bent_lamp => k_is)
    (case l_bent_lamp => k_is)
    (case c_bent_lamp => k_is)
    (case k_bent_lamp => k_is)
    (case e_wrong_lamp => k_is)
    (case l_wrong_lamp => k_is)
    (case c_wrong_lamp => k_is)
    (case k_wrong_lamp => k_is)
    (case e_are_levels => k_is)
    (case l_are_levels => k_is)
    (case c_are_levels => k_is)
    (case k_are_levels => k_is)
    (case e_added => k_is)
    (case l_added => k_is)
    (case c_added => k_is)
    (case k_added => k_is)
    (case e_lamps_of => k_is)
    (case l_lamps_of => k_is)
    (case c_lamps_of => k_is)
    (case k_lamps_of => k_is)
    (case fi_Round_init => k_is)
    (case is_Round_init => k_is)
    (case l_Round_init => k_is)
    (case c_Round_init => k_is)
    (case k_Round_init => k_is)
    (case pa_Round_read => k_is)
    (case pr_Round_read => k_is)
    (case pf_Round_read => k_is)
    (case l_Round_read => k_is)
    (case c_Round_read => k_is)
    (case k_Round_read => k_is)
    (case pa_Round_levels => k_is)
    (case pg_Round_levels => k_is)
    (case pt_Round_levels => k_is)
    (case pr_Round_levels => k_is)
    (case l_Round_levels => k_is)
    (case c_Round_levels => k_is)
    (case k_Round_levels => k_is)
    (case pa_Round_lamps => k_is)
    (case pg_Round_lamps => k_is)
    (case pt_Round_lamps => k_is)
    (case pr_Round_lamps => k_is)
    (case l_Round_lamps => k_is)
    (case c_Round_lamps => k_is)
    (case k_Round_lamps => k_is)
    (case pa_Round_end => k_is)
    (case pg_Round_end => k_is)
    (case pt_Round_end => k_is)
    (case pr_Round_end => k_is)
    (case l_Round_end => k_is)
    (case c_Round_end => k_is)
    (case k_Round_end => k_is)
    (case pa_Round_text => k_is)
    (case pg_Round_text => k_is)
    (case pt_Round_text => k_is)
    (case pr_Round_text => k_is)
    (case l_Round_text => k_is)
    (case c_Round_text => k_is)
    (case k_Round_text => k_is)
    (case fi_Round_len => k_is)
    (case is_Round_len => k_is)
    (case l_Round_len => k_is)
    (case c_Round_len => k_is)
    (case k_Round_len => k_is)
    (case fi_Round_bool => k_is)
    (case is_Round_bool => k_is)
    (case l_Round_bool => k_is)
    (case c_Round_bool => k_is)
    (case k_Round_bool => k_is)
    (case fi_Round_eq => k_is)
    (case is_Round_eq => k_is)
    (case l_Round_eq => k_is)
    (case c_Round_eq => k_is)
    (case k_Round_eq => k_is)
    (case fi_Round_str => k_is)
    (case is_Round_str => k_is)
    (case l_Round_str => k_is)
    (case c_Round_str => k_is)
    (case k_Round_str => k_is)
    (case fi_Round_repr => k_is)
    (case is_Round_repr => k_is)
    (case l_Round_repr => k_is)
    (case c_Round_repr => k_is)
    (case k_Round_repr => k_is)
    (case e_table => k_is)
    (case l_table => k_is)
    (case c_table => k_is)
    (case k_table => k_is)
    (case e_made_round => k_is)
    (case l_made_round => k_is)
    (case c_made_round => k_is)
    (case k_made_round => k_is)
    (case e_text_lamp => k_is)
    (case l_text_lamp => k_is)
    (case c_text_lamp => k_is)
    (case k_text_lamp => k_is)
    (case e_text_round => k_is)
    (case l_text_round => k_is)
    (case c_text_round => k_is)
    (case k_text_round => k_is)
    (case e_check_levels => k_is)
    (case l_check_levels => k_is)
    (case c_check_levels => k_is)
    (case k_check_levels => k_is)
    (case e_check_number => k_is)
    (case l_check_number => k_is)
    (case c_check_number => k_is)
    (case k_check_number => k_is)
    (case e_check_round => k_is)
    (case l_check_round => k_is)
    (case c_check_round => k_is)
    (case k_check_round => k_is)
    (case e_check_pair => k_is)
    (case l_check_pair => k_is)
    (case c_check_pair => k_is)
    (case k_check_pair => k_is)
    (case e_then_of => k_is)
    (case l_then_of => k_is)
    (case c_then_of => k_is)
    (case k_then_of => k_is)
    (case e_undone_of => k_is)
    (case l_undone_of => k_is)
    (case c_undone_of => k_is)
    (case k_undone_of => k_is)
    (case e_then => k_is)
    (case l_then => k_is)
    (case c_then => k_is)
    (case k_then => k_is)
    (case e_undone => k_is)
    (case l_undone => k_is)
    (case c_undone => k_is)
    (case k_undone => k_is)
    (case e_law_begun => k_is)
    (case l_law_begun => k_is)
    (case c_law_begun => k_is)
    (case k_law_begun => k_is)
    (case e_law_cast => k_is)
    (case l_law_cast => k_is)
    (case c_law_cast => k_is)
    (case k_law_cast => k_is)
    (case e_law_any_of => k_is)
    (case l_law_any_of => k_is)
    (case c_law_any_of => k_is)
    (case k_law_any_of => k_is)
    (case e_law_vast => k_is)
    (case l_law_vast => k_is)
    (case c_law_vast => k_is)
    (case k_law_vast => k_is)
    (case e_law_place => k_is)
    (case l_law_place => k_is)
    (case c_law_place => k_is)
    (case k_law_place => k_is)
    (case e_law_picture => k_is)
    (case l_law_picture => k_is)
    (case c_law_picture => k_is)
    (case k_law_picture => k_is)
    (case e_law_sheet => k_is)
    (case l_law_sheet => k_is)
    (case c_law_sheet => k_is)
    (case k_law_sheet => k_is)
    (case e_law_of => k_is)
    (case l_law_of => k_is)
    (case c_law_of => k_is)
    (case k_law_of => k_is)
    (case e_law_built => k_is)
    (case l_law_built => k_is)
    (case c_law_built => k_is)
    (case k_law_built => k_is)
    (case e_law_tidy => k_is)
    (case l_law_tidy => k_is)
    (case c_law_tidy => k_is)
    (case k_law_tidy => k_is)
    (case e_law_then => k_is)
    (case l_law_then => k_is)
    (case c_law_then => k_is)
    (case k_law_then => k_is)
    (case e_law_back => k_is)
    (case l_law_back => k_is)
    (case c_law_back => k_is)
    (case k_law_back => k_is)
    (case e_law_mate => k_is)
    (case l_law_mate => k_is)
    (case c_law_mate => k_is)
    (case k_law_mate => k_is)
    (case e_law_told => k_is)
    (case l_law_told => k_is)
    (case c_law_told => k_is)
    (case k_law_told => k_is)
    (case e_law_right => k_is)
    (case l_law_right => k_is)
    (case c_law_right => k_is)
    (case k_law_right => k_is)
    (case e_law => k_is)
    (case l_law => k_is)
    (case c_law => k_is)
    (case k_law => k_is)
    (case n_abs => k_is)
    (case n_all => k_is)
    (case n_bool => k_is)
    (case n_dict => k_is)
    (case n_divmod => k_is)
    (case n_enumerate => k_is)
    (case n_int => k_is)
    (case n_isinstance => k_is)
    (case n_len => k_is)
    (case n_list => k_is)
    (case n_max => k_is)
    (case n_min => k_is)
    (case n_range => k_is)
    (case n_repr => k_is)
    (case n_sorted => k_is)
    (case n_str => k_is)
    (case n_tuple => k_is)
    (case e_LEVELS => k_is)
    (case y_LEVELS => k_is)
    (case e_MOST_LAMPS => k_is)
    (case e_DIGITS => k_is)
    (case lastT =>
      subst hT
      exact ⟨T.d_law, T.bt_law, fun base KB NB => Lamp.ok_law T⟩)
  case S =>
    intro K H a ns hn hb hS
    exact ⟨a, ns, rfl, hS, hn, hb, fun H' => rfl⟩
