import PyProof.Rows.All
import Wide.All
import OpenK.AllK
import Wide.FinOn
import HandS.ForMost
import HandS.OwnEq
import HandS.IsInst
import HandS.MakeKwOnly
import HandS.DictEq
import PyProof.ReprRoads
import HandS.DeepEq
import HandS.Gcd
import PySem.Challenge.RW_growthpapers_k90_classes_made_by_hand
import HandS.Style
import HandS.Codes
import HandS.NoneIn
set_option Elab.async false
set_option linter.all false
set_option maxRecDepth 100000
set_option maxHeartbeats 4000000
/-! growth: promises that also know that no guard is under way -/
namespace GP
open PySem PySem.Spec PyProof.Rows L2

/-- as FnOk, for callers with no guard under way -/
structure FnOkG (P : Program) (w : World) (K : PySem.W.Frag) (mg : Str → Option Value) (base : Heap) (CX : CXT) (k : Nat)
    (f : Addr) (fd : FuncData) (ps : List Str) (sp : Sp) : Prop where
  len : ∀ vs H Q E, sp vs H Q E → vs.length = ps.length
  run : ∀ (A : Around) (outer : List Env) (s : Shared) (H : Hp) (args : Args) (us : List Value) (vs : List V) (Q : VK) (E : XK),
    Room k A → A.guards = some [] → Env0 P w K mg base A outer s H → BindsTo s fd args (ps.zip us) → Vals vs us → sp vs H Q E →
      codeAny (model P w) A (.call (.ref f) args) (CR CX outer P w H s Q E) s

section
variable {P : Program} {w : World} {K : PySem.W.Frag} {mg : Str → Option Value} {base : Heap} {CX : CXT} {k : Nat} {f : Addr}
  {fd : FuncData} {ps : List Str} {sp : Sp}
theorem _root_.L2.FnOk.g (F : FnOk P w K mg base CX k f fd ps sp) : FnOkG P w K mg base CX k f fd ps sp :=
  ⟨F.len, fun A outer s H args us vs Q E hr _ e0 hb r h => F.run A outer s H args us vs Q E hr e0 hb r h⟩

theorem fn_ofG {name qual : Str} {params : Arguments} {body : List Stmt} {scope : Scope}
    {dV kV doc pm cdv ct oc : Value} {an od : Option Addr} {osl : Array (Option Value)} {N : List Str}
    (lk : K.lookup f = some ⟨oc, od, .func (PySem.W.fnOf name qual params body scope dV kV doc pm an cdv ct), osl⟩)
    (hcd : PySem.W.codeIn K cdv qual = true) (S : FnScope N ps scope)
    (len : ∀ vs H Q E, sp vs H Q E → vs.length = ps.length)
    (hbody : ∀ (A : Around) (outer : List Env) (s : Shared) (H : Hp) (vs : List V) (Q : VK) (E : XK),
      Room k (A.deeper (envOfC qual scope s.heap.objs.size f cdv)) → A.guards = some [] → sp vs H Q E →
      ∃ t, PSs (cxOf CX P w K mg base N qual scope f cdv A outer s H E) body t ∧
        t { nx := fun _ H' => Q .non H', rt := Q } (start N vs) H) :
    FnOkG P w K mg base CX (k + 1) f (PySem.W.fnOf name qual params body scope dV kV doc pm an cdv ct) ps sp := by
  refine ⟨len, ?_⟩
  intro A outer s H args us vs Q E hr hgd e0 hb r hsp
  have hl := len _ _ _ _ hsp
  have KX : K.In s.heap :=
    e0.mod.kin.keeps fun b o e => (e0.bs b o e).1
  have lim : s.heap.NoLimit :=
    e0.mod.nolimit.keeps fun b o e => (e0.bs b o e).1
  have hkind : ∀ y ∈ ps.zip us, scope.names.lookup y.1 = some .local ∨
      (scope.names.lookup y.1 = some .cell ∧ ((cellsFrom (s.heap.objs.size + 1) scope.names []).lookup y.1).isSome = true) := by
    rintro ⟨n, v⟩ hy
    exact (S.par n (List.of_mem_zip hy).1).elim .inl fun q => .inr ⟨q, PySem.W.cellsFrom_some _ _ _ (.inl q)⟩
  refine codeAny_call_function hr.depth (KX _ _ lk) rfl S.co S.gen rfl
    (PySem.W.codeRec_of KX hcd) (hb _ _ _ _ ?_)
  refine wpAny_newFunctionEnv_cells S.kind hkind ?_
  intro env he s1 x
  subst he
  refine ⟨lim.keeps x.toInCall.keep, codeAny_func ?_⟩
  obtain ⟨t, ht, hq⟩ := hbody A outer s H vs Q E (hr.deeper _) hgd hsp
  have I : Inv (cxOf CX P w K mg base N qual scope f cdv A outer s H E) [] (start N vs) H s1 :=
    inv_start S hr.hd e0 hl r x
  refine wpAny_mono (ht.run [] s1 (start N vs) H _ I hq) ?_ fun e s' hs => hs
  intro fl s' hs
  cases fl with
  | ret u => exact let ⟨v, _, H', J, rv, q⟩ := hs
             ⟨v, H', J.os, J.bare, J.base, J.hok, rv, q⟩
  | next => exact let ⟨_, H', J, q⟩ := hs
            ⟨V.non, H', J.os, J.bare, J.base, J.hok, rfl, q⟩
  | brk => exact let ⟨_, _, _, q⟩ := hs
           False.elim q
  | cont => exact let ⟨_, _, _, q⟩ := hs
            False.elim q

theorem _root_.L2.Fun.okG {x qual : Str} {st : Stmt} {N : List Str} (F : Fun K x qual st f fd) (S : FnScope N ps (defScope st))
    (len : ∀ vs H Q E, sp vs H Q E → vs.length = ps.length)
    (hbody : ∀ (cdv : Value) (A : Around) (outer : List Env) (s : Shared) (H : Hp) (vs : List V) (Q : VK) (E : XK),
      Room k (A.deeper (envOfC qual (defScope st) s.heap.objs.size f cdv)) → A.guards = some [] → sp vs H Q E →
      ∃ t, PSs (cxOf CX0 P w K mg base N qual (defScope st) f cdv A outer s H E).nox (defBody st) t ∧
        t { nx := fun _ H' => Q .non H', rt := Q } (start N vs) H) : FnOkG P w K mg base CX0 (k + 1) f fd ps sp := by
  obtain ⟨oc, od, kV, doc, pm, an, cdv, ct, osl, rfl, lk, hcd⟩ := F.ex
  refine fn_ofG lk hcd S len ?_
  intro A outer s H vs Q E hr hgd hsp
  obtain ⟨t, h, q⟩ := hbody cdv A outer s H vs Q E hr hgd hsp
  exact ⟨t, h.nox, q⟩
end

section
variable {X : Cx} {CX : CXT} {k : Nat} {f : Addr} {fd : FuncData} {ps : List Str} {sp : Sp} {dvs : List V} {ds : List Value} {E : XK} {x : Str}
  {p pos : Pos} {e : Expr} {es : List Expr} {t : TA}
theorem run_fnG {pins : List (Addr × Obj)} {σ : L2.St} {H : Hp} {s : Shared} {Q : VK} {us : List Value} {vs : List V}
    (F : FnOkG X.prog X.w X.K X.mg X.base CX k f fd ps sp) (hr : Room k X.A) (hgd : X.A.guards = some [])
    (hb : Binds X.K fd ps ds) (hd : Vals dvs ds) (hx : Passes CX X E)
    (I : Inv X pins σ H s) (r : Vals vs us) (h : sp (vs ++ dvs) H Q E) :
    wpAny (model X.prog X.w) X.A (call (.ref f) us) (EP X pins σ Q) X.xe s := by
  have r2 : Vals (vs ++ dvs) (us ++ ds) := r.append hd
  have hl : (us ++ ds).length = ps.length := by
    rw [← r2.length]; exact F.len _ _ _ _ h
  refine wpAny_call (codeAny_mono (F.run X.A X.stack s H ⟨us, []⟩ (us ++ ds) (vs ++ dvs) Q E hr hgd I.env0 (hb s us I.kIn hl) r2 h) ?_)
  intro r s' hq
  cases r with
  | error e => exact hx pins σ H s e s' I hq
  | ok fl =>
    cases fl with
    | ret u => exact I.after hq
    | next | brk | cont => exact False.elim hq
theorem pe_callG (F : FnOkG X.prog X.w X.K X.mg X.base CX k f fd ps sp) (hr : Room k X.A) (hgd : X.A.guards = some [])
    (hg : Gl X x) (hm : X.mg x = some (.ref f)) (hk : PySem.W.keepIn X.K (.ref f) = true) (hb : Binds X.K fd ps ds) (hd : Vals dvs ds) (hx : Passes CX X E)
    (ha : PA X (e :: es) t) (hdb : (x == ("__debug__" : Str)) = false := by decide)
    (he : starEach (e :: es) X.env = (false, eval e X.env) :: starEach es X.env := by rfl)
    (hpl : (backTo pos (starEach es X.env)).any (·.1) = false := by rfl) :
    PE X (.Call (.Name x p) (e :: es) [] pos) (tCall sp dvs E t) := by
  refine ⟨?_⟩
  intro pins s σ H Q I h
  refine wpAny_Call_Name_kw (ld_glob I hg hm ?_ hdb)
  refine PySem.W.callWith_K (h₀ := X.base) I.ok.mod.kin hk (thn (ha.run pos pins s σ H _ I h) ?_) he hpl
  rintro us s1 ⟨vs, H1, I1, r, q⟩
  exact ⟨I1.kIn, run_fnG F hr hgd hb hd hx I1 r q⟩
theorem pe_callG0 (F : FnOkG X.prog X.w X.K X.mg X.base CX k f fd ps sp) (hr : Room k X.A) (hgd : X.A.guards = some [])
    (hg : Gl X x) (hm : X.mg x = some (.ref f)) (hk : PySem.W.keepIn X.K (.ref f) = true) (hb : Binds X.K fd ps ds) (hd : Vals dvs ds) (hx : Passes CX X E)
    (hdb : (x == ("__debug__" : Str)) = false := by decide) :
    PE X (.Call (.Name x p) [] [] pos) (tCall sp dvs E tNil) := by
  refine ⟨?_⟩
  intro pins s σ H Q I h
  refine wpAny_Call_Name_kw (ld_glob I hg hm ?_ hdb)
  exact PySem.W.callWith_K0 I.kIn hk (run_fnG (us := []) F hr hgd hb hd hx I .nil h)
end

/-! ### the end of a law row -/
section
variable {P : Program} {w : World} {K : PySem.W.Frag} {mg mb : Str → Option Value} {k : Nat} {fa a : Addr} {fd : FuncData} {x : Str} {sp : Sp}
  {s₁ : Shared} {vs : List Value} {ns : List Int}
/-- what the law's call is to leave -/
abbrev LawEnd (s₁ : Shared) : Result → Shared → Prop := fun r s' =>
  r = .ok (.ret (.bool true)) ∧ OldK s₁.heap s'.heap ∧ s'.os = s₁.os ∧ AllBare s'.gens

theorem law_core (KX : K.In s₁.heap) (hns : s₁.heap.Ns mainGlobals mg) (hb : s₁.heap.Ns builtinsNs mb)
    (hbb : ∀ x : Str, x ≠ "__name__" → mb x = bootBuiltins x) (hlim : s₁.heap.NoLimit) (hg : s₁.gens = #[])
    (ha : s₁.heap.get? a = some { cls := .type "list", data := .seq vs.toArray }) (hr : Room k callerA)
    (F : ∀ base : Heap, K.In base → base.Ns mainGlobals mg → FnOkG P w K mg base CX0 k fa fd [x] sp)
    (hbind : ∀ (s : Shared) (u : Value), BindsTo s fd ⟨[u], []⟩ [(x, u)])
    (hsp : ∀ H : Hp, Only H → SqL K H a (ns.map V.int) → (∀ b, H b ≠ none → b = a) → sp [.ref a] H (fun v _ => v = .bl true) fun _ _ _ => False)
    (H : Hp) (hO : Only H) (hS : SqL K H a (ns.map V.int)) (hok : HOk P w H s₁.heap)
    (hA : ∀ b, H b ≠ none → b = a) (hK : H a ≠ none → K.lookup a = none) :
    codeAny (model P w) callerA (.call (.ref fa) ⟨[.ref a], []⟩) (LawEnd s₁) s₁ := by
  have eqA : ∀ {b : Addr} {u : HO}, H b = some u → b = a := fun {b u} q => hA b (by rw [q]; exact Option.some_ne_none u)
  have base_of : ∀ {b : Addr} {o : Obj}, s₁.heap.get? b = some o → H b = none → (hidT s₁.heap H).get? b = some o :=
    fun e n => hidT_get e n
  have noA : ∀ {b : Addr} {o : Obj} {es : Array DictEntry} {ep : Nat}, s₁.heap.get? b = some o → o.data = .dict es ep → H b = none := by
    intro b o es ep e d
    cases q : H b with
    | none => rfl
    | some u =>
      cases eqA q
      rw [ha] at e
      cases e
      exact nomatch (show Data.seq vs.toArray _ = Data.dict es ep from d)
  have nsK : ∀ {b : Addr} {m : Str → Option Value}, s₁.heap.Ns b m → (hidT s₁.heap H).Ns b m := by
    rintro b m ⟨o, es, ep, e, d, r⟩
    exact ⟨o, es, ep, base_of e (noA e d), d, r⟩
  have hKb : K.In (hidT s₁.heap H) := by
    intro b o e
    refine base_of (KX b o e) ?_
    cases q : H b with
    | none => rfl
    | some u =>
      cases eqA q
      rw [hK (by rw [q]; exact Option.some_ne_none u)] at e
      cases e
  have hM : Mod K mg (hidT s₁.heap H) :=
    ⟨hKb, nsK hns, ⟨mb, nsK hb, hbb⟩, let ⟨mc, h1, h2⟩ := hlim; ⟨mc, nsK h1, h2⟩⟩
  have e0 : Env0 P w K mg (hidT s₁.heap H) callerA [] s₁ H :=
    ⟨rfl, hM, fun b o e => of_hidT e, Nat.le_of_eq (hidT_size _ _), trivial, fun b z => absurd (show b ∈ ([] : List Addr) from z) List.not_mem_nil, hok, .of_eq hg⟩
  refine codeAny_mono ((F _ hKb (nsK hns)).run callerA [] s₁ H ⟨[.ref a], []⟩ [.ref a] [.ref a] _ _ hr rfl e0
    (hbind s₁ (.ref a)) (.cons rfl .nil) (hsp H hO hS hA)) ?_
  intro r s' h
  cases r with
  | error e => exact False.elim h
  | ok fl =>
    cases fl with
    | next | brk | cont => exact False.elim h
    | ret u =>
      obtain ⟨v, H', os, bare, un, hok', r', q⟩ := h
      obtain rfl : v = .bl true := q
      obtain rfl : u = Value.bool true := r'
      refine ⟨rfl, OldK.of_keep ?_, os, bare⟩
      intro b o e
      cases q : H b with
      | none => exact un.keep b o e q (fun z => absurd (show b ∈ ([] : List Addr) from z) List.not_mem_nil) List.not_mem_nil
      | some u =>
        rcases hO b with z | ⟨ob, xs, z⟩
        · rw [q] at z; cases z
        · obtain ⟨e1, _⟩ := hok b _ z
          obtain ⟨e2, _⟩ := hok' b _ (un.frzs b ob _ z)
          rw [e] at e1
          cases e1
          exact e2

theorem law_callG (KX : K.In s₁.heap) (hns : s₁.heap.Ns mainGlobals mg) (hb : s₁.heap.Ns builtinsNs mb)
    (hbb : ∀ x : Str, x ≠ "__name__" → mb x = bootBuiltins x) (hlim : s₁.heap.NoLimit) (hg : s₁.gens = #[])
    (ha : s₁.heap.get? a = some { cls := .type "list", data := .seq vs.toArray })
    (hi : IntsAre vs ns) (hl : ns.length ≤ sizeLine) (hr : Room k callerA)
    (F : ∀ base : Heap, K.In base → base.Ns mainGlobals mg → FnOkG P w K mg base CX0 k fa fd [x] sp)
    (hbind : ∀ (s : Shared) (u : Value), BindsTo s fd ⟨[u], []⟩ [(x, u)])
    (hsp : ∀ H : Hp, Only H → SqL K H a (ns.map V.int) → (∀ b, H b ≠ none → b = a) → sp [.ref a] H (fun v _ => v = .bl true) fun _ _ _ => False) :
    codeAny (model P w) callerA (.call (.ref fa) ⟨[.ref a], []⟩) (LawEnd s₁) s₁ := by
  have rv := vals_ints hi
  have lenV := hi.length
  have core := law_core KX hns hb hbb hlim hg ha hr F hbind hsp
  cases hk : K.lookup a with
  | some o =>
    have e := KX a o hk
    rw [ha] at e
    cases e
    exact core (fun _ => none) (fun _ => .inl rfl)
      (.inr ⟨_, vs.toArray, _, hk, rfl, rfl, rfl, by rw [List.size_toArray, lenV]; exact hl, by simpa using rv⟩)
      (fun b u z => nomatch (show (none : Option HO) = some u from z)) (fun b z => absurd rfl z) fun z => absurd rfl z
  | none =>
    have yes : ∀ b, b = a → (fun b => if b = a then some (HO.frz { cls := .type "list", data := .seq vs.toArray } (.lst (ns.map V.int))) else none : Hp) b =
        some (HO.frz { cls := .type "list", data := .seq vs.toArray } (.lst (ns.map V.int))) := fun b e => if_pos e
    have no : ∀ b, ¬ b = a → (fun b => if b = a then some (HO.frz { cls := .type "list", data := .seq vs.toArray } (.lst (ns.map V.int))) else none : Hp) b =
        none := fun b e => if_neg e
    refine core (fun b => if b = a then some (.frz { cls := .type "list", data := .seq vs.toArray } (.lst (ns.map V.int))) else none)
      (fun b => ?_) (.inl (.inr ⟨_, yes a rfl⟩)) (fun b u z => ?_) (fun b z => ?_) fun _ => hk
    · by_cases hb : b = a
      · exact .inr ⟨_, _, yes b hb⟩
      · exact .inl (no b hb)
    · by_cases hb : b = a
      · have z' := (yes b hb).symm.trans z
        cases z'
        subst hb
        exact ⟨ha, by rw [List.length_map]; exact hl, vs, _, rv, ha⟩
      · exact nomatch (no b hb).symm.trans z
    · by_cases hb : b = a
      · exact hb
      · exact absurd (no b hb) z

theorem walk_ofG {l : PySem.W.OpenLaw} {n k : Nat} {q : Program} {loose : List Str} {XP : (Str → Option Value) → Heap → Prop}
    {YP : World → Heap → Prop} {d : DefRec} {K : Params → PySem.W.Frag} {sp : World → Sp} {x : Str}
    (hn : l.most = some n) (hn2 : n ≤ sizeLine) (hdf : d.params.defaults = []) (hr : Room k callerA)
    (hY : ∀ (w : World) (h : Heap), YP w h → (K w.params).In h)
    (F : ∀ (w : World) (mg : Str → Option Value) (fa : Addr) (h : Heap), (K w.params).In h → h.Ns mainGlobals mg → mg d.name = some (.ref fa) →
      ∃ fd : FuncData, (∀ (s : Shared) (u : Value), BindsTo s fd ⟨[u], []⟩ [(x, u)]) ∧
        ∀ base : Heap, (K w.params).In base → base.Ns mainGlobals mg → FnOkG l.prog w (K w.params) mg base CX0 k fa fd [x] (sp w))
    (hsp : ∀ (w : World) (H : Hp) (a : Addr) (ns : List Int), ns.length ≤ n → Only H → SqL (K w.params) H a (ns.map V.int) → (∀ b, H b ≠ none → b = a) →
      sp w [.ref a] H (fun v _ => v = .bl true) fun _ _ _ => False) :
    PySem.W.WalkO q loose XP YP l.row.toRowW d [] (fun f vs => PySem.call f vs) := by
  refine Att.attach_call hn hdf ?_
  intro w s₀ s₁ mg mb fa o pm cd doc a vs ns G Y ho hd hcd hmg hobj hints hlen hg
  have KX := hY w _ Y
  obtain ⟨fd, hb, hF⟩ := F w mg fa _ KX G.T.g hmg
  exact law_callG KX G.T.g G.T.b G.T.builtins G.T.nolimit hg hobj hints (Nat.le_trans hlen hn2) hr hF hb
    fun H hO hS hA => hsp w H a ns hlen hO hS hA
end
end GP
/-! growth: data in the abstract heap, its text by repr, its == -/
namespace GP
open PySem PySem.Spec PyProof.Rows L2

mutual
/-- the value v is the data d in H (tracked lists, tuples, dicts of one text key) -/
inductive Rp (H : Hp) : V → PyData → Prop
  | non : Rp H .non .none
  | bl (b : Bool) : Rp H (.bl b) (.bool b)
  | int (i : Int) : Rp H (.int i) (.int i)
  | str (x : Str) : Rp H (.str x) (.str x)
  | lst {a : Addr} {xs : List V} {ds : List PyData} : H a = some (.lst xs) → RpAll H xs ds → Rp H (.ref a) (.list ds)
  | tup {a : Addr} {xs : List V} {ds : List PyData} : H a = some (.tup xs) → RpAll H xs ds → Rp H (.ref a) (.tuple ds)
  | dct {a : Addr} {k : Str} {i : Int} : H a = some (.dK [(.inr k, .int i)]) → Rp H (.ref a) (.dict [(.str k, .int i)])
inductive RpAll (H : Hp) : List V → List PyData → Prop
  | nil : RpAll H [] []
  | cons {v : V} {vs : List V} {d : PyData} {ds : List PyData} : Rp H v d → RpAll H vs ds → RpAll H (v :: vs) (d :: ds)
end

mutual
theorem Rp.same {H H' : Hp} (e : Same H H') : ∀ (d : PyData) (v : V), Rp H v d → Rp H' v d
  | .none, _, h => by cases h; exact .non
  | .bool b, _, h => by cases h; exact .bl b
  | .int i, _, h => by cases h; exact .int i
  | .str x, _, h => by cases h; exact .str x
  | .list ds, _, h => by
    cases h with
    | lst h1 h2 => exact .lst (e _ _ h1) (RpAll.same e ds _ h2)
  | .tuple ds, _, h => by
    cases h with
    | tup h1 h2 => exact .tup (e _ _ h1) (RpAll.same e ds _ h2)
  | .dict _, _, h => by
    cases h with
    | dct h1 => exact .dct (e _ _ h1)
theorem RpAll.same {H H' : Hp} (e : Same H H') : ∀ (ds : List PyData) (vs : List V), RpAll H vs ds → RpAll H' vs ds
  | [], _, h => by cases h; exact .nil
  | d :: ds, _, h => by
    cases h with
    | cons h1 h2 => exact .cons (Rp.same e d _ h1) (RpAll.same e ds _ h2)
end
theorem RpAll.length {H : Hp} : ∀ {ds : List PyData} {vs : List V}, RpAll H vs ds → vs.length = ds.length
  | [], _, h => by cases h; rfl
  | _ :: _, _, h => by cases h with | cons _ h2 => exact congrArg Nat.succ h2.length
theorem RpAll.get {H : Hp} : ∀ {ds : List PyData} {vs : List V} {i : Nat} {v : V}, RpAll H vs ds → vs[i]? = some v → ∃ d, ds[i]? = some d ∧ Rp H v d
  | [], _, _, _, h, e => by cases h; simp at e
  | d :: ds, _, 0, _, h, e => by
    cases h with | cons h1 _ => simp at e; subst e; exact ⟨d, rfl, h1⟩
  | d :: ds, _, i + 1, _, h, e => by
    cases h with | cons _ h2 =>
      simp at e
      obtain ⟨d', e1, e2⟩ := RpAll.get (i := i) h2 e
      exact ⟨d', by simpa using e1, e2⟩

/-- a dict is met at the top alone -/
def okD : PyData → Bool
  | .dict _ => true
  | d => !d.hasDict

section
variable {X : Cx} {pins : List (Addr × Obj)} {σ : L2.St} {H : Hp} {s : Shared}
mutual
theorem Rp.reads (I : Inv X pins σ H s) : ∀ (d : PyData) (v : V) (u : Value), Rp H v d → RelV v u →
    ∃ as, Reads s.heap u d as ∧ (okD d = true → d.hasDict = true → sysModules ∉ as)
  | .none, _, _, h, r => by cases h; cases r; exact ⟨_, Reads.none, fun _ _ => List.not_mem_nil⟩
  | .bool b, _, _, h, r => by cases h; cases r; exact ⟨_, Reads.bool b, fun _ _ => List.not_mem_nil⟩
  | .int i, _, _, h, r => by cases h; obtain ⟨t, rfl⟩ := r; exact ⟨_, Reads.int i t, fun _ _ => List.not_mem_nil⟩
  | .str x, _, _, h, r => by cases h; obtain ⟨t, rfl⟩ := r; exact ⟨_, Reads.str x t, fun _ _ => List.not_mem_nil⟩
  | .list ds, _, _, h, r => by
    cases h with
    | lst h1 h2 =>
      cases r
      obtain ⟨_, its, n, rv, ho⟩ := I.hok _ _ h1
      obtain ⟨as, hr⟩ := RpAll.reads I ds _ its h2 rv
      refine ⟨_, Reads.list ho rfl rfl (by simpa using hr), fun o e => ?_⟩
      have o' : (!(PyData.list ds).hasDict) = true := o
      rw [e] at o'
      cases o'
  | .tuple ds, _, _, h, r => by
    cases h with
    | tup h1 h2 =>
      cases r
      obtain ⟨_, its, rv, o, ho, hc, n, hd⟩ := I.hok _ _ h1
      obtain ⟨as, hr⟩ := RpAll.reads I ds _ its h2 rv
      refine ⟨_, Reads.tuple ho hc hd (by simpa using hr), fun o e => ?_⟩
      have o' : (!(PyData.tuple ds).hasDict) = true := o
      rw [e] at o'
      cases o'
  | .dict _, _, _, h, r => by
    cases h with
    | @dct a k i h1 =>
      cases r
      obtain ⟨_, hs, vs, rel, o, es, ep, ho, hx, hd, _, hp, _⟩ := I.hok _ _ h1
      cases rel with
      | @cons p q ps qs r1 r2 =>
        cases r2
        obtain ⟨qk, qv⟩ := q
        obtain ⟨e1, e2⟩ := r1
        simp only at e1 e2
        subst e1
        obtain ⟨t, rfl⟩ := e2
        cases hl : es.toList with
        | nil => rw [hl] at hp; cases hp
        | cons en rest =>
          rw [hl] at hp
          cases hp with
          | cons h1 h2 h3 =>
            cases h3
            obtain ⟨t2, e3⟩ := Value.isStrOf_shape (show Value.isStrOf k en.key = true from h1)
            have r1 : ReadsAll s.heap (es.toList.map (·.key)) ([(PyData.str k, PyData.int i)].map (·.1)) ([] ++ []) := by
              rw [hl]
              show ReadsAll _ [en.key] _ _
              rw [e3]
              exact .cons (.str k t2) .nil
            have r2 : ReadsAll s.heap (es.toList.map (·.val)) ([(PyData.str k, PyData.int i)].map (·.2)) ([] ++ []) := by
              rw [hl]
              show ReadsAll _ [en.val] _ _
              rw [h2]
              exact .cons (.int i t) .nil
            refine ⟨_, Reads.dict ho hx.1 hd r1 r2, fun _ _ z => ?_⟩
            have z' : sysModules = a := by simpa using z
            rw [← z'] at hs
            exact absurd hs (by decide)
theorem RpAll.reads (I : Inv X pins σ H s) : ∀ (ds : List PyData) (vs : List V) (us : List Value), RpAll H vs ds → Vals vs us →
    ∃ as, ReadsAll s.heap us ds as
  | [], _, _, h, r => by cases h; cases r; exact ⟨_, .nil⟩
  | d :: ds, _, _, h, r => by
    cases h with
    | cons h1 h2 =>
      cases r with
      | cons r1 r2 =>
        obtain ⟨as, q1, _⟩ := Rp.reads I d _ _ h1 r1
        obtain ⟨bs, q2⟩ := RpAll.reads I ds _ _ h2 r2
        exact ⟨_, .cons q1 q2⟩
end

/-- items whose dicts are at the top -/
theorem reprAll1 {prog : Program} {w : World} (I : Inv X pins σ H s) : ∀ (ds : List PyData) (vs : List V) (us : List Value), RpAll H vs ds → Vals vs us →
    (ds.all okD = true) → PyData.showableAll ds = true → (∀ t ∈ PyData.shownAll ds, t.length ≤ sizeLine) →
    ∃ as bs, ReadsAll s.heap us ds as ∧ ReadAtMost s.heap (PyData.depthAll ds) bs ∧ ReprAllK prog w bs s.heap (PyData.depthAll ds) us (PyData.shownAll ds)
  | [], _, _, h, r, _, _, _ => by
    cases h; cases r
    exact ⟨[], [], .nil, (fun _ h => nomatch h), by simp only [PyData.shownAll]; exact .nil⟩
  | d :: ds, _, _, h, r, ho, hs, hz => by
    cases h with
    | cons h1 h2 =>
      cases r with
      | cons r1 r2 =>
        have ho' : okD d = true ∧ ds.all okD = true := by simpa using ho
        have hs' : d.showable = true ∧ PyData.showableAll ds = true := by simpa [PyData.showableAll] using hs
        obtain ⟨as, q1, q1'⟩ := Rp.reads I d _ _ h1 r1
        obtain ⟨b1, hb1, k1⟩ := ReprK.of_reads (prog := prog) (w := w) q1 hs'.1 (q1' ho'.1) (hz _ (by simp only [PyData.shownAll]; exact List.mem_cons_self ..))
        obtain ⟨as2, b2, q2, hb2, k2⟩ := reprAll1 (prog := prog) (w := w) I ds _ _ h2 r2 ho'.2 hs'.2 fun t ht => hz t (by simp only [PyData.shownAll]; exact List.mem_cons_of_mem _ ht)
        refine ⟨_, b1 ++ b2, .cons q1 q2, ?_, ?_⟩
        · simp only [PyData.depthAll]
          exact ReadAtMost.append (hb1.mono (Nat.le_max_left _ _)) (hb2.mono (Nat.le_max_right _ _))
        · simp only [PyData.depthAll, PyData.shownAll]
          exact .cons ((k1.more fun b hb => List.mem_append_left _ hb).level_le (Nat.le_max_left _ _))
            (k2.more_le (fun b hb => List.mem_append_right _ hb) (Nat.le_max_right _ _))
end

/-! ### repr -/
/-- data whose text may be asked: no deeper than 30, a dict at the top, or at the top of a list's items -/
def canShow (d : PyData) : Bool :=
  d.showable && decide (d.depth ≤ 30) && decide (d.shown.length ≤ sizeLine) &&
    (okD d || match d with | .list ds => ds.all okD | _ => false)
def rRepr : List V → Hp → VK → Prop := fun xs H Q => ∃ v d, xs = [v] ∧ Rp H v d ∧ canShow d = true ∧ Q (.str d.shown) H
section
variable {X : Cx}
theorem call_repr (hg : X.A.guards = some []) (hu : X.A.units + 64 < cLine) : CallR X (.builtin "repr") rRepr := by
  intro pins s σ H xs us Q I r h
  obtain ⟨v, d, rfl, hv, hc, q⟩ := h
  obtain ⟨u, rfl, ru⟩ : ∃ u, us = [u] ∧ RelV v u := by
    cases r with
    | cons r1 r2 => cases r2; exact ⟨_, rfl, r1⟩
  unfold canShow at hc
  simp only [Bool.and_eq_true, decide_eq_true_eq, Bool.or_eq_true] at hc
  obtain ⟨⟨⟨h1, h2⟩, h3⟩, h4⟩ := hc
  have fin : ∀ (h' : Heap) (tk : Tok) (t : Tok), (∀ b o, s.heap.get? b = some o → h'.get? b = some o) →
      EP X pins σ Q (.str d.shown t) { s with heap := h', toks := tk } := fun h' tk t k => ⟨.str d.shown, H, I.kept k, ⟨t, rfl⟩, q⟩
  have flat : ∀ b o, s.heap.get? b = some o → s.heap.get? b = some o := fun _ _ e => e
  obtain ⟨as, rd, hsm⟩ := Rp.reads I d v u hv ru
  cases hv with
  | non => cases ru; exact P.repr_of_none (by simpa only [PyData.shown] using fin s.heap _ _ flat)
  | bl b => cases ru; exact P.repr_of_bool (by simpa only [PyData.shown] using fin s.heap _ _ flat)
  | int i => obtain ⟨t, rfl⟩ := ru; exact P.repr_of_int (by simpa [PyData.showable] using h1) (by simpa only [PyData.shown] using fin s.heap _ _ flat)
  | str x => obtain ⟨t, rfl⟩ := ru; exact P.repr_of_str (by simpa only [PyData.shown] using fin s.heap _ _ flat) (by simpa only [PyData.shown] using h3)
  | tup e1 e2 =>
    cases ru
    have ho := h4.resolve_right (by simp)
    exact repr_of_reads' rd h1 (hsm ho) hg (by omega) flat (fun h' t tk k => fin h' tk t k) h3
  | dct e1 =>
    cases ru
    exact repr_of_reads' rd h1 (hsm rfl) hg (by omega) flat (fun h' t tk k => fin h' tk t k) h3
  | @lst a xs ds e1 e2 =>
    cases ru
    rcases h4 with ho | ho
    · exact repr_of_reads' rd h1 (hsm ho) hg (by omega) flat (fun h' t tk k => fin h' tk t k) h3
    · obtain ⟨_, its, n, rv, hobj⟩ := I.hok a _ e1
      have hz' : (listText (PyData.shownAll ds)).length ≤ sizeLine := by simpa only [PyData.shown] using h3
      obtain ⟨as, bs, ra, hb, hk⟩ := reprAll1 (prog := X.prog) (w := X.w) I ds xs its e2 rv ho (by simpa [PyData.showable] using h1) (fun t ht => Nat.le_trans (listText_mem_le ht) hz')
      have hl : Reads s.heap (.ref a) (.list ds) (a :: as) := Reads.list (vs := its.toArray) hobj rfl rfl (by simpa using ra)
      have hna : a ∉ bs := not_mem_of_deeper hl (by simp only [PyData.depth]; omega) hb
      simp only [PyData.depth] at h2
      simp only [PyData.shown] at fin
      refine call_repr_slot (by omega) ⟨_, hobj, rfl⟩ F.slot_list_repr.toG ?_
      cases its with
      | nil =>
        cases ra
        simp only [PyData.shownAll, listText_nil] at fin
        exact call_list_repr_empty ⟨_, hobj, rfl⟩ hobj rfl ⟨_, _, rfl, fin s.heap _ _ flat⟩
      | cons x l =>
        exact call_list_reprK (x := x) (l := l) hobj rfl rfl hna (by simpa using hk.length_eq) (fun i y e => hk.item i y (by simpa using e)) hg (fun b _ => Clear.nil b)
          (by show X.A.units + 1 + _ < cLine; omega) flat (fun h' t tk k => ⟨_, _, rfl, fin h' tk t k⟩) hz'
end
end GP
/-! growth: == of data -/
namespace GP
open PySem PySem.Spec PyProof.Rows L2

mutual
theorem Rp.dp {K : PySem.W.Frag} {H : Hp} : ∀ (d : PyData) (v : V), Rp H v d → d.hasDict = false → Dp K H v d
  | .none, _, h, _ => by cases h; exact .non
  | .bool b, _, h, _ => by cases h; exact .bl b
  | .int i, _, h, _ => by cases h; exact .int i
  | .str x, _, h, _ => by cases h; exact .str x
  | .list ds, _, h, z => by cases h with | lst h1 h2 => exact .lst (SqL.of h1) (RpAll.dp ds _ h2 (by simpa [PyData.hasDict] using z))
  | .tuple ds, _, h, z => by cases h with | tup h1 h2 => exact .tup (SqT.of h1) (RpAll.dp ds _ h2 (by simpa [PyData.hasDict] using z))
  | .dict _, _, _, z => by simp [PyData.hasDict] at z
theorem RpAll.dp {K : PySem.W.Frag} {H : Hp} : ∀ (ds : List PyData) (vs : List V), RpAll H vs ds → PyData.hasDictAll ds = false → DpAll K H vs ds
  | [], _, h, _ => by cases h; exact .nil
  | d :: ds, _, h, z => by
    have z' : d.hasDict = false ∧ PyData.hasDictAll ds = false := by simpa [PyData.hasDictAll] using z
    cases h with | cons h1 h2 => exact .cons (Rp.dp d _ h1 z'.1) (RpAll.dp ds _ h2 z'.2)
end
theorem shaped_noDict {d : PyData} (h : SeqAt.shaped d = true) : d.hasDict = false := by
  unfold SeqAt.shaped at h
  simp only [Bool.and_eq_true] at h
  exact PyData.hasDict_of_canLay d h.1

/-- two values of one datum -/
abbrev DR (d : PyData) : Eqv := fun x y H => Rp H x d ∧ Rp H y d
abbrev DRs (ds : List PyData) : Eqv := fun x y H => ∃ d, d ∈ ds ∧ DR d x y H
theorem mon_dr (d : PyData) : Mon (DR d) := fun x y H H' e h => ⟨Rp.same e d x h.1, Rp.same e d y h.2⟩
theorem mon_drs (ds : List PyData) : Mon (DRs ds) := fun x y H H' e ⟨d, hm, h⟩ => ⟨d, hm, mon_dr d x y H H' e h⟩
theorem prs_of {H : Hp} {ds : List PyData} {xs ys : List V} (h1 : RpAll H xs ds) (h2 : RpAll H ys ds) : Prs (DRs ds) xs ys H := by
  refine ⟨h1.length.trans h2.length.symm, fun i x y e1 e2 => ?_⟩
  obtain ⟨d, q1, r1⟩ := h1.get e1
  obtain ⟨d', q2, r2⟩ := h2.get e2
  rw [q1] at q2
  cases q2
  exact ⟨d, List.mem_of_getElem? q1, r1, r2⟩
theorem depth_mem {d : PyData} : ∀ {ds : List PyData}, d ∈ ds → d.depth ≤ PyData.depthAll ds
  | [], h => absurd h List.not_mem_nil
  | e :: ds, h => by
    simp only [PyData.depthAll]
    rcases List.mem_cons.mp h with r | r
    · subst r; exact Nat.le_max_left _ _
    · exact Nat.le_trans (depth_mem r) (Nat.le_max_right _ _)

section
variable {X : Cx}
theorem rcG_dict {k : Str} {i : Int} : RcG X 1 (DR (.dict [(.str k, .int i)])) := by
  intro A pins s σ H x y u v sb I rx ry d
  obtain ⟨h1, h2⟩ := d
  cases h1 with
  | @dct a _ _ e1 =>
    cases h2 with
    | @dct b _ _ e2 =>
      have q : EqR X.K H (fun x y => x = y ∧ flatB x = true) (.ref a) (.ref b) := by
        refine .inr ⟨a, b, _, _, rfl, rfl, e1, e2, rfl, fun p hp => ?_⟩
        obtain rfl := List.mem_singleton.mp hp
        refine ⟨.int i, ?_, rfl, rfl⟩
        first | rfl | simp [valV]
      refine eqR_run I (A := A) sb.room.units0 (fun x y v u h rx ry => ?_) q rx ry _ _ ⟨rfl, H, I, Ext.rfl'⟩
      obtain ⟨rfl, f⟩ := h
      exact (eqAt_same rx ry f).eqP
theorem eqG_none : EqG X 0 (DR .none) := eqG_flat.imp fun x y H h => by
  obtain ⟨h1, h2⟩ := h; cases h1; cases h2; exact ⟨rfl, rfl, by first | rfl | simp [eqV]⟩
theorem eqG_bool {b : Bool} : EqG X 0 (DR (.bool b)) := eqG_flat.imp fun x y H h => by
  obtain ⟨h1, h2⟩ := h; cases h1; cases h2; exact ⟨rfl, rfl, by first | rfl | simp [eqV]⟩
theorem eqG_int {i : Int} : EqG X 0 (DR (.int i)) := eqG_flat.imp fun x y H h => by
  obtain ⟨h1, h2⟩ := h; cases h1; cases h2; exact ⟨rfl, rfl, by first | rfl | simp [eqV]⟩
theorem eqG_str {z : Str} : EqG X 0 (DR (.str z)) := eqG_flat.imp fun x y H h => by
  obtain ⟨h1, h2⟩ := h; cases h1; cases h2; exact ⟨rfl, rfl, by first | rfl | simp [eqV]⟩
theorem refs_of {d : PyData} {x y : V} {H : Hp} (hd : ∀ v, Rp H v d → ∃ a, v = .ref a) (h : DR d x y H) : ∃ a b, x = .ref a ∧ y = .ref b :=
  let ⟨a, ha⟩ := hd x h.1
  let ⟨b, hb⟩ := hd y h.2
  ⟨a, b, ha, hb⟩
mutual
theorem eqG_rp : ∀ d : PyData, EqG X (d.depth + 1) (DR d)
  | .none => eqG_none.mono (Nat.zero_le _)
  | .bool b => eqG_bool.mono (Nat.zero_le _)
  | .int i => eqG_int.mono (Nat.zero_le _)
  | .str z => eqG_str.mono (Nat.zero_le _)
  | .list ds => by
    have h := eqG_list (X := X) (mon_drs ds) (eqG_rps ds)
    simp only [PyData.depth]
    refine (h.mono (by omega)).imp fun x y H q => ?_
    obtain ⟨h1, h2⟩ := q
    cases h1 with | @lst a xs _ e1 r1 => cases h2 with | @lst b ys _ e2 r2 => exact ⟨a, b, xs, ys, rfl, rfl, e1, e2, prs_of r1 r2⟩
  | .tuple ds => by
    have h := eqG_tup (X := X) (mon_drs ds) (eqG_rps ds)
    simp only [PyData.depth]
    refine (h.mono (by omega)).imp fun x y H q => ?_
    obtain ⟨h1, h2⟩ := q
    cases h1 with | @tup a xs _ e1 r1 => cases h2 with | @tup b ys _ e2 r2 => exact ⟨a, b, xs, ys, rfl, rfl, SqT.of e1, SqT.of e2, prs_of r1 r2⟩
  | .dict kvs => by
    intro A pins s σ H x y u v sb I rx ry d
    obtain ⟨h1, h2⟩ := d
    cases h1 with
    | @dct a k i e1 =>
      have q := (rcG_dict (X := X) (k := k) (i := i)).eqG fun x y H h => by
        obtain ⟨h1, h2⟩ := h
        cases h1 with | @dct a _ _ e1 => cases h2 with | @dct b _ _ e2 => exact ⟨a, b, rfl, rfl⟩
      exact q A pins s σ H _ y u v (sb.mono (by omega)) I rx ry ⟨.dct e1, h2⟩
theorem eqG_rps : ∀ ds : List PyData, EqG X (PyData.depthAll ds + 1) (DRs ds)
  | [] => fun A pins s σ H x y u v sb I rx ry d => by obtain ⟨d, hm, _⟩ := d; exact absurd hm List.not_mem_nil
  | d :: ds => fun A pins s σ H x y u v sb I rx ry h => by
    obtain ⟨e, hm, hr⟩ := h
    simp only [PyData.depthAll] at sb
    rcases List.mem_cons.mp hm with r | r
    · rw [r] at hr
      exact eqG_rp d A pins s σ H x y u v (sb.mono (Nat.succ_le_succ (Nat.le_max_left _ _))) I rx ry hr
    · exact eqG_rps ds A pins s σ H x y u v (sb.mono (Nat.succ_le_succ (Nat.le_max_right _ _))) I rx ry ⟨e, r, hr⟩
end

/-- x == y of data: what it says of shaped ones; True of one and the same datum -/
def rEqX : R2 := fun x y H Q =>
  (∃ d e, Rp H x d ∧ Rp H y e ∧ SeqAt.shaped d = true ∧ SeqAt.shaped e = true ∧ Q (.bl (PyData.eqv d e)) H) ∨
  (∃ d, Rp H x d ∧ Rp H y d ∧ d.depth ≤ 6 ∧ ∀ H', Same H H' → Q (.bl true) H')
theorem op_eqX (hr : Room 8 X.A) : OpR X (compareOp .Eq) rEqX := by
  intro pins s σ H x y v u Q I rx ry h
  rcases h with ⟨d, e, hd, he, sd, se, q⟩ | ⟨d, hd, he, hdep, q⟩
  · exact op_eqD hr.units pins s σ H x y v u Q I rx ry ⟨d, e, Rp.dp d x hd (shaped_noDict sd), Rp.dp e y he (shaped_noDict se), sd, se, q⟩
  · have flat : ∀ z : V, x = z → y = z → scal z z = true → wpAny (model X.prog X.w) X.A (compareOp .Eq v u) (EP X pins σ Q) X.xe s := by
      intro z e1 e2 sc
      subst e1
      subst e2
      exact op_eq pins s σ H _ _ v u Q I rx ry ⟨sc, by rw [decide_eq_true rfl]; exact q H (Same.refl H)⟩
    cases d with
    | none => cases hd; cases he; exact flat _ rfl rfl rfl
    | bool b => cases hd; cases he; exact flat _ rfl rfl rfl
    | int i => cases hd; cases he; exact flat _ rfl rfl rfl
    | str z => cases hd; cases he; exact flat _ rfl rfl rfl
    | list ds =>
      cases hd with | @lst a xs _ e1 r1 => cases he with | @lst b ys _ e2 r2 =>
        simp only [PyData.depth] at hdep
        exact op_eqG (rcG_list (X := X) (mon_drs ds) (eqG_rps ds)) (hr.mono (by omega)) pins s σ H _ _ v u Q I rx ry ⟨⟨a, b, xs, ys, rfl, rfl, e1, e2, prs_of r1 r2⟩, q⟩
    | tuple ds =>
      cases hd with | @tup a xs _ e1 r1 => cases he with | @tup b ys _ e2 r2 =>
        simp only [PyData.depth] at hdep
        exact op_eqG (rcG_tup (X := X) (mon_drs ds) (eqG_rps ds)) (hr.mono (by omega)) pins s σ H _ _ v u Q I rx ry ⟨⟨a, b, xs, ys, rfl, rfl, SqT.of e1, SqT.of e2, prs_of r1 r2⟩, q⟩
    | dict kvs =>
      cases hd with | @dct a k i e1 =>
        exact op_eqG (rcG_dict (X := X)) (hr.mono (by omega)) pins s σ H _ _ v u Q I rx ry ⟨⟨.dct e1, he⟩, q⟩
end
end GP
/-! growth: what changes at one place alone -/
namespace GP
open PySem PySem.Spec PyProof.Rows L2

/-- the heap without what stands at p -/
def hid (p : Addr) (H : Hp) : Hp := fun b => if b = p then none else H b
theorem hid_ne {p b : Addr} {H : Hp} (h : b ≠ p) : hid p H b = H b := if_neg h
theorem hid_self {p : Addr} {H : Hp} : hid p H p = none := if_pos rfl
theorem hid_some {p b : Addr} {H : Hp} {o : HO} (h : hid p H b = some o) : b ≠ p ∧ H b = some o := by
  by_cases e : b = p
  · rw [e, hid_self] at h; cases h
  · rw [hid_ne e] at h; exact ⟨e, h⟩
/-- all but p stays -/
def Ch (p : Addr) (H H' : Hp) : Prop := Same (hid p H) (hid p H')
theorem Ch.refl (p : Addr) (H : Hp) : Ch p H H := Same.refl _
theorem Ch.trans {p : Addr} {H H1 H2 : Hp} (a : Ch p H H1) (b : Ch p H1 H2) : Ch p H H2 := Same.trans a b
theorem Ch.at_ {p b : Addr} {H H' : Hp} {o : HO} (c : Ch p H H') (h : b ≠ p) (e : H b = some o) : H' b = some o := by
  have q := c b o (by rw [hid_ne h]; exact e)
  exact (hid_some q).2
theorem Ch.of {p : Addr} {H H' : Hp} (h : ∀ b o, b ≠ p → H b = some o → H' b = some o) : Ch p H H' := fun b o e => by
  obtain ⟨n, e'⟩ := hid_some e
  rw [hid_ne n]
  exact h b o n e'
theorem Ch.same {p : Addr} {H H' : Hp} (s : Same H H') : Ch p H H' := Ch.of fun b o _ e => s b o e
theorem Ch.upd {p : Addr} {H : Hp} {o : HO} : Ch p H (upd H p o) := Ch.of fun b u n e => by rw [upd_ne n]; exact e
theorem Same.upd {H : Hp} {p : Addr} {o : HO} (h : H p = none) : Same H (upd H p o) := fun b u e => by rw [upd_ne (ne_of_none e h)]; exact e
/-- p new: nothing changes -/
theorem Ch.new {p : Addr} {H H' : Hp} (n : H p = none) (c : Ch p H H') : Same H H' := fun b o e => c.at_ (ne_of_none e n) e

/-- an object that is no datum -/
def noD : HO → Prop
  | .lst _ => False
  | .tup _ => False
  | .dK [(.inr _, .int _)] => False
  | _ => True
mutual
theorem Rp.ch {p : Addr} {H H' : Hp} {o : HO} (hp : H p = some o) (hn : noD o) (c : Ch p H H') : ∀ (d : PyData) (v : V), Rp H v d → Rp H' v d
  | .none, _, h => by cases h; exact .non
  | .bool b, _, h => by cases h; exact .bl b
  | .int i, _, h => by cases h; exact .int i
  | .str x, _, h => by cases h; exact .str x
  | .list ds, _, h => by
    cases h with
    | lst h1 h2 => exact .lst (c.at_ (fun e => by rw [e, hp] at h1; cases h1; exact hn) h1) (RpAll.ch hp hn c ds _ h2)
  | .tuple ds, _, h => by
    cases h with
    | tup h1 h2 => exact .tup (c.at_ (fun e => by rw [e, hp] at h1; cases h1; exact hn) h1) (RpAll.ch hp hn c ds _ h2)
  | .dict _, _, h => by
    cases h with
    | dct h1 => exact .dct (c.at_ (fun e => by rw [e, hp] at h1; cases h1; exact hn) h1)
theorem RpAll.ch {p : Addr} {H H' : Hp} {o : HO} (hp : H p = some o) (hn : noD o) (c : Ch p H H') : ∀ (ds : List PyData) (vs : List V), RpAll H vs ds → RpAll H' vs ds
  | [], _, h => by cases h; exact .nil
  | d :: ds, _, h => by
    cases h with
    | cons h1 h2 => exact .cons (Rp.ch hp hn c d _ h1) (RpAll.ch hp hn c ds _ h2)
end

/-! ### isinstance -/
def isList : PyData → Bool
  | .list _ => true
  | _ => false
theorem Rp.isList {K : PySem.W.Frag} {H : Hp} {v : V} {d : PyData} (h : Rp H v d) : ∃ t, TyX K H v t ∧ PySem.W.kitOne K t (.type "list") = some (isList d) := by
  cases h with
  | non => exact ⟨_, .base .non, kit_ty (by decide +kernel)⟩
  | bl b => exact ⟨_, .base (.bl b), kit_ty (by show kitB "bool" "list" = some false; decide +kernel)⟩
  | int i => exact ⟨_, .base (.int i), kit_ty (by show kitB "int" "list" = some false; decide +kernel)⟩
  | str x => exact ⟨_, .base (.str x), kit_ty (by show kitB "str" "list" = some false; decide +kernel)⟩
  | lst e _ => exact ⟨_, .base (.lst e), kit_ty (by show kitB "list" "list" = some true; decide +kernel)⟩
  | tup e _ => exact ⟨_, .base (.tup e), kit_ty (by show kitB "tuple" "list" = some false; decide +kernel)⟩
  | dct e => exact ⟨_, .base (.dK e), kit_ty (by show kitB "dict" "list" = some false; decide +kernel)⟩
/-- a list as a tuple -/
def cp : PyData → PyData
  | .list ds => .tuple ds
  | d => d

/-! ### readings -/
theorem bl_cases {A B : Prop} {b : Bool} (h1 : b = true → A) (h2 : b = false → B) : if b = true then A else B := by
  cases b with
  | true => exact iteT (h1 rfl)
  | false => exact iteF (h2 rfl)
end GP
namespace GP
open PySem PySem.Spec PyProof.Rows L2

/-! ### the text -/
def top (i : Nat) : Stmt := PySem.Challenge.pw_growthpapers_k90_classes_made_by_hand.main.body.getD i (.Pass ⟨0, 0, 0, 0⟩)
abbrev sCopied : Stmt := top 1
abbrev sCopy : Stmt := top 26

def fN : Nat → List Str
  | 0 => ["line", "column", "what"] | 1 => ["ratio"] | 2 => ["sign"] | 3 => ["number"] | 4 => ["word", "ratio"] | 5 => ["row"]
  | 6 => ["kind", "log", "unit", "home"] | 7 => ["letters", "order", "x"] | 8 => ["number", "powers"] | 9 => ["lets", "asks", "spots"]
  | 10 => ["field", "rows", "steps", "depth", "places", "root"] | _ => []
def cN : Nat → Str
  | 0 => "Stops" | 1 => "Limit" | 2 => "Infinite" | 3 => "Sign" | 4 => "Order" | 5 => "Expansion" | 6 => "Letter" | 7 => "Field" | 8 => "Lead" | 9 => "Model" | 10 => "Paper" | _ => ""

/-- what the top has left of its names -/
structure Txt (K : PySem.W.Frag) (mg : Str → Option Value) (C : Nat → Addr) : Prop where
  cl : ∀ i, i < 11 → Cls K (C i)
  no : ∀ i, i < 11 → ∀ f ∈ fN i, NoAttr K (C i) f
  ty1 : ∀ i, i < 11 → PySem.W.findIn K (.ref (C i)) "__class__" = some (some (.builtin "object.__class__"))
  ty2 : PySem.W.specialIn K (.builtin "object.__class__") "__get__" = some (some (.builtin "getset_descriptor.__get__"))
  ty3 : PySem.W.takesIn K (.builtin "object.__class__") = some true
  ty4 : ∀ i, i < 11 → PySem.W.mroIn K (C i) (.type "object") = some true
  kit : ∀ i j, i < 11 → j < 11 → PySem.W.kitOne K (.ref (C i)) (.ref (C j)) = some (decide (i = j))
  nf : ∀ i j, i < 11 → j < 11 → PySem.W.notFirst K (C i) (.ref (C j)) = true
  mgC : ∀ i, i < 11 → mg (cN i) = some (.ref (C i))
  isi : mg "isinstance" = none
  list : mg "list" = none
  tuple : mg "tuple" = none
  len : mg "len" = none
  int : mg "int" = none
  range : mg "range" = none
  repr : mg "repr" = none
  any : mg "any" = none

/-- a def whose args are one datum each: it hands back what m says of them, and makes objects alone -/
def spD (m : List PyData → PyData) (n : Nat) : Sp := fun vs H Q _ => ∃ ds, vs.length = n ∧ RpAll H vs ds ∧ ∀ v H', Same H H' → Rp H' v (m ds) → Q v H'

section
variable {P : Program} {w : World} {K : PySem.W.Frag} {mg : Str → Option Value} {base : Heap} {C : Nat → Addr}

theorem RpAll.one {H : Hp} {vs : List V} {ds : List PyData} (h : RpAll H vs ds) (l : vs.length = 1) : ∃ v d, vs = [v] ∧ ds = [d] ∧ Rp H v d := by
  cases h with
  | nil => cases l
  | cons h1 h2 => cases h2 with
    | nil => exact ⟨_, _, rfl, rfl, h1⟩
    | cons _ _ => cases l

def mcp : List PyData → PyData
  | [d] => cp d
  | _ => .none
theorem scCopied : FnScope ["value"] ["value"] (defScope sCopied) := ⟨rfl, rfl, rfl, by decide +kernel, rfl, by decide +kernel, by decide +kernel⟩
theorem ok_copied {f : Addr} {fd : FuncData} (F : Fun K "copied" "copied" sCopied f fd) (T : Txt K mg C) : FnOk P w K mg base CX0 1 f fd ["value"] (spD mcp 1) := by
  refine F.ok scCopied (fun vs H Q E h => ?_) (fun cdv A outer s H vs Q E hr h => ?_)
  · obtain ⟨ds, l, _⟩ := h
    exact l
  · obtain ⟨ds, l, hv, k⟩ := h
    obtain ⟨v, d, rfl, rfl, h1⟩ := hv.one l
    refine ⟨_, pss_one (ps_ret (pe_ifExp (pt_val (pe_callB call_isi (by rfl) T.isi boot_isinstance (pa_cons (pv 0) (pa_cons (pe_bltn (v := .ty "list") (by rfl) T.list Pv.boot_list rfl) pa_nil))))
      (pe_callTy call_tuple_of (by rfl) T.tuple Pv.boot_tuple (pa_cons (pv 0) pa_nil)) (pv 0))), ?_⟩
    obtain ⟨t, ht, hk⟩ := h1.isList (K := K)
    refine ⟨_, rfl, _, _, t, _, isList d, rfl, .ty _, ht, hk, _, rfl, ?_⟩
    cases h1 with
    | lst e1 e2 =>
      refine iteT ⟨_, rfl, _, _, rfl, .inl ⟨SqL.of e1, fun p hp => ?_⟩⟩
      exact k _ _ (Same.upd hp) (.tup upd_same (RpAll.same (Same.upd hp) _ _ e2))
    | non => exact iteF ⟨_, rfl, k _ _ (Same.refl H) .non⟩
    | bl b => exact iteF ⟨_, rfl, k _ _ (Same.refl H) (.bl b)⟩
    | int i => exact iteF ⟨_, rfl, k _ _ (Same.refl H) (.int i)⟩
    | str x => exact iteF ⟨_, rfl, k _ _ (Same.refl H) (.str x)⟩
    | tup e1 e2 => exact iteF ⟨_, rfl, k _ _ (Same.refl H) (.tup e1 e2)⟩
    | dct e1 => exact iteF ⟨_, rfl, k _ _ (Same.refl H) (.dct e1)⟩
theorem scCopy : FnScope ["value"] ["value"] (defScope sCopy) := ⟨rfl, rfl, rfl, by decide +kernel, rfl, by decide +kernel, by decide +kernel⟩
end
end GP
namespace GP
open PySem PySem.Spec PyProof.Rows L2

theorem fN_nodup : ∀ i, i < 11 → (fN i).Nodup := by decide +kernel
theorem zip_lookup {v : V} {f : Str} : ∀ {ns : List Str} {vs : List V} {i : Nat}, ns.Nodup → ns[i]? = some f → vs[i]? = some v → (ns.zip vs).lookup f = some v
  | [], _, _, _, h, _ => by simp at h
  | _ :: _, [], _, _, _, h => by simp at h
  | n :: ns, w :: vs, 0, _, h1, h2 => by
    simp at h1 h2
    subst h1; subst h2
    simp [List.zip, List.lookup]
  | n :: ns, w :: vs, i + 1, hd, h1, h2 => by
    have hn : f ≠ n := fun e => (List.nodup_cons.mp hd).1 (e ▸ List.mem_of_getElem? (by simpa using h1))
    have hb : (f == n) = false := beq_eq_false_iff_ne.mpr hn
    show List.lookup f ((n, w) :: ns.zip vs) = some v
    rw [List.lookup_cons, hb]
    exact zip_lookup (List.nodup_cons.mp hd).2 (by simpa using h1) (by simpa using h2)
theorem putF_new {f : Str} {v : V} : ∀ {fs : List (Str × V)}, f ∉ fs.map (·.1) → putF f v fs = fs ++ [(f, v)]
  | [], _ => rfl
  | (g, x) :: r, h => by
    have h1 : ¬ g = f := fun e => h (by rw [List.map_cons, e]; exact List.mem_cons_self)
    have h2 : f ∉ r.map (·.1) := fun e => h (by rw [List.map_cons]; exact List.mem_cons_of_mem _ e)
    show (if g = f then (g, v) :: r else (g, x) :: putF f v r) = _
    rw [if_neg h1, putF_new h2]
    rfl
theorem RpAll.uncons {H : Hp} {vs : List V} {ds : List PyData} {n : Nat} (h : RpAll H vs ds) (l : vs.length = n + 1) :
    ∃ v vs' d ds', vs = v :: vs' ∧ ds = d :: ds' ∧ Rp H v d ∧ RpAll H vs' ds' ∧ vs'.length = n := by
  cases h with
  | nil => cases l
  | cons h1 h2 => exact ⟨_, _, _, _, rfl, rfl, h1, h2, Nat.succ.inj l⟩
theorem RpAll.unnil {H : Hp} {vs : List V} {ds : List PyData} (h : RpAll H vs ds) (l : vs.length = 0) : vs = [] ∧ ds = [] := by
  cases h with
  | nil => exact ⟨rfl, rfl⟩
  | cons h1 h2 => cases l

/-- an object of class i with such fields -/
def Ob (C : Nat → Addr) (i : Nat) (H : Hp) (a : Addr) (ds : List PyData) : Prop :=
  ∃ dx vs, H a = some (.ins (C i) dx ((fN i).zip vs)) ∧ RpAll H vs ds ∧ vs.length = (fN i).length
theorem Ob.same {C : Nat → Addr} {i : Nat} {H H' : Hp} {a : Addr} {ds : List PyData} (s : Same H H') (o : Ob C i H a ds) : Ob C i H' a ds :=
  let ⟨dx, vs, h, r, l⟩ := o
  ⟨dx, vs, s _ _ h, RpAll.same s _ _ r, l⟩
theorem Ob.ch {C : Nat → Addr} {i : Nat} {H H' : Hp} {a p : Addr} {ds : List PyData} {o' : HO} (hp : H p = some o') (hn : noD o') (ho : ∀ D dx fs, o' ≠ .ins D dx fs) (c : Ch p H H') (o : Ob C i H a ds) : Ob C i H' a ds :=
  let ⟨dx, vs, h, r, l⟩ := o
  ⟨dx, vs, c.at_ (fun e => by rw [e, hp] at h; exact ho _ _ _ (Option.some.inj h)) h, RpAll.ch hp hn c _ _ r, l⟩

/-- __init__: the new object's fields are copies -/
def spInit (C : Nat → Addr) (i : Nat) : Sp := fun vs H Q _ => ∃ x args ds dx, vs = .ref x :: args ∧ args.length = (fN i).length ∧ H x = some (.ins (C i) dx []) ∧ RpAll H args ds ∧
  ∀ H', Ch x H H' → Ob C i H' x (ds.map cp) → Q .non H'

/-- what == compares -/
def ekey : Nat → List PyData → PyData
  | 1, [d] => d | 2, [d] => d | 3, [d] => d | 5, [d] => d
  | 9, [d, e, _] => .tuple [d, e]
  | _, ds => .tuple ds
/-- what == is to say -/
def EqRes (i j : Nat) (ds es : List PyData) (b : Bool) : Prop :=
  (j ≠ i ∧ b = false) ∨ (j = i ∧ ((ds = es ∧ (ekey i ds).depth ≤ 6 ∧ b = true) ∨
    (SeqAt.shaped (ekey i ds) = true ∧ SeqAt.shaped (ekey i es) = true ∧ b = PyData.eqv (ekey i ds) (ekey i es))))
def spEq (C : Nat → Addr) (i : Nat) : Sp := fun vs H Q _ => ∃ a b j ds es r, vs = [.ref a, .ref b] ∧ j < 11 ∧ Ob C i H a ds ∧ Ob C j H b es ∧ EqRes i j ds es r ∧ ∀ H', Same H H' → Q (.bl r) H'
def spNe (C : Nat → Addr) (i : Nat) : Sp := fun vs H Q _ => ∃ a b j ds es r, vs = [.ref a, .ref b] ∧ j < 11 ∧ Ob C i H a ds ∧ Ob C j H b es ∧ EqRes i j ds es r ∧ ∀ H', Same H H' → Q (.bl (!r)) H'

section
variable {K : PySem.W.Frag} {mg : Str → Option Value} {C : Nat → Addr}
theorem Ob.ty (T : Txt K mg C) {i : Nat} {H : Hp} {a : Addr} {ds : List PyData} (hi : i < 11) (o : Ob C i H a ds) : TyX K H (.ref a) (.ref (C i)) :=
  let ⟨_, _, h, _, _⟩ := o
  .base (.ins h (T.cl i hi) (T.ty1 i hi) T.ty2 T.ty3 (T.ty4 i hi))
end

/-- a method's def: the promise, where it stands -/
structure Own (P : Program) (w : World) (K : PySem.W.Frag) (mg : Str → Option Value) (base : Heap) (k : Nat) (C : Addr) (m : Str) (ps : List Str) (sp : Sp) (f : Addr) (fd : FuncData) : Prop where
  ok : FnOk P w K mg base CX0 k f fd ps sp
  at_ : PySem.W.findIn K (.ref C) m = some (some (.ref f))
  fn : PySem.W.isFn K (.ref f) = true
  b : Binds K fd ps []
section
variable {X : Cx} {C : Nat → Addr}
/-- x op y of two own objects, by the first one's def -/
theorem op_own {op : CmpOp} (hop : ∀ a b, compareOp op a b = richCompare op a b) {m : Str} (hm : (cmpInfo op).2.1 = m) {k : Nat} {ps : List Str} (sp : Nat → Sp) (hr : Room k X.A) (T : Txt X.K X.mg C)
    (F : ∀ i, i < 11 → ∃ f fd, Own X.prog X.w X.K X.mg X.base k (C i) m ps (sp i) f fd) :
    OpR X (compareOp op) (fun x y H Q => ∃ i a b j ds es, i < 11 ∧ j < 11 ∧ x = .ref a ∧ y = .ref b ∧ Ob C i H a ds ∧ Ob C j H b es ∧ sp i [.ref a, .ref b] H (fun v H' => (∃ r, v = .bl r) ∧ Q v H') E0) := by
  intro pins s σ H x y v u Q I rx ry h
  obtain ⟨i, a, b, j, ds, es, hi, hj, rfl, rfl, ha, hb, q⟩ := h
  cases (show v = Value.ref a from rx)
  cases (show u = Value.ref b from ry)
  obtain ⟨dx, vs, ha, _, _⟩ := ha
  obtain ⟨dy, ws, hb, _, _⟩ := hb
  obtain ⟨f, fd, G⟩ := F i hi
  obtain ⟨mA, J, _⟩ := ins_get I.hok ha
  obtain ⟨mB, J', _⟩ := ins_get I.hok hb
  obtain ⟨od, J, _⟩ := J.look
  obtain ⟨od', J', _⟩ := J'.look
  obtain ⟨mm, hF⟩ := I.fr
  rw [hop]
  refine PySem.W.cmp_K (op := op) (tb := .ref (C j)) hr.units0 hF I.ok.mod.kin J J'.type (T.nf i j hi hj) (by rw [hm]; exact G.at_) G.fn ?_
  refine wpAny_mono (run_fn (us := [.ref a, .ref b]) (vs := [.ref a, .ref b]) (dvs := []) (ds := []) G.ok hr G.b .nil pass0 I (.cons rfl (.cons rfl .nil)) q) ?_ fun _ _ z => z
  rintro z s' ⟨zv, H', I', rz, ⟨r, er⟩, qz⟩
  subst er
  cases rz
  exact ⟨.bl r, H', I', rfl, qz⟩
end
end GP
namespace GP
open PySem PySem.Spec PyProof.Rows L2
section
variable {P : Program} {w : World} {K : PySem.W.Frag} {mg : Str → Option Value} {base : Heap} {C : Nat → Addr}
abbrev sI0 : Stmt := inClass (top 3) 0
theorem scI0 : FnScope ["self", "line", "column", "what"] ["self", "line", "column", "what"] (defScope sI0) := ⟨rfl, rfl, rfl, by decide +kernel, rfl, by decide +kernel, by decide +kernel⟩
theorem ok_I0 {f fc : Addr} {fd fdc : FuncData} (F : Fun K "__init__" "Stops.__init__" sI0 f fd) (T : Txt K mg C) (Fc : FnOk P w K mg base CX0 1 fc fdc ["value"] (spD mcp 1)) (mc : mg "copied" = some (.ref fc)) (kc : PySem.W.keepIn K (.ref fc) = true) (bc : Binds K fdc ["value"] []) :
    FnOk P w K mg base CX0 2 f fd ["self", "line", "column", "what"] (spInit C 0) := by
  refine F.ok scI0 (fun vs H Q E h => ?_) (fun cdv A outer s H vs Q E hr h => ?_)
  · obtain ⟨x, args, ds, dx, rfl, l, _⟩ := h
    exact congrArg Nat.succ l
  · obtain ⟨x, args, ds, dx, rfl, l, h0, hv, k⟩ := h
    obtain ⟨v0, args, e0, ds, rfl, rfl, r0, hv, l⟩ := hv.uncons l
    obtain ⟨v1, args, e1, ds, rfl, rfl, r1, hv, l⟩ := hv.uncons l
    obtain ⟨v2, args, e2, ds, rfl, rfl, r2, hv, l⟩ := hv.uncons l
    obtain ⟨rfl, rfl⟩ := hv.unnil l
    refine ⟨_, pss_cons (ps_fld (pv 0) (pe_call Fc hr (by rfl) mc kc bc .nil pass0 (pa_cons (pv 1) pa_nil)) rfl) (pss_cons (ps_fld (pv 0) (pe_call Fc hr (by rfl) mc kc bc .nil pass0 (pa_cons (pv 2) pa_nil)) rfl) (pss_one (ps_fld (pv 0) (pe_call Fc hr (by rfl) mc kc bc .nil pass0 (pa_cons (pv 3) pa_nil)) rfl))), ?_⟩
    refine ⟨_, rfl, [_], rfl, .cons r0 .nil, fun u0 G0 s0 q0 => ?_⟩
    have g0 := s0 _ _ h0
    refine ⟨_, rfl, x, C 0, dx, _, rfl, g0, T.cl 0 (by decide), T.no 0 (by decide) _ (List.mem_of_getElem? (i := 0) rfl), (by show 0 < 1000; decide), ?_⟩
    rw [show putF "line" u0 ([] : List (Str × V)) = ([("line", u0)] : List (Str × V)) from putF_new (by first | exact List.not_mem_nil | (simp only [List.map_cons, List.map_nil]; decide +kernel))]
    obtain ⟨H1, eH1⟩ : ∃ H', H' = upd G0 x (.ins (C 0) dx [("line", u0)]) := ⟨_, rfl⟩
    rw [← eH1]
    have h1 : H1 x = some (.ins (C 0) dx [("line", u0)]) := by rw [eH1]; exact upd_same
    have d1 : Ch x H H1 := (Ch.same s0).trans (by rw [eH1]; exact Ch.upd)
    have w1 : Ch x G0 H1 := by rw [eH1]; exact Ch.upd
    have c1 : Ch x H H1 := d1
    refine ⟨_, rfl, [_], rfl, .cons (Rp.ch h0 trivial c1 _ _ r1) .nil, fun u1 G1 s1 q1 => ?_⟩
    have g1 := s1 _ _ h1
    refine ⟨_, rfl, x, C 0, dx, _, rfl, g1, T.cl 0 (by decide), T.no 0 (by decide) _ (List.mem_of_getElem? (i := 1) rfl), (by show 1 < 1000; decide), ?_⟩
    rw [show putF "column" u1 ([("line", u0)] : List (Str × V)) = ([("line", u0), ("column", u1)] : List (Str × V)) from putF_new (by first | exact List.not_mem_nil | (simp only [List.map_cons, List.map_nil]; decide +kernel))]
    obtain ⟨H2, eH2⟩ : ∃ H', H' = upd G1 x (.ins (C 0) dx [("line", u0), ("column", u1)]) := ⟨_, rfl⟩
    rw [← eH2]
    have h2 : H2 x = some (.ins (C 0) dx [("line", u0), ("column", u1)]) := by rw [eH2]; exact upd_same
    have d2 : Ch x H1 H2 := (Ch.same s1).trans (by rw [eH2]; exact Ch.upd)
    have w2 : Ch x G1 H2 := by rw [eH2]; exact Ch.upd
    have c2 : Ch x H H2 := c1.trans d2
    refine ⟨_, rfl, [_], rfl, .cons (Rp.ch h0 trivial c2 _ _ r2) .nil, fun u2 G2 s2 q2 => ?_⟩
    have g2 := s2 _ _ h2
    refine ⟨_, rfl, x, C 0, dx, _, rfl, g2, T.cl 0 (by decide), T.no 0 (by decide) _ (List.mem_of_getElem? (i := 2) rfl), (by show 2 < 1000; decide), ?_⟩
    rw [show putF "what" u2 ([("line", u0), ("column", u1)] : List (Str × V)) = ([("line", u0), ("column", u1), ("what", u2)] : List (Str × V)) from putF_new (by first | exact List.not_mem_nil | (simp only [List.map_cons, List.map_nil]; decide +kernel))]
    obtain ⟨H3, eH3⟩ : ∃ H', H' = upd G2 x (.ins (C 0) dx [("line", u0), ("column", u1), ("what", u2)]) := ⟨_, rfl⟩
    rw [← eH3]
    have h3 : H3 x = some (.ins (C 0) dx [("line", u0), ("column", u1), ("what", u2)]) := by rw [eH3]; exact upd_same
    have d3 : Ch x H2 H3 := (Ch.same s2).trans (by rw [eH3]; exact Ch.upd)
    have w3 : Ch x G2 H3 := by rw [eH3]; exact Ch.upd
    have c3 : Ch x H H3 := c2.trans d3
    exact k H3 c3 ⟨dx, [u0, u1, u2], h3, .cons (Rp.ch h2 trivial d3 _ _ (Rp.ch h1 trivial d2 _ _ (Rp.ch g0 trivial w1 _ _ q0))) (.cons (Rp.ch h2 trivial d3 _ _ (Rp.ch g1 trivial w2 _ _ q1)) (.cons (Rp.ch g2 trivial w3 _ _ q2) .nil)), rfl⟩
abbrev sI1 : Stmt := inClass (top 4) 0
theorem scI1 : FnScope ["self", "ratio"] ["self", "ratio"] (defScope sI1) := ⟨rfl, rfl, rfl, by decide +kernel, rfl, by decide +kernel, by decide +kernel⟩
theorem ok_I1 {f fc : Addr} {fd fdc : FuncData} (F : Fun K "__init__" "Limit.__init__" sI1 f fd) (T : Txt K mg C) (Fc : FnOk P w K mg base CX0 1 fc fdc ["value"] (spD mcp 1)) (mc : mg "copied" = some (.ref fc)) (kc : PySem.W.keepIn K (.ref fc) = true) (bc : Binds K fdc ["value"] []) :
    FnOk P w K mg base CX0 2 f fd ["self", "ratio"] (spInit C 1) := by
  refine F.ok scI1 (fun vs H Q E h => ?_) (fun cdv A outer s H vs Q E hr h => ?_)
  · obtain ⟨x, args, ds, dx, rfl, l, _⟩ := h
    exact congrArg Nat.succ l
  · obtain ⟨x, args, ds, dx, rfl, l, h0, hv, k⟩ := h
    obtain ⟨v0, args, e0, ds, rfl, rfl, r0, hv, l⟩ := hv.uncons l
    obtain ⟨rfl, rfl⟩ := hv.unnil l
    refine ⟨_, pss_one (ps_fld (pv 0) (pe_call Fc hr (by rfl) mc kc bc .nil pass0 (pa_cons (pv 1) pa_nil)) rfl), ?_⟩
    refine ⟨_, rfl, [_], rfl, .cons r0 .nil, fun u0 G0 s0 q0 => ?_⟩
    have g0 := s0 _ _ h0
    refine ⟨_, rfl, x, C 1, dx, _, rfl, g0, T.cl 1 (by decide), T.no 1 (by decide) _ (List.mem_of_getElem? (i := 0) rfl), (by show 0 < 1000; decide), ?_⟩
    rw [show putF "ratio" u0 ([] : List (Str × V)) = ([("ratio", u0)] : List (Str × V)) from putF_new (by first | exact List.not_mem_nil | (simp only [List.map_cons, List.map_nil]; decide +kernel))]
    obtain ⟨H1, eH1⟩ : ∃ H', H' = upd G0 x (.ins (C 1) dx [("ratio", u0)]) := ⟨_, rfl⟩
    rw [← eH1]
    have h1 : H1 x = some (.ins (C 1) dx [("ratio", u0)]) := by rw [eH1]; exact upd_same
    have d1 : Ch x H H1 := (Ch.same s0).trans (by rw [eH1]; exact Ch.upd)
    have w1 : Ch x G0 H1 := by rw [eH1]; exact Ch.upd
    have c1 : Ch x H H1 := d1
    exact k H1 c1 ⟨dx, [u0], h1, .cons (Rp.ch g0 trivial w1 _ _ q0) .nil, rfl⟩
abbrev sI2 : Stmt := inClass (top 5) 0
theorem scI2 : FnScope ["self", "sign"] ["self", "sign"] (defScope sI2) := ⟨rfl, rfl, rfl, by decide +kernel, rfl, by decide +kernel, by decide +kernel⟩
theorem ok_I2 {f fc : Addr} {fd fdc : FuncData} (F : Fun K "__init__" "Infinite.__init__" sI2 f fd) (T : Txt K mg C) (Fc : FnOk P w K mg base CX0 1 fc fdc ["value"] (spD mcp 1)) (mc : mg "copied" = some (.ref fc)) (kc : PySem.W.keepIn K (.ref fc) = true) (bc : Binds K fdc ["value"] []) :
    FnOk P w K mg base CX0 2 f fd ["self", "sign"] (spInit C 2) := by
  refine F.ok scI2 (fun vs H Q E h => ?_) (fun cdv A outer s H vs Q E hr h => ?_)
  · obtain ⟨x, args, ds, dx, rfl, l, _⟩ := h
    exact congrArg Nat.succ l
  · obtain ⟨x, args, ds, dx, rfl, l, h0, hv, k⟩ := h
    obtain ⟨v0, args, e0, ds, rfl, rfl, r0, hv, l⟩ := hv.uncons l
    obtain ⟨rfl, rfl⟩ := hv.unnil l
    refine ⟨_, pss_one (ps_fld (pv 0) (pe_call Fc hr (by rfl) mc kc bc .nil pass0 (pa_cons (pv 1) pa_nil)) rfl), ?_⟩
    refine ⟨_, rfl, [_], rfl, .cons r0 .nil, fun u0 G0 s0 q0 => ?_⟩
    have g0 := s0 _ _ h0
    refine ⟨_, rfl, x, C 2, dx, _, rfl, g0, T.cl 2 (by decide), T.no 2 (by decide) _ (List.mem_of_getElem? (i := 0) rfl), (by show 0 < 1000; decide), ?_⟩
    rw [show putF "sign" u0 ([] : List (Str × V)) = ([("sign", u0)] : List (Str × V)) from putF_new (by first | exact List.not_mem_nil | (simp only [List.map_cons, List.map_nil]; decide +kernel))]
    obtain ⟨H1, eH1⟩ : ∃ H', H' = upd G0 x (.ins (C 2) dx [("sign", u0)]) := ⟨_, rfl⟩
    rw [← eH1]
    have h1 : H1 x = some (.ins (C 2) dx [("sign", u0)]) := by rw [eH1]; exact upd_same
    have d1 : Ch x H H1 := (Ch.same s0).trans (by rw [eH1]; exact Ch.upd)
    have w1 : Ch x G0 H1 := by rw [eH1]; exact Ch.upd
    have c1 : Ch x H H1 := d1
    exact k H1 c1 ⟨dx, [u0], h1, .cons (Rp.ch g0 trivial w1 _ _ q0) .nil, rfl⟩
abbrev sI3 : Stmt := inClass (top 6) 0
theorem scI3 : FnScope ["self", "number"] ["self", "number"] (defScope sI3) := ⟨rfl, rfl, rfl, by decide +kernel, rfl, by decide +kernel, by decide +kernel⟩
theorem ok_I3 {f fc : Addr} {fd fdc : FuncData} (F : Fun K "__init__" "Sign.__init__" sI3 f fd) (T : Txt K mg C) (Fc : FnOk P w K mg base CX0 1 fc fdc ["value"] (spD mcp 1)) (mc : mg "copied" = some (.ref fc)) (kc : PySem.W.keepIn K (.ref fc) = true) (bc : Binds K fdc ["value"] []) :
    FnOk P w K mg base CX0 2 f fd ["self", "number"] (spInit C 3) := by
  refine F.ok scI3 (fun vs H Q E h => ?_) (fun cdv A outer s H vs Q E hr h => ?_)
  · obtain ⟨x, args, ds, dx, rfl, l, _⟩ := h
    exact congrArg Nat.succ l
  · obtain ⟨x, args, ds, dx, rfl, l, h0, hv, k⟩ := h
    obtain ⟨v0, args, e0, ds, rfl, rfl, r0, hv, l⟩ := hv.uncons l
    obtain ⟨rfl, rfl⟩ := hv.unnil l
    refine ⟨_, pss_one (ps_fld (pv 0) (pe_call Fc hr (by rfl) mc kc bc .nil pass0 (pa_cons (pv 1) pa_nil)) rfl), ?_⟩
    refine ⟨_, rfl, [_], rfl, .cons r0 .nil, fun u0 G0 s0 q0 => ?_⟩
    have g0 := s0 _ _ h0
    refine ⟨_, rfl, x, C 3, dx, _, rfl, g0, T.cl 3 (by decide), T.no 3 (by decide) _ (List.mem_of_getElem? (i := 0) rfl), (by show 0 < 1000; decide), ?_⟩
    rw [show putF "number" u0 ([] : List (Str × V)) = ([("number", u0)] : List (Str × V)) from putF_new (by first | exact List.not_mem_nil | (simp only [List.map_cons, List.map_nil]; decide +kernel))]
    obtain ⟨H1, eH1⟩ : ∃ H', H' = upd G0 x (.ins (C 3) dx [("number", u0)]) := ⟨_, rfl⟩
    rw [← eH1]
    have h1 : H1 x = some (.ins (C 3) dx [("number", u0)]) := by rw [eH1]; exact upd_same
    have d1 : Ch x H H1 := (Ch.same s0).trans (by rw [eH1]; exact Ch.upd)
    have w1 : Ch x G0 H1 := by rw [eH1]; exact Ch.upd
    have c1 : Ch x H H1 := d1
    exact k H1 c1 ⟨dx, [u0], h1, .cons (Rp.ch g0 trivial w1 _ _ q0) .nil, rfl⟩
abbrev sI4 : Stmt := inClass (top 7) 0
theorem scI4 : FnScope ["self", "word", "ratio"] ["self", "word", "ratio"] (defScope sI4) := ⟨rfl, rfl, rfl, by decide +kernel, rfl, by decide +kernel, by decide +kernel⟩
theorem ok_I4 {f fc : Addr} {fd fdc : FuncData} (F : Fun K "__init__" "Order.__init__" sI4 f fd) (T : Txt K mg C) (Fc : FnOk P w K mg base CX0 1 fc fdc ["value"] (spD mcp 1)) (mc : mg "copied" = some (.ref fc)) (kc : PySem.W.keepIn K (.ref fc) = true) (bc : Binds K fdc ["value"] []) :
    FnOk P w K mg base CX0 2 f fd ["self", "word", "ratio"] (spInit C 4) := by
  refine F.ok scI4 (fun vs H Q E h => ?_) (fun cdv A outer s H vs Q E hr h => ?_)
  · obtain ⟨x, args, ds, dx, rfl, l, _⟩ := h
    exact congrArg Nat.succ l
  · obtain ⟨x, args, ds, dx, rfl, l, h0, hv, k⟩ := h
    obtain ⟨v0, args, e0, ds, rfl, rfl, r0, hv, l⟩ := hv.uncons l
    obtain ⟨v1, args, e1, ds, rfl, rfl, r1, hv, l⟩ := hv.uncons l
    obtain ⟨rfl, rfl⟩ := hv.unnil l
    refine ⟨_, pss_cons (ps_fld (pv 0) (pe_call Fc hr (by rfl) mc kc bc .nil pass0 (pa_cons (pv 1) pa_nil)) rfl) (pss_one (ps_fld (pv 0) (pe_call Fc hr (by rfl) mc kc bc .nil pass0 (pa_cons (pv 2) pa_nil)) rfl)), ?_⟩
    refine ⟨_, rfl, [_], rfl, .cons r0 .nil, fun u0 G0 s0 q0 => ?_⟩
    have g0 := s0 _ _ h0
    refine ⟨_, rfl, x, C 4, dx, _, rfl, g0, T.cl 4 (by decide), T.no 4 (by decide) _ (List.mem_of_getElem? (i := 0) rfl), (by show 0 < 1000; decide), ?_⟩
    rw [show putF "word" u0 ([] : List (Str × V)) = ([("word", u0)] : List (Str × V)) from putF_new (by first | exact List.not_mem_nil | (simp only [List.map_cons, List.map_nil]; decide +kernel))]
    obtain ⟨H1, eH1⟩ : ∃ H', H' = upd G0 x (.ins (C 4) dx [("word", u0)]) := ⟨_, rfl⟩
    rw [← eH1]
    have h1 : H1 x = some (.ins (C 4) dx [("word", u0)]) := by rw [eH1]; exact upd_same
    have d1 : Ch x H H1 := (Ch.same s0).trans (by rw [eH1]; exact Ch.upd)
    have w1 : Ch x G0 H1 := by rw [eH1]; exact Ch.upd
    have c1 : Ch x H H1 := d1
    refine ⟨_, rfl, [_], rfl, .cons (Rp.ch h0 trivial c1 _ _ r1) .nil, fun u1 G1 s1 q1 => ?_⟩
    have g1 := s1 _ _ h1
    refine ⟨_, rfl, x, C 4, dx, _, rfl, g1, T.cl 4 (by decide), T.no 4 (by decide) _ (List.mem_of_getElem? (i := 1) rfl), (by show 1 < 1000; decide), ?_⟩
    rw [show putF "ratio" u1 ([("word", u0)] : List (Str × V)) = ([("word", u0), ("ratio", u1)] : List (Str × V)) from putF_new (by first | exact List.not_mem_nil | (simp only [List.map_cons, List.map_nil]; decide +kernel))]
    obtain ⟨H2, eH2⟩ : ∃ H', H' = upd G1 x (.ins (C 4) dx [("word", u0), ("ratio", u1)]) := ⟨_, rfl⟩
    rw [← eH2]
    have h2 : H2 x = some (.ins (C 4) dx [("word", u0), ("ratio", u1)]) := by rw [eH2]; exact upd_same
    have d2 : Ch x H1 H2 := (Ch.same s1).trans (by rw [eH2]; exact Ch.upd)
    have w2 : Ch x G1 H2 := by rw [eH2]; exact Ch.upd
    have c2 : Ch x H H2 := c1.trans d2
    exact k H2 c2 ⟨dx, [u0, u1], h2, .cons (Rp.ch h1 trivial d2 _ _ (Rp.ch g0 trivial w1 _ _ q0)) (.cons (Rp.ch g1 trivial w2 _ _ q1) .nil), rfl⟩
abbrev sI5 : Stmt := inClass (top 8) 0
theorem scI5 : FnScope ["self", "row"] ["self", "row"] (defScope sI5) := ⟨rfl, rfl, rfl, by decide +kernel, rfl, by decide +kernel, by decide +kernel⟩
theorem ok_I5 {f fc : Addr} {fd fdc : FuncData} (F : Fun K "__init__" "Expansion.__init__" sI5 f fd) (T : Txt K mg C) (Fc : FnOk P w K mg base CX0 1 fc fdc ["value"] (spD mcp 1)) (mc : mg "copied" = some (.ref fc)) (kc : PySem.W.keepIn K (.ref fc) = true) (bc : Binds K fdc ["value"] []) :
    FnOk P w K mg base CX0 2 f fd ["self", "row"] (spInit C 5) := by
  refine F.ok scI5 (fun vs H Q E h => ?_) (fun cdv A outer s H vs Q E hr h => ?_)
  · obtain ⟨x, args, ds, dx, rfl, l, _⟩ := h
    exact congrArg Nat.succ l
  · obtain ⟨x, args, ds, dx, rfl, l, h0, hv, k⟩ := h
    obtain ⟨v0, args, e0, ds, rfl, rfl, r0, hv, l⟩ := hv.uncons l
    obtain ⟨rfl, rfl⟩ := hv.unnil l
    refine ⟨_, pss_one (ps_fld (pv 0) (pe_call Fc hr (by rfl) mc kc bc .nil pass0 (pa_cons (pv 1) pa_nil)) rfl), ?_⟩
    refine ⟨_, rfl, [_], rfl, .cons r0 .nil, fun u0 G0 s0 q0 => ?_⟩
    have g0 := s0 _ _ h0
    refine ⟨_, rfl, x, C 5, dx, _, rfl, g0, T.cl 5 (by decide), T.no 5 (by decide) _ (List.mem_of_getElem? (i := 0) rfl), (by show 0 < 1000; decide), ?_⟩
    rw [show putF "row" u0 ([] : List (Str × V)) = ([("row", u0)] : List (Str × V)) from putF_new (by first | exact List.not_mem_nil | (simp only [List.map_cons, List.map_nil]; decide +kernel))]
    obtain ⟨H1, eH1⟩ : ∃ H', H' = upd G0 x (.ins (C 5) dx [("row", u0)]) := ⟨_, rfl⟩
    rw [← eH1]
    have h1 : H1 x = some (.ins (C 5) dx [("row", u0)]) := by rw [eH1]; exact upd_same
    have d1 : Ch x H H1 := (Ch.same s0).trans (by rw [eH1]; exact Ch.upd)
    have w1 : Ch x G0 H1 := by rw [eH1]; exact Ch.upd
    have c1 : Ch x H H1 := d1
    exact k H1 c1 ⟨dx, [u0], h1, .cons (Rp.ch g0 trivial w1 _ _ q0) .nil, rfl⟩
abbrev sI6 : Stmt := inClass (top 10) 0
theorem scI6 : FnScope ["self", "kind", "log", "unit", "home"] ["self", "kind", "log", "unit", "home"] (defScope sI6) := ⟨rfl, rfl, rfl, by decide +kernel, rfl, by decide +kernel, by decide +kernel⟩
theorem ok_I6 {f fc : Addr} {fd fdc : FuncData} (F : Fun K "__init__" "Letter.__init__" sI6 f fd) (T : Txt K mg C) (Fc : FnOk P w K mg base CX0 1 fc fdc ["value"] (spD mcp 1)) (mc : mg "copied" = some (.ref fc)) (kc : PySem.W.keepIn K (.ref fc) = true) (bc : Binds K fdc ["value"] []) :
    FnOk P w K mg base CX0 2 f fd ["self", "kind", "log", "unit", "home"] (spInit C 6) := by
  refine F.ok scI6 (fun vs H Q E h => ?_) (fun cdv A outer s H vs Q E hr h => ?_)
  · obtain ⟨x, args, ds, dx, rfl, l, _⟩ := h
    exact congrArg Nat.succ l
  · obtain ⟨x, args, ds, dx, rfl, l, h0, hv, k⟩ := h
    obtain ⟨v0, args, e0, ds, rfl, rfl, r0, hv, l⟩ := hv.uncons l
    obtain ⟨v1, args, e1, ds, rfl, rfl, r1, hv, l⟩ := hv.uncons l
    obtain ⟨v2, args, e2, ds, rfl, rfl, r2, hv, l⟩ := hv.uncons l
    obtain ⟨v3, args, e3, ds, rfl, rfl, r3, hv, l⟩ := hv.uncons l
    obtain ⟨rfl, rfl⟩ := hv.unnil l
    refine ⟨_, pss_cons (ps_fld (pv 0) (pe_call Fc hr (by rfl) mc kc bc .nil pass0 (pa_cons (pv 1) pa_nil)) rfl) (pss_cons (ps_fld (pv 0) (pe_call Fc hr (by rfl) mc kc bc .nil pass0 (pa_cons (pv 2) pa_nil)) rfl) (pss_cons (ps_fld (pv 0) (pe_call Fc hr (by rfl) mc kc bc .nil pass0 (pa_cons (pv 3) pa_nil)) rfl) (pss_one (ps_fld (pv 0) (pe_call Fc hr (by rfl) mc kc bc .nil pass0 (pa_cons (pv 4) pa_nil)) rfl)))), ?_⟩
    refine ⟨_, rfl, [_], rfl, .cons r0 .nil, fun u0 G0 s0 q0 => ?_⟩
    have g0 := s0 _ _ h0
    refine ⟨_, rfl, x, C 6, dx, _, rfl, g0, T.cl 6 (by decide), T.no 6 (by decide) _ (List.mem_of_getElem? (i := 0) rfl), (by show 0 < 1000; decide), ?_⟩
    rw [show putF "kind" u0 ([] : List (Str × V)) = ([("kind", u0)] : List (Str × V)) from putF_new (by first | exact List.not_mem_nil | (simp only [List.map_cons, List.map_nil]; decide +kernel))]
    obtain ⟨H1, eH1⟩ : ∃ H', H' = upd G0 x (.ins (C 6) dx [("kind", u0)]) := ⟨_, rfl⟩
    rw [← eH1]
    have h1 : H1 x = some (.ins (C 6) dx [("kind", u0)]) := by rw [eH1]; exact upd_same
    have d1 : Ch x H H1 := (Ch.same s0).trans (by rw [eH1]; exact Ch.upd)
    have w1 : Ch x G0 H1 := by rw [eH1]; exact Ch.upd
    have c1 : Ch x H H1 := d1
    refine ⟨_, rfl, [_], rfl, .cons (Rp.ch h0 trivial c1 _ _ r1) .nil, fun u1 G1 s1 q1 => ?_⟩
    have g1 := s1 _ _ h1
    refine ⟨_, rfl, x, C 6, dx, _, rfl, g1, T.cl 6 (by decide), T.no 6 (by decide) _ (List.mem_of_getElem? (i := 1) rfl), (by show 1 < 1000; decide), ?_⟩
    rw [show putF "log" u1 ([("kind", u0)] : List (Str × V)) = ([("kind", u0), ("log", u1)] : List (Str × V)) from putF_new (by first | exact List.not_mem_nil | (simp only [List.map_cons, List.map_nil]; decide +kernel))]
    obtain ⟨H2, eH2⟩ : ∃ H', H' = upd G1 x (.ins (C 6) dx [("kind", u0), ("log", u1)]) := ⟨_, rfl⟩
    rw [← eH2]
    have h2 : H2 x = some (.ins (C 6) dx [("kind", u0), ("log", u1)]) := by rw [eH2]; exact upd_same
    have d2 : Ch x H1 H2 := (Ch.same s1).trans (by rw [eH2]; exact Ch.upd)
    have w2 : Ch x G1 H2 := by rw [eH2]; exact Ch.upd
    have c2 : Ch x H H2 := c1.trans d2
    refine ⟨_, rfl, [_], rfl, .cons (Rp.ch h0 trivial c2 _ _ r2) .nil, fun u2 G2 s2 q2 => ?_⟩
    have g2 := s2 _ _ h2
    refine ⟨_, rfl, x, C 6, dx, _, rfl, g2, T.cl 6 (by decide), T.no 6 (by decide) _ (List.mem_of_getElem? (i := 2) rfl), (by show 2 < 1000; decide), ?_⟩
    rw [show putF "unit" u2 ([("kind", u0), ("log", u1)] : List (Str × V)) = ([("kind", u0), ("log", u1), ("unit", u2)] : List (Str × V)) from putF_new (by first | exact List.not_mem_nil | (simp only [List.map_cons, List.map_nil]; decide +kernel))]
    obtain ⟨H3, eH3⟩ : ∃ H', H' = upd G2 x (.ins (C 6) dx [("kind", u0), ("log", u1), ("unit", u2)]) := ⟨_, rfl⟩
    rw [← eH3]
    have h3 : H3 x = some (.ins (C 6) dx [("kind", u0), ("log", u1), ("unit", u2)]) := by rw [eH3]; exact upd_same
    have d3 : Ch x H2 H3 := (Ch.same s2).trans (by rw [eH3]; exact Ch.upd)
    have w3 : Ch x G2 H3 := by rw [eH3]; exact Ch.upd
    have c3 : Ch x H H3 := c2.trans d3
    refine ⟨_, rfl, [_], rfl, .cons (Rp.ch h0 trivial c3 _ _ r3) .nil, fun u3 G3 s3 q3 => ?_⟩
    have g3 := s3 _ _ h3
    refine ⟨_, rfl, x, C 6, dx, _, rfl, g3, T.cl 6 (by decide), T.no 6 (by decide) _ (List.mem_of_getElem? (i := 3) rfl), (by show 3 < 1000; decide), ?_⟩
    rw [show putF "home" u3 ([("kind", u0), ("log", u1), ("unit", u2)] : List (Str × V)) = ([("kind", u0), ("log", u1), ("unit", u2), ("home", u3)] : List (Str × V)) from putF_new (by first | exact List.not_mem_nil | (simp only [List.map_cons, List.map_nil]; decide +kernel))]
    obtain ⟨H4, eH4⟩ : ∃ H', H' = upd G3 x (.ins (C 6) dx [("kind", u0), ("log", u1), ("unit", u2), ("home", u3)]) := ⟨_, rfl⟩
    rw [← eH4]
    have h4 : H4 x = some (.ins (C 6) dx [("kind", u0), ("log", u1), ("unit", u2), ("home", u3)]) := by rw [eH4]; exact upd_same
    have d4 : Ch x H3 H4 := (Ch.same s3).trans (by rw [eH4]; exact Ch.upd)
    have w4 : Ch x G3 H4 := by rw [eH4]; exact Ch.upd
    have c4 : Ch x H H4 := c3.trans d4
    exact k H4 c4 ⟨dx, [u0, u1, u2, u3], h4, .cons (Rp.ch h3 trivial d4 _ _ (Rp.ch h2 trivial d3 _ _ (Rp.ch h1 trivial d2 _ _ (Rp.ch g0 trivial w1 _ _ q0)))) (.cons (Rp.ch h3 trivial d4 _ _ (Rp.ch h2 trivial d3 _ _ (Rp.ch g1 trivial w2 _ _ q1))) (.cons (Rp.ch h3 trivial d4 _ _ (Rp.ch g2 trivial w3 _ _ q2)) (.cons (Rp.ch g3 trivial w4 _ _ q3) .nil))), rfl⟩
abbrev sI7 : Stmt := inClass (top 11) 0
theorem scI7 : FnScope ["self", "letters", "order", "x"] ["self", "letters", "order", "x"] (defScope sI7) := ⟨rfl, rfl, rfl, by decide +kernel, rfl, by decide +kernel, by decide +kernel⟩
theorem ok_I7 {f fc : Addr} {fd fdc : FuncData} (F : Fun K "__init__" "Field.__init__" sI7 f fd) (T : Txt K mg C) (Fc : FnOk P w K mg base CX0 1 fc fdc ["value"] (spD mcp 1)) (mc : mg "copied" = some (.ref fc)) (kc : PySem.W.keepIn K (.ref fc) = true) (bc : Binds K fdc ["value"] []) :
    FnOk P w K mg base CX0 2 f fd ["self", "letters", "order", "x"] (spInit C 7) := by
  refine F.ok scI7 (fun vs H Q E h => ?_) (fun cdv A outer s H vs Q E hr h => ?_)
  · obtain ⟨x, args, ds, dx, rfl, l, _⟩ := h
    exact congrArg Nat.succ l
  · obtain ⟨x, args, ds, dx, rfl, l, h0, hv, k⟩ := h
    obtain ⟨v0, args, e0, ds, rfl, rfl, r0, hv, l⟩ := hv.uncons l
    obtain ⟨v1, args, e1, ds, rfl, rfl, r1, hv, l⟩ := hv.uncons l
    obtain ⟨v2, args, e2, ds, rfl, rfl, r2, hv, l⟩ := hv.uncons l
    obtain ⟨rfl, rfl⟩ := hv.unnil l
    refine ⟨_, pss_cons (ps_fld (pv 0) (pe_call Fc hr (by rfl) mc kc bc .nil pass0 (pa_cons (pv 1) pa_nil)) rfl) (pss_cons (ps_fld (pv 0) (pe_call Fc hr (by rfl) mc kc bc .nil pass0 (pa_cons (pv 2) pa_nil)) rfl) (pss_one (ps_fld (pv 0) (pe_call Fc hr (by rfl) mc kc bc .nil pass0 (pa_cons (pv 3) pa_nil)) rfl))), ?_⟩
    refine ⟨_, rfl, [_], rfl, .cons r0 .nil, fun u0 G0 s0 q0 => ?_⟩
    have g0 := s0 _ _ h0
    refine ⟨_, rfl, x, C 7, dx, _, rfl, g0, T.cl 7 (by decide), T.no 7 (by decide) _ (List.mem_of_getElem? (i := 0) rfl), (by show 0 < 1000; decide), ?_⟩
    rw [show putF "letters" u0 ([] : List (Str × V)) = ([("letters", u0)] : List (Str × V)) from putF_new (by first | exact List.not_mem_nil | (simp only [List.map_cons, List.map_nil]; decide +kernel))]
    obtain ⟨H1, eH1⟩ : ∃ H', H' = upd G0 x (.ins (C 7) dx [("letters", u0)]) := ⟨_, rfl⟩
    rw [← eH1]
    have h1 : H1 x = some (.ins (C 7) dx [("letters", u0)]) := by rw [eH1]; exact upd_same
    have d1 : Ch x H H1 := (Ch.same s0).trans (by rw [eH1]; exact Ch.upd)
    have w1 : Ch x G0 H1 := by rw [eH1]; exact Ch.upd
    have c1 : Ch x H H1 := d1
    refine ⟨_, rfl, [_], rfl, .cons (Rp.ch h0 trivial c1 _ _ r1) .nil, fun u1 G1 s1 q1 => ?_⟩
    have g1 := s1 _ _ h1
    refine ⟨_, rfl, x, C 7, dx, _, rfl, g1, T.cl 7 (by decide), T.no 7 (by decide) _ (List.mem_of_getElem? (i := 1) rfl), (by show 1 < 1000; decide), ?_⟩
    rw [show putF "order" u1 ([("letters", u0)] : List (Str × V)) = ([("letters", u0), ("order", u1)] : List (Str × V)) from putF_new (by first | exact List.not_mem_nil | (simp only [List.map_cons, List.map_nil]; decide +kernel))]
    obtain ⟨H2, eH2⟩ : ∃ H', H' = upd G1 x (.ins (C 7) dx [("letters", u0), ("order", u1)]) := ⟨_, rfl⟩
    rw [← eH2]
    have h2 : H2 x = some (.ins (C 7) dx [("letters", u0), ("order", u1)]) := by rw [eH2]; exact upd_same
    have d2 : Ch x H1 H2 := (Ch.same s1).trans (by rw [eH2]; exact Ch.upd)
    have w2 : Ch x G1 H2 := by rw [eH2]; exact Ch.upd
    have c2 : Ch x H H2 := c1.trans d2
    refine ⟨_, rfl, [_], rfl, .cons (Rp.ch h0 trivial c2 _ _ r2) .nil, fun u2 G2 s2 q2 => ?_⟩
    have g2 := s2 _ _ h2
    refine ⟨_, rfl, x, C 7, dx, _, rfl, g2, T.cl 7 (by decide), T.no 7 (by decide) _ (List.mem_of_getElem? (i := 2) rfl), (by show 2 < 1000; decide), ?_⟩
    rw [show putF "x" u2 ([("letters", u0), ("order", u1)] : List (Str × V)) = ([("letters", u0), ("order", u1), ("x", u2)] : List (Str × V)) from putF_new (by first | exact List.not_mem_nil | (simp only [List.map_cons, List.map_nil]; decide +kernel))]
    obtain ⟨H3, eH3⟩ : ∃ H', H' = upd G2 x (.ins (C 7) dx [("letters", u0), ("order", u1), ("x", u2)]) := ⟨_, rfl⟩
    rw [← eH3]
    have h3 : H3 x = some (.ins (C 7) dx [("letters", u0), ("order", u1), ("x", u2)]) := by rw [eH3]; exact upd_same
    have d3 : Ch x H2 H3 := (Ch.same s2).trans (by rw [eH3]; exact Ch.upd)
    have w3 : Ch x G2 H3 := by rw [eH3]; exact Ch.upd
    have c3 : Ch x H H3 := c2.trans d3
    exact k H3 c3 ⟨dx, [u0, u1, u2], h3, .cons (Rp.ch h2 trivial d3 _ _ (Rp.ch h1 trivial d2 _ _ (Rp.ch g0 trivial w1 _ _ q0))) (.cons (Rp.ch h2 trivial d3 _ _ (Rp.ch g1 trivial w2 _ _ q1)) (.cons (Rp.ch g2 trivial w3 _ _ q2) .nil)), rfl⟩
abbrev sI8 : Stmt := inClass (top 15) 0
theorem scI8 : FnScope ["self", "number", "powers"] ["self", "number", "powers"] (defScope sI8) := ⟨rfl, rfl, rfl, by decide +kernel, rfl, by decide +kernel, by decide +kernel⟩
theorem ok_I8 {f fc : Addr} {fd fdc : FuncData} (F : Fun K "__init__" "Lead.__init__" sI8 f fd) (T : Txt K mg C) (Fc : FnOk P w K mg base CX0 1 fc fdc ["value"] (spD mcp 1)) (mc : mg "copied" = some (.ref fc)) (kc : PySem.W.keepIn K (.ref fc) = true) (bc : Binds K fdc ["value"] []) :
    FnOk P w K mg base CX0 2 f fd ["self", "number", "powers"] (spInit C 8) := by
  refine F.ok scI8 (fun vs H Q E h => ?_) (fun cdv A outer s H vs Q E hr h => ?_)
  · obtain ⟨x, args, ds, dx, rfl, l, _⟩ := h
    exact congrArg Nat.succ l
  · obtain ⟨x, args, ds, dx, rfl, l, h0, hv, k⟩ := h
    obtain ⟨v0, args, e0, ds, rfl, rfl, r0, hv, l⟩ := hv.uncons l
    obtain ⟨v1, args, e1, ds, rfl, rfl, r1, hv, l⟩ := hv.uncons l
    obtain ⟨rfl, rfl⟩ := hv.unnil l
    refine ⟨_, pss_cons (ps_fld (pv 0) (pe_call Fc hr (by rfl) mc kc bc .nil pass0 (pa_cons (pv 1) pa_nil)) rfl) (pss_one (ps_fld (pv 0) (pe_call Fc hr (by rfl) mc kc bc .nil pass0 (pa_cons (pv 2) pa_nil)) rfl)), ?_⟩
    refine ⟨_, rfl, [_], rfl, .cons r0 .nil, fun u0 G0 s0 q0 => ?_⟩
    have g0 := s0 _ _ h0
    refine ⟨_, rfl, x, C 8, dx, _, rfl, g0, T.cl 8 (by decide), T.no 8 (by decide) _ (List.mem_of_getElem? (i := 0) rfl), (by show 0 < 1000; decide), ?_⟩
    rw [show putF "number" u0 ([] : List (Str × V)) = ([("number", u0)] : List (Str × V)) from putF_new (by first | exact List.not_mem_nil | (simp only [List.map_cons, List.map_nil]; decide +kernel))]
    obtain ⟨H1, eH1⟩ : ∃ H', H' = upd G0 x (.ins (C 8) dx [("number", u0)]) := ⟨_, rfl⟩
    rw [← eH1]
    have h1 : H1 x = some (.ins (C 8) dx [("number", u0)]) := by rw [eH1]; exact upd_same
    have d1 : Ch x H H1 := (Ch.same s0).trans (by rw [eH1]; exact Ch.upd)
    have w1 : Ch x G0 H1 := by rw [eH1]; exact Ch.upd
    have c1 : Ch x H H1 := d1
    refine ⟨_, rfl, [_], rfl, .cons (Rp.ch h0 trivial c1 _ _ r1) .nil, fun u1 G1 s1 q1 => ?_⟩
    have g1 := s1 _ _ h1
    refine ⟨_, rfl, x, C 8, dx, _, rfl, g1, T.cl 8 (by decide), T.no 8 (by decide) _ (List.mem_of_getElem? (i := 1) rfl), (by show 1 < 1000; decide), ?_⟩
    rw [show putF "powers" u1 ([("number", u0)] : List (Str × V)) = ([("number", u0), ("powers", u1)] : List (Str × V)) from putF_new (by first | exact List.not_mem_nil | (simp only [List.map_cons, List.map_nil]; decide +kernel))]
    obtain ⟨H2, eH2⟩ : ∃ H', H' = upd G1 x (.ins (C 8) dx [("number", u0), ("powers", u1)]) := ⟨_, rfl⟩
    rw [← eH2]
    have h2 : H2 x = some (.ins (C 8) dx [("number", u0), ("powers", u1)]) := by rw [eH2]; exact upd_same
    have d2 : Ch x H1 H2 := (Ch.same s1).trans (by rw [eH2]; exact Ch.upd)
    have w2 : Ch x G1 H2 := by rw [eH2]; exact Ch.upd
    have c2 : Ch x H H2 := c1.trans d2
    exact k H2 c2 ⟨dx, [u0, u1], h2, .cons (Rp.ch h1 trivial d2 _ _ (Rp.ch g0 trivial w1 _ _ q0)) (.cons (Rp.ch g1 trivial w2 _ _ q1) .nil), rfl⟩
abbrev sI9 : Stmt := inClass (top 17) 0
theorem scI9 : FnScope ["self", "lets", "asks", "spots"] ["self", "lets", "asks", "spots"] (defScope sI9) := ⟨rfl, rfl, rfl, by decide +kernel, rfl, by decide +kernel, by decide +kernel⟩
theorem ok_I9 {f fc : Addr} {fd fdc : FuncData} (F : Fun K "__init__" "Model.__init__" sI9 f fd) (T : Txt K mg C) (Fc : FnOk P w K mg base CX0 1 fc fdc ["value"] (spD mcp 1)) (mc : mg "copied" = some (.ref fc)) (kc : PySem.W.keepIn K (.ref fc) = true) (bc : Binds K fdc ["value"] []) :
    FnOk P w K mg base CX0 2 f fd ["self", "lets", "asks", "spots"] (spInit C 9) := by
  refine F.ok scI9 (fun vs H Q E h => ?_) (fun cdv A outer s H vs Q E hr h => ?_)
  · obtain ⟨x, args, ds, dx, rfl, l, _⟩ := h
    exact congrArg Nat.succ l
  · obtain ⟨x, args, ds, dx, rfl, l, h0, hv, k⟩ := h
    obtain ⟨v0, args, e0, ds, rfl, rfl, r0, hv, l⟩ := hv.uncons l
    obtain ⟨v1, args, e1, ds, rfl, rfl, r1, hv, l⟩ := hv.uncons l
    obtain ⟨v2, args, e2, ds, rfl, rfl, r2, hv, l⟩ := hv.uncons l
    obtain ⟨rfl, rfl⟩ := hv.unnil l
    refine ⟨_, pss_cons (ps_fld (pv 0) (pe_call Fc hr (by rfl) mc kc bc .nil pass0 (pa_cons (pv 1) pa_nil)) rfl) (pss_cons (ps_fld (pv 0) (pe_call Fc hr (by rfl) mc kc bc .nil pass0 (pa_cons (pv 2) pa_nil)) rfl) (pss_one (ps_fld (pv 0) (pe_call Fc hr (by rfl) mc kc bc .nil pass0 (pa_cons (pv 3) pa_nil)) rfl))), ?_⟩
    refine ⟨_, rfl, [_], rfl, .cons r0 .nil, fun u0 G0 s0 q0 => ?_⟩
    have g0 := s0 _ _ h0
    refine ⟨_, rfl, x, C 9, dx, _, rfl, g0, T.cl 9 (by decide), T.no 9 (by decide) _ (List.mem_of_getElem? (i := 0) rfl), (by show 0 < 1000; decide), ?_⟩
    rw [show putF "lets" u0 ([] : List (Str × V)) = ([("lets", u0)] : List (Str × V)) from putF_new (by first | exact List.not_mem_nil | (simp only [List.map_cons, List.map_nil]; decide +kernel))]
    obtain ⟨H1, eH1⟩ : ∃ H', H' = upd G0 x (.ins (C 9) dx [("lets", u0)]) := ⟨_, rfl⟩
    rw [← eH1]
    have h1 : H1 x = some (.ins (C 9) dx [("lets", u0)]) := by rw [eH1]; exact upd_same
    have d1 : Ch x H H1 := (Ch.same s0).trans (by rw [eH1]; exact Ch.upd)
    have w1 : Ch x G0 H1 := by rw [eH1]; exact Ch.upd
    have c1 : Ch x H H1 := d1
    refine ⟨_, rfl, [_], rfl, .cons (Rp.ch h0 trivial c1 _ _ r1) .nil, fun u1 G1 s1 q1 => ?_⟩
    have g1 := s1 _ _ h1
    refine ⟨_, rfl, x, C 9, dx, _, rfl, g1, T.cl 9 (by decide), T.no 9 (by decide) _ (List.mem_of_getElem? (i := 1) rfl), (by show 1 < 1000; decide), ?_⟩
    rw [show putF "asks" u1 ([("lets", u0)] : List (Str × V)) = ([("lets", u0), ("asks", u1)] : List (Str × V)) from putF_new (by first | exact List.not_mem_nil | (simp only [List.map_cons, List.map_nil]; decide +kernel))]
    obtain ⟨H2, eH2⟩ : ∃ H', H' = upd G1 x (.ins (C 9) dx [("lets", u0), ("asks", u1)]) := ⟨_, rfl⟩
    rw [← eH2]
    have h2 : H2 x = some (.ins (C 9) dx [("lets", u0), ("asks", u1)]) := by rw [eH2]; exact upd_same
    have d2 : Ch x H1 H2 := (Ch.same s1).trans (by rw [eH2]; exact Ch.upd)
    have w2 : Ch x G1 H2 := by rw [eH2]; exact Ch.upd
    have c2 : Ch x H H2 := c1.trans d2
    refine ⟨_, rfl, [_], rfl, .cons (Rp.ch h0 trivial c2 _ _ r2) .nil, fun u2 G2 s2 q2 => ?_⟩
    have g2 := s2 _ _ h2
    refine ⟨_, rfl, x, C 9, dx, _, rfl, g2, T.cl 9 (by decide), T.no 9 (by decide) _ (List.mem_of_getElem? (i := 2) rfl), (by show 2 < 1000; decide), ?_⟩
    rw [show putF "spots" u2 ([("lets", u0), ("asks", u1)] : List (Str × V)) = ([("lets", u0), ("asks", u1), ("spots", u2)] : List (Str × V)) from putF_new (by first | exact List.not_mem_nil | (simp only [List.map_cons, List.map_nil]; decide +kernel))]
    obtain ⟨H3, eH3⟩ : ∃ H', H' = upd G2 x (.ins (C 9) dx [("lets", u0), ("asks", u1), ("spots", u2)]) := ⟨_, rfl⟩
    rw [← eH3]
    have h3 : H3 x = some (.ins (C 9) dx [("lets", u0), ("asks", u1), ("spots", u2)]) := by rw [eH3]; exact upd_same
    have d3 : Ch x H2 H3 := (Ch.same s2).trans (by rw [eH3]; exact Ch.upd)
    have w3 : Ch x G2 H3 := by rw [eH3]; exact Ch.upd
    have c3 : Ch x H H3 := c2.trans d3
    exact k H3 c3 ⟨dx, [u0, u1, u2], h3, .cons (Rp.ch h2 trivial d3 _ _ (Rp.ch h1 trivial d2 _ _ (Rp.ch g0 trivial w1 _ _ q0))) (.cons (Rp.ch h2 trivial d3 _ _ (Rp.ch g1 trivial w2 _ _ q1)) (.cons (Rp.ch g2 trivial w3 _ _ q2) .nil)), rfl⟩
abbrev sI10 : Stmt := inClass (top 19) 0
theorem scI10 : FnScope ["self", "field", "rows", "steps", "depth", "places", "root"] ["self", "field", "rows", "steps", "depth", "places", "root"] (defScope sI10) := ⟨rfl, rfl, rfl, by decide +kernel, rfl, by decide +kernel, by decide +kernel⟩
theorem ok_I10 {f fc : Addr} {fd fdc : FuncData} (F : Fun K "__init__" "Paper.__init__" sI10 f fd) (T : Txt K mg C) (Fc : FnOk P w K mg base CX0 1 fc fdc ["value"] (spD mcp 1)) (mc : mg "copied" = some (.ref fc)) (kc : PySem.W.keepIn K (.ref fc) = true) (bc : Binds K fdc ["value"] []) :
    FnOk P w K mg base CX0 2 f fd ["self", "field", "rows", "steps", "depth", "places", "root"] (spInit C 10) := by
  refine F.ok scI10 (fun vs H Q E h => ?_) (fun cdv A outer s H vs Q E hr h => ?_)
  · obtain ⟨x, args, ds, dx, rfl, l, _⟩ := h
    exact congrArg Nat.succ l
  · obtain ⟨x, args, ds, dx, rfl, l, h0, hv, k⟩ := h
    obtain ⟨v0, args, e0, ds, rfl, rfl, r0, hv, l⟩ := hv.uncons l
    obtain ⟨v1, args, e1, ds, rfl, rfl, r1, hv, l⟩ := hv.uncons l
    obtain ⟨v2, args, e2, ds, rfl, rfl, r2, hv, l⟩ := hv.uncons l
    obtain ⟨v3, args, e3, ds, rfl, rfl, r3, hv, l⟩ := hv.uncons l
    obtain ⟨v4, args, e4, ds, rfl, rfl, r4, hv, l⟩ := hv.uncons l
    obtain ⟨v5, args, e5, ds, rfl, rfl, r5, hv, l⟩ := hv.uncons l
    obtain ⟨rfl, rfl⟩ := hv.unnil l
    refine ⟨_, pss_cons (ps_fld (pv 0) (pe_call Fc hr (by rfl) mc kc bc .nil pass0 (pa_cons (pv 1) pa_nil)) rfl) (pss_cons (ps_fld (pv 0) (pe_call Fc hr (by rfl) mc kc bc .nil pass0 (pa_cons (pv 2) pa_nil)) rfl) (pss_cons (ps_fld (pv 0) (pe_call Fc hr (by rfl) mc kc bc .nil pass0 (pa_cons (pv 3) pa_nil)) rfl) (pss_cons (ps_fld (pv 0) (pe_call Fc hr (by rfl) mc kc bc .nil pass0 (pa_cons (pv 4) pa_nil)) rfl) (pss_cons (ps_fld (pv 0) (pe_call Fc hr (by rfl) mc kc bc .nil pass0 (pa_cons (pv 5) pa_nil)) rfl) (pss_one (ps_fld (pv 0) (pe_call Fc hr (by rfl) mc kc bc .nil pass0 (pa_cons (pv 6) pa_nil)) rfl)))))), ?_⟩
    refine ⟨_, rfl, [_], rfl, .cons r0 .nil, fun u0 G0 s0 q0 => ?_⟩
    have g0 := s0 _ _ h0
    refine ⟨_, rfl, x, C 10, dx, _, rfl, g0, T.cl 10 (by decide), T.no 10 (by decide) _ (List.mem_of_getElem? (i := 0) rfl), (by show 0 < 1000; decide), ?_⟩
    rw [show putF "field" u0 ([] : List (Str × V)) = ([("field", u0)] : List (Str × V)) from putF_new (by first | exact List.not_mem_nil | (simp only [List.map_cons, List.map_nil]; decide +kernel))]
    obtain ⟨H1, eH1⟩ : ∃ H', H' = upd G0 x (.ins (C 10) dx [("field", u0)]) := ⟨_, rfl⟩
    rw [← eH1]
    have h1 : H1 x = some (.ins (C 10) dx [("field", u0)]) := by rw [eH1]; exact upd_same
    have d1 : Ch x H H1 := (Ch.same s0).trans (by rw [eH1]; exact Ch.upd)
    have w1 : Ch x G0 H1 := by rw [eH1]; exact Ch.upd
    have c1 : Ch x H H1 := d1
    refine ⟨_, rfl, [_], rfl, .cons (Rp.ch h0 trivial c1 _ _ r1) .nil, fun u1 G1 s1 q1 => ?_⟩
    have g1 := s1 _ _ h1
    refine ⟨_, rfl, x, C 10, dx, _, rfl, g1, T.cl 10 (by decide), T.no 10 (by decide) _ (List.mem_of_getElem? (i := 1) rfl), (by show 1 < 1000; decide), ?_⟩
    rw [show putF "rows" u1 ([("field", u0)] : List (Str × V)) = ([("field", u0), ("rows", u1)] : List (Str × V)) from putF_new (by first | exact List.not_mem_nil | (simp only [List.map_cons, List.map_nil]; decide +kernel))]
    obtain ⟨H2, eH2⟩ : ∃ H', H' = upd G1 x (.ins (C 10) dx [("field", u0), ("rows", u1)]) := ⟨_, rfl⟩
    rw [← eH2]
    have h2 : H2 x = some (.ins (C 10) dx [("field", u0), ("rows", u1)]) := by rw [eH2]; exact upd_same
    have d2 : Ch x H1 H2 := (Ch.same s1).trans (by rw [eH2]; exact Ch.upd)
    have w2 : Ch x G1 H2 := by rw [eH2]; exact Ch.upd
    have c2 : Ch x H H2 := c1.trans d2
    refine ⟨_, rfl, [_], rfl, .cons (Rp.ch h0 trivial c2 _ _ r2) .nil, fun u2 G2 s2 q2 => ?_⟩
    have g2 := s2 _ _ h2
    refine ⟨_, rfl, x, C 10, dx, _, rfl, g2, T.cl 10 (by decide), T.no 10 (by decide) _ (List.mem_of_getElem? (i := 2) rfl), (by show 2 < 1000; decide), ?_⟩
    rw [show putF "steps" u2 ([("field", u0), ("rows", u1)] : List (Str × V)) = ([("field", u0), ("rows", u1), ("steps", u2)] : List (Str × V)) from putF_new (by first | exact List.not_mem_nil | (simp only [List.map_cons, List.map_nil]; decide +kernel))]
    obtain ⟨H3, eH3⟩ : ∃ H', H' = upd G2 x (.ins (C 10) dx [("field", u0), ("rows", u1), ("steps", u2)]) := ⟨_, rfl⟩
    rw [← eH3]
    have h3 : H3 x = some (.ins (C 10) dx [("field", u0), ("rows", u1), ("steps", u2)]) := by rw [eH3]; exact upd_same
    have d3 : Ch x H2 H3 := (Ch.same s2).trans (by rw [eH3]; exact Ch.upd)
    have w3 : Ch x G2 H3 := by rw [eH3]; exact Ch.upd
    have c3 : Ch x H H3 := c2.trans d3
    refine ⟨_, rfl, [_], rfl, .cons (Rp.ch h0 trivial c3 _ _ r3) .nil, fun u3 G3 s3 q3 => ?_⟩
    have g3 := s3 _ _ h3
    refine ⟨_, rfl, x, C 10, dx, _, rfl, g3, T.cl 10 (by decide), T.no 10 (by decide) _ (List.mem_of_getElem? (i := 3) rfl), (by show 3 < 1000; decide), ?_⟩
    rw [show putF "depth" u3 ([("field", u0), ("rows", u1), ("steps", u2)] : List (Str × V)) = ([("field", u0), ("rows", u1), ("steps", u2), ("depth", u3)] : List (Str × V)) from putF_new (by first | exact List.not_mem_nil | (simp only [List.map_cons, List.map_nil]; decide +kernel))]
    obtain ⟨H4, eH4⟩ : ∃ H', H' = upd G3 x (.ins (C 10) dx [("field", u0), ("rows", u1), ("steps", u2), ("depth", u3)]) := ⟨_, rfl⟩
    rw [← eH4]
    have h4 : H4 x = some (.ins (C 10) dx [("field", u0), ("rows", u1), ("steps", u2), ("depth", u3)]) := by rw [eH4]; exact upd_same
    have d4 : Ch x H3 H4 := (Ch.same s3).trans (by rw [eH4]; exact Ch.upd)
    have w4 : Ch x G3 H4 := by rw [eH4]; exact Ch.upd
    have c4 : Ch x H H4 := c3.trans d4
    refine ⟨_, rfl, [_], rfl, .cons (Rp.ch h0 trivial c4 _ _ r4) .nil, fun u4 G4 s4 q4 => ?_⟩
    have g4 := s4 _ _ h4
    refine ⟨_, rfl, x, C 10, dx, _, rfl, g4, T.cl 10 (by decide), T.no 10 (by decide) _ (List.mem_of_getElem? (i := 4) rfl), (by show 4 < 1000; decide), ?_⟩
    rw [show putF "places" u4 ([("field", u0), ("rows", u1), ("steps", u2), ("depth", u3)] : List (Str × V)) = ([("field", u0), ("rows", u1), ("steps", u2), ("depth", u3), ("places", u4)] : List (Str × V)) from putF_new (by first | exact List.not_mem_nil | (simp only [List.map_cons, List.map_nil]; decide +kernel))]
    obtain ⟨H5, eH5⟩ : ∃ H', H' = upd G4 x (.ins (C 10) dx [("field", u0), ("rows", u1), ("steps", u2), ("depth", u3), ("places", u4)]) := ⟨_, rfl⟩
    rw [← eH5]
    have h5 : H5 x = some (.ins (C 10) dx [("field", u0), ("rows", u1), ("steps", u2), ("depth", u3), ("places", u4)]) := by rw [eH5]; exact upd_same
    have d5 : Ch x H4 H5 := (Ch.same s4).trans (by rw [eH5]; exact Ch.upd)
    have w5 : Ch x G4 H5 := by rw [eH5]; exact Ch.upd
    have c5 : Ch x H H5 := c4.trans d5
    refine ⟨_, rfl, [_], rfl, .cons (Rp.ch h0 trivial c5 _ _ r5) .nil, fun u5 G5 s5 q5 => ?_⟩
    have g5 := s5 _ _ h5
    refine ⟨_, rfl, x, C 10, dx, _, rfl, g5, T.cl 10 (by decide), T.no 10 (by decide) _ (List.mem_of_getElem? (i := 5) rfl), (by show 5 < 1000; decide), ?_⟩
    rw [show putF "root" u5 ([("field", u0), ("rows", u1), ("steps", u2), ("depth", u3), ("places", u4)] : List (Str × V)) = ([("field", u0), ("rows", u1), ("steps", u2), ("depth", u3), ("places", u4), ("root", u5)] : List (Str × V)) from putF_new (by first | exact List.not_mem_nil | (simp only [List.map_cons, List.map_nil]; decide +kernel))]
    obtain ⟨H6, eH6⟩ : ∃ H', H' = upd G5 x (.ins (C 10) dx [("field", u0), ("rows", u1), ("steps", u2), ("depth", u3), ("places", u4), ("root", u5)]) := ⟨_, rfl⟩
    rw [← eH6]
    have h6 : H6 x = some (.ins (C 10) dx [("field", u0), ("rows", u1), ("steps", u2), ("depth", u3), ("places", u4), ("root", u5)]) := by rw [eH6]; exact upd_same
    have d6 : Ch x H5 H6 := (Ch.same s5).trans (by rw [eH6]; exact Ch.upd)
    have w6 : Ch x G5 H6 := by rw [eH6]; exact Ch.upd
    have c6 : Ch x H H6 := c5.trans d6
    exact k H6 c6 ⟨dx, [u0, u1, u2, u3, u4, u5], h6, .cons (Rp.ch h5 trivial d6 _ _ (Rp.ch h4 trivial d5 _ _ (Rp.ch h3 trivial d4 _ _ (Rp.ch h2 trivial d3 _ _ (Rp.ch h1 trivial d2 _ _ (Rp.ch g0 trivial w1 _ _ q0)))))) (.cons (Rp.ch h5 trivial d6 _ _ (Rp.ch h4 trivial d5 _ _ (Rp.ch h3 trivial d4 _ _ (Rp.ch h2 trivial d3 _ _ (Rp.ch g1 trivial w2 _ _ q1))))) (.cons (Rp.ch h5 trivial d6 _ _ (Rp.ch h4 trivial d5 _ _ (Rp.ch h3 trivial d4 _ _ (Rp.ch g2 trivial w3 _ _ q2)))) (.cons (Rp.ch h5 trivial d6 _ _ (Rp.ch h4 trivial d5 _ _ (Rp.ch g3 trivial w4 _ _ q3))) (.cons (Rp.ch h5 trivial d6 _ _ (Rp.ch g4 trivial w5 _ _ q4)) (.cons (Rp.ch g5 trivial w6 _ _ q5) .nil))))), rfl⟩
end
end GP
namespace GP
open PySem PySem.Spec PyProof.Rows L2
section
variable {P : Program} {w : World} {K : PySem.W.Frag} {mg : Str → Option Value} {base : Heap} {C : Nat → Addr}
theorem ekey_6 (ds : List PyData) : ekey 6 ds = .tuple ds := by first | rfl | (unfold ekey; split <;> simp_all)
theorem ekey_7 (ds : List PyData) : ekey 7 ds = .tuple ds := by first | rfl | (unfold ekey; split <;> simp_all)
theorem ekey_10 (ds : List PyData) : ekey 10 ds = .tuple ds := by first | rfl | (unfold ekey; split <;> simp_all)
def spParts (C : Nat → Addr) (i : Nat) : Sp := fun vs H Q _ => ∃ a ds, vs = [.ref a] ∧ Ob C i H a ds ∧ ∀ v H', Same H H' → Rp H' v (.tuple ds) → Q v H'
abbrev sP6 : Stmt := top 12
theorem scP6 : FnScope ["letter"] ["letter"] (defScope sP6) := ⟨rfl, rfl, rfl, by decide +kernel, rfl, by decide +kernel, by decide +kernel⟩
theorem ok_P6 {f : Addr} {fd : FuncData} (F : Fun K "letter_parts" "letter_parts" sP6 f fd) (T : Txt K mg C) : FnOk P w K mg base CX0 1 f fd ["letter"] (spParts C 6) := by
  refine F.ok scP6 (fun vs H Q E h => ?_) (fun cdv A outer s H vs Q E hr h => ?_)
  · obtain ⟨a, ds, rfl, _⟩ := h
    rfl
  · obtain ⟨a, ds, rfl, ha, k⟩ := h
    obtain ⟨dx, vs, hA, hv, l⟩ := ha
    obtain ⟨v0, vs, e0, ds, rfl, rfl, r0, hv, l⟩ := hv.uncons l
    obtain ⟨v1, vs, e1, ds, rfl, rfl, r1, hv, l⟩ := hv.uncons l
    obtain ⟨v2, vs, e2, ds, rfl, rfl, r2, hv, l⟩ := hv.uncons l
    obtain ⟨v3, vs, e3, ds, rfl, rfl, r3, hv, l⟩ := hv.uncons l
    obtain ⟨rfl, rfl⟩ := hv.unnil l
    refine ⟨_, pss_one (ps_ret (pe_tup (pa_cons (pe_fld (pv 0) rfl) (pa_cons (pe_fld (pv 0) rfl) (pa_cons (pe_fld (pv 0) rfl) (pa_cons (pe_fld (pv 0) rfl) pa_nil)))))), ?_⟩
    refine ⟨_, rfl, a, C 6, _, _, v0, rfl, hA, T.cl 6 (by decide), T.no 6 (by decide) _ (List.mem_of_getElem? (i := 0) rfl), zip_lookup (i := 0) (fN_nodup 6 (by decide)) rfl rfl, _, rfl, a, C 6, _, _, v1, rfl, hA, T.cl 6 (by decide), T.no 6 (by decide) _ (List.mem_of_getElem? (i := 1) rfl), zip_lookup (i := 1) (fN_nodup 6 (by decide)) rfl rfl, _, rfl, a, C 6, _, _, v2, rfl, hA, T.cl 6 (by decide), T.no 6 (by decide) _ (List.mem_of_getElem? (i := 2) rfl), zip_lookup (i := 2) (fN_nodup 6 (by decide)) rfl rfl, _, rfl, a, C 6, _, _, v3, rfl, hA, T.cl 6 (by decide), T.no 6 (by decide) _ (List.mem_of_getElem? (i := 3) rfl), zip_lookup (i := 3) (fN_nodup 6 (by decide)) rfl rfl, (by show 4 ≤ sizeLine; decide), fun p np => ?_⟩
    exact k _ _ (Same.upd np) (.tup upd_same (RpAll.same (Same.upd np) _ _ (.cons r0 (.cons r1 (.cons r2 (.cons r3 .nil))))))
abbrev sP7 : Stmt := top 13
theorem scP7 : FnScope ["field"] ["field"] (defScope sP7) := ⟨rfl, rfl, rfl, by decide +kernel, rfl, by decide +kernel, by decide +kernel⟩
theorem ok_P7 {f : Addr} {fd : FuncData} (F : Fun K "field_parts" "field_parts" sP7 f fd) (T : Txt K mg C) : FnOk P w K mg base CX0 1 f fd ["field"] (spParts C 7) := by
  refine F.ok scP7 (fun vs H Q E h => ?_) (fun cdv A outer s H vs Q E hr h => ?_)
  · obtain ⟨a, ds, rfl, _⟩ := h
    rfl
  · obtain ⟨a, ds, rfl, ha, k⟩ := h
    obtain ⟨dx, vs, hA, hv, l⟩ := ha
    obtain ⟨v0, vs, e0, ds, rfl, rfl, r0, hv, l⟩ := hv.uncons l
    obtain ⟨v1, vs, e1, ds, rfl, rfl, r1, hv, l⟩ := hv.uncons l
    obtain ⟨v2, vs, e2, ds, rfl, rfl, r2, hv, l⟩ := hv.uncons l
    obtain ⟨rfl, rfl⟩ := hv.unnil l
    refine ⟨_, pss_one (ps_ret (pe_tup (pa_cons (pe_fld (pv 0) rfl) (pa_cons (pe_fld (pv 0) rfl) (pa_cons (pe_fld (pv 0) rfl) pa_nil))))), ?_⟩
    refine ⟨_, rfl, a, C 7, _, _, v0, rfl, hA, T.cl 7 (by decide), T.no 7 (by decide) _ (List.mem_of_getElem? (i := 0) rfl), zip_lookup (i := 0) (fN_nodup 7 (by decide)) rfl rfl, _, rfl, a, C 7, _, _, v1, rfl, hA, T.cl 7 (by decide), T.no 7 (by decide) _ (List.mem_of_getElem? (i := 1) rfl), zip_lookup (i := 1) (fN_nodup 7 (by decide)) rfl rfl, _, rfl, a, C 7, _, _, v2, rfl, hA, T.cl 7 (by decide), T.no 7 (by decide) _ (List.mem_of_getElem? (i := 2) rfl), zip_lookup (i := 2) (fN_nodup 7 (by decide)) rfl rfl, (by show 3 ≤ sizeLine; decide), fun p np => ?_⟩
    exact k _ _ (Same.upd np) (.tup upd_same (RpAll.same (Same.upd np) _ _ (.cons r0 (.cons r1 (.cons r2 .nil)))))
abbrev sP10 : Stmt := top 20
theorem scP10 : FnScope ["paper"] ["paper"] (defScope sP10) := ⟨rfl, rfl, rfl, by decide +kernel, rfl, by decide +kernel, by decide +kernel⟩
theorem ok_P10 {f : Addr} {fd : FuncData} (F : Fun K "paper_key" "paper_key" sP10 f fd) (T : Txt K mg C) : FnOk P w K mg base CX0 1 f fd ["paper"] (spParts C 10) := by
  refine F.ok scP10 (fun vs H Q E h => ?_) (fun cdv A outer s H vs Q E hr h => ?_)
  · obtain ⟨a, ds, rfl, _⟩ := h
    rfl
  · obtain ⟨a, ds, rfl, ha, k⟩ := h
    obtain ⟨dx, vs, hA, hv, l⟩ := ha
    obtain ⟨v0, vs, e0, ds, rfl, rfl, r0, hv, l⟩ := hv.uncons l
    obtain ⟨v1, vs, e1, ds, rfl, rfl, r1, hv, l⟩ := hv.uncons l
    obtain ⟨v2, vs, e2, ds, rfl, rfl, r2, hv, l⟩ := hv.uncons l
    obtain ⟨v3, vs, e3, ds, rfl, rfl, r3, hv, l⟩ := hv.uncons l
    obtain ⟨v4, vs, e4, ds, rfl, rfl, r4, hv, l⟩ := hv.uncons l
    obtain ⟨v5, vs, e5, ds, rfl, rfl, r5, hv, l⟩ := hv.uncons l
    obtain ⟨rfl, rfl⟩ := hv.unnil l
    refine ⟨_, pss_one (ps_ret (pe_tup (pa_cons (pe_fld (pv 0) rfl) (pa_cons (pe_fld (pv 0) rfl) (pa_cons (pe_fld (pv 0) rfl) (pa_cons (pe_fld (pv 0) rfl) (pa_cons (pe_fld (pv 0) rfl) (pa_cons (pe_fld (pv 0) rfl) pa_nil)))))))), ?_⟩
    refine ⟨_, rfl, a, C 10, _, _, v0, rfl, hA, T.cl 10 (by decide), T.no 10 (by decide) _ (List.mem_of_getElem? (i := 0) rfl), zip_lookup (i := 0) (fN_nodup 10 (by decide)) rfl rfl, _, rfl, a, C 10, _, _, v1, rfl, hA, T.cl 10 (by decide), T.no 10 (by decide) _ (List.mem_of_getElem? (i := 1) rfl), zip_lookup (i := 1) (fN_nodup 10 (by decide)) rfl rfl, _, rfl, a, C 10, _, _, v2, rfl, hA, T.cl 10 (by decide), T.no 10 (by decide) _ (List.mem_of_getElem? (i := 2) rfl), zip_lookup (i := 2) (fN_nodup 10 (by decide)) rfl rfl, _, rfl, a, C 10, _, _, v3, rfl, hA, T.cl 10 (by decide), T.no 10 (by decide) _ (List.mem_of_getElem? (i := 3) rfl), zip_lookup (i := 3) (fN_nodup 10 (by decide)) rfl rfl, _, rfl, a, C 10, _, _, v4, rfl, hA, T.cl 10 (by decide), T.no 10 (by decide) _ (List.mem_of_getElem? (i := 4) rfl), zip_lookup (i := 4) (fN_nodup 10 (by decide)) rfl rfl, _, rfl, a, C 10, _, _, v5, rfl, hA, T.cl 10 (by decide), T.no 10 (by decide) _ (List.mem_of_getElem? (i := 5) rfl), zip_lookup (i := 5) (fN_nodup 10 (by decide)) rfl rfl, (by show 6 ≤ sizeLine; decide), fun p np => ?_⟩
    exact k _ _ (Same.upd np) (.tup upd_same (RpAll.same (Same.upd np) _ _ (.cons r0 (.cons r1 (.cons r2 (.cons r3 (.cons r4 (.cons r5 .nil))))))))
abbrev sE0 : Stmt := inClass (top 3) 1
theorem scE0 : FnScope ["self", "other"] ["self", "other"] (defScope sE0) := ⟨rfl, rfl, rfl, by decide +kernel, rfl, by decide +kernel, by decide +kernel⟩
theorem ok_E0 {f : Addr} {fd : FuncData} (F : Fun K "__eq__" "Stops.__eq__" sE0 f fd) (T : Txt K mg C) : FnOk P w K mg base CX0 10 f fd ["self", "other"] (spEq C 0) := by
  refine F.ok scE0 (fun vs H Q E h => ?_) (fun cdv A outer s H vs Q E hr h => ?_)
  · obtain ⟨a, b, j, ds, es, r, rfl, _⟩ := h
    rfl
  · obtain ⟨a, b, j, ds, es, r, rfl, hj, ha, hb, res, k⟩ := h
    have hr8 : Room 8 _ := hr.mono (by decide)
    have hr1 : Room 1 _ := hr.mono (by decide)
    refine ⟨_, pss_cons (ps_if (pt_not (pt_val (pe_callB call_isi (by rfl) T.isi boot_isinstance (pa_cons (pv 1) (pa_cons (pe_glob (v := .ref (C 0)) (by rfl) (T.mgC 0 (by decide)) rfl) pa_nil))))) (pss_one (ps_ret pe_bl)) pss_nil) (pss_one (ps_ret (pe_cmpR (op_eqX hr8) (pe_tup (pa_cons (pe_fld (pv 0) rfl) (pa_cons (pe_fld (pv 0) rfl) (pa_cons (pe_fld (pv 0) rfl) pa_nil)))) (pe_tup (pa_cons (pe_fld (pv 1) rfl) (pa_cons (pe_fld (pv 1) rfl) (pa_cons (pe_fld (pv 1) rfl) pa_nil)))) (nomark _)))), ?_⟩
    refine ⟨_, rfl, .ref b, _, .ref (C j), _, decide (j = 0), rfl, .own (C 0), hb.ty T hj, T.kit j 0 hj (by decide), ?_⟩
    refine ⟨_, rfl, ?_⟩
    rcases res with ⟨nj, rfl⟩ | ⟨rfl, res⟩
    · rw [decide_eq_false nj]
      exact iteT (k H (Same.refl H))
    rw [decide_eq_true rfl]
    refine iteF ?_
    obtain ⟨dx, vs, hA, hv, l⟩ := ha
    obtain ⟨dy, ws, hB, hw, l'⟩ := hb
    obtain ⟨v0, vs, d0, ds, rfl, rfl, r0, hv, l⟩ := hv.uncons l
    obtain ⟨v1, vs, d1, ds, rfl, rfl, r1, hv, l⟩ := hv.uncons l
    obtain ⟨v2, vs, d2, ds, rfl, rfl, r2, hv, l⟩ := hv.uncons l
    obtain ⟨rfl, rfl⟩ := hv.unnil l
    obtain ⟨w0, ws, e0, es, rfl, rfl, q0, hw, l'⟩ := hw.uncons l'
    obtain ⟨w1, ws, e1, es, rfl, rfl, q1, hw, l'⟩ := hw.uncons l'
    obtain ⟨w2, ws, e2, es, rfl, rfl, q2, hw, l'⟩ := hw.uncons l'
    obtain ⟨rfl, rfl⟩ := hw.unnil l'
    refine ⟨_, rfl, a, C 0, _, _, v0, rfl, hA, T.cl 0 (by decide), T.no 0 (by decide) _ (List.mem_of_getElem? (i := 0) rfl), zip_lookup (i := 0) (fN_nodup 0 (by decide)) rfl rfl, _, rfl, a, C 0, _, _, v1, rfl, hA, T.cl 0 (by decide), T.no 0 (by decide) _ (List.mem_of_getElem? (i := 1) rfl), zip_lookup (i := 1) (fN_nodup 0 (by decide)) rfl rfl, _, rfl, a, C 0, _, _, v2, rfl, hA, T.cl 0 (by decide), T.no 0 (by decide) _ (List.mem_of_getElem? (i := 2) rfl), zip_lookup (i := 2) (fN_nodup 0 (by decide)) rfl rfl, (by show 3 ≤ sizeLine; decide), fun p1 n1 => ?_⟩
    have hB1 := Same.upd (o := .tup [v0, v1, v2]) n1 _ _ hB
    refine ⟨_, rfl, b, C 0, _, _, w0, rfl, hB1, T.cl 0 (by decide), T.no 0 (by decide) _ (List.mem_of_getElem? (i := 0) rfl), zip_lookup (i := 0) (fN_nodup 0 (by decide)) rfl rfl, _, rfl, b, C 0, _, _, w1, rfl, hB1, T.cl 0 (by decide), T.no 0 (by decide) _ (List.mem_of_getElem? (i := 1) rfl), zip_lookup (i := 1) (fN_nodup 0 (by decide)) rfl rfl, _, rfl, b, C 0, _, _, w2, rfl, hB1, T.cl 0 (by decide), T.no 0 (by decide) _ (List.mem_of_getElem? (i := 2) rfl), zip_lookup (i := 2) (fN_nodup 0 (by decide)) rfl rfl, (by show 3 ≤ sizeLine; decide), fun p2 n2 => ?_⟩
    have S : Same H _ := (Same.upd n1).trans (Same.upd (o := .tup [w0, w1, w2]) n2)
    have p : Rp _ (.ref p1) (ekey 0 [d0, d1, d2]) := .tup (Same.upd n2 _ _ upd_same) (RpAll.same S _ _ (.cons r0 (.cons r1 (.cons r2 .nil))))
    have q : Rp _ (.ref p2) (ekey 0 [e0, e1, e2]) := .tup upd_same (RpAll.same S _ _ (.cons q0 (.cons q1 (.cons q2 .nil))))
    rcases res with ⟨e, dep, rfl⟩ | ⟨z1, z2, rfl⟩
    · rw [← e] at q
      exact .inr ⟨_, p, q, dep, fun H' s' => k H' (S.trans s')⟩
    · exact .inl ⟨_, _, p, q, z1, z2, k _ S⟩
abbrev sE1 : Stmt := inClass (top 4) 1
theorem scE1 : FnScope ["self", "other"] ["self", "other"] (defScope sE1) := ⟨rfl, rfl, rfl, by decide +kernel, rfl, by decide +kernel, by decide +kernel⟩
theorem ok_E1 {f : Addr} {fd : FuncData} (F : Fun K "__eq__" "Limit.__eq__" sE1 f fd) (T : Txt K mg C) : FnOk P w K mg base CX0 10 f fd ["self", "other"] (spEq C 1) := by
  refine F.ok scE1 (fun vs H Q E h => ?_) (fun cdv A outer s H vs Q E hr h => ?_)
  · obtain ⟨a, b, j, ds, es, r, rfl, _⟩ := h
    rfl
  · obtain ⟨a, b, j, ds, es, r, rfl, hj, ha, hb, res, k⟩ := h
    have hr8 : Room 8 _ := hr.mono (by decide)
    have hr1 : Room 1 _ := hr.mono (by decide)
    refine ⟨_, pss_one (ps_ret (pe_and (pe_callB call_isi (by rfl) T.isi boot_isinstance (pa_cons (pv 1) (pa_cons (pe_glob (v := .ref (C 1)) (by rfl) (T.mgC 1 (by decide)) rfl) pa_nil))) (pe_one (pe_cmpR (op_eqX hr8) (pe_fld (pv 0) rfl) (pe_fld (pv 1) rfl) (nomark _))))), ?_⟩
    refine ⟨_, rfl, .ref b, _, .ref (C j), _, decide (j = 1), rfl, .own (C 1), hb.ty T hj, T.kit j 1 hj (by decide), ?_⟩
    refine ⟨_, rfl, ?_⟩
    rcases res with ⟨nj, rfl⟩ | ⟨rfl, res⟩
    · rw [decide_eq_false nj]
      exact iteF (k H (Same.refl H))
    rw [decide_eq_true rfl]
    refine iteT ?_
    obtain ⟨dx, vs, hA, hv, l⟩ := ha
    obtain ⟨dy, ws, hB, hw, l'⟩ := hb
    obtain ⟨v0, vs, d0, ds, rfl, rfl, r0, hv, l⟩ := hv.uncons l
    obtain ⟨rfl, rfl⟩ := hv.unnil l
    obtain ⟨w0, ws, e0, es, rfl, rfl, q0, hw, l'⟩ := hw.uncons l'
    obtain ⟨rfl, rfl⟩ := hw.unnil l'
    refine ⟨_, rfl, a, C 1, _, _, v0, rfl, hA, T.cl 1 (by decide), T.no 1 (by decide) _ (List.mem_of_getElem? (i := 0) rfl), zip_lookup (i := 0) (fN_nodup 1 (by decide)) rfl rfl, _, rfl, b, C 1, _, _, w0, rfl, hB, T.cl 1 (by decide), T.no 1 (by decide) _ (List.mem_of_getElem? (i := 0) rfl), zip_lookup (i := 0) (fN_nodup 1 (by decide)) rfl rfl, ?_⟩
    have p : Rp H v0 (ekey 1 [d0]) := r0
    have q : Rp H w0 (ekey 1 [e0]) := q0
    have S : Same H H := Same.refl H
    rcases res with ⟨e, dep, rfl⟩ | ⟨z1, z2, rfl⟩
    · rw [← e] at q
      exact .inr ⟨_, p, q, dep, fun H' s' => k H' (S.trans s')⟩
    · exact .inl ⟨_, _, p, q, z1, z2, k _ S⟩
abbrev sE2 : Stmt := inClass (top 5) 1
theorem scE2 : FnScope ["self", "other"] ["self", "other"] (defScope sE2) := ⟨rfl, rfl, rfl, by decide +kernel, rfl, by decide +kernel, by decide +kernel⟩
theorem ok_E2 {f : Addr} {fd : FuncData} (F : Fun K "__eq__" "Infinite.__eq__" sE2 f fd) (T : Txt K mg C) : FnOk P w K mg base CX0 10 f fd ["self", "other"] (spEq C 2) := by
  refine F.ok scE2 (fun vs H Q E h => ?_) (fun cdv A outer s H vs Q E hr h => ?_)
  · obtain ⟨a, b, j, ds, es, r, rfl, _⟩ := h
    rfl
  · obtain ⟨a, b, j, ds, es, r, rfl, hj, ha, hb, res, k⟩ := h
    have hr8 : Room 8 _ := hr.mono (by decide)
    have hr1 : Room 1 _ := hr.mono (by decide)
    refine ⟨_, pss_one (ps_ret (pe_and (pe_callB call_isi (by rfl) T.isi boot_isinstance (pa_cons (pv 1) (pa_cons (pe_glob (v := .ref (C 2)) (by rfl) (T.mgC 2 (by decide)) rfl) pa_nil))) (pe_one (pe_cmpR (op_eqX hr8) (pe_fld (pv 0) rfl) (pe_fld (pv 1) rfl) (nomark _))))), ?_⟩
    refine ⟨_, rfl, .ref b, _, .ref (C j), _, decide (j = 2), rfl, .own (C 2), hb.ty T hj, T.kit j 2 hj (by decide), ?_⟩
    refine ⟨_, rfl, ?_⟩
    rcases res with ⟨nj, rfl⟩ | ⟨rfl, res⟩
    · rw [decide_eq_false nj]
      exact iteF (k H (Same.refl H))
    rw [decide_eq_true rfl]
    refine iteT ?_
    obtain ⟨dx, vs, hA, hv, l⟩ := ha
    obtain ⟨dy, ws, hB, hw, l'⟩ := hb
    obtain ⟨v0, vs, d0, ds, rfl, rfl, r0, hv, l⟩ := hv.uncons l
    obtain ⟨rfl, rfl⟩ := hv.unnil l
    obtain ⟨w0, ws, e0, es, rfl, rfl, q0, hw, l'⟩ := hw.uncons l'
    obtain ⟨rfl, rfl⟩ := hw.unnil l'
    refine ⟨_, rfl, a, C 2, _, _, v0, rfl, hA, T.cl 2 (by decide), T.no 2 (by decide) _ (List.mem_of_getElem? (i := 0) rfl), zip_lookup (i := 0) (fN_nodup 2 (by decide)) rfl rfl, _, rfl, b, C 2, _, _, w0, rfl, hB, T.cl 2 (by decide), T.no 2 (by decide) _ (List.mem_of_getElem? (i := 0) rfl), zip_lookup (i := 0) (fN_nodup 2 (by decide)) rfl rfl, ?_⟩
    have p : Rp H v0 (ekey 2 [d0]) := r0
    have q : Rp H w0 (ekey 2 [e0]) := q0
    have S : Same H H := Same.refl H
    rcases res with ⟨e, dep, rfl⟩ | ⟨z1, z2, rfl⟩
    · rw [← e] at q
      exact .inr ⟨_, p, q, dep, fun H' s' => k H' (S.trans s')⟩
    · exact .inl ⟨_, _, p, q, z1, z2, k _ S⟩
abbrev sE3 : Stmt := inClass (top 6) 1
theorem scE3 : FnScope ["self", "other"] ["self", "other"] (defScope sE3) := ⟨rfl, rfl, rfl, by decide +kernel, rfl, by decide +kernel, by decide +kernel⟩
theorem ok_E3 {f : Addr} {fd : FuncData} (F : Fun K "__eq__" "Sign.__eq__" sE3 f fd) (T : Txt K mg C) : FnOk P w K mg base CX0 10 f fd ["self", "other"] (spEq C 3) := by
  refine F.ok scE3 (fun vs H Q E h => ?_) (fun cdv A outer s H vs Q E hr h => ?_)
  · obtain ⟨a, b, j, ds, es, r, rfl, _⟩ := h
    rfl
  · obtain ⟨a, b, j, ds, es, r, rfl, hj, ha, hb, res, k⟩ := h
    have hr8 : Room 8 _ := hr.mono (by decide)
    have hr1 : Room 1 _ := hr.mono (by decide)
    refine ⟨_, pss_one (ps_ret (pe_and (pe_callB call_isi (by rfl) T.isi boot_isinstance (pa_cons (pv 1) (pa_cons (pe_glob (v := .ref (C 3)) (by rfl) (T.mgC 3 (by decide)) rfl) pa_nil))) (pe_one (pe_cmpR (op_eqX hr8) (pe_fld (pv 0) rfl) (pe_fld (pv 1) rfl) (nomark _))))), ?_⟩
    refine ⟨_, rfl, .ref b, _, .ref (C j), _, decide (j = 3), rfl, .own (C 3), hb.ty T hj, T.kit j 3 hj (by decide), ?_⟩
    refine ⟨_, rfl, ?_⟩
    rcases res with ⟨nj, rfl⟩ | ⟨rfl, res⟩
    · rw [decide_eq_false nj]
      exact iteF (k H (Same.refl H))
    rw [decide_eq_true rfl]
    refine iteT ?_
    obtain ⟨dx, vs, hA, hv, l⟩ := ha
    obtain ⟨dy, ws, hB, hw, l'⟩ := hb
    obtain ⟨v0, vs, d0, ds, rfl, rfl, r0, hv, l⟩ := hv.uncons l
    obtain ⟨rfl, rfl⟩ := hv.unnil l
    obtain ⟨w0, ws, e0, es, rfl, rfl, q0, hw, l'⟩ := hw.uncons l'
    obtain ⟨rfl, rfl⟩ := hw.unnil l'
    refine ⟨_, rfl, a, C 3, _, _, v0, rfl, hA, T.cl 3 (by decide), T.no 3 (by decide) _ (List.mem_of_getElem? (i := 0) rfl), zip_lookup (i := 0) (fN_nodup 3 (by decide)) rfl rfl, _, rfl, b, C 3, _, _, w0, rfl, hB, T.cl 3 (by decide), T.no 3 (by decide) _ (List.mem_of_getElem? (i := 0) rfl), zip_lookup (i := 0) (fN_nodup 3 (by decide)) rfl rfl, ?_⟩
    have p : Rp H v0 (ekey 3 [d0]) := r0
    have q : Rp H w0 (ekey 3 [e0]) := q0
    have S : Same H H := Same.refl H
    rcases res with ⟨e, dep, rfl⟩ | ⟨z1, z2, rfl⟩
    · rw [← e] at q
      exact .inr ⟨_, p, q, dep, fun H' s' => k H' (S.trans s')⟩
    · exact .inl ⟨_, _, p, q, z1, z2, k _ S⟩
abbrev sE4 : Stmt := inClass (top 7) 1
theorem scE4 : FnScope ["self", "other"] ["self", "other"] (defScope sE4) := ⟨rfl, rfl, rfl, by decide +kernel, rfl, by decide +kernel, by decide +kernel⟩
theorem ok_E4 {f : Addr} {fd : FuncData} (F : Fun K "__eq__" "Order.__eq__" sE4 f fd) (T : Txt K mg C) : FnOk P w K mg base CX0 10 f fd ["self", "other"] (spEq C 4) := by
  refine F.ok scE4 (fun vs H Q E h => ?_) (fun cdv A outer s H vs Q E hr h => ?_)
  · obtain ⟨a, b, j, ds, es, r, rfl, _⟩ := h
    rfl
  · obtain ⟨a, b, j, ds, es, r, rfl, hj, ha, hb, res, k⟩ := h
    have hr8 : Room 8 _ := hr.mono (by decide)
    have hr1 : Room 1 _ := hr.mono (by decide)
    refine ⟨_, pss_one (ps_ret (pe_and (pe_callB call_isi (by rfl) T.isi boot_isinstance (pa_cons (pv 1) (pa_cons (pe_glob (v := .ref (C 4)) (by rfl) (T.mgC 4 (by decide)) rfl) pa_nil))) (pe_one (pe_cmpR (op_eqX hr8) (pe_tup (pa_cons (pe_fld (pv 0) rfl) (pa_cons (pe_fld (pv 0) rfl) pa_nil))) (pe_tup (pa_cons (pe_fld (pv 1) rfl) (pa_cons (pe_fld (pv 1) rfl) pa_nil))) (nomark _))))), ?_⟩
    refine ⟨_, rfl, .ref b, _, .ref (C j), _, decide (j = 4), rfl, .own (C 4), hb.ty T hj, T.kit j 4 hj (by decide), ?_⟩
    refine ⟨_, rfl, ?_⟩
    rcases res with ⟨nj, rfl⟩ | ⟨rfl, res⟩
    · rw [decide_eq_false nj]
      exact iteF (k H (Same.refl H))
    rw [decide_eq_true rfl]
    refine iteT ?_
    obtain ⟨dx, vs, hA, hv, l⟩ := ha
    obtain ⟨dy, ws, hB, hw, l'⟩ := hb
    obtain ⟨v0, vs, d0, ds, rfl, rfl, r0, hv, l⟩ := hv.uncons l
    obtain ⟨v1, vs, d1, ds, rfl, rfl, r1, hv, l⟩ := hv.uncons l
    obtain ⟨rfl, rfl⟩ := hv.unnil l
    obtain ⟨w0, ws, e0, es, rfl, rfl, q0, hw, l'⟩ := hw.uncons l'
    obtain ⟨w1, ws, e1, es, rfl, rfl, q1, hw, l'⟩ := hw.uncons l'
    obtain ⟨rfl, rfl⟩ := hw.unnil l'
    refine ⟨_, rfl, a, C 4, _, _, v0, rfl, hA, T.cl 4 (by decide), T.no 4 (by decide) _ (List.mem_of_getElem? (i := 0) rfl), zip_lookup (i := 0) (fN_nodup 4 (by decide)) rfl rfl, _, rfl, a, C 4, _, _, v1, rfl, hA, T.cl 4 (by decide), T.no 4 (by decide) _ (List.mem_of_getElem? (i := 1) rfl), zip_lookup (i := 1) (fN_nodup 4 (by decide)) rfl rfl, (by show 2 ≤ sizeLine; decide), fun p1 n1 => ?_⟩
    have hB1 := Same.upd (o := .tup [v0, v1]) n1 _ _ hB
    refine ⟨_, rfl, b, C 4, _, _, w0, rfl, hB1, T.cl 4 (by decide), T.no 4 (by decide) _ (List.mem_of_getElem? (i := 0) rfl), zip_lookup (i := 0) (fN_nodup 4 (by decide)) rfl rfl, _, rfl, b, C 4, _, _, w1, rfl, hB1, T.cl 4 (by decide), T.no 4 (by decide) _ (List.mem_of_getElem? (i := 1) rfl), zip_lookup (i := 1) (fN_nodup 4 (by decide)) rfl rfl, (by show 2 ≤ sizeLine; decide), fun p2 n2 => ?_⟩
    have S : Same H _ := (Same.upd n1).trans (Same.upd (o := .tup [w0, w1]) n2)
    have p : Rp _ (.ref p1) (ekey 4 [d0, d1]) := .tup (Same.upd n2 _ _ upd_same) (RpAll.same S _ _ (.cons r0 (.cons r1 .nil)))
    have q : Rp _ (.ref p2) (ekey 4 [e0, e1]) := .tup upd_same (RpAll.same S _ _ (.cons q0 (.cons q1 .nil)))
    rcases res with ⟨e, dep, rfl⟩ | ⟨z1, z2, rfl⟩
    · rw [← e] at q
      exact .inr ⟨_, p, q, dep, fun H' s' => k H' (S.trans s')⟩
    · exact .inl ⟨_, _, p, q, z1, z2, k _ S⟩
abbrev sE5 : Stmt := inClass (top 8) 1
theorem scE5 : FnScope ["self", "other"] ["self", "other"] (defScope sE5) := ⟨rfl, rfl, rfl, by decide +kernel, rfl, by decide +kernel, by decide +kernel⟩
theorem ok_E5 {f : Addr} {fd : FuncData} (F : Fun K "__eq__" "Expansion.__eq__" sE5 f fd) (T : Txt K mg C) : FnOk P w K mg base CX0 10 f fd ["self", "other"] (spEq C 5) := by
  refine F.ok scE5 (fun vs H Q E h => ?_) (fun cdv A outer s H vs Q E hr h => ?_)
  · obtain ⟨a, b, j, ds, es, r, rfl, _⟩ := h
    rfl
  · obtain ⟨a, b, j, ds, es, r, rfl, hj, ha, hb, res, k⟩ := h
    have hr8 : Room 8 _ := hr.mono (by decide)
    have hr1 : Room 1 _ := hr.mono (by decide)
    refine ⟨_, pss_one (ps_ret (pe_and (pe_callB call_isi (by rfl) T.isi boot_isinstance (pa_cons (pv 1) (pa_cons (pe_glob (v := .ref (C 5)) (by rfl) (T.mgC 5 (by decide)) rfl) pa_nil))) (pe_one (pe_cmpR (op_eqX hr8) (pe_fld (pv 0) rfl) (pe_fld (pv 1) rfl) (nomark _))))), ?_⟩
    refine ⟨_, rfl, .ref b, _, .ref (C j), _, decide (j = 5), rfl, .own (C 5), hb.ty T hj, T.kit j 5 hj (by decide), ?_⟩
    refine ⟨_, rfl, ?_⟩
    rcases res with ⟨nj, rfl⟩ | ⟨rfl, res⟩
    · rw [decide_eq_false nj]
      exact iteF (k H (Same.refl H))
    rw [decide_eq_true rfl]
    refine iteT ?_
    obtain ⟨dx, vs, hA, hv, l⟩ := ha
    obtain ⟨dy, ws, hB, hw, l'⟩ := hb
    obtain ⟨v0, vs, d0, ds, rfl, rfl, r0, hv, l⟩ := hv.uncons l
    obtain ⟨rfl, rfl⟩ := hv.unnil l
    obtain ⟨w0, ws, e0, es, rfl, rfl, q0, hw, l'⟩ := hw.uncons l'
    obtain ⟨rfl, rfl⟩ := hw.unnil l'
    refine ⟨_, rfl, a, C 5, _, _, v0, rfl, hA, T.cl 5 (by decide), T.no 5 (by decide) _ (List.mem_of_getElem? (i := 0) rfl), zip_lookup (i := 0) (fN_nodup 5 (by decide)) rfl rfl, _, rfl, b, C 5, _, _, w0, rfl, hB, T.cl 5 (by decide), T.no 5 (by decide) _ (List.mem_of_getElem? (i := 0) rfl), zip_lookup (i := 0) (fN_nodup 5 (by decide)) rfl rfl, ?_⟩
    have p : Rp H v0 (ekey 5 [d0]) := r0
    have q : Rp H w0 (ekey 5 [e0]) := q0
    have S : Same H H := Same.refl H
    rcases res with ⟨e, dep, rfl⟩ | ⟨z1, z2, rfl⟩
    · rw [← e] at q
      exact .inr ⟨_, p, q, dep, fun H' s' => k H' (S.trans s')⟩
    · exact .inl ⟨_, _, p, q, z1, z2, k _ S⟩
abbrev sE6 : Stmt := inClass (top 10) 1
theorem scE6 : FnScope ["self", "other"] ["self", "other"] (defScope sE6) := ⟨rfl, rfl, rfl, by decide +kernel, rfl, by decide +kernel, by decide +kernel⟩
theorem ok_E6 {f : Addr} {fd : FuncData} (F : Fun K "__eq__" "Letter.__eq__" sE6 f fd) (T : Txt K mg C) {fp : Addr} {fdp : FuncData} (Fp : FnOk P w K mg base CX0 1 fp fdp ["letter"] (spParts C 6)) (mp : mg "letter_parts" = some (.ref fp)) (kp : PySem.W.keepIn K (.ref fp) = true) (bp : Binds K fdp ["letter"] []) : FnOk P w K mg base CX0 10 f fd ["self", "other"] (spEq C 6) := by
  refine F.ok scE6 (fun vs H Q E h => ?_) (fun cdv A outer s H vs Q E hr h => ?_)
  · obtain ⟨a, b, j, ds, es, r, rfl, _⟩ := h
    rfl
  · obtain ⟨a, b, j, ds, es, r, rfl, hj, ha, hb, res, k⟩ := h
    have hr8 : Room 8 _ := hr.mono (by decide)
    have hr1 : Room 1 _ := hr.mono (by decide)
    refine ⟨_, pss_one (ps_ret (pe_and (pe_callB call_isi (by rfl) T.isi boot_isinstance (pa_cons (pv 1) (pa_cons (pe_glob (v := .ref (C 6)) (by rfl) (T.mgC 6 (by decide)) rfl) pa_nil))) (pe_one (pe_cmpR (op_eqX hr8) (pe_call Fp hr1 (by rfl) mp kp bp .nil pass0 (pa_cons (pv 0) pa_nil)) (pe_call Fp hr1 (by rfl) mp kp bp .nil pass0 (pa_cons (pv 1) pa_nil)) (nomark _))))), ?_⟩
    refine ⟨_, rfl, .ref b, _, .ref (C j), _, decide (j = 6), rfl, .own (C 6), hb.ty T hj, T.kit j 6 hj (by decide), ?_⟩
    refine ⟨_, rfl, ?_⟩
    rcases res with ⟨nj, rfl⟩ | ⟨rfl, res⟩
    · rw [decide_eq_false nj]
      exact iteF (k H (Same.refl H))
    rw [decide_eq_true rfl]
    refine iteT ?_
    refine ⟨_, rfl, a, ds, rfl, ha, fun v1 H1 s1 p => ⟨_, rfl, b, es, rfl, hb.same s1, fun v2 H2 s2 q => ?_⟩⟩
    have p := Rp.same s2 _ _ p
    have S : Same H H2 := s1.trans s2
    rw [← ekey_6] at p q
    rcases res with ⟨e, dep, rfl⟩ | ⟨z1, z2, rfl⟩
    · rw [← e] at q
      exact .inr ⟨_, p, q, dep, fun H' s' => k H' (S.trans s')⟩
    · exact .inl ⟨_, _, p, q, z1, z2, k _ S⟩
abbrev sE7 : Stmt := inClass (top 11) 1
theorem scE7 : FnScope ["self", "other"] ["self", "other"] (defScope sE7) := ⟨rfl, rfl, rfl, by decide +kernel, rfl, by decide +kernel, by decide +kernel⟩
theorem ok_E7 {f : Addr} {fd : FuncData} (F : Fun K "__eq__" "Field.__eq__" sE7 f fd) (T : Txt K mg C) {fp : Addr} {fdp : FuncData} (Fp : FnOk P w K mg base CX0 1 fp fdp ["field"] (spParts C 7)) (mp : mg "field_parts" = some (.ref fp)) (kp : PySem.W.keepIn K (.ref fp) = true) (bp : Binds K fdp ["field"] []) : FnOk P w K mg base CX0 10 f fd ["self", "other"] (spEq C 7) := by
  refine F.ok scE7 (fun vs H Q E h => ?_) (fun cdv A outer s H vs Q E hr h => ?_)
  · obtain ⟨a, b, j, ds, es, r, rfl, _⟩ := h
    rfl
  · obtain ⟨a, b, j, ds, es, r, rfl, hj, ha, hb, res, k⟩ := h
    have hr8 : Room 8 _ := hr.mono (by decide)
    have hr1 : Room 1 _ := hr.mono (by decide)
    refine ⟨_, pss_one (ps_ret (pe_and (pe_callB call_isi (by rfl) T.isi boot_isinstance (pa_cons (pv 1) (pa_cons (pe_glob (v := .ref (C 7)) (by rfl) (T.mgC 7 (by decide)) rfl) pa_nil))) (pe_one (pe_cmpR (op_eqX hr8) (pe_call Fp hr1 (by rfl) mp kp bp .nil pass0 (pa_cons (pv 0) pa_nil)) (pe_call Fp hr1 (by rfl) mp kp bp .nil pass0 (pa_cons (pv 1) pa_nil)) (nomark _))))), ?_⟩
    refine ⟨_, rfl, .ref b, _, .ref (C j), _, decide (j = 7), rfl, .own (C 7), hb.ty T hj, T.kit j 7 hj (by decide), ?_⟩
    refine ⟨_, rfl, ?_⟩
    rcases res with ⟨nj, rfl⟩ | ⟨rfl, res⟩
    · rw [decide_eq_false nj]
      exact iteF (k H (Same.refl H))
    rw [decide_eq_true rfl]
    refine iteT ?_
    refine ⟨_, rfl, a, ds, rfl, ha, fun v1 H1 s1 p => ⟨_, rfl, b, es, rfl, hb.same s1, fun v2 H2 s2 q => ?_⟩⟩
    have p := Rp.same s2 _ _ p
    have S : Same H H2 := s1.trans s2
    rw [← ekey_7] at p q
    rcases res with ⟨e, dep, rfl⟩ | ⟨z1, z2, rfl⟩
    · rw [← e] at q
      exact .inr ⟨_, p, q, dep, fun H' s' => k H' (S.trans s')⟩
    · exact .inl ⟨_, _, p, q, z1, z2, k _ S⟩
abbrev sE8 : Stmt := inClass (top 15) 1
theorem scE8 : FnScope ["self", "other"] ["self", "other"] (defScope sE8) := ⟨rfl, rfl, rfl, by decide +kernel, rfl, by decide +kernel, by decide +kernel⟩
theorem ok_E8 {f : Addr} {fd : FuncData} (F : Fun K "__eq__" "Lead.__eq__" sE8 f fd) (T : Txt K mg C) : FnOk P w K mg base CX0 10 f fd ["self", "other"] (spEq C 8) := by
  refine F.ok scE8 (fun vs H Q E h => ?_) (fun cdv A outer s H vs Q E hr h => ?_)
  · obtain ⟨a, b, j, ds, es, r, rfl, _⟩ := h
    rfl
  · obtain ⟨a, b, j, ds, es, r, rfl, hj, ha, hb, res, k⟩ := h
    have hr8 : Room 8 _ := hr.mono (by decide)
    have hr1 : Room 1 _ := hr.mono (by decide)
    refine ⟨_, pss_one (ps_ret (pe_and (pe_callB call_isi (by rfl) T.isi boot_isinstance (pa_cons (pv 1) (pa_cons (pe_glob (v := .ref (C 8)) (by rfl) (T.mgC 8 (by decide)) rfl) pa_nil))) (pe_one (pe_cmpR (op_eqX hr8) (pe_tup (pa_cons (pe_fld (pv 0) rfl) (pa_cons (pe_fld (pv 0) rfl) pa_nil))) (pe_tup (pa_cons (pe_fld (pv 1) rfl) (pa_cons (pe_fld (pv 1) rfl) pa_nil))) (nomark _))))), ?_⟩
    refine ⟨_, rfl, .ref b, _, .ref (C j), _, decide (j = 8), rfl, .own (C 8), hb.ty T hj, T.kit j 8 hj (by decide), ?_⟩
    refine ⟨_, rfl, ?_⟩
    rcases res with ⟨nj, rfl⟩ | ⟨rfl, res⟩
    · rw [decide_eq_false nj]
      exact iteF (k H (Same.refl H))
    rw [decide_eq_true rfl]
    refine iteT ?_
    obtain ⟨dx, vs, hA, hv, l⟩ := ha
    obtain ⟨dy, ws, hB, hw, l'⟩ := hb
    obtain ⟨v0, vs, d0, ds, rfl, rfl, r0, hv, l⟩ := hv.uncons l
    obtain ⟨v1, vs, d1, ds, rfl, rfl, r1, hv, l⟩ := hv.uncons l
    obtain ⟨rfl, rfl⟩ := hv.unnil l
    obtain ⟨w0, ws, e0, es, rfl, rfl, q0, hw, l'⟩ := hw.uncons l'
    obtain ⟨w1, ws, e1, es, rfl, rfl, q1, hw, l'⟩ := hw.uncons l'
    obtain ⟨rfl, rfl⟩ := hw.unnil l'
    refine ⟨_, rfl, a, C 8, _, _, v0, rfl, hA, T.cl 8 (by decide), T.no 8 (by decide) _ (List.mem_of_getElem? (i := 0) rfl), zip_lookup (i := 0) (fN_nodup 8 (by decide)) rfl rfl, _, rfl, a, C 8, _, _, v1, rfl, hA, T.cl 8 (by decide), T.no 8 (by decide) _ (List.mem_of_getElem? (i := 1) rfl), zip_lookup (i := 1) (fN_nodup 8 (by decide)) rfl rfl, (by show 2 ≤ sizeLine; decide), fun p1 n1 => ?_⟩
    have hB1 := Same.upd (o := .tup [v0, v1]) n1 _ _ hB
    refine ⟨_, rfl, b, C 8, _, _, w0, rfl, hB1, T.cl 8 (by decide), T.no 8 (by decide) _ (List.mem_of_getElem? (i := 0) rfl), zip_lookup (i := 0) (fN_nodup 8 (by decide)) rfl rfl, _, rfl, b, C 8, _, _, w1, rfl, hB1, T.cl 8 (by decide), T.no 8 (by decide) _ (List.mem_of_getElem? (i := 1) rfl), zip_lookup (i := 1) (fN_nodup 8 (by decide)) rfl rfl, (by show 2 ≤ sizeLine; decide), fun p2 n2 => ?_⟩
    have S : Same H _ := (Same.upd n1).trans (Same.upd (o := .tup [w0, w1]) n2)
    have p : Rp _ (.ref p1) (ekey 8 [d0, d1]) := .tup (Same.upd n2 _ _ upd_same) (RpAll.same S _ _ (.cons r0 (.cons r1 .nil)))
    have q : Rp _ (.ref p2) (ekey 8 [e0, e1]) := .tup upd_same (RpAll.same S _ _ (.cons q0 (.cons q1 .nil)))
    rcases res with ⟨e, dep, rfl⟩ | ⟨z1, z2, rfl⟩
    · rw [← e] at q
      exact .inr ⟨_, p, q, dep, fun H' s' => k H' (S.trans s')⟩
    · exact .inl ⟨_, _, p, q, z1, z2, k _ S⟩
abbrev sE9 : Stmt := inClass (top 17) 1
theorem scE9 : FnScope ["self", "other"] ["self", "other"] (defScope sE9) := ⟨rfl, rfl, rfl, by decide +kernel, rfl, by decide +kernel, by decide +kernel⟩
theorem ok_E9 {f : Addr} {fd : FuncData} (F : Fun K "__eq__" "Model.__eq__" sE9 f fd) (T : Txt K mg C) : FnOk P w K mg base CX0 10 f fd ["self", "other"] (spEq C 9) := by
  refine F.ok scE9 (fun vs H Q E h => ?_) (fun cdv A outer s H vs Q E hr h => ?_)
  · obtain ⟨a, b, j, ds, es, r, rfl, _⟩ := h
    rfl
  · obtain ⟨a, b, j, ds, es, r, rfl, hj, ha, hb, res, k⟩ := h
    have hr8 : Room 8 _ := hr.mono (by decide)
    have hr1 : Room 1 _ := hr.mono (by decide)
    refine ⟨_, pss_one (ps_ret (pe_and (pe_callB call_isi (by rfl) T.isi boot_isinstance (pa_cons (pv 1) (pa_cons (pe_glob (v := .ref (C 9)) (by rfl) (T.mgC 9 (by decide)) rfl) pa_nil))) (pe_one (pe_cmpR (op_eqX hr8) (pe_tup (pa_cons (pe_fld (pv 0) rfl) (pa_cons (pe_fld (pv 0) rfl) pa_nil))) (pe_tup (pa_cons (pe_fld (pv 1) rfl) (pa_cons (pe_fld (pv 1) rfl) pa_nil))) (nomark _))))), ?_⟩
    refine ⟨_, rfl, .ref b, _, .ref (C j), _, decide (j = 9), rfl, .own (C 9), hb.ty T hj, T.kit j 9 hj (by decide), ?_⟩
    refine ⟨_, rfl, ?_⟩
    rcases res with ⟨nj, rfl⟩ | ⟨rfl, res⟩
    · rw [decide_eq_false nj]
      exact iteF (k H (Same.refl H))
    rw [decide_eq_true rfl]
    refine iteT ?_
    obtain ⟨dx, vs, hA, hv, l⟩ := ha
    obtain ⟨dy, ws, hB, hw, l'⟩ := hb
    obtain ⟨v0, vs, d0, ds, rfl, rfl, r0, hv, l⟩ := hv.uncons l
    obtain ⟨v1, vs, d1, ds, rfl, rfl, r1, hv, l⟩ := hv.uncons l
    obtain ⟨v2, vs, d2, ds, rfl, rfl, r2, hv, l⟩ := hv.uncons l
    obtain ⟨rfl, rfl⟩ := hv.unnil l
    obtain ⟨w0, ws, e0, es, rfl, rfl, q0, hw, l'⟩ := hw.uncons l'
    obtain ⟨w1, ws, e1, es, rfl, rfl, q1, hw, l'⟩ := hw.uncons l'
    obtain ⟨w2, ws, e2, es, rfl, rfl, q2, hw, l'⟩ := hw.uncons l'
    obtain ⟨rfl, rfl⟩ := hw.unnil l'
    refine ⟨_, rfl, a, C 9, _, _, v0, rfl, hA, T.cl 9 (by decide), T.no 9 (by decide) _ (List.mem_of_getElem? (i := 0) rfl), zip_lookup (i := 0) (fN_nodup 9 (by decide)) rfl rfl, _, rfl, a, C 9, _, _, v1, rfl, hA, T.cl 9 (by decide), T.no 9 (by decide) _ (List.mem_of_getElem? (i := 1) rfl), zip_lookup (i := 1) (fN_nodup 9 (by decide)) rfl rfl, (by show 2 ≤ sizeLine; decide), fun p1 n1 => ?_⟩
    have hB1 := Same.upd (o := .tup [v0, v1]) n1 _ _ hB
    refine ⟨_, rfl, b, C 9, _, _, w0, rfl, hB1, T.cl 9 (by decide), T.no 9 (by decide) _ (List.mem_of_getElem? (i := 0) rfl), zip_lookup (i := 0) (fN_nodup 9 (by decide)) rfl rfl, _, rfl, b, C 9, _, _, w1, rfl, hB1, T.cl 9 (by decide), T.no 9 (by decide) _ (List.mem_of_getElem? (i := 1) rfl), zip_lookup (i := 1) (fN_nodup 9 (by decide)) rfl rfl, (by show 2 ≤ sizeLine; decide), fun p2 n2 => ?_⟩
    have S : Same H _ := (Same.upd n1).trans (Same.upd (o := .tup [w0, w1]) n2)
    have p : Rp _ (.ref p1) (ekey 9 [d0, d1, d2]) := .tup (Same.upd n2 _ _ upd_same) (RpAll.same S _ _ (.cons r0 (.cons r1 .nil)))
    have q : Rp _ (.ref p2) (ekey 9 [e0, e1, e2]) := .tup upd_same (RpAll.same S _ _ (.cons q0 (.cons q1 .nil)))
    rcases res with ⟨e, dep, rfl⟩ | ⟨z1, z2, rfl⟩
    · rw [← e] at q
      exact .inr ⟨_, p, q, dep, fun H' s' => k H' (S.trans s')⟩
    · exact .inl ⟨_, _, p, q, z1, z2, k _ S⟩
abbrev sE10 : Stmt := inClass (top 19) 1
theorem scE10 : FnScope ["self", "other"] ["self", "other"] (defScope sE10) := ⟨rfl, rfl, rfl, by decide +kernel, rfl, by decide +kernel, by decide +kernel⟩
theorem ok_E10 {f : Addr} {fd : FuncData} (F : Fun K "__eq__" "Paper.__eq__" sE10 f fd) (T : Txt K mg C) {fp : Addr} {fdp : FuncData} (Fp : FnOk P w K mg base CX0 1 fp fdp ["paper"] (spParts C 10)) (mp : mg "paper_key" = some (.ref fp)) (kp : PySem.W.keepIn K (.ref fp) = true) (bp : Binds K fdp ["paper"] []) : FnOk P w K mg base CX0 10 f fd ["self", "other"] (spEq C 10) := by
  refine F.ok scE10 (fun vs H Q E h => ?_) (fun cdv A outer s H vs Q E hr h => ?_)
  · obtain ⟨a, b, j, ds, es, r, rfl, _⟩ := h
    rfl
  · obtain ⟨a, b, j, ds, es, r, rfl, hj, ha, hb, res, k⟩ := h
    have hr8 : Room 8 _ := hr.mono (by decide)
    have hr1 : Room 1 _ := hr.mono (by decide)
    refine ⟨_, pss_one (ps_ret (pe_and (pe_callB call_isi (by rfl) T.isi boot_isinstance (pa_cons (pv 1) (pa_cons (pe_glob (v := .ref (C 10)) (by rfl) (T.mgC 10 (by decide)) rfl) pa_nil))) (pe_one (pe_cmpR (op_eqX hr8) (pe_call Fp hr1 (by rfl) mp kp bp .nil pass0 (pa_cons (pv 0) pa_nil)) (pe_call Fp hr1 (by rfl) mp kp bp .nil pass0 (pa_cons (pv 1) pa_nil)) (nomark _))))), ?_⟩
    refine ⟨_, rfl, .ref b, _, .ref (C j), _, decide (j = 10), rfl, .own (C 10), hb.ty T hj, T.kit j 10 hj (by decide), ?_⟩
    refine ⟨_, rfl, ?_⟩
    rcases res with ⟨nj, rfl⟩ | ⟨rfl, res⟩
    · rw [decide_eq_false nj]
      exact iteF (k H (Same.refl H))
    rw [decide_eq_true rfl]
    refine iteT ?_
    refine ⟨_, rfl, a, ds, rfl, ha, fun v1 H1 s1 p => ⟨_, rfl, b, es, rfl, hb.same s1, fun v2 H2 s2 q => ?_⟩⟩
    have p := Rp.same s2 _ _ p
    have S : Same H H2 := s1.trans s2
    rw [← ekey_10] at p q
    rcases res with ⟨e, dep, rfl⟩ | ⟨z1, z2, rfl⟩
    · rw [← e] at q
      exact .inr ⟨_, p, q, dep, fun H' s' => k H' (S.trans s')⟩
    · exact .inl ⟨_, _, p, q, z1, z2, k _ S⟩
abbrev sN0 : Stmt := inClass (top 3) 2
theorem scN0 : FnScope ["self", "other"] ["self", "other"] (defScope sN0) := ⟨rfl, rfl, rfl, by decide +kernel, rfl, by decide +kernel, by decide +kernel⟩
theorem ok_N0 {f : Addr} {fd : FuncData} (F : Fun K "__ne__" "Stops.__ne__" sN0 f fd) (T : Txt K mg C) (FE : ∀ i, i < 11 → ∃ f fd, Own P w K mg base 10 (C i) "__eq__" ["self", "other"] (spEq C i) f fd) :
    FnOk P w K mg base CX0 11 f fd ["self", "other"] (spNe C 0) := by
  refine F.ok scN0 (fun vs H Q E h => ?_) (fun cdv A outer s H vs Q E hr h => ?_)
  · obtain ⟨a, b, j, ds, es, r, rfl, _⟩ := h
    rfl
  · obtain ⟨a, b, j, ds, es, r, rfl, hj, ha, hb, res, k⟩ := h
    refine ⟨_, pss_one (ps_ret (pe_not (pe_cmpR (op_own (fun _ _ => rfl) rfl (spEq C) hr T FE) (pv 0) (pv 1) (nomark _)))), ?_⟩
    exact ⟨_, rfl, _, rfl, 0, a, b, j, ds, es, by decide, hj, rfl, rfl, ha, hb, a, b, j, ds, es, r, rfl, hj, ha, hb, res, fun H' s' => ⟨⟨_, rfl⟩, _, rfl, k H' s'⟩⟩
abbrev sN1 : Stmt := inClass (top 4) 2
theorem scN1 : FnScope ["self", "other"] ["self", "other"] (defScope sN1) := ⟨rfl, rfl, rfl, by decide +kernel, rfl, by decide +kernel, by decide +kernel⟩
theorem ok_N1 {f : Addr} {fd : FuncData} (F : Fun K "__ne__" "Limit.__ne__" sN1 f fd) (T : Txt K mg C) (FE : ∀ i, i < 11 → ∃ f fd, Own P w K mg base 10 (C i) "__eq__" ["self", "other"] (spEq C i) f fd) :
    FnOk P w K mg base CX0 11 f fd ["self", "other"] (spNe C 1) := by
  refine F.ok scN1 (fun vs H Q E h => ?_) (fun cdv A outer s H vs Q E hr h => ?_)
  · obtain ⟨a, b, j, ds, es, r, rfl, _⟩ := h
    rfl
  · obtain ⟨a, b, j, ds, es, r, rfl, hj, ha, hb, res, k⟩ := h
    refine ⟨_, pss_one (ps_ret (pe_not (pe_cmpR (op_own (fun _ _ => rfl) rfl (spEq C) hr T FE) (pv 0) (pv 1) (nomark _)))), ?_⟩
    exact ⟨_, rfl, _, rfl, 1, a, b, j, ds, es, by decide, hj, rfl, rfl, ha, hb, a, b, j, ds, es, r, rfl, hj, ha, hb, res, fun H' s' => ⟨⟨_, rfl⟩, _, rfl, k H' s'⟩⟩
abbrev sN2 : Stmt := inClass (top 5) 2
theorem scN2 : FnScope ["self", "other"] ["self", "other"] (defScope sN2) := ⟨rfl, rfl, rfl, by decide +kernel, rfl, by decide +kernel, by decide +kernel⟩
theorem ok_N2 {f : Addr} {fd : FuncData} (F : Fun K "__ne__" "Infinite.__ne__" sN2 f fd) (T : Txt K mg C) (FE : ∀ i, i < 11 → ∃ f fd, Own P w K mg base 10 (C i) "__eq__" ["self", "other"] (spEq C i) f fd) :
    FnOk P w K mg base CX0 11 f fd ["self", "other"] (spNe C 2) := by
  refine F.ok scN2 (fun vs H Q E h => ?_) (fun cdv A outer s H vs Q E hr h => ?_)
  · obtain ⟨a, b, j, ds, es, r, rfl, _⟩ := h
    rfl
  · obtain ⟨a, b, j, ds, es, r, rfl, hj, ha, hb, res, k⟩ := h
    refine ⟨_, pss_one (ps_ret (pe_not (pe_cmpR (op_own (fun _ _ => rfl) rfl (spEq C) hr T FE) (pv 0) (pv 1) (nomark _)))), ?_⟩
    exact ⟨_, rfl, _, rfl, 2, a, b, j, ds, es, by decide, hj, rfl, rfl, ha, hb, a, b, j, ds, es, r, rfl, hj, ha, hb, res, fun H' s' => ⟨⟨_, rfl⟩, _, rfl, k H' s'⟩⟩
abbrev sN3 : Stmt := inClass (top 6) 2
theorem scN3 : FnScope ["self", "other"] ["self", "other"] (defScope sN3) := ⟨rfl, rfl, rfl, by decide +kernel, rfl, by decide +kernel, by decide +kernel⟩
theorem ok_N3 {f : Addr} {fd : FuncData} (F : Fun K "__ne__" "Sign.__ne__" sN3 f fd) (T : Txt K mg C) (FE : ∀ i, i < 11 → ∃ f fd, Own P w K mg base 10 (C i) "__eq__" ["self", "other"] (spEq C i) f fd) :
    FnOk P w K mg base CX0 11 f fd ["self", "other"] (spNe C 3) := by
  refine F.ok scN3 (fun vs H Q E h => ?_) (fun cdv A outer s H vs Q E hr h => ?_)
  · obtain ⟨a, b, j, ds, es, r, rfl, _⟩ := h
    rfl
  · obtain ⟨a, b, j, ds, es, r, rfl, hj, ha, hb, res, k⟩ := h
    refine ⟨_, pss_one (ps_ret (pe_not (pe_cmpR (op_own (fun _ _ => rfl) rfl (spEq C) hr T FE) (pv 0) (pv 1) (nomark _)))), ?_⟩
    exact ⟨_, rfl, _, rfl, 3, a, b, j, ds, es, by decide, hj, rfl, rfl, ha, hb, a, b, j, ds, es, r, rfl, hj, ha, hb, res, fun H' s' => ⟨⟨_, rfl⟩, _, rfl, k H' s'⟩⟩
abbrev sN4 : Stmt := inClass (top 7) 2
theorem scN4 : FnScope ["self", "other"] ["self", "other"] (defScope sN4) := ⟨rfl, rfl, rfl, by decide +kernel, rfl, by decide +kernel, by decide +kernel⟩
theorem ok_N4 {f : Addr} {fd : FuncData} (F : Fun K "__ne__" "Order.__ne__" sN4 f fd) (T : Txt K mg C) (FE : ∀ i, i < 11 → ∃ f fd, Own P w K mg base 10 (C i) "__eq__" ["self", "other"] (spEq C i) f fd) :
    FnOk P w K mg base CX0 11 f fd ["self", "other"] (spNe C 4) := by
  refine F.ok scN4 (fun vs H Q E h => ?_) (fun cdv A outer s H vs Q E hr h => ?_)
  · obtain ⟨a, b, j, ds, es, r, rfl, _⟩ := h
    rfl
  · obtain ⟨a, b, j, ds, es, r, rfl, hj, ha, hb, res, k⟩ := h
    refine ⟨_, pss_one (ps_ret (pe_not (pe_cmpR (op_own (fun _ _ => rfl) rfl (spEq C) hr T FE) (pv 0) (pv 1) (nomark _)))), ?_⟩
    exact ⟨_, rfl, _, rfl, 4, a, b, j, ds, es, by decide, hj, rfl, rfl, ha, hb, a, b, j, ds, es, r, rfl, hj, ha, hb, res, fun H' s' => ⟨⟨_, rfl⟩, _, rfl, k H' s'⟩⟩
abbrev sN5 : Stmt := inClass (top 8) 2
theorem scN5 : FnScope ["self", "other"] ["self", "other"] (defScope sN5) := ⟨rfl, rfl, rfl, by decide +kernel, rfl, by decide +kernel, by decide +kernel⟩
theorem ok_N5 {f : Addr} {fd : FuncData} (F : Fun K "__ne__" "Expansion.__ne__" sN5 f fd) (T : Txt K mg C) (FE : ∀ i, i < 11 → ∃ f fd, Own P w K mg base 10 (C i) "__eq__" ["self", "other"] (spEq C i) f fd) :
    FnOk P w K mg base CX0 11 f fd ["self", "other"] (spNe C 5) := by
  refine F.ok scN5 (fun vs H Q E h => ?_) (fun cdv A outer s H vs Q E hr h => ?_)
  · obtain ⟨a, b, j, ds, es, r, rfl, _⟩ := h
    rfl
  · obtain ⟨a, b, j, ds, es, r, rfl, hj, ha, hb, res, k⟩ := h
    refine ⟨_, pss_one (ps_ret (pe_not (pe_cmpR (op_own (fun _ _ => rfl) rfl (spEq C) hr T FE) (pv 0) (pv 1) (nomark _)))), ?_⟩
    exact ⟨_, rfl, _, rfl, 5, a, b, j, ds, es, by decide, hj, rfl, rfl, ha, hb, a, b, j, ds, es, r, rfl, hj, ha, hb, res, fun H' s' => ⟨⟨_, rfl⟩, _, rfl, k H' s'⟩⟩
abbrev sN6 : Stmt := inClass (top 10) 2
theorem scN6 : FnScope ["self", "other"] ["self", "other"] (defScope sN6) := ⟨rfl, rfl, rfl, by decide +kernel, rfl, by decide +kernel, by decide +kernel⟩
theorem ok_N6 {f : Addr} {fd : FuncData} (F : Fun K "__ne__" "Letter.__ne__" sN6 f fd) (T : Txt K mg C) (FE : ∀ i, i < 11 → ∃ f fd, Own P w K mg base 10 (C i) "__eq__" ["self", "other"] (spEq C i) f fd) :
    FnOk P w K mg base CX0 11 f fd ["self", "other"] (spNe C 6) := by
  refine F.ok scN6 (fun vs H Q E h => ?_) (fun cdv A outer s H vs Q E hr h => ?_)
  · obtain ⟨a, b, j, ds, es, r, rfl, _⟩ := h
    rfl
  · obtain ⟨a, b, j, ds, es, r, rfl, hj, ha, hb, res, k⟩ := h
    refine ⟨_, pss_one (ps_ret (pe_not (pe_cmpR (op_own (fun _ _ => rfl) rfl (spEq C) hr T FE) (pv 0) (pv 1) (nomark _)))), ?_⟩
    exact ⟨_, rfl, _, rfl, 6, a, b, j, ds, es, by decide, hj, rfl, rfl, ha, hb, a, b, j, ds, es, r, rfl, hj, ha, hb, res, fun H' s' => ⟨⟨_, rfl⟩, _, rfl, k H' s'⟩⟩
abbrev sN7 : Stmt := inClass (top 11) 2
theorem scN7 : FnScope ["self", "other"] ["self", "other"] (defScope sN7) := ⟨rfl, rfl, rfl, by decide +kernel, rfl, by decide +kernel, by decide +kernel⟩
theorem ok_N7 {f : Addr} {fd : FuncData} (F : Fun K "__ne__" "Field.__ne__" sN7 f fd) (T : Txt K mg C) (FE : ∀ i, i < 11 → ∃ f fd, Own P w K mg base 10 (C i) "__eq__" ["self", "other"] (spEq C i) f fd) :
    FnOk P w K mg base CX0 11 f fd ["self", "other"] (spNe C 7) := by
  refine F.ok scN7 (fun vs H Q E h => ?_) (fun cdv A outer s H vs Q E hr h => ?_)
  · obtain ⟨a, b, j, ds, es, r, rfl, _⟩ := h
    rfl
  · obtain ⟨a, b, j, ds, es, r, rfl, hj, ha, hb, res, k⟩ := h
    refine ⟨_, pss_one (ps_ret (pe_not (pe_cmpR (op_own (fun _ _ => rfl) rfl (spEq C) hr T FE) (pv 0) (pv 1) (nomark _)))), ?_⟩
    exact ⟨_, rfl, _, rfl, 7, a, b, j, ds, es, by decide, hj, rfl, rfl, ha, hb, a, b, j, ds, es, r, rfl, hj, ha, hb, res, fun H' s' => ⟨⟨_, rfl⟩, _, rfl, k H' s'⟩⟩
abbrev sN8 : Stmt := inClass (top 15) 2
theorem scN8 : FnScope ["self", "other"] ["self", "other"] (defScope sN8) := ⟨rfl, rfl, rfl, by decide +kernel, rfl, by decide +kernel, by decide +kernel⟩
theorem ok_N8 {f : Addr} {fd : FuncData} (F : Fun K "__ne__" "Lead.__ne__" sN8 f fd) (T : Txt K mg C) (FE : ∀ i, i < 11 → ∃ f fd, Own P w K mg base 10 (C i) "__eq__" ["self", "other"] (spEq C i) f fd) :
    FnOk P w K mg base CX0 11 f fd ["self", "other"] (spNe C 8) := by
  refine F.ok scN8 (fun vs H Q E h => ?_) (fun cdv A outer s H vs Q E hr h => ?_)
  · obtain ⟨a, b, j, ds, es, r, rfl, _⟩ := h
    rfl
  · obtain ⟨a, b, j, ds, es, r, rfl, hj, ha, hb, res, k⟩ := h
    refine ⟨_, pss_one (ps_ret (pe_not (pe_cmpR (op_own (fun _ _ => rfl) rfl (spEq C) hr T FE) (pv 0) (pv 1) (nomark _)))), ?_⟩
    exact ⟨_, rfl, _, rfl, 8, a, b, j, ds, es, by decide, hj, rfl, rfl, ha, hb, a, b, j, ds, es, r, rfl, hj, ha, hb, res, fun H' s' => ⟨⟨_, rfl⟩, _, rfl, k H' s'⟩⟩
abbrev sN9 : Stmt := inClass (top 17) 2
theorem scN9 : FnScope ["self", "other"] ["self", "other"] (defScope sN9) := ⟨rfl, rfl, rfl, by decide +kernel, rfl, by decide +kernel, by decide +kernel⟩
theorem ok_N9 {f : Addr} {fd : FuncData} (F : Fun K "__ne__" "Model.__ne__" sN9 f fd) (T : Txt K mg C) (FE : ∀ i, i < 11 → ∃ f fd, Own P w K mg base 10 (C i) "__eq__" ["self", "other"] (spEq C i) f fd) :
    FnOk P w K mg base CX0 11 f fd ["self", "other"] (spNe C 9) := by
  refine F.ok scN9 (fun vs H Q E h => ?_) (fun cdv A outer s H vs Q E hr h => ?_)
  · obtain ⟨a, b, j, ds, es, r, rfl, _⟩ := h
    rfl
  · obtain ⟨a, b, j, ds, es, r, rfl, hj, ha, hb, res, k⟩ := h
    refine ⟨_, pss_one (ps_ret (pe_not (pe_cmpR (op_own (fun _ _ => rfl) rfl (spEq C) hr T FE) (pv 0) (pv 1) (nomark _)))), ?_⟩
    exact ⟨_, rfl, _, rfl, 9, a, b, j, ds, es, by decide, hj, rfl, rfl, ha, hb, a, b, j, ds, es, r, rfl, hj, ha, hb, res, fun H' s' => ⟨⟨_, rfl⟩, _, rfl, k H' s'⟩⟩
abbrev sN10 : Stmt := inClass (top 19) 2
theorem scN10 : FnScope ["self", "other"] ["self", "other"] (defScope sN10) := ⟨rfl, rfl, rfl, by decide +kernel, rfl, by decide +kernel, by decide +kernel⟩
theorem ok_N10 {f : Addr} {fd : FuncData} (F : Fun K "__ne__" "Paper.__ne__" sN10 f fd) (T : Txt K mg C) (FE : ∀ i, i < 11 → ∃ f fd, Own P w K mg base 10 (C i) "__eq__" ["self", "other"] (spEq C i) f fd) :
    FnOk P w K mg base CX0 11 f fd ["self", "other"] (spNe C 10) := by
  refine F.ok scN10 (fun vs H Q E h => ?_) (fun cdv A outer s H vs Q E hr h => ?_)
  · obtain ⟨a, b, j, ds, es, r, rfl, _⟩ := h
    rfl
  · obtain ⟨a, b, j, ds, es, r, rfl, hj, ha, hb, res, k⟩ := h
    refine ⟨_, pss_one (ps_ret (pe_not (pe_cmpR (op_own (fun _ _ => rfl) rfl (spEq C) hr T FE) (pv 0) (pv 1) (nomark _)))), ?_⟩
    exact ⟨_, rfl, _, rfl, 10, a, b, j, ds, es, by decide, hj, rfl, rfl, ha, hb, a, b, j, ds, es, r, rfl, hj, ha, hb, res, fun H' s' => ⟨⟨_, rfl⟩, _, rfl, k H' s'⟩⟩
end
end GP
namespace GP
open PySem PySem.Spec PyProof.Rows L2

theorem not_ref {H : Hp} {r t o : Addr} {ys zs : List V} {D dx : Addr} {fs : List (Str × V)} (h1 : H r = some (.lst (.ref t :: ys))) (h2 : H t = some (.tup (.ref o :: zs))) (h3 : H o = some (.ins D dx fs)) : ∀ d, ¬ Rp H (.ref r) d := by
  intro d h
  cases h with
  | lst e1 e2 =>
    rw [h1] at e1; cases e1
    cases e2 with | cons g _ =>
      cases g with
      | lst e _ => rw [h2] at e; cases e
      | dct e => rw [h2] at e; cases e
      | tup e g2 =>
        rw [h2] at e; cases e
        cases g2 with | cons k _ =>
          cases k with
          | lst e _ => rw [h3] at e; cases e
          | dct e => rw [h3] at e; cases e
          | tup e _ => rw [h3] at e; cases e
  | tup e1 _ => rw [h1] at e1; cases e1
  | dct e1 => rw [h1] at e1; cases e1
mutual
theorem Rp.chN {p : Addr} {H H' : Hp} (hn : ∀ d, ¬ Rp H (.ref p) d) (c : Ch p H H') : ∀ (d : PyData) (v : V), Rp H v d → Rp H' v d
  | .none, _, h => by cases h; exact .non
  | .bool b, _, h => by cases h; exact .bl b
  | .int i, _, h => by cases h; exact .int i
  | .str x, _, h => by cases h; exact .str x
  | .list ds, _, h => by
    have h0 := h
    cases h with
    | lst h1 h2 => exact .lst (c.at_ (fun e => hn _ (e ▸ h0)) h1) (RpAll.chN hn c ds _ h2)
  | .tuple ds, _, h => by
    have h0 := h
    cases h with
    | tup h1 h2 => exact .tup (c.at_ (fun e => hn _ (e ▸ h0)) h1) (RpAll.chN hn c ds _ h2)
  | .dict _, _, h => by
    have h0 := h
    cases h with
    | dct h1 => exact .dct (c.at_ (fun e => hn _ (e ▸ h0)) h1)
theorem RpAll.chN {p : Addr} {H H' : Hp} (hn : ∀ d, ¬ Rp H (.ref p) d) (c : Ch p H H') : ∀ (ds : List PyData) (vs : List V), RpAll H vs ds → RpAll H' vs ds
  | [], _, h => by cases h; exact .nil
  | d :: ds, _, h => by cases h with | cons h1 h2 => exact .cons (Rp.chN hn c d _ h1) (RpAll.chN hn c ds _ h2)
end
theorem Ob.chN {C : Nat → Addr} {i : Nat} {H H' : Hp} {a p : Addr} {ds : List PyData} {ys : List V} (hp : H p = some (.lst ys)) (hn : ∀ d, ¬ Rp H (.ref p) d) (c : Ch p H H') (o : Ob C i H a ds) : Ob C i H' a ds :=
  let ⟨dx, vs, h, r, l⟩ := o
  ⟨dx, vs, c.at_ (fun e => by rw [e, hp] at h; cases h) h, RpAll.chN hn c _ _ r, l⟩

/-- a row: two objects alike, and their fields in a list -/
def RowOk (C : Nat → Addr) (k : Nat) (H : Hp) (v : V) (ds : List PyData) : Prop :=
  ∃ t o1 o2 l, v = .ref t ∧ H t = some (.tup [.ref o1, .ref o2, .ref l]) ∧ Ob C k H o1 ds ∧ Ob C k H o2 ds ∧ Rp H (.ref l) (.list (.str (cN k) :: ds))
theorem RowOk.same {C : Nat → Addr} {k : Nat} {H H' : Hp} {v : V} {ds : List PyData} (s : Same H H') (h : RowOk C k H v ds) : RowOk C k H' v ds :=
  let ⟨t, o1, o2, l, e, h1, h2, h3, h4⟩ := h
  ⟨t, o1, o2, l, e, s _ _ h1, h2.same s, h3.same s, Rp.same s _ _ h4⟩
theorem RowOk.chN {C : Nat → Addr} {k : Nat} {H H' : Hp} {v : V} {p : Addr} {ds : List PyData} {ys : List V} (hp : H p = some (.lst ys)) (hn : ∀ d, ¬ Rp H (.ref p) d) (c : Ch p H H') (h : RowOk C k H v ds) : RowOk C k H' v ds :=
  let ⟨t, o1, o2, l, e, h1, h2, h3, h4⟩ := h
  ⟨t, o1, o2, l, e, c.at_ (fun e => by rw [e, hp] at h1; cases h1) h1, h2.chN hp hn c, h3.chN hp hn c, Rp.chN hn c _ _ h4⟩
theorem RowOk.notRef {C : Nat → Addr} {k : Nat} {H : Hp} {v : V} {r : Addr} {ds : List PyData} {ys : List V} (h : RowOk C k H v ds) (hr : H r = some (.lst (v :: ys))) : ∀ d, ¬ Rp H (.ref r) d := by
  obtain ⟨t, o1, o2, l, rfl, h1, ⟨dx, vs, h2, _, _⟩, _⟩ := h
  exact not_ref hr h1 h2
/-- two objects of one class that are not equal -/
def PairOk (C : Nat → Addr) (H : Hp) (v : V) : Prop :=
  ∃ t x y i ds es, v = .ref t ∧ H t = some (.tup [.ref x, .ref y]) ∧ i < 11 ∧ Ob C i H x ds ∧ Ob C i H y es ∧ EqRes i i ds es false
theorem PairOk.same {C : Nat → Addr} {H H' : Hp} {v : V} (s : Same H H') (h : PairOk C H v) : PairOk C H' v :=
  let ⟨t, x, y, i, ds, es, e, h1, hi, h2, h3, h4⟩ := h
  ⟨t, x, y, i, ds, es, e, s _ _ h1, hi, h2.same s, h3.same s, h4⟩

theorem rd_alloc {H : Hp} {p : Addr} {o : HO} {Q : VK} (n : H p = none) (k : ∀ H', Same H H' → H' p = some o → Q (.ref p) H') : Q (.ref p) (upd H p o) := k _ (Same.upd n) upd_same
theorem rd_make {C : Nat → Addr} {i : Nat} {vs : List V} {ds : List PyData} {H1 : Hp} {x dx : Addr} {Q : VK} {E : XK} (nx : H1 x = none) (nd : H1 dx = none) (ne : dx ≠ x) (hv : RpAll H1 vs ds) (l : vs.length = (fN i).length)
    (k : ∀ H2, Same H1 H2 → Ob C i H2 x (ds.map cp) → Q .non H2) : spInit C i (.ref x :: vs) (upd (upd H1 dx (.own x)) x (.ins (C i) dx [])) Q E := by
  have s0 : Same H1 (upd (upd H1 dx (.own x)) x (.ins (C i) dx [])) := (Same.upd nd).trans (Same.upd (by rw [upd_ne (Ne.symm ne)]; exact nx))
  refine ⟨x, vs, ds, dx, rfl, l, upd_same, RpAll.same s0 _ _ hv, fun H' c o => k H' (fun b u e => ?_) o⟩
  exact c.at_ (ne_of_none e nx) (s0 _ _ e)

/-- how an object of class i is made -/
structure MkOk (P : Program) (w : World) (K : PySem.W.Frag) (mg : Str → Option Value) (base : Heap) (C : Nat → Addr) (i : Nat) (f : Addr) (fd : FuncData) : Prop where
  mk_ : Mk K (C i) f
  ok : FnOk P w K mg base CX0 2 f fd ("self" :: fN i) (spInit C i)
  b : Binds K fd ("self" :: fN i) []
  kb : KBn K fd ("self" :: fN i) 1 (fN i).reverse (fun us ws => us ++ ws.reverse) (fun vs zs => vs ++ zs.reverse)

def spFields (C : Nat → Addr) : Sp := fun vs H Q _ => ∃ a i ds, vs = [.ref a] ∧ i < 11 ∧ Ob C i H a ds ∧ ∀ v H', Same H H' → Rp H' v (.list (.str (cN i) :: ds)) → Q v H'
def dss (a b c d : PyData) : List (List PyData) := [[a, b, c], [a], [b], [c], [a, d], [b], [a, b, c, d], [a, b, c], [c, d], [a, b, c], [a, b, c, d, a, b]]
def RowsOk (C : Nat → Addr) (H : Hp) (ts : List V) (dd : List (List PyData)) : Prop := ts.length = dd.length ∧ ∀ k v ds, ts[k]? = some v → dd[k]? = some ds → RowOk C k H v (ds.map cp)
def spRows (C : Nat → Addr) : Sp := fun vs H Q _ => ∃ a b c d, vs.length = 4 ∧ RpAll H vs [a, b, c, d] ∧ ∀ r ts H', Same H H' → H' r = some (.lst ts) → RowsOk C H' ts (dss a b c d) → Q (.ref r) H'
def MidU (C : Nat → Addr) (H : Hp) (n : Nat) : L2.St → Hp → Prop := fun σ H' => ∃ r ts, σ = [some (.ref r)] ∧ Same H H' ∧ H' r = some (.lst ts) ∧ ts.length = n ∧ ∀ v ∈ ts, PairOk C H' v
def spUnlike (C : Nat → Addr) : Sp := fun vs H Q _ => vs = [] ∧ ∀ r ts H', Same H H' → H' r = some (.lst ts) → ts.length = 20 → (∀ v ∈ ts, PairOk C H' v) → Q (.ref r) H'
section
variable {P : Program} {w : World} {K : PySem.W.Frag} {mg : Str → Option Value} {base : Heap} {C : Nat → Addr}
theorem ok_copy {f : Addr} {fd : FuncData} (F : Fun K "_law_copy" "_law_copy" sCopy f fd) (T : Txt K mg C) : FnOk P w K mg base CX0 1 f fd ["value"] (spD mcp 1) := by
  refine F.ok scCopy (fun vs H Q E h => ?_) (fun cdv A outer s H vs Q E hr h => ?_)
  · obtain ⟨ds, l, _⟩ := h
    exact l
  · obtain ⟨ds, l, hv, k⟩ := h
    obtain ⟨v, d, rfl, rfl, h1⟩ := hv.one l
    refine ⟨_, pss_one (ps_ret (pe_ifExp (pt_val (pe_callB call_isi (by rfl) T.isi boot_isinstance (pa_cons (pv 0) (pa_cons (pe_bltn (v := .ty "list") (by rfl) T.list Pv.boot_list rfl) pa_nil))))
      (pe_callTy call_tuple_of (by rfl) T.tuple Pv.boot_tuple (pa_cons (pv 0) pa_nil)) (pv 0))), ?_⟩
    obtain ⟨t, ht, hk⟩ := h1.isList (K := K)
    refine ⟨_, rfl, _, _, t, _, isList d, rfl, .ty _, ht, hk, _, rfl, ?_⟩
    cases h1 with
    | lst e1 e2 =>
      refine iteT ⟨_, rfl, _, _, rfl, .inl ⟨SqL.of e1, fun p hp => ?_⟩⟩
      exact k _ _ (Same.upd hp) (.tup upd_same (RpAll.same (Same.upd hp) _ _ e2))
    | non => exact iteF ⟨_, rfl, k _ _ (Same.refl H) .non⟩
    | bl b => exact iteF ⟨_, rfl, k _ _ (Same.refl H) (.bl b)⟩
    | int i => exact iteF ⟨_, rfl, k _ _ (Same.refl H) (.int i)⟩
    | str x => exact iteF ⟨_, rfl, k _ _ (Same.refl H) (.str x)⟩
    | tup e1 e2 => exact iteF ⟨_, rfl, k _ _ (Same.refl H) (.tup e1 e2)⟩
    | dct e1 => exact iteF ⟨_, rfl, k _ _ (Same.refl H) (.dct e1)⟩
abbrev sFields : Stmt := top 27
theorem scFields : FnScope ["one"] ["one"] (defScope sFields) := ⟨rfl, rfl, rfl, by decide +kernel, rfl, by decide +kernel, by decide +kernel⟩
theorem ok_fields {f : Addr} {fd : FuncData} (F : Fun K "_law_fields" "_law_fields" sFields f fd) (T : Txt K mg C) : FnOk P w K mg base CX0 1 f fd ["one"] (spFields C) := by
  refine F.ok scFields (fun vs H Q E h => ?_) (fun cdv A outer s H vs Q E hr h => ?_)
  · obtain ⟨a, i, ds, rfl, _⟩ := h
    rfl
  · obtain ⟨a, i, ds, rfl, hi, ha, k⟩ := h
    refine ⟨_, pss_cons (ps_if (pt_val (pe_callB call_isi (by rfl) T.isi boot_isinstance (pa_cons (pv 0) (pa_cons (pe_glob (v := .ref (C 0)) (by rfl) (T.mgC 0 (by decide)) rfl) pa_nil)))) (pss_one (ps_ret (pe_lst (pa_cons pe_str (pa_cons (pe_fld (pv 0) rfl) (pa_cons (pe_fld (pv 0) rfl) (pa_cons (pe_fld (pv 0) rfl) pa_nil))))))) pss_nil)
      (pss_cons (ps_if (pt_val (pe_callB call_isi (by rfl) T.isi boot_isinstance (pa_cons (pv 0) (pa_cons (pe_glob (v := .ref (C 1)) (by rfl) (T.mgC 1 (by decide)) rfl) pa_nil)))) (pss_one (ps_ret (pe_lst (pa_cons pe_str (pa_cons (pe_fld (pv 0) rfl) pa_nil))))) pss_nil)
      (pss_cons (ps_if (pt_val (pe_callB call_isi (by rfl) T.isi boot_isinstance (pa_cons (pv 0) (pa_cons (pe_glob (v := .ref (C 2)) (by rfl) (T.mgC 2 (by decide)) rfl) pa_nil)))) (pss_one (ps_ret (pe_lst (pa_cons pe_str (pa_cons (pe_fld (pv 0) rfl) pa_nil))))) pss_nil)
      (pss_cons (ps_if (pt_val (pe_callB call_isi (by rfl) T.isi boot_isinstance (pa_cons (pv 0) (pa_cons (pe_glob (v := .ref (C 3)) (by rfl) (T.mgC 3 (by decide)) rfl) pa_nil)))) (pss_one (ps_ret (pe_lst (pa_cons pe_str (pa_cons (pe_fld (pv 0) rfl) pa_nil))))) pss_nil)
      (pss_cons (ps_if (pt_val (pe_callB call_isi (by rfl) T.isi boot_isinstance (pa_cons (pv 0) (pa_cons (pe_glob (v := .ref (C 4)) (by rfl) (T.mgC 4 (by decide)) rfl) pa_nil)))) (pss_one (ps_ret (pe_lst (pa_cons pe_str (pa_cons (pe_fld (pv 0) rfl) (pa_cons (pe_fld (pv 0) rfl) pa_nil)))))) pss_nil)
      (pss_cons (ps_if (pt_val (pe_callB call_isi (by rfl) T.isi boot_isinstance (pa_cons (pv 0) (pa_cons (pe_glob (v := .ref (C 5)) (by rfl) (T.mgC 5 (by decide)) rfl) pa_nil)))) (pss_one (ps_ret (pe_lst (pa_cons pe_str (pa_cons (pe_fld (pv 0) rfl) pa_nil))))) pss_nil)
      (pss_cons (ps_if (pt_val (pe_callB call_isi (by rfl) T.isi boot_isinstance (pa_cons (pv 0) (pa_cons (pe_glob (v := .ref (C 6)) (by rfl) (T.mgC 6 (by decide)) rfl) pa_nil)))) (pss_one (ps_ret (pe_lst (pa_cons pe_str (pa_cons (pe_fld (pv 0) rfl) (pa_cons (pe_fld (pv 0) rfl) (pa_cons (pe_fld (pv 0) rfl) (pa_cons (pe_fld (pv 0) rfl) pa_nil)))))))) pss_nil)
      (pss_cons (ps_if (pt_val (pe_callB call_isi (by rfl) T.isi boot_isinstance (pa_cons (pv 0) (pa_cons (pe_glob (v := .ref (C 7)) (by rfl) (T.mgC 7 (by decide)) rfl) pa_nil)))) (pss_one (ps_ret (pe_lst (pa_cons pe_str (pa_cons (pe_fld (pv 0) rfl) (pa_cons (pe_fld (pv 0) rfl) (pa_cons (pe_fld (pv 0) rfl) pa_nil))))))) pss_nil)
      (pss_cons (ps_if (pt_val (pe_callB call_isi (by rfl) T.isi boot_isinstance (pa_cons (pv 0) (pa_cons (pe_glob (v := .ref (C 8)) (by rfl) (T.mgC 8 (by decide)) rfl) pa_nil)))) (pss_one (ps_ret (pe_lst (pa_cons pe_str (pa_cons (pe_fld (pv 0) rfl) (pa_cons (pe_fld (pv 0) rfl) pa_nil)))))) pss_nil)
      (pss_cons (ps_if (pt_val (pe_callB call_isi (by rfl) T.isi boot_isinstance (pa_cons (pv 0) (pa_cons (pe_glob (v := .ref (C 9)) (by rfl) (T.mgC 9 (by decide)) rfl) pa_nil)))) (pss_one (ps_ret (pe_lst (pa_cons pe_str (pa_cons (pe_fld (pv 0) rfl) (pa_cons (pe_fld (pv 0) rfl) (pa_cons (pe_fld (pv 0) rfl) pa_nil))))))) pss_nil)
      (pss_cons (ps_if (pt_val (pe_callB call_isi (by rfl) T.isi boot_isinstance (pa_cons (pv 0) (pa_cons (pe_glob (v := .ref (C 10)) (by rfl) (T.mgC 10 (by decide)) rfl) pa_nil)))) (pss_one (ps_ret (pe_lst (pa_cons pe_str (pa_cons (pe_fld (pv 0) rfl) (pa_cons (pe_fld (pv 0) rfl) (pa_cons (pe_fld (pv 0) rfl) (pa_cons (pe_fld (pv 0) rfl) (pa_cons (pe_fld (pv 0) rfl) (pa_cons (pe_fld (pv 0) rfl) pa_nil)))))))))) pss_nil)
      (pss_one (ps_ret (pe_lst (pa_cons pe_str pa_nil)))))))))))))), ?_⟩
    have hc : i = 0 ∨ i = 1 ∨ i = 2 ∨ i = 3 ∨ i = 4 ∨ i = 5 ∨ i = 6 ∨ i = 7 ∨ i = 8 ∨ i = 9 ∨ i = 10 := by omega
    rcases hc with rfl | rfl | rfl | rfl | rfl | rfl | rfl | rfl | rfl | rfl | rfl
    · refine ⟨_, rfl, .ref a, _, .ref (C 0), _, _, rfl, .own (C 0), ha.ty T hi, T.kit 0 0 hi (by decide), _, rfl, iteT ?_⟩
      obtain ⟨dx, vs, hA, hv, l⟩ := ha
      obtain ⟨v0, vs, e0, ds, rfl, rfl, r0, hv, l⟩ := hv.uncons l
      obtain ⟨v1, vs, e1, ds, rfl, rfl, r1, hv, l⟩ := hv.uncons l
      obtain ⟨v2, vs, e2, ds, rfl, rfl, r2, hv, l⟩ := hv.uncons l
      obtain ⟨rfl, rfl⟩ := hv.unnil l
      refine ⟨_, rfl, a, C 0, _, _, v0, rfl, hA, T.cl 0 hi, T.no 0 hi _ (List.mem_of_getElem? (i := 0) rfl), zip_lookup (i := 0) (fN_nodup 0 hi) rfl rfl, _, rfl, a, C 0, _, _, v1, rfl, hA, T.cl 0 hi, T.no 0 hi _ (List.mem_of_getElem? (i := 1) rfl), zip_lookup (i := 1) (fN_nodup 0 hi) rfl rfl, _, rfl, a, C 0, _, _, v2, rfl, hA, T.cl 0 hi, T.no 0 hi _ (List.mem_of_getElem? (i := 2) rfl), zip_lookup (i := 2) (fN_nodup 0 hi) rfl rfl, (by show 4 ≤ sizeLine; decide), fun p np => ?_⟩
      exact k _ _ (Same.upd np) (.lst upd_same (RpAll.same (Same.upd np) _ _ (.cons (.str _) (.cons r0 (.cons r1 (.cons r2 .nil))))))
    · refine ⟨_, rfl, .ref a, _, .ref (C 1), _, _, rfl, .own (C 0), ha.ty T hi, T.kit 1 0 hi (by decide), _, rfl, iteF ?_⟩
      refine ⟨_, rfl, .ref a, _, .ref (C 1), _, _, rfl, .own (C 1), ha.ty T hi, T.kit 1 1 hi (by decide), _, rfl, iteT ?_⟩
      obtain ⟨dx, vs, hA, hv, l⟩ := ha
      obtain ⟨v0, vs, e0, ds, rfl, rfl, r0, hv, l⟩ := hv.uncons l
      obtain ⟨rfl, rfl⟩ := hv.unnil l
      refine ⟨_, rfl, a, C 1, _, _, v0, rfl, hA, T.cl 1 hi, T.no 1 hi _ (List.mem_of_getElem? (i := 0) rfl), zip_lookup (i := 0) (fN_nodup 1 hi) rfl rfl, (by show 2 ≤ sizeLine; decide), fun p np => ?_⟩
      exact k _ _ (Same.upd np) (.lst upd_same (RpAll.same (Same.upd np) _ _ (.cons (.str _) (.cons r0 .nil))))
    · refine ⟨_, rfl, .ref a, _, .ref (C 2), _, _, rfl, .own (C 0), ha.ty T hi, T.kit 2 0 hi (by decide), _, rfl, iteF ?_⟩
      refine ⟨_, rfl, .ref a, _, .ref (C 2), _, _, rfl, .own (C 1), ha.ty T hi, T.kit 2 1 hi (by decide), _, rfl, iteF ?_⟩
      refine ⟨_, rfl, .ref a, _, .ref (C 2), _, _, rfl, .own (C 2), ha.ty T hi, T.kit 2 2 hi (by decide), _, rfl, iteT ?_⟩
      obtain ⟨dx, vs, hA, hv, l⟩ := ha
      obtain ⟨v0, vs, e0, ds, rfl, rfl, r0, hv, l⟩ := hv.uncons l
      obtain ⟨rfl, rfl⟩ := hv.unnil l
      refine ⟨_, rfl, a, C 2, _, _, v0, rfl, hA, T.cl 2 hi, T.no 2 hi _ (List.mem_of_getElem? (i := 0) rfl), zip_lookup (i := 0) (fN_nodup 2 hi) rfl rfl, (by show 2 ≤ sizeLine; decide), fun p np => ?_⟩
      exact k _ _ (Same.upd np) (.lst upd_same (RpAll.same (Same.upd np) _ _ (.cons (.str _) (.cons r0 .nil))))
    · refine ⟨_, rfl, .ref a, _, .ref (C 3), _, _, rfl, .own (C 0), ha.ty T hi, T.kit 3 0 hi (by decide), _, rfl, iteF ?_⟩
      refine ⟨_, rfl, .ref a, _, .ref (C 3), _, _, rfl, .own (C 1), ha.ty T hi, T.kit 3 1 hi (by decide), _, rfl, iteF ?_⟩
      refine ⟨_, rfl, .ref a, _, .ref (C 3), _, _, rfl, .own (C 2), ha.ty T hi, T.kit 3 2 hi (by decide), _, rfl, iteF ?_⟩
      refine ⟨_, rfl, .ref a, _, .ref (C 3), _, _, rfl, .own (C 3), ha.ty T hi, T.kit 3 3 hi (by decide), _, rfl, iteT ?_⟩
      obtain ⟨dx, vs, hA, hv, l⟩ := ha
      obtain ⟨v0, vs, e0, ds, rfl, rfl, r0, hv, l⟩ := hv.uncons l
      obtain ⟨rfl, rfl⟩ := hv.unnil l
      refine ⟨_, rfl, a, C 3, _, _, v0, rfl, hA, T.cl 3 hi, T.no 3 hi _ (List.mem_of_getElem? (i := 0) rfl), zip_lookup (i := 0) (fN_nodup 3 hi) rfl rfl, (by show 2 ≤ sizeLine; decide), fun p np => ?_⟩
      exact k _ _ (Same.upd np) (.lst upd_same (RpAll.same (Same.upd np) _ _ (.cons (.str _) (.cons r0 .nil))))
    · refine ⟨_, rfl, .ref a, _, .ref (C 4), _, _, rfl, .own (C 0), ha.ty T hi, T.kit 4 0 hi (by decide), _, rfl, iteF ?_⟩
      refine ⟨_, rfl, .ref a, _, .ref (C 4), _, _, rfl, .own (C 1), ha.ty T hi, T.kit 4 1 hi (by decide), _, rfl, iteF ?_⟩
      refine ⟨_, rfl, .ref a, _, .ref (C 4), _, _, rfl, .own (C 2), ha.ty T hi, T.kit 4 2 hi (by decide), _, rfl, iteF ?_⟩
      refine ⟨_, rfl, .ref a, _, .ref (C 4), _, _, rfl, .own (C 3), ha.ty T hi, T.kit 4 3 hi (by decide), _, rfl, iteF ?_⟩
      refine ⟨_, rfl, .ref a, _, .ref (C 4), _, _, rfl, .own (C 4), ha.ty T hi, T.kit 4 4 hi (by decide), _, rfl, iteT ?_⟩
      obtain ⟨dx, vs, hA, hv, l⟩ := ha
      obtain ⟨v0, vs, e0, ds, rfl, rfl, r0, hv, l⟩ := hv.uncons l
      obtain ⟨v1, vs, e1, ds, rfl, rfl, r1, hv, l⟩ := hv.uncons l
      obtain ⟨rfl, rfl⟩ := hv.unnil l
      refine ⟨_, rfl, a, C 4, _, _, v0, rfl, hA, T.cl 4 hi, T.no 4 hi _ (List.mem_of_getElem? (i := 0) rfl), zip_lookup (i := 0) (fN_nodup 4 hi) rfl rfl, _, rfl, a, C 4, _, _, v1, rfl, hA, T.cl 4 hi, T.no 4 hi _ (List.mem_of_getElem? (i := 1) rfl), zip_lookup (i := 1) (fN_nodup 4 hi) rfl rfl, (by show 3 ≤ sizeLine; decide), fun p np => ?_⟩
      exact k _ _ (Same.upd np) (.lst upd_same (RpAll.same (Same.upd np) _ _ (.cons (.str _) (.cons r0 (.cons r1 .nil)))))
    · refine ⟨_, rfl, .ref a, _, .ref (C 5), _, _, rfl, .own (C 0), ha.ty T hi, T.kit 5 0 hi (by decide), _, rfl, iteF ?_⟩
      refine ⟨_, rfl, .ref a, _, .ref (C 5), _, _, rfl, .own (C 1), ha.ty T hi, T.kit 5 1 hi (by decide), _, rfl, iteF ?_⟩
      refine ⟨_, rfl, .ref a, _, .ref (C 5), _, _, rfl, .own (C 2), ha.ty T hi, T.kit 5 2 hi (by decide), _, rfl, iteF ?_⟩
      refine ⟨_, rfl, .ref a, _, .ref (C 5), _, _, rfl, .own (C 3), ha.ty T hi, T.kit 5 3 hi (by decide), _, rfl, iteF ?_⟩
      refine ⟨_, rfl, .ref a, _, .ref (C 5), _, _, rfl, .own (C 4), ha.ty T hi, T.kit 5 4 hi (by decide), _, rfl, iteF ?_⟩
      refine ⟨_, rfl, .ref a, _, .ref (C 5), _, _, rfl, .own (C 5), ha.ty T hi, T.kit 5 5 hi (by decide), _, rfl, iteT ?_⟩
      obtain ⟨dx, vs, hA, hv, l⟩ := ha
      obtain ⟨v0, vs, e0, ds, rfl, rfl, r0, hv, l⟩ := hv.uncons l
      obtain ⟨rfl, rfl⟩ := hv.unnil l
      refine ⟨_, rfl, a, C 5, _, _, v0, rfl, hA, T.cl 5 hi, T.no 5 hi _ (List.mem_of_getElem? (i := 0) rfl), zip_lookup (i := 0) (fN_nodup 5 hi) rfl rfl, (by show 2 ≤ sizeLine; decide), fun p np => ?_⟩
      exact k _ _ (Same.upd np) (.lst upd_same (RpAll.same (Same.upd np) _ _ (.cons (.str _) (.cons r0 .nil))))
    · refine ⟨_, rfl, .ref a, _, .ref (C 6), _, _, rfl, .own (C 0), ha.ty T hi, T.kit 6 0 hi (by decide), _, rfl, iteF ?_⟩
      refine ⟨_, rfl, .ref a, _, .ref (C 6), _, _, rfl, .own (C 1), ha.ty T hi, T.kit 6 1 hi (by decide), _, rfl, iteF ?_⟩
      refine ⟨_, rfl, .ref a, _, .ref (C 6), _, _, rfl, .own (C 2), ha.ty T hi, T.kit 6 2 hi (by decide), _, rfl, iteF ?_⟩
      refine ⟨_, rfl, .ref a, _, .ref (C 6), _, _, rfl, .own (C 3), ha.ty T hi, T.kit 6 3 hi (by decide), _, rfl, iteF ?_⟩
      refine ⟨_, rfl, .ref a, _, .ref (C 6), _, _, rfl, .own (C 4), ha.ty T hi, T.kit 6 4 hi (by decide), _, rfl, iteF ?_⟩
      refine ⟨_, rfl, .ref a, _, .ref (C 6), _, _, rfl, .own (C 5), ha.ty T hi, T.kit 6 5 hi (by decide), _, rfl, iteF ?_⟩
      refine ⟨_, rfl, .ref a, _, .ref (C 6), _, _, rfl, .own (C 6), ha.ty T hi, T.kit 6 6 hi (by decide), _, rfl, iteT ?_⟩
      obtain ⟨dx, vs, hA, hv, l⟩ := ha
      obtain ⟨v0, vs, e0, ds, rfl, rfl, r0, hv, l⟩ := hv.uncons l
      obtain ⟨v1, vs, e1, ds, rfl, rfl, r1, hv, l⟩ := hv.uncons l
      obtain ⟨v2, vs, e2, ds, rfl, rfl, r2, hv, l⟩ := hv.uncons l
      obtain ⟨v3, vs, e3, ds, rfl, rfl, r3, hv, l⟩ := hv.uncons l
      obtain ⟨rfl, rfl⟩ := hv.unnil l
      refine ⟨_, rfl, a, C 6, _, _, v0, rfl, hA, T.cl 6 hi, T.no 6 hi _ (List.mem_of_getElem? (i := 0) rfl), zip_lookup (i := 0) (fN_nodup 6 hi) rfl rfl, _, rfl, a, C 6, _, _, v1, rfl, hA, T.cl 6 hi, T.no 6 hi _ (List.mem_of_getElem? (i := 1) rfl), zip_lookup (i := 1) (fN_nodup 6 hi) rfl rfl, _, rfl, a, C 6, _, _, v2, rfl, hA, T.cl 6 hi, T.no 6 hi _ (List.mem_of_getElem? (i := 2) rfl), zip_lookup (i := 2) (fN_nodup 6 hi) rfl rfl, _, rfl, a, C 6, _, _, v3, rfl, hA, T.cl 6 hi, T.no 6 hi _ (List.mem_of_getElem? (i := 3) rfl), zip_lookup (i := 3) (fN_nodup 6 hi) rfl rfl, (by show 5 ≤ sizeLine; decide), fun p np => ?_⟩
      exact k _ _ (Same.upd np) (.lst upd_same (RpAll.same (Same.upd np) _ _ (.cons (.str _) (.cons r0 (.cons r1 (.cons r2 (.cons r3 .nil)))))))
    · refine ⟨_, rfl, .ref a, _, .ref (C 7), _, _, rfl, .own (C 0), ha.ty T hi, T.kit 7 0 hi (by decide), _, rfl, iteF ?_⟩
      refine ⟨_, rfl, .ref a, _, .ref (C 7), _, _, rfl, .own (C 1), ha.ty T hi, T.kit 7 1 hi (by decide), _, rfl, iteF ?_⟩
      refine ⟨_, rfl, .ref a, _, .ref (C 7), _, _, rfl, .own (C 2), ha.ty T hi, T.kit 7 2 hi (by decide), _, rfl, iteF ?_⟩
      refine ⟨_, rfl, .ref a, _, .ref (C 7), _, _, rfl, .own (C 3), ha.ty T hi, T.kit 7 3 hi (by decide), _, rfl, iteF ?_⟩
      refine ⟨_, rfl, .ref a, _, .ref (C 7), _, _, rfl, .own (C 4), ha.ty T hi, T.kit 7 4 hi (by decide), _, rfl, iteF ?_⟩
      refine ⟨_, rfl, .ref a, _, .ref (C 7), _, _, rfl, .own (C 5), ha.ty T hi, T.kit 7 5 hi (by decide), _, rfl, iteF ?_⟩
      refine ⟨_, rfl, .ref a, _, .ref (C 7), _, _, rfl, .own (C 6), ha.ty T hi, T.kit 7 6 hi (by decide), _, rfl, iteF ?_⟩
      refine ⟨_, rfl, .ref a, _, .ref (C 7), _, _, rfl, .own (C 7), ha.ty T hi, T.kit 7 7 hi (by decide), _, rfl, iteT ?_⟩
      obtain ⟨dx, vs, hA, hv, l⟩ := ha
      obtain ⟨v0, vs, e0, ds, rfl, rfl, r0, hv, l⟩ := hv.uncons l
      obtain ⟨v1, vs, e1, ds, rfl, rfl, r1, hv, l⟩ := hv.uncons l
      obtain ⟨v2, vs, e2, ds, rfl, rfl, r2, hv, l⟩ := hv.uncons l
      obtain ⟨rfl, rfl⟩ := hv.unnil l
      refine ⟨_, rfl, a, C 7, _, _, v0, rfl, hA, T.cl 7 hi, T.no 7 hi _ (List.mem_of_getElem? (i := 0) rfl), zip_lookup (i := 0) (fN_nodup 7 hi) rfl rfl, _, rfl, a, C 7, _, _, v1, rfl, hA, T.cl 7 hi, T.no 7 hi _ (List.mem_of_getElem? (i := 1) rfl), zip_lookup (i := 1) (fN_nodup 7 hi) rfl rfl, _, rfl, a, C 7, _, _, v2, rfl, hA, T.cl 7 hi, T.no 7 hi _ (List.mem_of_getElem? (i := 2) rfl), zip_lookup (i := 2) (fN_nodup 7 hi) rfl rfl, (by show 4 ≤ sizeLine; decide), fun p np => ?_⟩
      exact k _ _ (Same.upd np) (.lst upd_same (RpAll.same (Same.upd np) _ _ (.cons (.str _) (.cons r0 (.cons r1 (.cons r2 .nil))))))
    · refine ⟨_, rfl, .ref a, _, .ref (C 8), _, _, rfl, .own (C 0), ha.ty T hi, T.kit 8 0 hi (by decide), _, rfl, iteF ?_⟩
      refine ⟨_, rfl, .ref a, _, .ref (C 8), _, _, rfl, .own (C 1), ha.ty T hi, T.kit 8 1 hi (by decide), _, rfl, iteF ?_⟩
      refine ⟨_, rfl, .ref a, _, .ref (C 8), _, _, rfl, .own (C 2), ha.ty T hi, T.kit 8 2 hi (by decide), _, rfl, iteF ?_⟩
      refine ⟨_, rfl, .ref a, _, .ref (C 8), _, _, rfl, .own (C 3), ha.ty T hi, T.kit 8 3 hi (by decide), _, rfl, iteF ?_⟩
      refine ⟨_, rfl, .ref a, _, .ref (C 8), _, _, rfl, .own (C 4), ha.ty T hi, T.kit 8 4 hi (by decide), _, rfl, iteF ?_⟩
      refine ⟨_, rfl, .ref a, _, .ref (C 8), _, _, rfl, .own (C 5), ha.ty T hi, T.kit 8 5 hi (by decide), _, rfl, iteF ?_⟩
      refine ⟨_, rfl, .ref a, _, .ref (C 8), _, _, rfl, .own (C 6), ha.ty T hi, T.kit 8 6 hi (by decide), _, rfl, iteF ?_⟩
      refine ⟨_, rfl, .ref a, _, .ref (C 8), _, _, rfl, .own (C 7), ha.ty T hi, T.kit 8 7 hi (by decide), _, rfl, iteF ?_⟩
      refine ⟨_, rfl, .ref a, _, .ref (C 8), _, _, rfl, .own (C 8), ha.ty T hi, T.kit 8 8 hi (by decide), _, rfl, iteT ?_⟩
      obtain ⟨dx, vs, hA, hv, l⟩ := ha
      obtain ⟨v0, vs, e0, ds, rfl, rfl, r0, hv, l⟩ := hv.uncons l
      obtain ⟨v1, vs, e1, ds, rfl, rfl, r1, hv, l⟩ := hv.uncons l
      obtain ⟨rfl, rfl⟩ := hv.unnil l
      refine ⟨_, rfl, a, C 8, _, _, v0, rfl, hA, T.cl 8 hi, T.no 8 hi _ (List.mem_of_getElem? (i := 0) rfl), zip_lookup (i := 0) (fN_nodup 8 hi) rfl rfl, _, rfl, a, C 8, _, _, v1, rfl, hA, T.cl 8 hi, T.no 8 hi _ (List.mem_of_getElem? (i := 1) rfl), zip_lookup (i := 1) (fN_nodup 8 hi) rfl rfl, (by show 3 ≤ sizeLine; decide), fun p np => ?_⟩
      exact k _ _ (Same.upd np) (.lst upd_same (RpAll.same (Same.upd np) _ _ (.cons (.str _) (.cons r0 (.cons r1 .nil)))))
    · refine ⟨_, rfl, .ref a, _, .ref (C 9), _, _, rfl, .own (C 0), ha.ty T hi, T.kit 9 0 hi (by decide), _, rfl, iteF ?_⟩
      refine ⟨_, rfl, .ref a, _, .ref (C 9), _, _, rfl, .own (C 1), ha.ty T hi, T.kit 9 1 hi (by decide), _, rfl, iteF ?_⟩
      refine ⟨_, rfl, .ref a, _, .ref (C 9), _, _, rfl, .own (C 2), ha.ty T hi, T.kit 9 2 hi (by decide), _, rfl, iteF ?_⟩
      refine ⟨_, rfl, .ref a, _, .ref (C 9), _, _, rfl, .own (C 3), ha.ty T hi, T.kit 9 3 hi (by decide), _, rfl, iteF ?_⟩
      refine ⟨_, rfl, .ref a, _, .ref (C 9), _, _, rfl, .own (C 4), ha.ty T hi, T.kit 9 4 hi (by decide), _, rfl, iteF ?_⟩
      refine ⟨_, rfl, .ref a, _, .ref (C 9), _, _, rfl, .own (C 5), ha.ty T hi, T.kit 9 5 hi (by decide), _, rfl, iteF ?_⟩
      refine ⟨_, rfl, .ref a, _, .ref (C 9), _, _, rfl, .own (C 6), ha.ty T hi, T.kit 9 6 hi (by decide), _, rfl, iteF ?_⟩
      refine ⟨_, rfl, .ref a, _, .ref (C 9), _, _, rfl, .own (C 7), ha.ty T hi, T.kit 9 7 hi (by decide), _, rfl, iteF ?_⟩
      refine ⟨_, rfl, .ref a, _, .ref (C 9), _, _, rfl, .own (C 8), ha.ty T hi, T.kit 9 8 hi (by decide), _, rfl, iteF ?_⟩
      refine ⟨_, rfl, .ref a, _, .ref (C 9), _, _, rfl, .own (C 9), ha.ty T hi, T.kit 9 9 hi (by decide), _, rfl, iteT ?_⟩
      obtain ⟨dx, vs, hA, hv, l⟩ := ha
      obtain ⟨v0, vs, e0, ds, rfl, rfl, r0, hv, l⟩ := hv.uncons l
      obtain ⟨v1, vs, e1, ds, rfl, rfl, r1, hv, l⟩ := hv.uncons l
      obtain ⟨v2, vs, e2, ds, rfl, rfl, r2, hv, l⟩ := hv.uncons l
      obtain ⟨rfl, rfl⟩ := hv.unnil l
      refine ⟨_, rfl, a, C 9, _, _, v0, rfl, hA, T.cl 9 hi, T.no 9 hi _ (List.mem_of_getElem? (i := 0) rfl), zip_lookup (i := 0) (fN_nodup 9 hi) rfl rfl, _, rfl, a, C 9, _, _, v1, rfl, hA, T.cl 9 hi, T.no 9 hi _ (List.mem_of_getElem? (i := 1) rfl), zip_lookup (i := 1) (fN_nodup 9 hi) rfl rfl, _, rfl, a, C 9, _, _, v2, rfl, hA, T.cl 9 hi, T.no 9 hi _ (List.mem_of_getElem? (i := 2) rfl), zip_lookup (i := 2) (fN_nodup 9 hi) rfl rfl, (by show 4 ≤ sizeLine; decide), fun p np => ?_⟩
      exact k _ _ (Same.upd np) (.lst upd_same (RpAll.same (Same.upd np) _ _ (.cons (.str _) (.cons r0 (.cons r1 (.cons r2 .nil))))))
    · refine ⟨_, rfl, .ref a, _, .ref (C 10), _, _, rfl, .own (C 0), ha.ty T hi, T.kit 10 0 hi (by decide), _, rfl, iteF ?_⟩
      refine ⟨_, rfl, .ref a, _, .ref (C 10), _, _, rfl, .own (C 1), ha.ty T hi, T.kit 10 1 hi (by decide), _, rfl, iteF ?_⟩
      refine ⟨_, rfl, .ref a, _, .ref (C 10), _, _, rfl, .own (C 2), ha.ty T hi, T.kit 10 2 hi (by decide), _, rfl, iteF ?_⟩
      refine ⟨_, rfl, .ref a, _, .ref (C 10), _, _, rfl, .own (C 3), ha.ty T hi, T.kit 10 3 hi (by decide), _, rfl, iteF ?_⟩
      refine ⟨_, rfl, .ref a, _, .ref (C 10), _, _, rfl, .own (C 4), ha.ty T hi, T.kit 10 4 hi (by decide), _, rfl, iteF ?_⟩
      refine ⟨_, rfl, .ref a, _, .ref (C 10), _, _, rfl, .own (C 5), ha.ty T hi, T.kit 10 5 hi (by decide), _, rfl, iteF ?_⟩
      refine ⟨_, rfl, .ref a, _, .ref (C 10), _, _, rfl, .own (C 6), ha.ty T hi, T.kit 10 6 hi (by decide), _, rfl, iteF ?_⟩
      refine ⟨_, rfl, .ref a, _, .ref (C 10), _, _, rfl, .own (C 7), ha.ty T hi, T.kit 10 7 hi (by decide), _, rfl, iteF ?_⟩
      refine ⟨_, rfl, .ref a, _, .ref (C 10), _, _, rfl, .own (C 8), ha.ty T hi, T.kit 10 8 hi (by decide), _, rfl, iteF ?_⟩
      refine ⟨_, rfl, .ref a, _, .ref (C 10), _, _, rfl, .own (C 9), ha.ty T hi, T.kit 10 9 hi (by decide), _, rfl, iteF ?_⟩
      refine ⟨_, rfl, .ref a, _, .ref (C 10), _, _, rfl, .own (C 10), ha.ty T hi, T.kit 10 10 hi (by decide), _, rfl, iteT ?_⟩
      obtain ⟨dx, vs, hA, hv, l⟩ := ha
      obtain ⟨v0, vs, e0, ds, rfl, rfl, r0, hv, l⟩ := hv.uncons l
      obtain ⟨v1, vs, e1, ds, rfl, rfl, r1, hv, l⟩ := hv.uncons l
      obtain ⟨v2, vs, e2, ds, rfl, rfl, r2, hv, l⟩ := hv.uncons l
      obtain ⟨v3, vs, e3, ds, rfl, rfl, r3, hv, l⟩ := hv.uncons l
      obtain ⟨v4, vs, e4, ds, rfl, rfl, r4, hv, l⟩ := hv.uncons l
      obtain ⟨v5, vs, e5, ds, rfl, rfl, r5, hv, l⟩ := hv.uncons l
      obtain ⟨rfl, rfl⟩ := hv.unnil l
      refine ⟨_, rfl, a, C 10, _, _, v0, rfl, hA, T.cl 10 hi, T.no 10 hi _ (List.mem_of_getElem? (i := 0) rfl), zip_lookup (i := 0) (fN_nodup 10 hi) rfl rfl, _, rfl, a, C 10, _, _, v1, rfl, hA, T.cl 10 hi, T.no 10 hi _ (List.mem_of_getElem? (i := 1) rfl), zip_lookup (i := 1) (fN_nodup 10 hi) rfl rfl, _, rfl, a, C 10, _, _, v2, rfl, hA, T.cl 10 hi, T.no 10 hi _ (List.mem_of_getElem? (i := 2) rfl), zip_lookup (i := 2) (fN_nodup 10 hi) rfl rfl, _, rfl, a, C 10, _, _, v3, rfl, hA, T.cl 10 hi, T.no 10 hi _ (List.mem_of_getElem? (i := 3) rfl), zip_lookup (i := 3) (fN_nodup 10 hi) rfl rfl, _, rfl, a, C 10, _, _, v4, rfl, hA, T.cl 10 hi, T.no 10 hi _ (List.mem_of_getElem? (i := 4) rfl), zip_lookup (i := 4) (fN_nodup 10 hi) rfl rfl, _, rfl, a, C 10, _, _, v5, rfl, hA, T.cl 10 hi, T.no 10 hi _ (List.mem_of_getElem? (i := 5) rfl), zip_lookup (i := 5) (fN_nodup 10 hi) rfl rfl, (by show 7 ≤ sizeLine; decide), fun p np => ?_⟩
      exact k _ _ (Same.upd np) (.lst upd_same (RpAll.same (Same.upd np) _ _ (.cons (.str _) (.cons r0 (.cons r1 (.cons r2 (.cons r3 (.cons r4 (.cons r5 .nil)))))))))
abbrev sUnlike : Stmt := top 29
theorem scUnlike : FnScope ["rows"] [] (defScope sUnlike) := ⟨rfl, rfl, rfl, by decide +kernel, rfl, by decide +kernel, by decide +kernel⟩
theorem ok_unlike {f : Addr} {fd : FuncData} (F : Fun K "_law_unlike" "_law_unlike" sUnlike f fd) (T : Txt K mg C) (MK : ∀ i, i < 11 → ∃ f fd, MkOk P w K mg base C i f fd) : FnOk P w K mg base CX0 4 f fd [] (spUnlike C) := by
  refine F.ok scUnlike (fun vs H Q E h => ?_) (fun cdv A outer s H vs Q E hr h => ?_)
  · obtain ⟨rfl, _⟩ := h
    rfl
  · obtain ⟨rfl, k⟩ := h
    obtain ⟨f0, fd0, M0⟩ := MK 0 (by decide)
    obtain ⟨f4, fd4, M4⟩ := MK 4 (by decide)
    obtain ⟨f6, fd6, M6⟩ := MK 6 (by decide)
    obtain ⟨f7, fd7, M7⟩ := MK 7 (by decide)
    obtain ⟨f8, fd8, M8⟩ := MK 8 (by decide)
    obtain ⟨f10, fd10, M10⟩ := MK 10 (by decide)
    refine ⟨_, C8.pss_cut (ps_set (i := 0) scUnlike.nd rfl (Or.inl rfl) (pe_lst pa_nil))
      (C8.pss_cut (ps_set (i := 0) scUnlike.nd rfl (Or.inl rfl) (pe_op op_cat (pv 0) (pe_lst (pa_cons (pe_tup (pa_cons (pe_make M10.mk_ M10.ok hr (by rfl) (T.mgC 10 (by decide)) M10.b .nil pass0 (pa_cons pe_int (pa_cons pe_int (pa_cons pe_int (pa_cons pe_int (pa_cons pe_int (pa_cons pe_int pa_nil))))))) (pa_cons (pe_make M10.mk_ M10.ok hr (by rfl) (T.mgC 10 (by decide)) M10.b .nil pass0 (pa_cons pe_int (pa_cons pe_int (pa_cons pe_int (pa_cons pe_int (pa_cons pe_int (pa_cons pe_int pa_nil))))))) pa_nil)))
      (pa_cons (pe_tup (pa_cons (pe_make M10.mk_ M10.ok hr (by rfl) (T.mgC 10 (by decide)) M10.b .nil pass0 (pa_cons pe_int (pa_cons pe_int (pa_cons pe_int (pa_cons pe_int (pa_cons pe_int (pa_cons pe_int pa_nil))))))) (pa_cons (pe_make M10.mk_ M10.ok hr (by rfl) (T.mgC 10 (by decide)) M10.b .nil pass0 (pa_cons pe_int (pa_cons pe_int (pa_cons pe_int (pa_cons pe_int (pa_cons pe_int (pa_cons pe_int pa_nil))))))) pa_nil))) pa_nil)))))
      (C8.pss_cut (ps_set (i := 0) scUnlike.nd rfl (Or.inl rfl) (pe_op op_cat (pv 0) (pe_lst (pa_cons (pe_tup (pa_cons (pe_make M10.mk_ M10.ok hr (by rfl) (T.mgC 10 (by decide)) M10.b .nil pass0 (pa_cons pe_int (pa_cons pe_int (pa_cons pe_int (pa_cons pe_int (pa_cons pe_int (pa_cons pe_int pa_nil))))))) (pa_cons (pe_make M10.mk_ M10.ok hr (by rfl) (T.mgC 10 (by decide)) M10.b .nil pass0 (pa_cons pe_int (pa_cons pe_int (pa_cons pe_int (pa_cons pe_int (pa_cons pe_int (pa_cons pe_int pa_nil))))))) pa_nil)))
      (pa_cons (pe_tup (pa_cons (pe_make M10.mk_ M10.ok hr (by rfl) (T.mgC 10 (by decide)) M10.b .nil pass0 (pa_cons pe_int (pa_cons pe_int (pa_cons pe_int (pa_cons pe_int (pa_cons pe_int (pa_cons pe_int pa_nil))))))) (pa_cons (pe_make M10.mk_ M10.ok hr (by rfl) (T.mgC 10 (by decide)) M10.b .nil pass0 (pa_cons pe_int (pa_cons pe_int (pa_cons pe_int (pa_cons pe_int (pa_cons pe_int (pa_cons pe_int pa_nil))))))) pa_nil))) pa_nil)))))
      (C8.pss_cut (ps_set (i := 0) scUnlike.nd rfl (Or.inl rfl) (pe_op op_cat (pv 0) (pe_lst (pa_cons (pe_tup (pa_cons (pe_make M10.mk_ M10.ok hr (by rfl) (T.mgC 10 (by decide)) M10.b .nil pass0 (pa_cons pe_int (pa_cons pe_int (pa_cons pe_int (pa_cons pe_int (pa_cons pe_int (pa_cons pe_int pa_nil))))))) (pa_cons (pe_make M10.mk_ M10.ok hr (by rfl) (T.mgC 10 (by decide)) M10.b .nil pass0 (pa_cons pe_int (pa_cons pe_int (pa_cons pe_int (pa_cons pe_int (pa_cons pe_int (pa_cons pe_int pa_nil))))))) pa_nil)))
      (pa_cons (pe_tup (pa_cons (pe_make M10.mk_ M10.ok hr (by rfl) (T.mgC 10 (by decide)) M10.b .nil pass0 (pa_cons pe_int (pa_cons pe_int (pa_cons pe_int (pa_cons pe_int (pa_cons pe_int (pa_cons pe_int pa_nil))))))) (pa_cons (pe_make M10.mk_ M10.ok hr (by rfl) (T.mgC 10 (by decide)) M10.b .nil pass0 (pa_cons pe_int (pa_cons pe_int (pa_cons pe_int (pa_cons pe_int (pa_cons pe_int (pa_cons pe_int pa_nil))))))) pa_nil))) pa_nil)))))
      (C8.pss_cut (ps_set (i := 0) scUnlike.nd rfl (Or.inl rfl) (pe_op op_cat (pv 0) (pe_lst (pa_cons (pe_tup (pa_cons (pe_make M6.mk_ M6.ok hr (by rfl) (T.mgC 6 (by decide)) M6.b .nil pass0 (pa_cons pe_int (pa_cons pe_int (pa_cons pe_int (pa_cons pe_int pa_nil))))) (pa_cons (pe_make M6.mk_ M6.ok hr (by rfl) (T.mgC 6 (by decide)) M6.b .nil pass0 (pa_cons pe_int (pa_cons pe_int (pa_cons pe_int (pa_cons pe_int pa_nil))))) pa_nil)))
      (pa_cons (pe_tup (pa_cons (pe_make M6.mk_ M6.ok hr (by rfl) (T.mgC 6 (by decide)) M6.b .nil pass0 (pa_cons pe_int (pa_cons pe_int (pa_cons pe_int (pa_cons pe_int pa_nil))))) (pa_cons (pe_make M6.mk_ M6.ok hr (by rfl) (T.mgC 6 (by decide)) M6.b .nil pass0 (pa_cons pe_int (pa_cons pe_int (pa_cons pe_int (pa_cons pe_int pa_nil))))) pa_nil)))
      (pa_cons (pe_tup (pa_cons (pe_make M6.mk_ M6.ok hr (by rfl) (T.mgC 6 (by decide)) M6.b .nil pass0 (pa_cons pe_int (pa_cons pe_int (pa_cons pe_int (pa_cons pe_int pa_nil))))) (pa_cons (pe_make M6.mk_ M6.ok hr (by rfl) (T.mgC 6 (by decide)) M6.b .nil pass0 (pa_cons pe_int (pa_cons pe_int (pa_cons pe_int (pa_cons pe_int pa_nil))))) pa_nil))) pa_nil))))))
      (C8.pss_cut (ps_set (i := 0) scUnlike.nd rfl (Or.inl rfl) (pe_op op_cat (pv 0) (pe_lst (pa_cons (pe_tup (pa_cons (pe_make M6.mk_ M6.ok hr (by rfl) (T.mgC 6 (by decide)) M6.b .nil pass0 (pa_cons pe_int (pa_cons pe_int (pa_cons pe_int (pa_cons pe_int pa_nil))))) (pa_cons (pe_make M6.mk_ M6.ok hr (by rfl) (T.mgC 6 (by decide)) M6.b .nil pass0 (pa_cons pe_int (pa_cons pe_int (pa_cons pe_int (pa_cons pe_int pa_nil))))) pa_nil))) pa_nil))))
      (C8.pss_cut (ps_set (i := 0) scUnlike.nd rfl (Or.inl rfl) (pe_op op_cat (pv 0) (pe_lst (pa_cons (pe_tup (pa_cons (pe_make M7.mk_ M7.ok hr (by rfl) (T.mgC 7 (by decide)) M7.b .nil pass0 (pa_cons pe_int (pa_cons pe_int (pa_cons pe_int pa_nil)))) (pa_cons (pe_make M7.mk_ M7.ok hr (by rfl) (T.mgC 7 (by decide)) M7.b .nil pass0 (pa_cons pe_int (pa_cons pe_int (pa_cons pe_int pa_nil)))) pa_nil)))
      (pa_cons (pe_tup (pa_cons (pe_make M7.mk_ M7.ok hr (by rfl) (T.mgC 7 (by decide)) M7.b .nil pass0 (pa_cons pe_int (pa_cons pe_int (pa_cons pe_int pa_nil)))) (pa_cons (pe_make M7.mk_ M7.ok hr (by rfl) (T.mgC 7 (by decide)) M7.b .nil pass0 (pa_cons pe_int (pa_cons pe_int (pa_cons pe_int pa_nil)))) pa_nil)))
      (pa_cons (pe_tup (pa_cons (pe_make M7.mk_ M7.ok hr (by rfl) (T.mgC 7 (by decide)) M7.b .nil pass0 (pa_cons pe_int (pa_cons pe_int (pa_cons pe_int pa_nil)))) (pa_cons (pe_make M7.mk_ M7.ok hr (by rfl) (T.mgC 7 (by decide)) M7.b .nil pass0 (pa_cons pe_int (pa_cons pe_int (pa_cons pe_int pa_nil)))) pa_nil))) pa_nil))))))
      (C8.pss_cut (ps_set (i := 0) scUnlike.nd rfl (Or.inl rfl) (pe_op op_cat (pv 0) (pe_lst (pa_cons (pe_tup (pa_cons (pe_make M8.mk_ M8.ok hr (by rfl) (T.mgC 8 (by decide)) M8.b .nil pass0 (pa_cons pe_int (pa_cons pe_int pa_nil))) (pa_cons (pe_make M8.mk_ M8.ok hr (by rfl) (T.mgC 8 (by decide)) M8.b .nil pass0 (pa_cons pe_int (pa_cons pe_int pa_nil))) pa_nil)))
      (pa_cons (pe_tup (pa_cons (pe_make M8.mk_ M8.ok hr (by rfl) (T.mgC 8 (by decide)) M8.b .nil pass0 (pa_cons pe_int (pa_cons pe_int pa_nil))) (pa_cons (pe_make M8.mk_ M8.ok hr (by rfl) (T.mgC 8 (by decide)) M8.b .nil pass0 (pa_cons pe_int (pa_cons pe_int pa_nil))) pa_nil))) pa_nil)))))
      (C8.pss_cut (ps_set (i := 0) scUnlike.nd rfl (Or.inl rfl) (pe_op op_cat (pv 0) (pe_lst (pa_cons (pe_tup (pa_cons (pe_make M0.mk_ M0.ok hr (by rfl) (T.mgC 0 (by decide)) M0.b .nil pass0 (pa_cons pe_int (pa_cons pe_int (pa_cons pe_int pa_nil)))) (pa_cons (pe_make M0.mk_ M0.ok hr (by rfl) (T.mgC 0 (by decide)) M0.b .nil pass0 (pa_cons pe_int (pa_cons pe_int (pa_cons pe_int pa_nil)))) pa_nil)))
      (pa_cons (pe_tup (pa_cons (pe_make M0.mk_ M0.ok hr (by rfl) (T.mgC 0 (by decide)) M0.b .nil pass0 (pa_cons pe_int (pa_cons pe_int (pa_cons pe_int pa_nil)))) (pa_cons (pe_make M0.mk_ M0.ok hr (by rfl) (T.mgC 0 (by decide)) M0.b .nil pass0 (pa_cons pe_int (pa_cons pe_int (pa_cons pe_int pa_nil)))) pa_nil)))
      (pa_cons (pe_tup (pa_cons (pe_make M0.mk_ M0.ok hr (by rfl) (T.mgC 0 (by decide)) M0.b .nil pass0 (pa_cons pe_int (pa_cons pe_int (pa_cons pe_int pa_nil)))) (pa_cons (pe_make M0.mk_ M0.ok hr (by rfl) (T.mgC 0 (by decide)) M0.b .nil pass0 (pa_cons pe_int (pa_cons pe_int (pa_cons pe_int pa_nil)))) pa_nil))) pa_nil))))))
      (C8.pss_cut (ps_set (i := 0) scUnlike.nd rfl (Or.inl rfl) (pe_op op_cat (pv 0) (pe_lst (pa_cons (pe_tup (pa_cons (pe_make M4.mk_ M4.ok hr (by rfl) (T.mgC 4 (by decide)) M4.b .nil pass0 (pa_cons pe_int (pa_cons pe_int pa_nil))) (pa_cons (pe_make M4.mk_ M4.ok hr (by rfl) (T.mgC 4 (by decide)) M4.b .nil pass0 (pa_cons pe_int (pa_cons pe_int pa_nil))) pa_nil)))
      (pa_cons (pe_tup (pa_cons (pe_make M4.mk_ M4.ok hr (by rfl) (T.mgC 4 (by decide)) M4.b .nil pass0 (pa_cons pe_int (pa_cons pe_int pa_nil))) (pa_cons (pe_make M4.mk_ M4.ok hr (by rfl) (T.mgC 4 (by decide)) M4.b .nil pass0 (pa_cons pe_int (pa_cons pe_int pa_nil))) pa_nil))) pa_nil)))))
      (pss_one (ps_ret (pv 0)))))))))))), ?_⟩
    refine ⟨MidU C H 0, ⟨(by show 0 ≤ sizeLine; decide), fun p0 n0 => ⟨p0, [], rfl, Same.upd n0, upd_same, rfl, fun v hv => nomatch hv⟩⟩, fun σ1 K1 m1 => ?_⟩
    refine ⟨MidU C H 2, ?_, fun σ1 K1 m1 => ?_⟩
    · obtain ⟨r, ts, rfl, S0, hr0, hl, hp⟩ := m1
      refine ⟨_, rfl, ?_⟩
      intro x1 y1 nx1 ny1 ne1
      refine rd_make nx1 ny1 ne1 (ds := [.int 1, .int 2, .int 3, .int 4, .int 5, .int 6]) (.cons (.int _) (.cons (.int _) (.cons (.int _) (.cons (.int _) (.cons (.int _) (.cons (.int _) .nil)))))) rfl (fun H0 s0 o1 => ⟨rfl, ?_⟩)
      intro x2 y2 nx2 ny2 ne2
      refine rd_make nx2 ny2 ne2 (ds := [.int 0, .int 2, .int 3, .int 4, .int 5, .int 6]) (.cons (.int _) (.cons (.int _) (.cons (.int _) (.cons (.int _) (.cons (.int _) (.cons (.int _) .nil)))))) rfl (fun H1 s1 o2 => ⟨rfl, ?_⟩)
      refine ⟨(by show 2 ≤ sizeLine; decide), fun p3 n3 => ?_⟩
      have s2 : Same H1 (upd H1 p3 (.tup [.ref x1, .ref x2])) := Same.upd n3
      have g3 : (upd H1 p3 (.tup [.ref x1, .ref x2])) p3 = some (.tup [.ref x1, .ref x2]) := upd_same
      intro x4 y4 nx4 ny4 ne4
      refine rd_make nx4 ny4 ne4 (ds := [.int 1, .int 2, .int 3, .int 4, .int 5, .int 6]) (.cons (.int _) (.cons (.int _) (.cons (.int _) (.cons (.int _) (.cons (.int _) (.cons (.int _) .nil)))))) rfl (fun H3 s3 o4 => ⟨rfl, ?_⟩)
      intro x5 y5 nx5 ny5 ne5
      refine rd_make nx5 ny5 ne5 (ds := [.int 1, .int 0, .int 3, .int 4, .int 5, .int 6]) (.cons (.int _) (.cons (.int _) (.cons (.int _) (.cons (.int _) (.cons (.int _) (.cons (.int _) .nil)))))) rfl (fun H4 s4 o5 => ⟨rfl, ?_⟩)
      refine ⟨(by show 2 ≤ sizeLine; decide), fun p6 n6 => ?_⟩
      have s5 : Same H4 (upd H4 p6 (.tup [.ref x4, .ref x5])) := Same.upd n6
      have g6 : (upd H4 p6 (.tup [.ref x4, .ref x5])) p6 = some (.tup [.ref x4, .ref x5]) := upd_same
      refine ⟨(by show 2 ≤ sizeLine; decide), fun p7 n7 => ?_⟩
      have s6 : Same (upd H4 p6 (.tup [.ref x4, .ref x5])) (upd (upd H4 p6 (.tup [.ref x4, .ref x5])) p7 (.lst [.ref p3, .ref p6])) := Same.upd n7
      have g7 : (upd (upd H4 p6 (.tup [.ref x4, .ref x5])) p7 (.lst [.ref p3, .ref p6])) p7 = some (.lst [.ref p3, .ref p6]) := upd_same
      have t6 : Same (upd (upd H4 p6 (.tup [.ref x4, .ref x5])) p7 (.lst [.ref p3, .ref p6])) (upd (upd H4 p6 (.tup [.ref x4, .ref x5])) p7 (.lst [.ref p3, .ref p6])) := Same.refl _
      have t5 : Same (upd H4 p6 (.tup [.ref x4, .ref x5])) (upd (upd H4 p6 (.tup [.ref x4, .ref x5])) p7 (.lst [.ref p3, .ref p6])) := s6.trans t6
      have t4 : Same H4 (upd (upd H4 p6 (.tup [.ref x4, .ref x5])) p7 (.lst [.ref p3, .ref p6])) := s5.trans t5
      have t3 : Same H3 (upd (upd H4 p6 (.tup [.ref x4, .ref x5])) p7 (.lst [.ref p3, .ref p6])) := s4.trans t4
      have t2 : Same (upd H1 p3 (.tup [.ref x1, .ref x2])) (upd (upd H4 p6 (.tup [.ref x4, .ref x5])) p7 (.lst [.ref p3, .ref p6])) := s3.trans t3
      have t1 : Same H1 (upd (upd H4 p6 (.tup [.ref x4, .ref x5])) p7 (.lst [.ref p3, .ref p6])) := s2.trans t2
      have t0 : Same H0 (upd (upd H4 p6 (.tup [.ref x4, .ref x5])) p7 (.lst [.ref p3, .ref p6])) := s1.trans t1
      have S1 : Same K1 (upd (upd H4 p6 (.tup [.ref x4, .ref x5])) p7 (.lst [.ref p3, .ref p6])) := s0.trans t0
      refine ⟨r, p7, ts, _, rfl, rfl, S1 _ _ hr0, g7, (by show ts.length + 2 ≤ sizeLine; rw [hl]; decide), fun p8 n8 => ?_⟩
      have S2 : Same (upd (upd H4 p6 (.tup [.ref x4, .ref x5])) p7 (.lst [.ref p3, .ref p6])) (upd (upd (upd H4 p6 (.tup [.ref x4, .ref x5])) p7 (.lst [.ref p3, .ref p6])) p8 (.lst (ts ++ [.ref p3, .ref p6]))) := Same.upd n8
      refine ⟨p8, ts ++ [.ref p3, .ref p6], rfl, (S0.trans S1).trans S2, upd_same, by rw [List.length_append, hl]; rfl, ?_⟩
      intro v hv
      rcases List.mem_append.mp hv with hv | hv
      · exact (hp v hv).same (S1.trans S2)
      simp only [List.mem_cons, List.not_mem_nil, or_false] at hv
      rcases hv with rfl | rfl
      · exact ⟨p3, x1, x2, 10, _, _, rfl, S2 _ _ (t2 _ _ g3), by decide, (o1.same t0).same S2, (o2.same t1).same S2, .inr ⟨rfl, .inr ⟨by decide +kernel, by decide +kernel, by decide +kernel⟩⟩⟩
      · exact ⟨p6, x4, x5, 10, _, _, rfl, S2 _ _ (t5 _ _ g6), by decide, (o4.same t3).same S2, (o5.same t4).same S2, .inr ⟨rfl, .inr ⟨by decide +kernel, by decide +kernel, by decide +kernel⟩⟩⟩
    refine ⟨MidU C H 4, ?_, fun σ1 K1 m1 => ?_⟩
    · obtain ⟨r, ts, rfl, S0, hr0, hl, hp⟩ := m1
      refine ⟨_, rfl, ?_⟩
      intro x1 y1 nx1 ny1 ne1
      refine rd_make nx1 ny1 ne1 (ds := [.int 1, .int 2, .int 3, .int 4, .int 5, .int 6]) (.cons (.int _) (.cons (.int _) (.cons (.int _) (.cons (.int _) (.cons (.int _) (.cons (.int _) .nil)))))) rfl (fun H0 s0 o1 => ⟨rfl, ?_⟩)
      intro x2 y2 nx2 ny2 ne2
      refine rd_make nx2 ny2 ne2 (ds := [.int 1, .int 2, .int 0, .int 4, .int 5, .int 6]) (.cons (.int _) (.cons (.int _) (.cons (.int _) (.cons (.int _) (.cons (.int _) (.cons (.int _) .nil)))))) rfl (fun H1 s1 o2 => ⟨rfl, ?_⟩)
      refine ⟨(by show 2 ≤ sizeLine; decide), fun p3 n3 => ?_⟩
      have s2 : Same H1 (upd H1 p3 (.tup [.ref x1, .ref x2])) := Same.upd n3
      have g3 : (upd H1 p3 (.tup [.ref x1, .ref x2])) p3 = some (.tup [.ref x1, .ref x2]) := upd_same
      intro x4 y4 nx4 ny4 ne4
      refine rd_make nx4 ny4 ne4 (ds := [.int 1, .int 2, .int 3, .int 4, .int 5, .int 6]) (.cons (.int _) (.cons (.int _) (.cons (.int _) (.cons (.int _) (.cons (.int _) (.cons (.int _) .nil)))))) rfl (fun H3 s3 o4 => ⟨rfl, ?_⟩)
      intro x5 y5 nx5 ny5 ne5
      refine rd_make nx5 ny5 ne5 (ds := [.int 1, .int 2, .int 3, .int 0, .int 5, .int 6]) (.cons (.int _) (.cons (.int _) (.cons (.int _) (.cons (.int _) (.cons (.int _) (.cons (.int _) .nil)))))) rfl (fun H4 s4 o5 => ⟨rfl, ?_⟩)
      refine ⟨(by show 2 ≤ sizeLine; decide), fun p6 n6 => ?_⟩
      have s5 : Same H4 (upd H4 p6 (.tup [.ref x4, .ref x5])) := Same.upd n6
      have g6 : (upd H4 p6 (.tup [.ref x4, .ref x5])) p6 = some (.tup [.ref x4, .ref x5]) := upd_same
      refine ⟨(by show 2 ≤ sizeLine; decide), fun p7 n7 => ?_⟩
      have s6 : Same (upd H4 p6 (.tup [.ref x4, .ref x5])) (upd (upd H4 p6 (.tup [.ref x4, .ref x5])) p7 (.lst [.ref p3, .ref p6])) := Same.upd n7
      have g7 : (upd (upd H4 p6 (.tup [.ref x4, .ref x5])) p7 (.lst [.ref p3, .ref p6])) p7 = some (.lst [.ref p3, .ref p6]) := upd_same
      have t6 : Same (upd (upd H4 p6 (.tup [.ref x4, .ref x5])) p7 (.lst [.ref p3, .ref p6])) (upd (upd H4 p6 (.tup [.ref x4, .ref x5])) p7 (.lst [.ref p3, .ref p6])) := Same.refl _
      have t5 : Same (upd H4 p6 (.tup [.ref x4, .ref x5])) (upd (upd H4 p6 (.tup [.ref x4, .ref x5])) p7 (.lst [.ref p3, .ref p6])) := s6.trans t6
      have t4 : Same H4 (upd (upd H4 p6 (.tup [.ref x4, .ref x5])) p7 (.lst [.ref p3, .ref p6])) := s5.trans t5
      have t3 : Same H3 (upd (upd H4 p6 (.tup [.ref x4, .ref x5])) p7 (.lst [.ref p3, .ref p6])) := s4.trans t4
      have t2 : Same (upd H1 p3 (.tup [.ref x1, .ref x2])) (upd (upd H4 p6 (.tup [.ref x4, .ref x5])) p7 (.lst [.ref p3, .ref p6])) := s3.trans t3
      have t1 : Same H1 (upd (upd H4 p6 (.tup [.ref x4, .ref x5])) p7 (.lst [.ref p3, .ref p6])) := s2.trans t2
      have t0 : Same H0 (upd (upd H4 p6 (.tup [.ref x4, .ref x5])) p7 (.lst [.ref p3, .ref p6])) := s1.trans t1
      have S1 : Same K1 (upd (upd H4 p6 (.tup [.ref x4, .ref x5])) p7 (.lst [.ref p3, .ref p6])) := s0.trans t0
      refine ⟨r, p7, ts, _, rfl, rfl, S1 _ _ hr0, g7, (by show ts.length + 2 ≤ sizeLine; rw [hl]; decide), fun p8 n8 => ?_⟩
      have S2 : Same (upd (upd H4 p6 (.tup [.ref x4, .ref x5])) p7 (.lst [.ref p3, .ref p6])) (upd (upd (upd H4 p6 (.tup [.ref x4, .ref x5])) p7 (.lst [.ref p3, .ref p6])) p8 (.lst (ts ++ [.ref p3, .ref p6]))) := Same.upd n8
      refine ⟨p8, ts ++ [.ref p3, .ref p6], rfl, (S0.trans S1).trans S2, upd_same, by rw [List.length_append, hl]; rfl, ?_⟩
      intro v hv
      rcases List.mem_append.mp hv with hv | hv
      · exact (hp v hv).same (S1.trans S2)
      simp only [List.mem_cons, List.not_mem_nil, or_false] at hv
      rcases hv with rfl | rfl
      · exact ⟨p3, x1, x2, 10, _, _, rfl, S2 _ _ (t2 _ _ g3), by decide, (o1.same t0).same S2, (o2.same t1).same S2, .inr ⟨rfl, .inr ⟨by decide +kernel, by decide +kernel, by decide +kernel⟩⟩⟩
      · exact ⟨p6, x4, x5, 10, _, _, rfl, S2 _ _ (t5 _ _ g6), by decide, (o4.same t3).same S2, (o5.same t4).same S2, .inr ⟨rfl, .inr ⟨by decide +kernel, by decide +kernel, by decide +kernel⟩⟩⟩
    refine ⟨MidU C H 6, ?_, fun σ1 K1 m1 => ?_⟩
    · obtain ⟨r, ts, rfl, S0, hr0, hl, hp⟩ := m1
      refine ⟨_, rfl, ?_⟩
      intro x1 y1 nx1 ny1 ne1
      refine rd_make nx1 ny1 ne1 (ds := [.int 1, .int 2, .int 3, .int 4, .int 5, .int 6]) (.cons (.int _) (.cons (.int _) (.cons (.int _) (.cons (.int _) (.cons (.int _) (.cons (.int _) .nil)))))) rfl (fun H0 s0 o1 => ⟨rfl, ?_⟩)
      intro x2 y2 nx2 ny2 ne2
      refine rd_make nx2 ny2 ne2 (ds := [.int 1, .int 2, .int 3, .int 4, .int 0, .int 6]) (.cons (.int _) (.cons (.int _) (.cons (.int _) (.cons (.int _) (.cons (.int _) (.cons (.int _) .nil)))))) rfl (fun H1 s1 o2 => ⟨rfl, ?_⟩)
      refine ⟨(by show 2 ≤ sizeLine; decide), fun p3 n3 => ?_⟩
      have s2 : Same H1 (upd H1 p3 (.tup [.ref x1, .ref x2])) := Same.upd n3
      have g3 : (upd H1 p3 (.tup [.ref x1, .ref x2])) p3 = some (.tup [.ref x1, .ref x2]) := upd_same
      intro x4 y4 nx4 ny4 ne4
      refine rd_make nx4 ny4 ne4 (ds := [.int 1, .int 2, .int 3, .int 4, .int 5, .int 6]) (.cons (.int _) (.cons (.int _) (.cons (.int _) (.cons (.int _) (.cons (.int _) (.cons (.int _) .nil)))))) rfl (fun H3 s3 o4 => ⟨rfl, ?_⟩)
      intro x5 y5 nx5 ny5 ne5
      refine rd_make nx5 ny5 ne5 (ds := [.int 1, .int 2, .int 3, .int 4, .int 5, .int 0]) (.cons (.int _) (.cons (.int _) (.cons (.int _) (.cons (.int _) (.cons (.int _) (.cons (.int _) .nil)))))) rfl (fun H4 s4 o5 => ⟨rfl, ?_⟩)
      refine ⟨(by show 2 ≤ sizeLine; decide), fun p6 n6 => ?_⟩
      have s5 : Same H4 (upd H4 p6 (.tup [.ref x4, .ref x5])) := Same.upd n6
      have g6 : (upd H4 p6 (.tup [.ref x4, .ref x5])) p6 = some (.tup [.ref x4, .ref x5]) := upd_same
      refine ⟨(by show 2 ≤ sizeLine; decide), fun p7 n7 => ?_⟩
      have s6 : Same (upd H4 p6 (.tup [.ref x4, .ref x5])) (upd (upd H4 p6 (.tup [.ref x4, .ref x5])) p7 (.lst [.ref p3, .ref p6])) := Same.upd n7
      have g7 : (upd (upd H4 p6 (.tup [.ref x4, .ref x5])) p7 (.lst [.ref p3, .ref p6])) p7 = some (.lst [.ref p3, .ref p6]) := upd_same
      have t6 : Same (upd (upd H4 p6 (.tup [.ref x4, .ref x5])) p7 (.lst [.ref p3, .ref p6])) (upd (upd H4 p6 (.tup [.ref x4, .ref x5])) p7 (.lst [.ref p3, .ref p6])) := Same.refl _
      have t5 : Same (upd H4 p6 (.tup [.ref x4, .ref x5])) (upd (upd H4 p6 (.tup [.ref x4, .ref x5])) p7 (.lst [.ref p3, .ref p6])) := s6.trans t6
      have t4 : Same H4 (upd (upd H4 p6 (.tup [.ref x4, .ref x5])) p7 (.lst [.ref p3, .ref p6])) := s5.trans t5
      have t3 : Same H3 (upd (upd H4 p6 (.tup [.ref x4, .ref x5])) p7 (.lst [.ref p3, .ref p6])) := s4.trans t4
      have t2 : Same (upd H1 p3 (.tup [.ref x1, .ref x2])) (upd (upd H4 p6 (.tup [.ref x4, .ref x5])) p7 (.lst [.ref p3, .ref p6])) := s3.trans t3
      have t1 : Same H1 (upd (upd H4 p6 (.tup [.ref x4, .ref x5])) p7 (.lst [.ref p3, .ref p6])) := s2.trans t2
      have t0 : Same H0 (upd (upd H4 p6 (.tup [.ref x4, .ref x5])) p7 (.lst [.ref p3, .ref p6])) := s1.trans t1
      have S1 : Same K1 (upd (upd H4 p6 (.tup [.ref x4, .ref x5])) p7 (.lst [.ref p3, .ref p6])) := s0.trans t0
      refine ⟨r, p7, ts, _, rfl, rfl, S1 _ _ hr0, g7, (by show ts.length + 2 ≤ sizeLine; rw [hl]; decide), fun p8 n8 => ?_⟩
      have S2 : Same (upd (upd H4 p6 (.tup [.ref x4, .ref x5])) p7 (.lst [.ref p3, .ref p6])) (upd (upd (upd H4 p6 (.tup [.ref x4, .ref x5])) p7 (.lst [.ref p3, .ref p6])) p8 (.lst (ts ++ [.ref p3, .ref p6]))) := Same.upd n8
      refine ⟨p8, ts ++ [.ref p3, .ref p6], rfl, (S0.trans S1).trans S2, upd_same, by rw [List.length_append, hl]; rfl, ?_⟩
      intro v hv
      rcases List.mem_append.mp hv with hv | hv
      · exact (hp v hv).same (S1.trans S2)
      simp only [List.mem_cons, List.not_mem_nil, or_false] at hv
      rcases hv with rfl | rfl
      · exact ⟨p3, x1, x2, 10, _, _, rfl, S2 _ _ (t2 _ _ g3), by decide, (o1.same t0).same S2, (o2.same t1).same S2, .inr ⟨rfl, .inr ⟨by decide +kernel, by decide +kernel, by decide +kernel⟩⟩⟩
      · exact ⟨p6, x4, x5, 10, _, _, rfl, S2 _ _ (t5 _ _ g6), by decide, (o4.same t3).same S2, (o5.same t4).same S2, .inr ⟨rfl, .inr ⟨by decide +kernel, by decide +kernel, by decide +kernel⟩⟩⟩
    refine ⟨MidU C H 9, ?_, fun σ1 K1 m1 => ?_⟩
    · obtain ⟨r, ts, rfl, S0, hr0, hl, hp⟩ := m1
      refine ⟨_, rfl, ?_⟩
      intro x1 y1 nx1 ny1 ne1
      refine rd_make nx1 ny1 ne1 (ds := [.int 1, .int 2, .int 3, .int 4]) (.cons (.int _) (.cons (.int _) (.cons (.int _) (.cons (.int _) .nil)))) rfl (fun H0 s0 o1 => ⟨rfl, ?_⟩)
      intro x2 y2 nx2 ny2 ne2
      refine rd_make nx2 ny2 ne2 (ds := [.int 0, .int 2, .int 3, .int 4]) (.cons (.int _) (.cons (.int _) (.cons (.int _) (.cons (.int _) .nil)))) rfl (fun H1 s1 o2 => ⟨rfl, ?_⟩)
      refine ⟨(by show 2 ≤ sizeLine; decide), fun p3 n3 => ?_⟩
      have s2 : Same H1 (upd H1 p3 (.tup [.ref x1, .ref x2])) := Same.upd n3
      have g3 : (upd H1 p3 (.tup [.ref x1, .ref x2])) p3 = some (.tup [.ref x1, .ref x2]) := upd_same
      intro x4 y4 nx4 ny4 ne4
      refine rd_make nx4 ny4 ne4 (ds := [.int 1, .int 2, .int 3, .int 4]) (.cons (.int _) (.cons (.int _) (.cons (.int _) (.cons (.int _) .nil)))) rfl (fun H3 s3 o4 => ⟨rfl, ?_⟩)
      intro x5 y5 nx5 ny5 ne5
      refine rd_make nx5 ny5 ne5 (ds := [.int 1, .int 0, .int 3, .int 4]) (.cons (.int _) (.cons (.int _) (.cons (.int _) (.cons (.int _) .nil)))) rfl (fun H4 s4 o5 => ⟨rfl, ?_⟩)
      refine ⟨(by show 2 ≤ sizeLine; decide), fun p6 n6 => ?_⟩
      have s5 : Same H4 (upd H4 p6 (.tup [.ref x4, .ref x5])) := Same.upd n6
      have g6 : (upd H4 p6 (.tup [.ref x4, .ref x5])) p6 = some (.tup [.ref x4, .ref x5]) := upd_same
      intro x7 y7 nx7 ny7 ne7
      refine rd_make nx7 ny7 ne7 (ds := [.int 1, .int 2, .int 3, .int 4]) (.cons (.int _) (.cons (.int _) (.cons (.int _) (.cons (.int _) .nil)))) rfl (fun H6 s6 o7 => ⟨rfl, ?_⟩)
      intro x8 y8 nx8 ny8 ne8
      refine rd_make nx8 ny8 ne8 (ds := [.int 1, .int 2, .int 0, .int 4]) (.cons (.int _) (.cons (.int _) (.cons (.int _) (.cons (.int _) .nil)))) rfl (fun H7 s7 o8 => ⟨rfl, ?_⟩)
      refine ⟨(by show 2 ≤ sizeLine; decide), fun p9 n9 => ?_⟩
      have s8 : Same H7 (upd H7 p9 (.tup [.ref x7, .ref x8])) := Same.upd n9
      have g9 : (upd H7 p9 (.tup [.ref x7, .ref x8])) p9 = some (.tup [.ref x7, .ref x8]) := upd_same
      refine ⟨(by show 3 ≤ sizeLine; decide), fun p10 n10 => ?_⟩
      have s9 : Same (upd H7 p9 (.tup [.ref x7, .ref x8])) (upd (upd H7 p9 (.tup [.ref x7, .ref x8])) p10 (.lst [.ref p3, .ref p6, .ref p9])) := Same.upd n10
      have g10 : (upd (upd H7 p9 (.tup [.ref x7, .ref x8])) p10 (.lst [.ref p3, .ref p6, .ref p9])) p10 = some (.lst [.ref p3, .ref p6, .ref p9]) := upd_same
      have t9 : Same (upd (upd H7 p9 (.tup [.ref x7, .ref x8])) p10 (.lst [.ref p3, .ref p6, .ref p9])) (upd (upd H7 p9 (.tup [.ref x7, .ref x8])) p10 (.lst [.ref p3, .ref p6, .ref p9])) := Same.refl _
      have t8 : Same (upd H7 p9 (.tup [.ref x7, .ref x8])) (upd (upd H7 p9 (.tup [.ref x7, .ref x8])) p10 (.lst [.ref p3, .ref p6, .ref p9])) := s9.trans t9
      have t7 : Same H7 (upd (upd H7 p9 (.tup [.ref x7, .ref x8])) p10 (.lst [.ref p3, .ref p6, .ref p9])) := s8.trans t8
      have t6 : Same H6 (upd (upd H7 p9 (.tup [.ref x7, .ref x8])) p10 (.lst [.ref p3, .ref p6, .ref p9])) := s7.trans t7
      have t5 : Same (upd H4 p6 (.tup [.ref x4, .ref x5])) (upd (upd H7 p9 (.tup [.ref x7, .ref x8])) p10 (.lst [.ref p3, .ref p6, .ref p9])) := s6.trans t6
      have t4 : Same H4 (upd (upd H7 p9 (.tup [.ref x7, .ref x8])) p10 (.lst [.ref p3, .ref p6, .ref p9])) := s5.trans t5
      have t3 : Same H3 (upd (upd H7 p9 (.tup [.ref x7, .ref x8])) p10 (.lst [.ref p3, .ref p6, .ref p9])) := s4.trans t4
      have t2 : Same (upd H1 p3 (.tup [.ref x1, .ref x2])) (upd (upd H7 p9 (.tup [.ref x7, .ref x8])) p10 (.lst [.ref p3, .ref p6, .ref p9])) := s3.trans t3
      have t1 : Same H1 (upd (upd H7 p9 (.tup [.ref x7, .ref x8])) p10 (.lst [.ref p3, .ref p6, .ref p9])) := s2.trans t2
      have t0 : Same H0 (upd (upd H7 p9 (.tup [.ref x7, .ref x8])) p10 (.lst [.ref p3, .ref p6, .ref p9])) := s1.trans t1
      have S1 : Same K1 (upd (upd H7 p9 (.tup [.ref x7, .ref x8])) p10 (.lst [.ref p3, .ref p6, .ref p9])) := s0.trans t0
      refine ⟨r, p10, ts, _, rfl, rfl, S1 _ _ hr0, g10, (by show ts.length + 3 ≤ sizeLine; rw [hl]; decide), fun p11 n11 => ?_⟩
      have S2 : Same (upd (upd H7 p9 (.tup [.ref x7, .ref x8])) p10 (.lst [.ref p3, .ref p6, .ref p9])) (upd (upd (upd H7 p9 (.tup [.ref x7, .ref x8])) p10 (.lst [.ref p3, .ref p6, .ref p9])) p11 (.lst (ts ++ [.ref p3, .ref p6, .ref p9]))) := Same.upd n11
      refine ⟨p11, ts ++ [.ref p3, .ref p6, .ref p9], rfl, (S0.trans S1).trans S2, upd_same, by rw [List.length_append, hl]; rfl, ?_⟩
      intro v hv
      rcases List.mem_append.mp hv with hv | hv
      · exact (hp v hv).same (S1.trans S2)
      simp only [List.mem_cons, List.not_mem_nil, or_false] at hv
      rcases hv with rfl | rfl | rfl
      · exact ⟨p3, x1, x2, 6, _, _, rfl, S2 _ _ (t2 _ _ g3), by decide, (o1.same t0).same S2, (o2.same t1).same S2, .inr ⟨rfl, .inr ⟨by decide +kernel, by decide +kernel, by decide +kernel⟩⟩⟩
      · exact ⟨p6, x4, x5, 6, _, _, rfl, S2 _ _ (t5 _ _ g6), by decide, (o4.same t3).same S2, (o5.same t4).same S2, .inr ⟨rfl, .inr ⟨by decide +kernel, by decide +kernel, by decide +kernel⟩⟩⟩
      · exact ⟨p9, x7, x8, 6, _, _, rfl, S2 _ _ (t8 _ _ g9), by decide, (o7.same t6).same S2, (o8.same t7).same S2, .inr ⟨rfl, .inr ⟨by decide +kernel, by decide +kernel, by decide +kernel⟩⟩⟩
    refine ⟨MidU C H 10, ?_, fun σ1 K1 m1 => ?_⟩
    · obtain ⟨r, ts, rfl, S0, hr0, hl, hp⟩ := m1
      refine ⟨_, rfl, ?_⟩
      intro x1 y1 nx1 ny1 ne1
      refine rd_make nx1 ny1 ne1 (ds := [.int 1, .int 2, .int 3, .int 4]) (.cons (.int _) (.cons (.int _) (.cons (.int _) (.cons (.int _) .nil)))) rfl (fun H0 s0 o1 => ⟨rfl, ?_⟩)
      intro x2 y2 nx2 ny2 ne2
      refine rd_make nx2 ny2 ne2 (ds := [.int 1, .int 2, .int 3, .int 0]) (.cons (.int _) (.cons (.int _) (.cons (.int _) (.cons (.int _) .nil)))) rfl (fun H1 s1 o2 => ⟨rfl, ?_⟩)
      refine ⟨(by show 2 ≤ sizeLine; decide), fun p3 n3 => ?_⟩
      have s2 : Same H1 (upd H1 p3 (.tup [.ref x1, .ref x2])) := Same.upd n3
      have g3 : (upd H1 p3 (.tup [.ref x1, .ref x2])) p3 = some (.tup [.ref x1, .ref x2]) := upd_same
      refine ⟨(by show 1 ≤ sizeLine; decide), fun p4 n4 => ?_⟩
      have s3 : Same (upd H1 p3 (.tup [.ref x1, .ref x2])) (upd (upd H1 p3 (.tup [.ref x1, .ref x2])) p4 (.lst [.ref p3])) := Same.upd n4
      have g4 : (upd (upd H1 p3 (.tup [.ref x1, .ref x2])) p4 (.lst [.ref p3])) p4 = some (.lst [.ref p3]) := upd_same
      have t3 : Same (upd (upd H1 p3 (.tup [.ref x1, .ref x2])) p4 (.lst [.ref p3])) (upd (upd H1 p3 (.tup [.ref x1, .ref x2])) p4 (.lst [.ref p3])) := Same.refl _
      have t2 : Same (upd H1 p3 (.tup [.ref x1, .ref x2])) (upd (upd H1 p3 (.tup [.ref x1, .ref x2])) p4 (.lst [.ref p3])) := s3.trans t3
      have t1 : Same H1 (upd (upd H1 p3 (.tup [.ref x1, .ref x2])) p4 (.lst [.ref p3])) := s2.trans t2
      have t0 : Same H0 (upd (upd H1 p3 (.tup [.ref x1, .ref x2])) p4 (.lst [.ref p3])) := s1.trans t1
      have S1 : Same K1 (upd (upd H1 p3 (.tup [.ref x1, .ref x2])) p4 (.lst [.ref p3])) := s0.trans t0
      refine ⟨r, p4, ts, _, rfl, rfl, S1 _ _ hr0, g4, (by show ts.length + 1 ≤ sizeLine; rw [hl]; decide), fun p5 n5 => ?_⟩
      have S2 : Same (upd (upd H1 p3 (.tup [.ref x1, .ref x2])) p4 (.lst [.ref p3])) (upd (upd (upd H1 p3 (.tup [.ref x1, .ref x2])) p4 (.lst [.ref p3])) p5 (.lst (ts ++ [.ref p3]))) := Same.upd n5
      refine ⟨p5, ts ++ [.ref p3], rfl, (S0.trans S1).trans S2, upd_same, by rw [List.length_append, hl]; rfl, ?_⟩
      intro v hv
      rcases List.mem_append.mp hv with hv | hv
      · exact (hp v hv).same (S1.trans S2)
      simp only [List.mem_cons, List.not_mem_nil, or_false] at hv
      subst hv
      exact ⟨p3, x1, x2, 6, _, _, rfl, S2 _ _ (t2 _ _ g3), by decide, (o1.same t0).same S2, (o2.same t1).same S2, .inr ⟨rfl, .inr ⟨by decide +kernel, by decide +kernel, by decide +kernel⟩⟩⟩
    refine ⟨MidU C H 13, ?_, fun σ1 K1 m1 => ?_⟩
    · obtain ⟨r, ts, rfl, S0, hr0, hl, hp⟩ := m1
      refine ⟨_, rfl, ?_⟩
      intro x1 y1 nx1 ny1 ne1
      refine rd_make nx1 ny1 ne1 (ds := [.int 1, .int 2, .int 3]) (.cons (.int _) (.cons (.int _) (.cons (.int _) .nil))) rfl (fun H0 s0 o1 => ⟨rfl, ?_⟩)
      intro x2 y2 nx2 ny2 ne2
      refine rd_make nx2 ny2 ne2 (ds := [.int 0, .int 2, .int 3]) (.cons (.int _) (.cons (.int _) (.cons (.int _) .nil))) rfl (fun H1 s1 o2 => ⟨rfl, ?_⟩)
      refine ⟨(by show 2 ≤ sizeLine; decide), fun p3 n3 => ?_⟩
      have s2 : Same H1 (upd H1 p3 (.tup [.ref x1, .ref x2])) := Same.upd n3
      have g3 : (upd H1 p3 (.tup [.ref x1, .ref x2])) p3 = some (.tup [.ref x1, .ref x2]) := upd_same
      intro x4 y4 nx4 ny4 ne4
      refine rd_make nx4 ny4 ne4 (ds := [.int 1, .int 2, .int 3]) (.cons (.int _) (.cons (.int _) (.cons (.int _) .nil))) rfl (fun H3 s3 o4 => ⟨rfl, ?_⟩)
      intro x5 y5 nx5 ny5 ne5
      refine rd_make nx5 ny5 ne5 (ds := [.int 1, .int 0, .int 3]) (.cons (.int _) (.cons (.int _) (.cons (.int _) .nil))) rfl (fun H4 s4 o5 => ⟨rfl, ?_⟩)
      refine ⟨(by show 2 ≤ sizeLine; decide), fun p6 n6 => ?_⟩
      have s5 : Same H4 (upd H4 p6 (.tup [.ref x4, .ref x5])) := Same.upd n6
      have g6 : (upd H4 p6 (.tup [.ref x4, .ref x5])) p6 = some (.tup [.ref x4, .ref x5]) := upd_same
      intro x7 y7 nx7 ny7 ne7
      refine rd_make nx7 ny7 ne7 (ds := [.int 1, .int 2, .int 3]) (.cons (.int _) (.cons (.int _) (.cons (.int _) .nil))) rfl (fun H6 s6 o7 => ⟨rfl, ?_⟩)
      intro x8 y8 nx8 ny8 ne8
      refine rd_make nx8 ny8 ne8 (ds := [.int 1, .int 2, .int 0]) (.cons (.int _) (.cons (.int _) (.cons (.int _) .nil))) rfl (fun H7 s7 o8 => ⟨rfl, ?_⟩)
      refine ⟨(by show 2 ≤ sizeLine; decide), fun p9 n9 => ?_⟩
      have s8 : Same H7 (upd H7 p9 (.tup [.ref x7, .ref x8])) := Same.upd n9
      have g9 : (upd H7 p9 (.tup [.ref x7, .ref x8])) p9 = some (.tup [.ref x7, .ref x8]) := upd_same
      refine ⟨(by show 3 ≤ sizeLine; decide), fun p10 n10 => ?_⟩
      have s9 : Same (upd H7 p9 (.tup [.ref x7, .ref x8])) (upd (upd H7 p9 (.tup [.ref x7, .ref x8])) p10 (.lst [.ref p3, .ref p6, .ref p9])) := Same.upd n10
      have g10 : (upd (upd H7 p9 (.tup [.ref x7, .ref x8])) p10 (.lst [.ref p3, .ref p6, .ref p9])) p10 = some (.lst [.ref p3, .ref p6, .ref p9]) := upd_same
      have t9 : Same (upd (upd H7 p9 (.tup [.ref x7, .ref x8])) p10 (.lst [.ref p3, .ref p6, .ref p9])) (upd (upd H7 p9 (.tup [.ref x7, .ref x8])) p10 (.lst [.ref p3, .ref p6, .ref p9])) := Same.refl _
      have t8 : Same (upd H7 p9 (.tup [.ref x7, .ref x8])) (upd (upd H7 p9 (.tup [.ref x7, .ref x8])) p10 (.lst [.ref p3, .ref p6, .ref p9])) := s9.trans t9
      have t7 : Same H7 (upd (upd H7 p9 (.tup [.ref x7, .ref x8])) p10 (.lst [.ref p3, .ref p6, .ref p9])) := s8.trans t8
      have t6 : Same H6 (upd (upd H7 p9 (.tup [.ref x7, .ref x8])) p10 (.lst [.ref p3, .ref p6, .ref p9])) := s7.trans t7
      have t5 : Same (upd H4 p6 (.tup [.ref x4, .ref x5])) (upd (upd H7 p9 (.tup [.ref x7, .ref x8])) p10 (.lst [.ref p3, .ref p6, .ref p9])) := s6.trans t6
      have t4 : Same H4 (upd (upd H7 p9 (.tup [.ref x7, .ref x8])) p10 (.lst [.ref p3, .ref p6, .ref p9])) := s5.trans t5
      have t3 : Same H3 (upd (upd H7 p9 (.tup [.ref x7, .ref x8])) p10 (.lst [.ref p3, .ref p6, .ref p9])) := s4.trans t4
      have t2 : Same (upd H1 p3 (.tup [.ref x1, .ref x2])) (upd (upd H7 p9 (.tup [.ref x7, .ref x8])) p10 (.lst [.ref p3, .ref p6, .ref p9])) := s3.trans t3
      have t1 : Same H1 (upd (upd H7 p9 (.tup [.ref x7, .ref x8])) p10 (.lst [.ref p3, .ref p6, .ref p9])) := s2.trans t2
      have t0 : Same H0 (upd (upd H7 p9 (.tup [.ref x7, .ref x8])) p10 (.lst [.ref p3, .ref p6, .ref p9])) := s1.trans t1
      have S1 : Same K1 (upd (upd H7 p9 (.tup [.ref x7, .ref x8])) p10 (.lst [.ref p3, .ref p6, .ref p9])) := s0.trans t0
      refine ⟨r, p10, ts, _, rfl, rfl, S1 _ _ hr0, g10, (by show ts.length + 3 ≤ sizeLine; rw [hl]; decide), fun p11 n11 => ?_⟩
      have S2 : Same (upd (upd H7 p9 (.tup [.ref x7, .ref x8])) p10 (.lst [.ref p3, .ref p6, .ref p9])) (upd (upd (upd H7 p9 (.tup [.ref x7, .ref x8])) p10 (.lst [.ref p3, .ref p6, .ref p9])) p11 (.lst (ts ++ [.ref p3, .ref p6, .ref p9]))) := Same.upd n11
      refine ⟨p11, ts ++ [.ref p3, .ref p6, .ref p9], rfl, (S0.trans S1).trans S2, upd_same, by rw [List.length_append, hl]; rfl, ?_⟩
      intro v hv
      rcases List.mem_append.mp hv with hv | hv
      · exact (hp v hv).same (S1.trans S2)
      simp only [List.mem_cons, List.not_mem_nil, or_false] at hv
      rcases hv with rfl | rfl | rfl
      · exact ⟨p3, x1, x2, 7, _, _, rfl, S2 _ _ (t2 _ _ g3), by decide, (o1.same t0).same S2, (o2.same t1).same S2, .inr ⟨rfl, .inr ⟨by decide +kernel, by decide +kernel, by decide +kernel⟩⟩⟩
      · exact ⟨p6, x4, x5, 7, _, _, rfl, S2 _ _ (t5 _ _ g6), by decide, (o4.same t3).same S2, (o5.same t4).same S2, .inr ⟨rfl, .inr ⟨by decide +kernel, by decide +kernel, by decide +kernel⟩⟩⟩
      · exact ⟨p9, x7, x8, 7, _, _, rfl, S2 _ _ (t8 _ _ g9), by decide, (o7.same t6).same S2, (o8.same t7).same S2, .inr ⟨rfl, .inr ⟨by decide +kernel, by decide +kernel, by decide +kernel⟩⟩⟩
    refine ⟨MidU C H 15, ?_, fun σ1 K1 m1 => ?_⟩
    · obtain ⟨r, ts, rfl, S0, hr0, hl, hp⟩ := m1
      refine ⟨_, rfl, ?_⟩
      intro x1 y1 nx1 ny1 ne1
      refine rd_make nx1 ny1 ne1 (ds := [.int 1, .int 2]) (.cons (.int _) (.cons (.int _) .nil)) rfl (fun H0 s0 o1 => ⟨rfl, ?_⟩)
      intro x2 y2 nx2 ny2 ne2
      refine rd_make nx2 ny2 ne2 (ds := [.int 0, .int 2]) (.cons (.int _) (.cons (.int _) .nil)) rfl (fun H1 s1 o2 => ⟨rfl, ?_⟩)
      refine ⟨(by show 2 ≤ sizeLine; decide), fun p3 n3 => ?_⟩
      have s2 : Same H1 (upd H1 p3 (.tup [.ref x1, .ref x2])) := Same.upd n3
      have g3 : (upd H1 p3 (.tup [.ref x1, .ref x2])) p3 = some (.tup [.ref x1, .ref x2]) := upd_same
      intro x4 y4 nx4 ny4 ne4
      refine rd_make nx4 ny4 ne4 (ds := [.int 1, .int 2]) (.cons (.int _) (.cons (.int _) .nil)) rfl (fun H3 s3 o4 => ⟨rfl, ?_⟩)
      intro x5 y5 nx5 ny5 ne5
      refine rd_make nx5 ny5 ne5 (ds := [.int 1, .int 0]) (.cons (.int _) (.cons (.int _) .nil)) rfl (fun H4 s4 o5 => ⟨rfl, ?_⟩)
      refine ⟨(by show 2 ≤ sizeLine; decide), fun p6 n6 => ?_⟩
      have s5 : Same H4 (upd H4 p6 (.tup [.ref x4, .ref x5])) := Same.upd n6
      have g6 : (upd H4 p6 (.tup [.ref x4, .ref x5])) p6 = some (.tup [.ref x4, .ref x5]) := upd_same
      refine ⟨(by show 2 ≤ sizeLine; decide), fun p7 n7 => ?_⟩
      have s6 : Same (upd H4 p6 (.tup [.ref x4, .ref x5])) (upd (upd H4 p6 (.tup [.ref x4, .ref x5])) p7 (.lst [.ref p3, .ref p6])) := Same.upd n7
      have g7 : (upd (upd H4 p6 (.tup [.ref x4, .ref x5])) p7 (.lst [.ref p3, .ref p6])) p7 = some (.lst [.ref p3, .ref p6]) := upd_same
      have t6 : Same (upd (upd H4 p6 (.tup [.ref x4, .ref x5])) p7 (.lst [.ref p3, .ref p6])) (upd (upd H4 p6 (.tup [.ref x4, .ref x5])) p7 (.lst [.ref p3, .ref p6])) := Same.refl _
      have t5 : Same (upd H4 p6 (.tup [.ref x4, .ref x5])) (upd (upd H4 p6 (.tup [.ref x4, .ref x5])) p7 (.lst [.ref p3, .ref p6])) := s6.trans t6
      have t4 : Same H4 (upd (upd H4 p6 (.tup [.ref x4, .ref x5])) p7 (.lst [.ref p3, .ref p6])) := s5.trans t5
      have t3 : Same H3 (upd (upd H4 p6 (.tup [.ref x4, .ref x5])) p7 (.lst [.ref p3, .ref p6])) := s4.trans t4
      have t2 : Same (upd H1 p3 (.tup [.ref x1, .ref x2])) (upd (upd H4 p6 (.tup [.ref x4, .ref x5])) p7 (.lst [.ref p3, .ref p6])) := s3.trans t3
      have t1 : Same H1 (upd (upd H4 p6 (.tup [.ref x4, .ref x5])) p7 (.lst [.ref p3, .ref p6])) := s2.trans t2
      have t0 : Same H0 (upd (upd H4 p6 (.tup [.ref x4, .ref x5])) p7 (.lst [.ref p3, .ref p6])) := s1.trans t1
      have S1 : Same K1 (upd (upd H4 p6 (.tup [.ref x4, .ref x5])) p7 (.lst [.ref p3, .ref p6])) := s0.trans t0
      refine ⟨r, p7, ts, _, rfl, rfl, S1 _ _ hr0, g7, (by show ts.length + 2 ≤ sizeLine; rw [hl]; decide), fun p8 n8 => ?_⟩
      have S2 : Same (upd (upd H4 p6 (.tup [.ref x4, .ref x5])) p7 (.lst [.ref p3, .ref p6])) (upd (upd (upd H4 p6 (.tup [.ref x4, .ref x5])) p7 (.lst [.ref p3, .ref p6])) p8 (.lst (ts ++ [.ref p3, .ref p6]))) := Same.upd n8
      refine ⟨p8, ts ++ [.ref p3, .ref p6], rfl, (S0.trans S1).trans S2, upd_same, by rw [List.length_append, hl]; rfl, ?_⟩
      intro v hv
      rcases List.mem_append.mp hv with hv | hv
      · exact (hp v hv).same (S1.trans S2)
      simp only [List.mem_cons, List.not_mem_nil, or_false] at hv
      rcases hv with rfl | rfl
      · exact ⟨p3, x1, x2, 8, _, _, rfl, S2 _ _ (t2 _ _ g3), by decide, (o1.same t0).same S2, (o2.same t1).same S2, .inr ⟨rfl, .inr ⟨by decide +kernel, by decide +kernel, by decide +kernel⟩⟩⟩
      · exact ⟨p6, x4, x5, 8, _, _, rfl, S2 _ _ (t5 _ _ g6), by decide, (o4.same t3).same S2, (o5.same t4).same S2, .inr ⟨rfl, .inr ⟨by decide +kernel, by decide +kernel, by decide +kernel⟩⟩⟩
    refine ⟨MidU C H 18, ?_, fun σ1 K1 m1 => ?_⟩
    · obtain ⟨r, ts, rfl, S0, hr0, hl, hp⟩ := m1
      refine ⟨_, rfl, ?_⟩
      intro x1 y1 nx1 ny1 ne1
      refine rd_make nx1 ny1 ne1 (ds := [.int 1, .int 2, .int 3]) (.cons (.int _) (.cons (.int _) (.cons (.int _) .nil))) rfl (fun H0 s0 o1 => ⟨rfl, ?_⟩)
      intro x2 y2 nx2 ny2 ne2
      refine rd_make nx2 ny2 ne2 (ds := [.int 0, .int 2, .int 3]) (.cons (.int _) (.cons (.int _) (.cons (.int _) .nil))) rfl (fun H1 s1 o2 => ⟨rfl, ?_⟩)
      refine ⟨(by show 2 ≤ sizeLine; decide), fun p3 n3 => ?_⟩
      have s2 : Same H1 (upd H1 p3 (.tup [.ref x1, .ref x2])) := Same.upd n3
      have g3 : (upd H1 p3 (.tup [.ref x1, .ref x2])) p3 = some (.tup [.ref x1, .ref x2]) := upd_same
      intro x4 y4 nx4 ny4 ne4
      refine rd_make nx4 ny4 ne4 (ds := [.int 1, .int 2, .int 3]) (.cons (.int _) (.cons (.int _) (.cons (.int _) .nil))) rfl (fun H3 s3 o4 => ⟨rfl, ?_⟩)
      intro x5 y5 nx5 ny5 ne5
      refine rd_make nx5 ny5 ne5 (ds := [.int 1, .int 0, .int 3]) (.cons (.int _) (.cons (.int _) (.cons (.int _) .nil))) rfl (fun H4 s4 o5 => ⟨rfl, ?_⟩)
      refine ⟨(by show 2 ≤ sizeLine; decide), fun p6 n6 => ?_⟩
      have s5 : Same H4 (upd H4 p6 (.tup [.ref x4, .ref x5])) := Same.upd n6
      have g6 : (upd H4 p6 (.tup [.ref x4, .ref x5])) p6 = some (.tup [.ref x4, .ref x5]) := upd_same
      intro x7 y7 nx7 ny7 ne7
      refine rd_make nx7 ny7 ne7 (ds := [.int 1, .int 2, .int 3]) (.cons (.int _) (.cons (.int _) (.cons (.int _) .nil))) rfl (fun H6 s6 o7 => ⟨rfl, ?_⟩)
      intro x8 y8 nx8 ny8 ne8
      refine rd_make nx8 ny8 ne8 (ds := [.int 1, .int 2, .int 0]) (.cons (.int _) (.cons (.int _) (.cons (.int _) .nil))) rfl (fun H7 s7 o8 => ⟨rfl, ?_⟩)
      refine ⟨(by show 2 ≤ sizeLine; decide), fun p9 n9 => ?_⟩
      have s8 : Same H7 (upd H7 p9 (.tup [.ref x7, .ref x8])) := Same.upd n9
      have g9 : (upd H7 p9 (.tup [.ref x7, .ref x8])) p9 = some (.tup [.ref x7, .ref x8]) := upd_same
      refine ⟨(by show 3 ≤ sizeLine; decide), fun p10 n10 => ?_⟩
      have s9 : Same (upd H7 p9 (.tup [.ref x7, .ref x8])) (upd (upd H7 p9 (.tup [.ref x7, .ref x8])) p10 (.lst [.ref p3, .ref p6, .ref p9])) := Same.upd n10
      have g10 : (upd (upd H7 p9 (.tup [.ref x7, .ref x8])) p10 (.lst [.ref p3, .ref p6, .ref p9])) p10 = some (.lst [.ref p3, .ref p6, .ref p9]) := upd_same
      have t9 : Same (upd (upd H7 p9 (.tup [.ref x7, .ref x8])) p10 (.lst [.ref p3, .ref p6, .ref p9])) (upd (upd H7 p9 (.tup [.ref x7, .ref x8])) p10 (.lst [.ref p3, .ref p6, .ref p9])) := Same.refl _
      have t8 : Same (upd H7 p9 (.tup [.ref x7, .ref x8])) (upd (upd H7 p9 (.tup [.ref x7, .ref x8])) p10 (.lst [.ref p3, .ref p6, .ref p9])) := s9.trans t9
      have t7 : Same H7 (upd (upd H7 p9 (.tup [.ref x7, .ref x8])) p10 (.lst [.ref p3, .ref p6, .ref p9])) := s8.trans t8
      have t6 : Same H6 (upd (upd H7 p9 (.tup [.ref x7, .ref x8])) p10 (.lst [.ref p3, .ref p6, .ref p9])) := s7.trans t7
      have t5 : Same (upd H4 p6 (.tup [.ref x4, .ref x5])) (upd (upd H7 p9 (.tup [.ref x7, .ref x8])) p10 (.lst [.ref p3, .ref p6, .ref p9])) := s6.trans t6
      have t4 : Same H4 (upd (upd H7 p9 (.tup [.ref x7, .ref x8])) p10 (.lst [.ref p3, .ref p6, .ref p9])) := s5.trans t5
      have t3 : Same H3 (upd (upd H7 p9 (.tup [.ref x7, .ref x8])) p10 (.lst [.ref p3, .ref p6, .ref p9])) := s4.trans t4
      have t2 : Same (upd H1 p3 (.tup [.ref x1, .ref x2])) (upd (upd H7 p9 (.tup [.ref x7, .ref x8])) p10 (.lst [.ref p3, .ref p6, .ref p9])) := s3.trans t3
      have t1 : Same H1 (upd (upd H7 p9 (.tup [.ref x7, .ref x8])) p10 (.lst [.ref p3, .ref p6, .ref p9])) := s2.trans t2
      have t0 : Same H0 (upd (upd H7 p9 (.tup [.ref x7, .ref x8])) p10 (.lst [.ref p3, .ref p6, .ref p9])) := s1.trans t1
      have S1 : Same K1 (upd (upd H7 p9 (.tup [.ref x7, .ref x8])) p10 (.lst [.ref p3, .ref p6, .ref p9])) := s0.trans t0
      refine ⟨r, p10, ts, _, rfl, rfl, S1 _ _ hr0, g10, (by show ts.length + 3 ≤ sizeLine; rw [hl]; decide), fun p11 n11 => ?_⟩
      have S2 : Same (upd (upd H7 p9 (.tup [.ref x7, .ref x8])) p10 (.lst [.ref p3, .ref p6, .ref p9])) (upd (upd (upd H7 p9 (.tup [.ref x7, .ref x8])) p10 (.lst [.ref p3, .ref p6, .ref p9])) p11 (.lst (ts ++ [.ref p3, .ref p6, .ref p9]))) := Same.upd n11
      refine ⟨p11, ts ++ [.ref p3, .ref p6, .ref p9], rfl, (S0.trans S1).trans S2, upd_same, by rw [List.length_append, hl]; rfl, ?_⟩
      intro v hv
      rcases List.mem_append.mp hv with hv | hv
      · exact (hp v hv).same (S1.trans S2)
      simp only [List.mem_cons, List.not_mem_nil, or_false] at hv
      rcases hv with rfl | rfl | rfl
      · exact ⟨p3, x1, x2, 0, _, _, rfl, S2 _ _ (t2 _ _ g3), by decide, (o1.same t0).same S2, (o2.same t1).same S2, .inr ⟨rfl, .inr ⟨by decide +kernel, by decide +kernel, by decide +kernel⟩⟩⟩
      · exact ⟨p6, x4, x5, 0, _, _, rfl, S2 _ _ (t5 _ _ g6), by decide, (o4.same t3).same S2, (o5.same t4).same S2, .inr ⟨rfl, .inr ⟨by decide +kernel, by decide +kernel, by decide +kernel⟩⟩⟩
      · exact ⟨p9, x7, x8, 0, _, _, rfl, S2 _ _ (t8 _ _ g9), by decide, (o7.same t6).same S2, (o8.same t7).same S2, .inr ⟨rfl, .inr ⟨by decide +kernel, by decide +kernel, by decide +kernel⟩⟩⟩
    refine ⟨MidU C H 20, ?_, fun σ1 K1 m1 => ?_⟩
    · obtain ⟨r, ts, rfl, S0, hr0, hl, hp⟩ := m1
      refine ⟨_, rfl, ?_⟩
      intro x1 y1 nx1 ny1 ne1
      refine rd_make nx1 ny1 ne1 (ds := [.int 1, .int 2]) (.cons (.int _) (.cons (.int _) .nil)) rfl (fun H0 s0 o1 => ⟨rfl, ?_⟩)
      intro x2 y2 nx2 ny2 ne2
      refine rd_make nx2 ny2 ne2 (ds := [.int 0, .int 2]) (.cons (.int _) (.cons (.int _) .nil)) rfl (fun H1 s1 o2 => ⟨rfl, ?_⟩)
      refine ⟨(by show 2 ≤ sizeLine; decide), fun p3 n3 => ?_⟩
      have s2 : Same H1 (upd H1 p3 (.tup [.ref x1, .ref x2])) := Same.upd n3
      have g3 : (upd H1 p3 (.tup [.ref x1, .ref x2])) p3 = some (.tup [.ref x1, .ref x2]) := upd_same
      intro x4 y4 nx4 ny4 ne4
      refine rd_make nx4 ny4 ne4 (ds := [.int 1, .int 2]) (.cons (.int _) (.cons (.int _) .nil)) rfl (fun H3 s3 o4 => ⟨rfl, ?_⟩)
      intro x5 y5 nx5 ny5 ne5
      refine rd_make nx5 ny5 ne5 (ds := [.int 1, .int 0]) (.cons (.int _) (.cons (.int _) .nil)) rfl (fun H4 s4 o5 => ⟨rfl, ?_⟩)
      refine ⟨(by show 2 ≤ sizeLine; decide), fun p6 n6 => ?_⟩
      have s5 : Same H4 (upd H4 p6 (.tup [.ref x4, .ref x5])) := Same.upd n6
      have g6 : (upd H4 p6 (.tup [.ref x4, .ref x5])) p6 = some (.tup [.ref x4, .ref x5]) := upd_same
      refine ⟨(by show 2 ≤ sizeLine; decide), fun p7 n7 => ?_⟩
      have s6 : Same (upd H4 p6 (.tup [.ref x4, .ref x5])) (upd (upd H4 p6 (.tup [.ref x4, .ref x5])) p7 (.lst [.ref p3, .ref p6])) := Same.upd n7
      have g7 : (upd (upd H4 p6 (.tup [.ref x4, .ref x5])) p7 (.lst [.ref p3, .ref p6])) p7 = some (.lst [.ref p3, .ref p6]) := upd_same
      have t6 : Same (upd (upd H4 p6 (.tup [.ref x4, .ref x5])) p7 (.lst [.ref p3, .ref p6])) (upd (upd H4 p6 (.tup [.ref x4, .ref x5])) p7 (.lst [.ref p3, .ref p6])) := Same.refl _
      have t5 : Same (upd H4 p6 (.tup [.ref x4, .ref x5])) (upd (upd H4 p6 (.tup [.ref x4, .ref x5])) p7 (.lst [.ref p3, .ref p6])) := s6.trans t6
      have t4 : Same H4 (upd (upd H4 p6 (.tup [.ref x4, .ref x5])) p7 (.lst [.ref p3, .ref p6])) := s5.trans t5
      have t3 : Same H3 (upd (upd H4 p6 (.tup [.ref x4, .ref x5])) p7 (.lst [.ref p3, .ref p6])) := s4.trans t4
      have t2 : Same (upd H1 p3 (.tup [.ref x1, .ref x2])) (upd (upd H4 p6 (.tup [.ref x4, .ref x5])) p7 (.lst [.ref p3, .ref p6])) := s3.trans t3
      have t1 : Same H1 (upd (upd H4 p6 (.tup [.ref x4, .ref x5])) p7 (.lst [.ref p3, .ref p6])) := s2.trans t2
      have t0 : Same H0 (upd (upd H4 p6 (.tup [.ref x4, .ref x5])) p7 (.lst [.ref p3, .ref p6])) := s1.trans t1
      have S1 : Same K1 (upd (upd H4 p6 (.tup [.ref x4, .ref x5])) p7 (.lst [.ref p3, .ref p6])) := s0.trans t0
      refine ⟨r, p7, ts, _, rfl, rfl, S1 _ _ hr0, g7, (by show ts.length + 2 ≤ sizeLine; rw [hl]; decide), fun p8 n8 => ?_⟩
      have S2 : Same (upd (upd H4 p6 (.tup [.ref x4, .ref x5])) p7 (.lst [.ref p3, .ref p6])) (upd (upd (upd H4 p6 (.tup [.ref x4, .ref x5])) p7 (.lst [.ref p3, .ref p6])) p8 (.lst (ts ++ [.ref p3, .ref p6]))) := Same.upd n8
      refine ⟨p8, ts ++ [.ref p3, .ref p6], rfl, (S0.trans S1).trans S2, upd_same, by rw [List.length_append, hl]; rfl, ?_⟩
      intro v hv
      rcases List.mem_append.mp hv with hv | hv
      · exact (hp v hv).same (S1.trans S2)
      simp only [List.mem_cons, List.not_mem_nil, or_false] at hv
      rcases hv with rfl | rfl
      · exact ⟨p3, x1, x2, 4, _, _, rfl, S2 _ _ (t2 _ _ g3), by decide, (o1.same t0).same S2, (o2.same t1).same S2, .inr ⟨rfl, .inr ⟨by decide +kernel, by decide +kernel, by decide +kernel⟩⟩⟩
      · exact ⟨p6, x4, x5, 4, _, _, rfl, S2 _ _ (t5 _ _ g6), by decide, (o4.same t3).same S2, (o5.same t4).same S2, .inr ⟨rfl, .inr ⟨by decide +kernel, by decide +kernel, by decide +kernel⟩⟩⟩
    obtain ⟨r, ts, rfl, S0, hr0, hl, hp⟩ := m1
    exact ⟨_, rfl, k r ts K1 S0 hr0 hl hp⟩
end
end GP
namespace GP
open PySem PySem.Spec PyProof.Rows L2

theorem RowsOk.same {C : Nat → Addr} {H H' : Hp} {ts : List V} {dd : List (List PyData)} (s : Same H H') (h : RowsOk C H ts dd) : RowsOk C H' ts dd :=
  ⟨h.1, fun k v ds e1 e2 => (h.2 k v ds e1 e2).same s⟩
theorem RowsOk.chN {C : Nat → Addr} {H H' : Hp} {ts : List V} {dd : List (List PyData)} {p : Addr} {ys : List V} (hp : H p = some (.lst ys)) (hn : ∀ d, ¬ Rp H (.ref p) d) (c : Ch p H H') (h : RowsOk C H ts dd) : RowsOk C H' ts dd :=
  ⟨h.1, fun k v ds e1 e2 => (h.2 k v ds e1 e2).chN hp hn c⟩
theorem RowsOk.nil {C : Nat → Addr} {H : Hp} : RowsOk C H [] [] := ⟨rfl, fun k v ds e _ => by simp at e⟩
theorem RowsOk.snoc {C : Nat → Addr} {H : Hp} {ts : List V} {dd : List (List PyData)} {v : V} {ds : List PyData} (n : Nat) (h : RowsOk C H ts dd) (hn : dd.length = n) (r : RowOk C n H v (ds.map cp)) : RowsOk C H (ts ++ [v]) (dd ++ [ds]) := by
  refine ⟨by rw [List.length_append, List.length_append, h.1]; rfl, fun k u es e1 e2 => ?_⟩
  have ht : ts.length = n := h.1.trans hn
  by_cases hk : k < n
  · rw [List.getElem?_append_left (by omega)] at e1 e2
    exact h.2 k u es e1 e2
  · rw [List.getElem?_append_right (by omega)] at e1 e2
    have hz : k - ts.length = 0 := by
      rcases Nat.lt_or_ge (k - ts.length) 1 with q | q
      · omega
      · rw [List.getElem?_eq_none (by simpa using q)] at e1; cases e1
    have hz' : k - dd.length = 0 := by omega
    rw [hz] at e1
    rw [hz'] at e2
    simp at e1 e2
    subst e1; subst e2
    have : k = n := by omega
    subst this
    exact r
def MidR (C : Nat → Addr) (H : Hp) (v : List V) (u : List V) (a b c d : PyData) (dd : List (List PyData)) : L2.St → Hp → Prop := fun σ H' =>
  ∃ r ts, σ = v.map some ++ u.map some ++ [some (.ref r)] ∧ Same H H' ∧ H r = none ∧ RpAll H' v [a, b, c, d] ∧ RpAll H' u [cp a, cp b, cp c, cp d] ∧ H' r = some (.lst ts) ∧ RowsOk C H' ts dd
section
variable {P : Program} {w : World} {K : PySem.W.Frag} {mg : Str → Option Value} {base : Heap} {C : Nat → Addr}
abbrev sRows : Stmt := top 28
theorem scRows : FnScope ["a", "b", "c", "d", "e", "f", "g", "h", "rows"] ["a", "b", "c", "d"] (defScope sRows) := ⟨rfl, rfl, rfl, by decide +kernel, rfl, by decide +kernel, by decide +kernel⟩
theorem ok_rows {f fc : Addr} {fd fdc : FuncData} (F : Fun K "_law_rows" "_law_rows" sRows f fd) (T : Txt K mg C) (MK : ∀ i, i < 11 → ∃ f fd, MkOk P w K mg base C i f fd)
    (Fc : FnOk P w K mg base CX0 1 fc fdc ["value"] (spD mcp 1)) (mc : mg "_law_copy" = some (.ref fc)) (kc : PySem.W.keepIn K (.ref fc) = true) (bc : Binds K fdc ["value"] []) : FnOk P w K mg base CX0 4 f fd ["a", "b", "c", "d"] (spRows C) := by
  refine F.ok scRows (fun vs H Q E h => ?_) (fun cdv A outer s H vs Q E hr h => ?_)
  · obtain ⟨a, b, c, d, l, _⟩ := h
    exact l
  · obtain ⟨a, b, c, d, l, hv, k⟩ := h
    have hr1 : Room 1 _ := hr.mono (by decide)
    obtain ⟨v0, vs, e0, ds, rfl, he0, r0, hv, l⟩ := hv.uncons l
    cases he0
    obtain ⟨v1, vs, e1, ds, rfl, he1, r1, hv, l⟩ := hv.uncons l
    cases he1
    obtain ⟨v2, vs, e2, ds, rfl, he2, r2, hv, l⟩ := hv.uncons l
    cases he2
    obtain ⟨v3, vs, e3, ds, rfl, he3, r3, hv, l⟩ := hv.uncons l
    cases he3
    obtain ⟨rfl, _⟩ := hv.unnil l
    obtain ⟨f0, fd0, M0⟩ := MK 0 (by decide)
    obtain ⟨f1, fd1, M1⟩ := MK 1 (by decide)
    obtain ⟨f2, fd2, M2⟩ := MK 2 (by decide)
    obtain ⟨f3, fd3, M3⟩ := MK 3 (by decide)
    obtain ⟨f4, fd4, M4⟩ := MK 4 (by decide)
    obtain ⟨f5, fd5, M5⟩ := MK 5 (by decide)
    obtain ⟨f6, fd6, M6⟩ := MK 6 (by decide)
    obtain ⟨f7, fd7, M7⟩ := MK 7 (by decide)
    obtain ⟨f8, fd8, M8⟩ := MK 8 (by decide)
    obtain ⟨f9, fd9, M9⟩ := MK 9 (by decide)
    obtain ⟨f10, fd10, M10⟩ := MK 10 (by decide)
    refine ⟨_, C8.pss_cut (ps_asg (pe_tup (pa_cons (pe_call Fc hr1 (by rfl) mc kc bc .nil pass0 (pa_cons (pv 0) pa_nil)) (pa_cons (pe_call Fc hr1 (by rfl) mc kc bc .nil pass0 (pa_cons (pv 1) pa_nil)) (pa_cons (pe_call Fc hr1 (by rfl) mc kc bc .nil pass0 (pa_cons (pv 2) pa_nil)) (pa_cons (pe_call Fc hr1 (by rfl) mc kc bc .nil pass0 (pa_cons (pv 3) pa_nil)) pa_nil))))) (pg_tup rfl (pgs_cons (pg_name (i := 4) scRows.nd rfl (Or.inl rfl)) (pgs_cons (pg_name (i := 5) scRows.nd rfl (Or.inl rfl)) (pgs_cons (pg_name (i := 6) scRows.nd rfl (Or.inl rfl)) (pgs_cons (pg_name (i := 7) scRows.nd rfl (Or.inl rfl)) pgs_nil))))))
      (C8.pss_cut (ps_set (i := 8) scRows.nd rfl (Or.inl rfl) (pe_lst (pa_cons (pe_tup (pa_cons (pe_make M0.mk_ M0.ok hr (by rfl) (T.mgC 0 (by decide)) M0.b .nil pass0 (pa_cons (pv 0) (pa_cons (pv 1) (pa_cons (pv 2) pa_nil)))) (pa_cons (pe_makeK0 M0.mk_ M0.ok hr (by rfl) (T.mgC 0 (by decide)) M0.kb pass0 (pk_cons (pv 2) (pk_cons (pv 1) (pk_cons (pv 0) pk_nil)))) (pa_cons (pe_lst (pa_cons pe_str (pa_cons (pv 4) (pa_cons (pv 5) (pa_cons (pv 6) pa_nil))))) pa_nil))))
      (pa_cons (pe_tup (pa_cons (pe_make M1.mk_ M1.ok hr (by rfl) (T.mgC 1 (by decide)) M1.b .nil pass0 (pa_cons (pv 0) pa_nil)) (pa_cons (pe_makeK0 M1.mk_ M1.ok hr (by rfl) (T.mgC 1 (by decide)) M1.kb pass0 (pk_cons (pv 0) pk_nil)) (pa_cons (pe_lst (pa_cons pe_str (pa_cons (pv 4) pa_nil))) pa_nil)))) pa_nil))))
      (C8.pss_cut (ps_set (i := 8) scRows.nd rfl (Or.inl rfl) (pe_op op_cat (pv 8) (pe_lst (pa_cons (pe_tup (pa_cons (pe_make M2.mk_ M2.ok hr (by rfl) (T.mgC 2 (by decide)) M2.b .nil pass0 (pa_cons (pv 1) pa_nil)) (pa_cons (pe_makeK0 M2.mk_ M2.ok hr (by rfl) (T.mgC 2 (by decide)) M2.kb pass0 (pk_cons (pv 1) pk_nil)) (pa_cons (pe_lst (pa_cons pe_str (pa_cons (pv 5) pa_nil))) pa_nil))))
      (pa_cons (pe_tup (pa_cons (pe_make M3.mk_ M3.ok hr (by rfl) (T.mgC 3 (by decide)) M3.b .nil pass0 (pa_cons (pv 2) pa_nil)) (pa_cons (pe_makeK0 M3.mk_ M3.ok hr (by rfl) (T.mgC 3 (by decide)) M3.kb pass0 (pk_cons (pv 2) pk_nil)) (pa_cons (pe_lst (pa_cons pe_str (pa_cons (pv 6) pa_nil))) pa_nil)))) pa_nil)))))
      (C8.pss_cut (ps_set (i := 8) scRows.nd rfl (Or.inl rfl) (pe_op op_cat (pv 8) (pe_lst (pa_cons (pe_tup (pa_cons (pe_make M4.mk_ M4.ok hr (by rfl) (T.mgC 4 (by decide)) M4.b .nil pass0 (pa_cons (pv 0) (pa_cons (pv 3) pa_nil))) (pa_cons (pe_makeK0 M4.mk_ M4.ok hr (by rfl) (T.mgC 4 (by decide)) M4.kb pass0 (pk_cons (pv 3) (pk_cons (pv 0) pk_nil))) (pa_cons (pe_lst (pa_cons pe_str (pa_cons (pv 4) (pa_cons (pv 7) pa_nil)))) pa_nil))))
      (pa_cons (pe_tup (pa_cons (pe_make M5.mk_ M5.ok hr (by rfl) (T.mgC 5 (by decide)) M5.b .nil pass0 (pa_cons (pv 1) pa_nil)) (pa_cons (pe_makeK0 M5.mk_ M5.ok hr (by rfl) (T.mgC 5 (by decide)) M5.kb pass0 (pk_cons (pv 1) pk_nil)) (pa_cons (pe_lst (pa_cons pe_str (pa_cons (pv 5) pa_nil))) pa_nil)))) pa_nil)))))
      (C8.pss_cut (ps_expr (pe_bm PySem.F.plainAttrs_list PySem.F.slot_list_append PySem.F.type_list_append mt_append (pv 8) (pa_cons (pe_tup (pa_cons (pe_make M6.mk_ M6.ok hr (by rfl) (T.mgC 6 (by decide)) M6.b .nil pass0 (pa_cons (pv 0) (pa_cons (pv 1) (pa_cons (pv 2) (pa_cons (pv 3) pa_nil))))) (pa_cons (pe_makeK0 M6.mk_ M6.ok hr (by rfl) (T.mgC 6 (by decide)) M6.kb pass0 (pk_cons (pv 3) (pk_cons (pv 2) (pk_cons (pv 1) (pk_cons (pv 0) pk_nil))))) (pa_cons (pe_lst (pa_cons pe_str (pa_cons (pv 4) (pa_cons (pv 5) (pa_cons (pv 6) (pa_cons (pv 7) pa_nil)))))) pa_nil)))) pa_nil)))
      (C8.pss_cut (ps_expr (pe_bm PySem.F.plainAttrs_list PySem.F.slot_list_append PySem.F.type_list_append mt_append (pv 8) (pa_cons (pe_tup (pa_cons (pe_make M7.mk_ M7.ok hr (by rfl) (T.mgC 7 (by decide)) M7.b .nil pass0 (pa_cons (pv 0) (pa_cons (pv 1) (pa_cons (pv 2) pa_nil)))) (pa_cons (pe_makeK0 M7.mk_ M7.ok hr (by rfl) (T.mgC 7 (by decide)) M7.kb pass0 (pk_cons (pv 2) (pk_cons (pv 1) (pk_cons (pv 0) pk_nil)))) (pa_cons (pe_lst (pa_cons pe_str (pa_cons (pv 4) (pa_cons (pv 5) (pa_cons (pv 6) pa_nil))))) pa_nil)))) pa_nil)))
      (C8.pss_cut (ps_expr (pe_bm PySem.F.plainAttrs_list PySem.F.slot_list_append PySem.F.type_list_append mt_append (pv 8) (pa_cons (pe_tup (pa_cons (pe_make M8.mk_ M8.ok hr (by rfl) (T.mgC 8 (by decide)) M8.b .nil pass0 (pa_cons (pv 2) (pa_cons (pv 3) pa_nil))) (pa_cons (pe_makeK0 M8.mk_ M8.ok hr (by rfl) (T.mgC 8 (by decide)) M8.kb pass0 (pk_cons (pv 3) (pk_cons (pv 2) pk_nil))) (pa_cons (pe_lst (pa_cons pe_str (pa_cons (pv 6) (pa_cons (pv 7) pa_nil)))) pa_nil)))) pa_nil)))
      (C8.pss_cut (ps_expr (pe_bm PySem.F.plainAttrs_list PySem.F.slot_list_append PySem.F.type_list_append mt_append (pv 8) (pa_cons (pe_tup (pa_cons (pe_make M9.mk_ M9.ok hr (by rfl) (T.mgC 9 (by decide)) M9.b .nil pass0 (pa_cons (pv 0) (pa_cons (pv 1) (pa_cons (pv 2) pa_nil)))) (pa_cons (pe_makeK0 M9.mk_ M9.ok hr (by rfl) (T.mgC 9 (by decide)) M9.kb pass0 (pk_cons (pv 2) (pk_cons (pv 1) (pk_cons (pv 0) pk_nil)))) (pa_cons (pe_lst (pa_cons pe_str (pa_cons (pv 4) (pa_cons (pv 5) (pa_cons (pv 6) pa_nil))))) pa_nil)))) pa_nil)))
      (C8.pss_cut (ps_expr (pe_bm PySem.F.plainAttrs_list PySem.F.slot_list_append PySem.F.type_list_append mt_append (pv 8) (pa_cons (pe_tup (pa_cons (pe_make M10.mk_ M10.ok hr (by rfl) (T.mgC 10 (by decide)) M10.b .nil pass0 (pa_cons (pv 0) (pa_cons (pv 1) (pa_cons (pv 2) (pa_cons (pv 3) (pa_cons (pv 0) (pa_cons (pv 1) pa_nil))))))) (pa_cons (pe_makeK0 M10.mk_ M10.ok hr (by rfl) (T.mgC 10 (by decide)) M10.kb pass0 (pk_cons (pv 1) (pk_cons (pv 0) (pk_cons (pv 3) (pk_cons (pv 2) (pk_cons (pv 1) (pk_cons (pv 0) pk_nil))))))) (pa_cons (pe_lst (pa_cons pe_str (pa_cons (pv 4) (pa_cons (pv 5) (pa_cons (pv 6) (pa_cons (pv 7) (pa_cons (pv 4) (pa_cons (pv 5) pa_nil)))))))) pa_nil)))) pa_nil)))
      (pss_one (ps_ret (pv 8))))))))))), ?_⟩
    refine ⟨fun σ H' => ∃ u0 u1 u2 u3, σ = [some v0, some v1, some v2, some v3, some u0, some u1, some u2, some u3, none] ∧ Same H H' ∧ RpAll H' [u0, u1, u2, u3] [cp a, cp b, cp c, cp d], ?_, fun σ1 K1 m1 => ?_⟩
    · refine ⟨_, rfl, [_], rfl, .cons r0 .nil, fun u0 H1 s1 q0 => ⟨_, rfl, [_], rfl, .cons (Rp.same s1 _ _ r1) .nil, fun u1 H2 s2 q1 => ⟨_, rfl, [_], rfl, .cons (Rp.same (s1.trans s2) _ _ r2) .nil, fun u2 H3 s3 q2 => ⟨_, rfl, [_], rfl, .cons (Rp.same ((s1.trans s2).trans s3) _ _ r3) .nil, fun u3 H4 s4 q3 => ?_⟩⟩⟩⟩
      refine ⟨(by show 4 ≤ sizeLine; decide), fun p np => ⟨p, _, rfl, SqT.of upd_same, rfl, _, _, rfl, _, _, rfl, _, _, rfl, _, _, rfl, rfl, ?_⟩⟩
      have S5 := Same.upd (o := .tup [u0, u1, u2, u3]) np
      exact ⟨u0, u1, u2, u3, rfl, (((s1.trans s2).trans s3).trans s4).trans S5, .cons (Rp.same (((s2.trans s3).trans s4).trans S5) _ _ q0) (.cons (Rp.same ((s3.trans s4).trans S5) _ _ q1) (.cons (Rp.same (s4.trans S5) _ _ q2) (.cons (Rp.same S5 _ _ q3) .nil)))⟩
    obtain ⟨u0, u1, u2, u3, rfl, S0, hu⟩ := m1
    have hv : RpAll K1 [v0, v1, v2, v3] [a, b, c, d] := RpAll.same S0 _ _ (.cons r0 (.cons r1 (.cons r2 (.cons r3 .nil))))
    refine ⟨MidR C H [v0, v1, v2, v3] [u0, u1, u2, u3] a b c d [[a, b, c], [a]], ?_, fun σ1 K1 m1 => ?_⟩
    · have r' := hv
      obtain ⟨_, _, _, _, e, e', w0, hw, _⟩ := hv.uncons (n := 3) rfl
      cases e
      cases e'
      obtain ⟨_, _, _, _, e, e', w1, hw, _⟩ := hw.uncons (n := 2) rfl
      cases e
      cases e'
      obtain ⟨_, _, _, _, e, e', w2, hw, _⟩ := hw.uncons (n := 1) rfl
      cases e
      cases e'
      obtain ⟨_, _, _, _, e, e', w3, hw, _⟩ := hw.uncons (n := 0) rfl
      cases e
      cases e'
      obtain ⟨_, _, _, _, e, e', z0, hw, _⟩ := hu.uncons (n := 3) rfl
      cases e
      cases e'
      obtain ⟨_, _, _, _, e, e', z1, hw, _⟩ := hw.uncons (n := 2) rfl
      cases e
      cases e'
      obtain ⟨_, _, _, _, e, e', z2, hw, _⟩ := hw.uncons (n := 1) rfl
      cases e
      cases e'
      obtain ⟨_, _, _, _, e, e', z3, hw, _⟩ := hw.uncons (n := 0) rfl
      cases e
      cases e'
      have c0 : Same K1 K1 := Same.refl _
      refine ⟨_, rfl, _, rfl, _, rfl, ?_⟩
      intro x1 y1 nx1 ny1 ne1
      refine rd_make nx1 ny1 ne1 (ds := [a, b, c]) (.cons (Rp.same c0 _ _ w0) (.cons (Rp.same c0 _ _ w1) (.cons (Rp.same c0 _ _ w2) .nil))) rfl (fun H0 s0 o1 => ⟨rfl, ?_⟩)
      have c1 : Same K1 H0 := c0.trans s0
      refine ⟨_, rfl, _, rfl, _, rfl, ?_⟩
      refine ⟨rfl, rfl, ?_⟩
      intro x2 y2 nx2 ny2 ne2
      refine rd_make nx2 ny2 ne2 (ds := [a, b, c]) (.cons (Rp.same c1 _ _ w0) (.cons (Rp.same c1 _ _ w1) (.cons (Rp.same c1 _ _ w2) .nil))) rfl (fun H1 s1 o2 => ⟨rfl, ?_⟩)
      have c2 : Same K1 H1 := c1.trans s1
      refine ⟨_, rfl, _, rfl, _, rfl, (by show 4 ≤ sizeLine; decide), fun p3 n3 => ?_⟩
      have s2 : Same H1 (upd H1 p3 (.lst [.str "Stops", u0, u1, u2])) := Same.upd n3
      have g3 : (upd H1 p3 (.lst [.str "Stops", u0, u1, u2])) p3 = some (.lst [.str "Stops", u0, u1, u2]) := upd_same
      have c3 : Same K1 (upd H1 p3 (.lst [.str "Stops", u0, u1, u2])) := c2.trans s2
      refine ⟨(by show 3 ≤ sizeLine; decide), fun p4 n4 => ?_⟩
      have s3 : Same (upd H1 p3 (.lst [.str "Stops", u0, u1, u2])) (upd (upd H1 p3 (.lst [.str "Stops", u0, u1, u2])) p4 (.tup [.ref x1, .ref x2, .ref p3])) := Same.upd n4
      have g4 : (upd (upd H1 p3 (.lst [.str "Stops", u0, u1, u2])) p4 (.tup [.ref x1, .ref x2, .ref p3])) p4 = some (.tup [.ref x1, .ref x2, .ref p3]) := upd_same
      have c4 : Same K1 (upd (upd H1 p3 (.lst [.str "Stops", u0, u1, u2])) p4 (.tup [.ref x1, .ref x2, .ref p3])) := c3.trans s3
      refine ⟨_, rfl, ?_⟩
      intro x5 y5 nx5 ny5 ne5
      refine rd_make nx5 ny5 ne5 (ds := [a]) (.cons (Rp.same c4 _ _ w0) .nil) rfl (fun H4 s4 o5 => ⟨rfl, ?_⟩)
      have c5 : Same K1 H4 := c4.trans s4
      refine ⟨_, rfl, ?_⟩
      refine ⟨rfl, rfl, ?_⟩
      intro x6 y6 nx6 ny6 ne6
      refine rd_make nx6 ny6 ne6 (ds := [a]) (.cons (Rp.same c5 _ _ w0) .nil) rfl (fun H5 s5 o6 => ⟨rfl, ?_⟩)
      have c6 : Same K1 H5 := c5.trans s5
      refine ⟨_, rfl, (by show 2 ≤ sizeLine; decide), fun p7 n7 => ?_⟩
      have s6 : Same H5 (upd H5 p7 (.lst [.str "Limit", u0])) := Same.upd n7
      have g7 : (upd H5 p7 (.lst [.str "Limit", u0])) p7 = some (.lst [.str "Limit", u0]) := upd_same
      have c7 : Same K1 (upd H5 p7 (.lst [.str "Limit", u0])) := c6.trans s6
      refine ⟨(by show 3 ≤ sizeLine; decide), fun p8 n8 => ?_⟩
      have s7 : Same (upd H5 p7 (.lst [.str "Limit", u0])) (upd (upd H5 p7 (.lst [.str "Limit", u0])) p8 (.tup [.ref x5, .ref x6, .ref p7])) := Same.upd n8
      have g8 : (upd (upd H5 p7 (.lst [.str "Limit", u0])) p8 (.tup [.ref x5, .ref x6, .ref p7])) p8 = some (.tup [.ref x5, .ref x6, .ref p7]) := upd_same
      have c8 : Same K1 (upd (upd H5 p7 (.lst [.str "Limit", u0])) p8 (.tup [.ref x5, .ref x6, .ref p7])) := c7.trans s7
      refine ⟨(by show 2 ≤ sizeLine; decide), fun p9 n9 => ?_⟩
      have s8 : Same (upd (upd H5 p7 (.lst [.str "Limit", u0])) p8 (.tup [.ref x5, .ref x6, .ref p7])) (upd (upd (upd H5 p7 (.lst [.str "Limit", u0])) p8 (.tup [.ref x5, .ref x6, .ref p7])) p9 (.lst [.ref p4, .ref p8])) := Same.upd n9
      have g9 : (upd (upd (upd H5 p7 (.lst [.str "Limit", u0])) p8 (.tup [.ref x5, .ref x6, .ref p7])) p9 (.lst [.ref p4, .ref p8])) p9 = some (.lst [.ref p4, .ref p8]) := upd_same
      have c9 : Same K1 (upd (upd (upd H5 p7 (.lst [.str "Limit", u0])) p8 (.tup [.ref x5, .ref x6, .ref p7])) p9 (.lst [.ref p4, .ref p8])) := c8.trans s8
      have t8 : Same (upd (upd (upd H5 p7 (.lst [.str "Limit", u0])) p8 (.tup [.ref x5, .ref x6, .ref p7])) p9 (.lst [.ref p4, .ref p8])) (upd (upd (upd H5 p7 (.lst [.str "Limit", u0])) p8 (.tup [.ref x5, .ref x6, .ref p7])) p9 (.lst [.ref p4, .ref p8])) := Same.refl _
      have t7 : Same (upd (upd H5 p7 (.lst [.str "Limit", u0])) p8 (.tup [.ref x5, .ref x6, .ref p7])) (upd (upd (upd H5 p7 (.lst [.str "Limit", u0])) p8 (.tup [.ref x5, .ref x6, .ref p7])) p9 (.lst [.ref p4, .ref p8])) := s8.trans t8
      have t6 : Same (upd H5 p7 (.lst [.str "Limit", u0])) (upd (upd (upd H5 p7 (.lst [.str "Limit", u0])) p8 (.tup [.ref x5, .ref x6, .ref p7])) p9 (.lst [.ref p4, .ref p8])) := s7.trans t7
      have t5 : Same H5 (upd (upd (upd H5 p7 (.lst [.str "Limit", u0])) p8 (.tup [.ref x5, .ref x6, .ref p7])) p9 (.lst [.ref p4, .ref p8])) := s6.trans t6
      have t4 : Same H4 (upd (upd (upd H5 p7 (.lst [.str "Limit", u0])) p8 (.tup [.ref x5, .ref x6, .ref p7])) p9 (.lst [.ref p4, .ref p8])) := s5.trans t5
      have t3 : Same (upd (upd H1 p3 (.lst [.str "Stops", u0, u1, u2])) p4 (.tup [.ref x1, .ref x2, .ref p3])) (upd (upd (upd H5 p7 (.lst [.str "Limit", u0])) p8 (.tup [.ref x5, .ref x6, .ref p7])) p9 (.lst [.ref p4, .ref p8])) := s4.trans t4
      have t2 : Same (upd H1 p3 (.lst [.str "Stops", u0, u1, u2])) (upd (upd (upd H5 p7 (.lst [.str "Limit", u0])) p8 (.tup [.ref x5, .ref x6, .ref p7])) p9 (.lst [.ref p4, .ref p8])) := s3.trans t3
      have t1 : Same H1 (upd (upd (upd H5 p7 (.lst [.str "Limit", u0])) p8 (.tup [.ref x5, .ref x6, .ref p7])) p9 (.lst [.ref p4, .ref p8])) := s2.trans t2
      have t0 : Same H0 (upd (upd (upd H5 p7 (.lst [.str "Limit", u0])) p8 (.tup [.ref x5, .ref x6, .ref p7])) p9 (.lst [.ref p4, .ref p8])) := s1.trans t1
      have R0 : RowOk C 0 (upd (upd (upd H5 p7 (.lst [.str "Limit", u0])) p8 (.tup [.ref x5, .ref x6, .ref p7])) p9 (.lst [.ref p4, .ref p8])) (.ref p4) ([a, b, c].map cp) := ⟨p4, x1, x2, p3, rfl, t3 _ _ g4, o1.same t0, o2.same t1, Rp.same t2 _ _ (.lst g3 (.cons (.str _) (.cons (Rp.same c3 _ _ z0) (.cons (Rp.same c3 _ _ z1) (.cons (Rp.same c3 _ _ z2) .nil)))))⟩
      have R1 : RowOk C 1 (upd (upd (upd H5 p7 (.lst [.str "Limit", u0])) p8 (.tup [.ref x5, .ref x6, .ref p7])) p9 (.lst [.ref p4, .ref p8])) (.ref p8) ([a].map cp) := ⟨p8, x5, x6, p7, rfl, t7 _ _ g8, o5.same t4, o6.same t5, Rp.same t6 _ _ (.lst g7 (.cons (.str _) (.cons (Rp.same c7 _ _ z0) .nil)))⟩
      refine ⟨p9, [.ref p4, .ref p8], rfl, S0.trans c9, (S0.trans c8).free n9, RpAll.same c9 _ _ r', RpAll.same c9 _ _ hu, upd_same, ?_⟩
      exact (RowsOk.snoc 1 (RowsOk.snoc 0 RowsOk.nil rfl R0) rfl R1)
    refine ⟨MidR C H [v0, v1, v2, v3] [u0, u1, u2, u3] a b c d [[a, b, c], [a], [b], [c]], ?_, fun σ1 K1 m1 => ?_⟩
    · obtain ⟨r, ts, rfl, S0, hr0, hv, hu, hrr, hR⟩ := m1
      obtain ⟨_, _, _, _, e, e', w0, hw, _⟩ := hv.uncons (n := 3) rfl
      cases e
      cases e'
      obtain ⟨_, _, _, _, e, e', w1, hw, _⟩ := hw.uncons (n := 2) rfl
      cases e
      cases e'
      obtain ⟨_, _, _, _, e, e', w2, hw, _⟩ := hw.uncons (n := 1) rfl
      cases e
      cases e'
      obtain ⟨_, _, _, _, e, e', w3, hw, _⟩ := hw.uncons (n := 0) rfl
      cases e
      cases e'
      obtain ⟨_, _, _, _, e, e', z0, hw, _⟩ := hu.uncons (n := 3) rfl
      cases e
      cases e'
      obtain ⟨_, _, _, _, e, e', z1, hw, _⟩ := hw.uncons (n := 2) rfl
      cases e
      cases e'
      obtain ⟨_, _, _, _, e, e', z2, hw, _⟩ := hw.uncons (n := 1) rfl
      cases e
      cases e'
      obtain ⟨_, _, _, _, e, e', z3, hw, _⟩ := hw.uncons (n := 0) rfl
      cases e
      cases e'
      have c0 : Same K1 K1 := Same.refl _
      refine ⟨_, rfl, ?_⟩
      refine ⟨_, rfl, ?_⟩
      intro x1 y1 nx1 ny1 ne1
      refine rd_make nx1 ny1 ne1 (ds := [b]) (.cons (Rp.same c0 _ _ w1) .nil) rfl (fun H0 s0 o1 => ⟨rfl, ?_⟩)
      have c1 : Same K1 H0 := c0.trans s0
      refine ⟨_, rfl, ?_⟩
      refine ⟨rfl, rfl, ?_⟩
      intro x2 y2 nx2 ny2 ne2
      refine rd_make nx2 ny2 ne2 (ds := [b]) (.cons (Rp.same c1 _ _ w1) .nil) rfl (fun H1 s1 o2 => ⟨rfl, ?_⟩)
      have c2 : Same K1 H1 := c1.trans s1
      refine ⟨_, rfl, (by show 2 ≤ sizeLine; decide), fun p3 n3 => ?_⟩
      have s2 : Same H1 (upd H1 p3 (.lst [.str "Infinite", u1])) := Same.upd n3
      have g3 : (upd H1 p3 (.lst [.str "Infinite", u1])) p3 = some (.lst [.str "Infinite", u1]) := upd_same
      have c3 : Same K1 (upd H1 p3 (.lst [.str "Infinite", u1])) := c2.trans s2
      refine ⟨(by show 3 ≤ sizeLine; decide), fun p4 n4 => ?_⟩
      have s3 : Same (upd H1 p3 (.lst [.str "Infinite", u1])) (upd (upd H1 p3 (.lst [.str "Infinite", u1])) p4 (.tup [.ref x1, .ref x2, .ref p3])) := Same.upd n4
      have g4 : (upd (upd H1 p3 (.lst [.str "Infinite", u1])) p4 (.tup [.ref x1, .ref x2, .ref p3])) p4 = some (.tup [.ref x1, .ref x2, .ref p3]) := upd_same
      have c4 : Same K1 (upd (upd H1 p3 (.lst [.str "Infinite", u1])) p4 (.tup [.ref x1, .ref x2, .ref p3])) := c3.trans s3
      refine ⟨_, rfl, ?_⟩
      intro x5 y5 nx5 ny5 ne5
      refine rd_make nx5 ny5 ne5 (ds := [c]) (.cons (Rp.same c4 _ _ w2) .nil) rfl (fun H4 s4 o5 => ⟨rfl, ?_⟩)
      have c5 : Same K1 H4 := c4.trans s4
      refine ⟨_, rfl, ?_⟩
      refine ⟨rfl, rfl, ?_⟩
      intro x6 y6 nx6 ny6 ne6
      refine rd_make nx6 ny6 ne6 (ds := [c]) (.cons (Rp.same c5 _ _ w2) .nil) rfl (fun H5 s5 o6 => ⟨rfl, ?_⟩)
      have c6 : Same K1 H5 := c5.trans s5
      refine ⟨_, rfl, (by show 2 ≤ sizeLine; decide), fun p7 n7 => ?_⟩
      have s6 : Same H5 (upd H5 p7 (.lst [.str "Sign", u2])) := Same.upd n7
      have g7 : (upd H5 p7 (.lst [.str "Sign", u2])) p7 = some (.lst [.str "Sign", u2]) := upd_same
      have c7 : Same K1 (upd H5 p7 (.lst [.str "Sign", u2])) := c6.trans s6
      refine ⟨(by show 3 ≤ sizeLine; decide), fun p8 n8 => ?_⟩
      have s7 : Same (upd H5 p7 (.lst [.str "Sign", u2])) (upd (upd H5 p7 (.lst [.str "Sign", u2])) p8 (.tup [.ref x5, .ref x6, .ref p7])) := Same.upd n8
      have g8 : (upd (upd H5 p7 (.lst [.str "Sign", u2])) p8 (.tup [.ref x5, .ref x6, .ref p7])) p8 = some (.tup [.ref x5, .ref x6, .ref p7]) := upd_same
      have c8 : Same K1 (upd (upd H5 p7 (.lst [.str "Sign", u2])) p8 (.tup [.ref x5, .ref x6, .ref p7])) := c7.trans s7
      refine ⟨(by show 2 ≤ sizeLine; decide), fun p9 n9 => ?_⟩
      have s8 : Same (upd (upd H5 p7 (.lst [.str "Sign", u2])) p8 (.tup [.ref x5, .ref x6, .ref p7])) (upd (upd (upd H5 p7 (.lst [.str "Sign", u2])) p8 (.tup [.ref x5, .ref x6, .ref p7])) p9 (.lst [.ref p4, .ref p8])) := Same.upd n9
      have g9 : (upd (upd (upd H5 p7 (.lst [.str "Sign", u2])) p8 (.tup [.ref x5, .ref x6, .ref p7])) p9 (.lst [.ref p4, .ref p8])) p9 = some (.lst [.ref p4, .ref p8]) := upd_same
      have c9 : Same K1 (upd (upd (upd H5 p7 (.lst [.str "Sign", u2])) p8 (.tup [.ref x5, .ref x6, .ref p7])) p9 (.lst [.ref p4, .ref p8])) := c8.trans s8
      refine ⟨r, p9, ts, _, rfl, rfl, c9 _ _ hrr, g9, (by show ts.length + 2 ≤ sizeLine; rw [hR.1]; show 2 + 2 ≤ sizeLine; decide), fun p10 n10 => ?_⟩
      have s9 : Same (upd (upd (upd H5 p7 (.lst [.str "Sign", u2])) p8 (.tup [.ref x5, .ref x6, .ref p7])) p9 (.lst [.ref p4, .ref p8])) (upd (upd (upd (upd H5 p7 (.lst [.str "Sign", u2])) p8 (.tup [.ref x5, .ref x6, .ref p7])) p9 (.lst [.ref p4, .ref p8])) p10 (.lst (ts ++ [.ref p4, .ref p8]))) := Same.upd n10
      have g10 : (upd (upd (upd (upd H5 p7 (.lst [.str "Sign", u2])) p8 (.tup [.ref x5, .ref x6, .ref p7])) p9 (.lst [.ref p4, .ref p8])) p10 (.lst (ts ++ [.ref p4, .ref p8]))) p10 = some (.lst (ts ++ [.ref p4, .ref p8])) := upd_same
      have c10 : Same K1 (upd (upd (upd (upd H5 p7 (.lst [.str "Sign", u2])) p8 (.tup [.ref x5, .ref x6, .ref p7])) p9 (.lst [.ref p4, .ref p8])) p10 (.lst (ts ++ [.ref p4, .ref p8]))) := c9.trans s9
      have t9 : Same (upd (upd (upd (upd H5 p7 (.lst [.str "Sign", u2])) p8 (.tup [.ref x5, .ref x6, .ref p7])) p9 (.lst [.ref p4, .ref p8])) p10 (.lst (ts ++ [.ref p4, .ref p8]))) (upd (upd (upd (upd H5 p7 (.lst [.str "Sign", u2])) p8 (.tup [.ref x5, .ref x6, .ref p7])) p9 (.lst [.ref p4, .ref p8])) p10 (.lst (ts ++ [.ref p4, .ref p8]))) := Same.refl _
      have t8 : Same (upd (upd (upd H5 p7 (.lst [.str "Sign", u2])) p8 (.tup [.ref x5, .ref x6, .ref p7])) p9 (.lst [.ref p4, .ref p8])) (upd (upd (upd (upd H5 p7 (.lst [.str "Sign", u2])) p8 (.tup [.ref x5, .ref x6, .ref p7])) p9 (.lst [.ref p4, .ref p8])) p10 (.lst (ts ++ [.ref p4, .ref p8]))) := s9.trans t9
      have t7 : Same (upd (upd H5 p7 (.lst [.str "Sign", u2])) p8 (.tup [.ref x5, .ref x6, .ref p7])) (upd (upd (upd (upd H5 p7 (.lst [.str "Sign", u2])) p8 (.tup [.ref x5, .ref x6, .ref p7])) p9 (.lst [.ref p4, .ref p8])) p10 (.lst (ts ++ [.ref p4, .ref p8]))) := s8.trans t8
      have t6 : Same (upd H5 p7 (.lst [.str "Sign", u2])) (upd (upd (upd (upd H5 p7 (.lst [.str "Sign", u2])) p8 (.tup [.ref x5, .ref x6, .ref p7])) p9 (.lst [.ref p4, .ref p8])) p10 (.lst (ts ++ [.ref p4, .ref p8]))) := s7.trans t7
      have t5 : Same H5 (upd (upd (upd (upd H5 p7 (.lst [.str "Sign", u2])) p8 (.tup [.ref x5, .ref x6, .ref p7])) p9 (.lst [.ref p4, .ref p8])) p10 (.lst (ts ++ [.ref p4, .ref p8]))) := s6.trans t6
      have t4 : Same H4 (upd (upd (upd (upd H5 p7 (.lst [.str "Sign", u2])) p8 (.tup [.ref x5, .ref x6, .ref p7])) p9 (.lst [.ref p4, .ref p8])) p10 (.lst (ts ++ [.ref p4, .ref p8]))) := s5.trans t5
      have t3 : Same (upd (upd H1 p3 (.lst [.str "Infinite", u1])) p4 (.tup [.ref x1, .ref x2, .ref p3])) (upd (upd (upd (upd H5 p7 (.lst [.str "Sign", u2])) p8 (.tup [.ref x5, .ref x6, .ref p7])) p9 (.lst [.ref p4, .ref p8])) p10 (.lst (ts ++ [.ref p4, .ref p8]))) := s4.trans t4
      have t2 : Same (upd H1 p3 (.lst [.str "Infinite", u1])) (upd (upd (upd (upd H5 p7 (.lst [.str "Sign", u2])) p8 (.tup [.ref x5, .ref x6, .ref p7])) p9 (.lst [.ref p4, .ref p8])) p10 (.lst (ts ++ [.ref p4, .ref p8]))) := s3.trans t3
      have t1 : Same H1 (upd (upd (upd (upd H5 p7 (.lst [.str "Sign", u2])) p8 (.tup [.ref x5, .ref x6, .ref p7])) p9 (.lst [.ref p4, .ref p8])) p10 (.lst (ts ++ [.ref p4, .ref p8]))) := s2.trans t2
      have t0 : Same H0 (upd (upd (upd (upd H5 p7 (.lst [.str "Sign", u2])) p8 (.tup [.ref x5, .ref x6, .ref p7])) p9 (.lst [.ref p4, .ref p8])) p10 (.lst (ts ++ [.ref p4, .ref p8]))) := s1.trans t1
      have R0 : RowOk C 2 (upd (upd (upd (upd H5 p7 (.lst [.str "Sign", u2])) p8 (.tup [.ref x5, .ref x6, .ref p7])) p9 (.lst [.ref p4, .ref p8])) p10 (.lst (ts ++ [.ref p4, .ref p8]))) (.ref p4) ([b].map cp) := ⟨p4, x1, x2, p3, rfl, t3 _ _ g4, o1.same t0, o2.same t1, Rp.same t2 _ _ (.lst g3 (.cons (.str _) (.cons (Rp.same c3 _ _ z1) .nil)))⟩
      have R1 : RowOk C 3 (upd (upd (upd (upd H5 p7 (.lst [.str "Sign", u2])) p8 (.tup [.ref x5, .ref x6, .ref p7])) p9 (.lst [.ref p4, .ref p8])) p10 (.lst (ts ++ [.ref p4, .ref p8]))) (.ref p8) ([c].map cp) := ⟨p8, x5, x6, p7, rfl, t7 _ _ g8, o5.same t4, o6.same t5, Rp.same t6 _ _ (.lst g7 (.cons (.str _) (.cons (Rp.same c7 _ _ z2) .nil)))⟩
      refine ⟨p10, ts ++ [.ref p4, .ref p8], rfl, S0.trans c10, (S0.trans c9).free n10, RpAll.same c10 _ _ hv, RpAll.same c10 _ _ hu, upd_same, ?_⟩
      have Z := (RowsOk.snoc 3 (RowsOk.snoc 2 (hR.same c10) rfl R0) rfl R1)
      simpa only [List.append_assoc, List.cons_append, List.nil_append] using Z
    refine ⟨MidR C H [v0, v1, v2, v3] [u0, u1, u2, u3] a b c d [[a, b, c], [a], [b], [c], [a, d], [b]], ?_, fun σ1 K1 m1 => ?_⟩
    · obtain ⟨r, ts, rfl, S0, hr0, hv, hu, hrr, hR⟩ := m1
      obtain ⟨_, _, _, _, e, e', w0, hw, _⟩ := hv.uncons (n := 3) rfl
      cases e
      cases e'
      obtain ⟨_, _, _, _, e, e', w1, hw, _⟩ := hw.uncons (n := 2) rfl
      cases e
      cases e'
      obtain ⟨_, _, _, _, e, e', w2, hw, _⟩ := hw.uncons (n := 1) rfl
      cases e
      cases e'
      obtain ⟨_, _, _, _, e, e', w3, hw, _⟩ := hw.uncons (n := 0) rfl
      cases e
      cases e'
      obtain ⟨_, _, _, _, e, e', z0, hw, _⟩ := hu.uncons (n := 3) rfl
      cases e
      cases e'
      obtain ⟨_, _, _, _, e, e', z1, hw, _⟩ := hw.uncons (n := 2) rfl
      cases e
      cases e'
      obtain ⟨_, _, _, _, e, e', z2, hw, _⟩ := hw.uncons (n := 1) rfl
      cases e
      cases e'
      obtain ⟨_, _, _, _, e, e', z3, hw, _⟩ := hw.uncons (n := 0) rfl
      cases e
      cases e'
      have c0 : Same K1 K1 := Same.refl _
      refine ⟨_, rfl, ?_⟩
      refine ⟨_, rfl, _, rfl, ?_⟩
      intro x1 y1 nx1 ny1 ne1
      refine rd_make nx1 ny1 ne1 (ds := [a, d]) (.cons (Rp.same c0 _ _ w0) (.cons (Rp.same c0 _ _ w3) .nil)) rfl (fun H0 s0 o1 => ⟨rfl, ?_⟩)
      have c1 : Same K1 H0 := c0.trans s0
      refine ⟨_, rfl, _, rfl, ?_⟩
      refine ⟨rfl, rfl, ?_⟩
      intro x2 y2 nx2 ny2 ne2
      refine rd_make nx2 ny2 ne2 (ds := [a, d]) (.cons (Rp.same c1 _ _ w0) (.cons (Rp.same c1 _ _ w3) .nil)) rfl (fun H1 s1 o2 => ⟨rfl, ?_⟩)
      have c2 : Same K1 H1 := c1.trans s1
      refine ⟨_, rfl, _, rfl, (by show 3 ≤ sizeLine; decide), fun p3 n3 => ?_⟩
      have s2 : Same H1 (upd H1 p3 (.lst [.str "Order", u0, u3])) := Same.upd n3
      have g3 : (upd H1 p3 (.lst [.str "Order", u0, u3])) p3 = some (.lst [.str "Order", u0, u3]) := upd_same
      have c3 : Same K1 (upd H1 p3 (.lst [.str "Order", u0, u3])) := c2.trans s2
      refine ⟨(by show 3 ≤ sizeLine; decide), fun p4 n4 => ?_⟩
      have s3 : Same (upd H1 p3 (.lst [.str "Order", u0, u3])) (upd (upd H1 p3 (.lst [.str "Order", u0, u3])) p4 (.tup [.ref x1, .ref x2, .ref p3])) := Same.upd n4
      have g4 : (upd (upd H1 p3 (.lst [.str "Order", u0, u3])) p4 (.tup [.ref x1, .ref x2, .ref p3])) p4 = some (.tup [.ref x1, .ref x2, .ref p3]) := upd_same
      have c4 : Same K1 (upd (upd H1 p3 (.lst [.str "Order", u0, u3])) p4 (.tup [.ref x1, .ref x2, .ref p3])) := c3.trans s3
      refine ⟨_, rfl, ?_⟩
      intro x5 y5 nx5 ny5 ne5
      refine rd_make nx5 ny5 ne5 (ds := [b]) (.cons (Rp.same c4 _ _ w1) .nil) rfl (fun H4 s4 o5 => ⟨rfl, ?_⟩)
      have c5 : Same K1 H4 := c4.trans s4
      refine ⟨_, rfl, ?_⟩
      refine ⟨rfl, rfl, ?_⟩
      intro x6 y6 nx6 ny6 ne6
      refine rd_make nx6 ny6 ne6 (ds := [b]) (.cons (Rp.same c5 _ _ w1) .nil) rfl (fun H5 s5 o6 => ⟨rfl, ?_⟩)
      have c6 : Same K1 H5 := c5.trans s5
      refine ⟨_, rfl, (by show 2 ≤ sizeLine; decide), fun p7 n7 => ?_⟩
      have s6 : Same H5 (upd H5 p7 (.lst [.str "Expansion", u1])) := Same.upd n7
      have g7 : (upd H5 p7 (.lst [.str "Expansion", u1])) p7 = some (.lst [.str "Expansion", u1]) := upd_same
      have c7 : Same K1 (upd H5 p7 (.lst [.str "Expansion", u1])) := c6.trans s6
      refine ⟨(by show 3 ≤ sizeLine; decide), fun p8 n8 => ?_⟩
      have s7 : Same (upd H5 p7 (.lst [.str "Expansion", u1])) (upd (upd H5 p7 (.lst [.str "Expansion", u1])) p8 (.tup [.ref x5, .ref x6, .ref p7])) := Same.upd n8
      have g8 : (upd (upd H5 p7 (.lst [.str "Expansion", u1])) p8 (.tup [.ref x5, .ref x6, .ref p7])) p8 = some (.tup [.ref x5, .ref x6, .ref p7]) := upd_same
      have c8 : Same K1 (upd (upd H5 p7 (.lst [.str "Expansion", u1])) p8 (.tup [.ref x5, .ref x6, .ref p7])) := c7.trans s7
      refine ⟨(by show 2 ≤ sizeLine; decide), fun p9 n9 => ?_⟩
      have s8 : Same (upd (upd H5 p7 (.lst [.str "Expansion", u1])) p8 (.tup [.ref x5, .ref x6, .ref p7])) (upd (upd (upd H5 p7 (.lst [.str "Expansion", u1])) p8 (.tup [.ref x5, .ref x6, .ref p7])) p9 (.lst [.ref p4, .ref p8])) := Same.upd n9
      have g9 : (upd (upd (upd H5 p7 (.lst [.str "Expansion", u1])) p8 (.tup [.ref x5, .ref x6, .ref p7])) p9 (.lst [.ref p4, .ref p8])) p9 = some (.lst [.ref p4, .ref p8]) := upd_same
      have c9 : Same K1 (upd (upd (upd H5 p7 (.lst [.str "Expansion", u1])) p8 (.tup [.ref x5, .ref x6, .ref p7])) p9 (.lst [.ref p4, .ref p8])) := c8.trans s8
      refine ⟨r, p9, ts, _, rfl, rfl, c9 _ _ hrr, g9, (by show ts.length + 2 ≤ sizeLine; rw [hR.1]; show 4 + 2 ≤ sizeLine; decide), fun p10 n10 => ?_⟩
      have s9 : Same (upd (upd (upd H5 p7 (.lst [.str "Expansion", u1])) p8 (.tup [.ref x5, .ref x6, .ref p7])) p9 (.lst [.ref p4, .ref p8])) (upd (upd (upd (upd H5 p7 (.lst [.str "Expansion", u1])) p8 (.tup [.ref x5, .ref x6, .ref p7])) p9 (.lst [.ref p4, .ref p8])) p10 (.lst (ts ++ [.ref p4, .ref p8]))) := Same.upd n10
      have g10 : (upd (upd (upd (upd H5 p7 (.lst [.str "Expansion", u1])) p8 (.tup [.ref x5, .ref x6, .ref p7])) p9 (.lst [.ref p4, .ref p8])) p10 (.lst (ts ++ [.ref p4, .ref p8]))) p10 = some (.lst (ts ++ [.ref p4, .ref p8])) := upd_same
      have c10 : Same K1 (upd (upd (upd (upd H5 p7 (.lst [.str "Expansion", u1])) p8 (.tup [.ref x5, .ref x6, .ref p7])) p9 (.lst [.ref p4, .ref p8])) p10 (.lst (ts ++ [.ref p4, .ref p8]))) := c9.trans s9
      have t9 : Same (upd (upd (upd (upd H5 p7 (.lst [.str "Expansion", u1])) p8 (.tup [.ref x5, .ref x6, .ref p7])) p9 (.lst [.ref p4, .ref p8])) p10 (.lst (ts ++ [.ref p4, .ref p8]))) (upd (upd (upd (upd H5 p7 (.lst [.str "Expansion", u1])) p8 (.tup [.ref x5, .ref x6, .ref p7])) p9 (.lst [.ref p4, .ref p8])) p10 (.lst (ts ++ [.ref p4, .ref p8]))) := Same.refl _
      have t8 : Same (upd (upd (upd H5 p7 (.lst [.str "Expansion", u1])) p8 (.tup [.ref x5, .ref x6, .ref p7])) p9 (.lst [.ref p4, .ref p8])) (upd (upd (upd (upd H5 p7 (.lst [.str "Expansion", u1])) p8 (.tup [.ref x5, .ref x6, .ref p7])) p9 (.lst [.ref p4, .ref p8])) p10 (.lst (ts ++ [.ref p4, .ref p8]))) := s9.trans t9
      have t7 : Same (upd (upd H5 p7 (.lst [.str "Expansion", u1])) p8 (.tup [.ref x5, .ref x6, .ref p7])) (upd (upd (upd (upd H5 p7 (.lst [.str "Expansion", u1])) p8 (.tup [.ref x5, .ref x6, .ref p7])) p9 (.lst [.ref p4, .ref p8])) p10 (.lst (ts ++ [.ref p4, .ref p8]))) := s8.trans t8
      have t6 : Same (upd H5 p7 (.lst [.str "Expansion", u1])) (upd (upd (upd (upd H5 p7 (.lst [.str "Expansion", u1])) p8 (.tup [.ref x5, .ref x6, .ref p7])) p9 (.lst [.ref p4, .ref p8])) p10 (.lst (ts ++ [.ref p4, .ref p8]))) := s7.trans t7
      have t5 : Same H5 (upd (upd (upd (upd H5 p7 (.lst [.str "Expansion", u1])) p8 (.tup [.ref x5, .ref x6, .ref p7])) p9 (.lst [.ref p4, .ref p8])) p10 (.lst (ts ++ [.ref p4, .ref p8]))) := s6.trans t6
      have t4 : Same H4 (upd (upd (upd (upd H5 p7 (.lst [.str "Expansion", u1])) p8 (.tup [.ref x5, .ref x6, .ref p7])) p9 (.lst [.ref p4, .ref p8])) p10 (.lst (ts ++ [.ref p4, .ref p8]))) := s5.trans t5
      have t3 : Same (upd (upd H1 p3 (.lst [.str "Order", u0, u3])) p4 (.tup [.ref x1, .ref x2, .ref p3])) (upd (upd (upd (upd H5 p7 (.lst [.str "Expansion", u1])) p8 (.tup [.ref x5, .ref x6, .ref p7])) p9 (.lst [.ref p4, .ref p8])) p10 (.lst (ts ++ [.ref p4, .ref p8]))) := s4.trans t4
      have t2 : Same (upd H1 p3 (.lst [.str "Order", u0, u3])) (upd (upd (upd (upd H5 p7 (.lst [.str "Expansion", u1])) p8 (.tup [.ref x5, .ref x6, .ref p7])) p9 (.lst [.ref p4, .ref p8])) p10 (.lst (ts ++ [.ref p4, .ref p8]))) := s3.trans t3
      have t1 : Same H1 (upd (upd (upd (upd H5 p7 (.lst [.str "Expansion", u1])) p8 (.tup [.ref x5, .ref x6, .ref p7])) p9 (.lst [.ref p4, .ref p8])) p10 (.lst (ts ++ [.ref p4, .ref p8]))) := s2.trans t2
      have t0 : Same H0 (upd (upd (upd (upd H5 p7 (.lst [.str "Expansion", u1])) p8 (.tup [.ref x5, .ref x6, .ref p7])) p9 (.lst [.ref p4, .ref p8])) p10 (.lst (ts ++ [.ref p4, .ref p8]))) := s1.trans t1
      have R0 : RowOk C 4 (upd (upd (upd (upd H5 p7 (.lst [.str "Expansion", u1])) p8 (.tup [.ref x5, .ref x6, .ref p7])) p9 (.lst [.ref p4, .ref p8])) p10 (.lst (ts ++ [.ref p4, .ref p8]))) (.ref p4) ([a, d].map cp) := ⟨p4, x1, x2, p3, rfl, t3 _ _ g4, o1.same t0, o2.same t1, Rp.same t2 _ _ (.lst g3 (.cons (.str _) (.cons (Rp.same c3 _ _ z0) (.cons (Rp.same c3 _ _ z3) .nil))))⟩
      have R1 : RowOk C 5 (upd (upd (upd (upd H5 p7 (.lst [.str "Expansion", u1])) p8 (.tup [.ref x5, .ref x6, .ref p7])) p9 (.lst [.ref p4, .ref p8])) p10 (.lst (ts ++ [.ref p4, .ref p8]))) (.ref p8) ([b].map cp) := ⟨p8, x5, x6, p7, rfl, t7 _ _ g8, o5.same t4, o6.same t5, Rp.same t6 _ _ (.lst g7 (.cons (.str _) (.cons (Rp.same c7 _ _ z1) .nil)))⟩
      refine ⟨p10, ts ++ [.ref p4, .ref p8], rfl, S0.trans c10, (S0.trans c9).free n10, RpAll.same c10 _ _ hv, RpAll.same c10 _ _ hu, upd_same, ?_⟩
      have Z := (RowsOk.snoc 5 (RowsOk.snoc 4 (hR.same c10) rfl R0) rfl R1)
      simpa only [List.append_assoc, List.cons_append, List.nil_append] using Z
    refine ⟨MidR C H [v0, v1, v2, v3] [u0, u1, u2, u3] a b c d [[a, b, c], [a], [b], [c], [a, d], [b], [a, b, c, d]], ?_, fun σ1 K1 m1 => ?_⟩
    · obtain ⟨r, ts, rfl, S0, hr0, hv, hu, hrr, hR⟩ := m1
      obtain ⟨_, _, _, _, e, e', w0, hw, _⟩ := hv.uncons (n := 3) rfl
      cases e
      cases e'
      obtain ⟨_, _, _, _, e, e', w1, hw, _⟩ := hw.uncons (n := 2) rfl
      cases e
      cases e'
      obtain ⟨_, _, _, _, e, e', w2, hw, _⟩ := hw.uncons (n := 1) rfl
      cases e
      cases e'
      obtain ⟨_, _, _, _, e, e', w3, hw, _⟩ := hw.uncons (n := 0) rfl
      cases e
      cases e'
      obtain ⟨_, _, _, _, e, e', z0, hw, _⟩ := hu.uncons (n := 3) rfl
      cases e
      cases e'
      obtain ⟨_, _, _, _, e, e', z1, hw, _⟩ := hw.uncons (n := 2) rfl
      cases e
      cases e'
      obtain ⟨_, _, _, _, e, e', z2, hw, _⟩ := hw.uncons (n := 1) rfl
      cases e
      cases e'
      obtain ⟨_, _, _, _, e, e', z3, hw, _⟩ := hw.uncons (n := 0) rfl
      cases e
      cases e'
      have c0 : Same K1 K1 := Same.refl _
      refine ⟨_, rfl, .inl ⟨rfl, _, SqL.of hrr⟩, ?_⟩
      refine ⟨_, rfl, _, rfl, _, rfl, _, rfl, ?_⟩
      intro x1 y1 nx1 ny1 ne1
      refine rd_make nx1 ny1 ne1 (ds := [a, b, c, d]) (.cons (Rp.same c0 _ _ w0) (.cons (Rp.same c0 _ _ w1) (.cons (Rp.same c0 _ _ w2) (.cons (Rp.same c0 _ _ w3) .nil)))) rfl (fun H0 s0 o1 => ⟨rfl, ?_⟩)
      have c1 : Same K1 H0 := c0.trans s0
      refine ⟨_, rfl, _, rfl, _, rfl, _, rfl, ?_⟩
      refine ⟨rfl, rfl, ?_⟩
      intro x2 y2 nx2 ny2 ne2
      refine rd_make nx2 ny2 ne2 (ds := [a, b, c, d]) (.cons (Rp.same c1 _ _ w0) (.cons (Rp.same c1 _ _ w1) (.cons (Rp.same c1 _ _ w2) (.cons (Rp.same c1 _ _ w3) .nil)))) rfl (fun H1 s1 o2 => ⟨rfl, ?_⟩)
      have c2 : Same K1 H1 := c1.trans s1
      refine ⟨_, rfl, _, rfl, _, rfl, _, rfl, (by show 5 ≤ sizeLine; decide), fun p3 n3 => ?_⟩
      have s2 : Same H1 (upd H1 p3 (.lst [.str "Letter", u0, u1, u2, u3])) := Same.upd n3
      have g3 : (upd H1 p3 (.lst [.str "Letter", u0, u1, u2, u3])) p3 = some (.lst [.str "Letter", u0, u1, u2, u3]) := upd_same
      have c3 : Same K1 (upd H1 p3 (.lst [.str "Letter", u0, u1, u2, u3])) := c2.trans s2
      refine ⟨(by show 3 ≤ sizeLine; decide), fun p4 n4 => ?_⟩
      have s3 : Same (upd H1 p3 (.lst [.str "Letter", u0, u1, u2, u3])) (upd (upd H1 p3 (.lst [.str "Letter", u0, u1, u2, u3])) p4 (.tup [.ref x1, .ref x2, .ref p3])) := Same.upd n4
      have g4 : (upd (upd H1 p3 (.lst [.str "Letter", u0, u1, u2, u3])) p4 (.tup [.ref x1, .ref x2, .ref p3])) p4 = some (.tup [.ref x1, .ref x2, .ref p3]) := upd_same
      have c4 : Same K1 (upd (upd H1 p3 (.lst [.str "Letter", u0, u1, u2, u3])) p4 (.tup [.ref x1, .ref x2, .ref p3])) := c3.trans s3
      have t3 : Same (upd (upd H1 p3 (.lst [.str "Letter", u0, u1, u2, u3])) p4 (.tup [.ref x1, .ref x2, .ref p3])) (upd (upd H1 p3 (.lst [.str "Letter", u0, u1, u2, u3])) p4 (.tup [.ref x1, .ref x2, .ref p3])) := Same.refl _
      have t2 : Same (upd H1 p3 (.lst [.str "Letter", u0, u1, u2, u3])) (upd (upd H1 p3 (.lst [.str "Letter", u0, u1, u2, u3])) p4 (.tup [.ref x1, .ref x2, .ref p3])) := s3.trans t3
      have t1 : Same H1 (upd (upd H1 p3 (.lst [.str "Letter", u0, u1, u2, u3])) p4 (.tup [.ref x1, .ref x2, .ref p3])) := s2.trans t2
      have t0 : Same H0 (upd (upd H1 p3 (.lst [.str "Letter", u0, u1, u2, u3])) p4 (.tup [.ref x1, .ref x2, .ref p3])) := s1.trans t1
      have R0 : RowOk C 6 (upd (upd H1 p3 (.lst [.str "Letter", u0, u1, u2, u3])) p4 (.tup [.ref x1, .ref x2, .ref p3])) (.ref p4) ([a, b, c, d].map cp) := ⟨p4, x1, x2, p3, rfl, t3 _ _ g4, o1.same t0, o2.same t1, Rp.same t2 _ _ (.lst g3 (.cons (.str _) (.cons (Rp.same c3 _ _ z0) (.cons (Rp.same c3 _ _ z1) (.cons (Rp.same c3 _ _ z2) (.cons (Rp.same c3 _ _ z3) .nil))))))⟩
      have g' : (upd (upd H1 p3 (.lst [.str "Letter", u0, u1, u2, u3])) p4 (.tup [.ref x1, .ref x2, .ref p3])) r = some (.lst ts) := c4 _ _ hrr
      refine ⟨r, ts, _, rfl, rfl, g', (by rw [hR.1]; show 6 < sizeLine; decide), ?_⟩
      have hR' := hR.same c4
      have hn : ∀ d, ¬ Rp (upd (upd H1 p3 (.lst [.str "Letter", u0, u1, u2, u3])) p4 (.tup [.ref x1, .ref x2, .ref p3])) (.ref r) d := by
        cases ts with
        | nil => exact nomatch hR.1
        | cons v ys => exact (hR'.2 0 v _ rfl rfl).notRef g'
      have D : Ch r (upd (upd H1 p3 (.lst [.str "Letter", u0, u1, u2, u3])) p4 (.tup [.ref x1, .ref x2, .ref p3])) (upd (upd (upd H1 p3 (.lst [.str "Letter", u0, u1, u2, u3])) p4 (.tup [.ref x1, .ref x2, .ref p3])) r (.lst (ts ++ [.ref p4]))) := Ch.upd
      refine ⟨r, ts ++ [.ref p4], rfl, fun b o e => D.at_ (ne_of_none e hr0) ((S0.trans c4) _ _ e), hr0, RpAll.chN hn D _ _ (RpAll.same c4 _ _ hv), RpAll.chN hn D _ _ (RpAll.same c4 _ _ hu), upd_same, ?_⟩
      exact RowsOk.snoc 6 (hR'.chN g' hn D) rfl (R0.chN g' hn D)
    refine ⟨MidR C H [v0, v1, v2, v3] [u0, u1, u2, u3] a b c d [[a, b, c], [a], [b], [c], [a, d], [b], [a, b, c, d], [a, b, c]], ?_, fun σ1 K1 m1 => ?_⟩
    · obtain ⟨r, ts, rfl, S0, hr0, hv, hu, hrr, hR⟩ := m1
      obtain ⟨_, _, _, _, e, e', w0, hw, _⟩ := hv.uncons (n := 3) rfl
      cases e
      cases e'
      obtain ⟨_, _, _, _, e, e', w1, hw, _⟩ := hw.uncons (n := 2) rfl
      cases e
      cases e'
      obtain ⟨_, _, _, _, e, e', w2, hw, _⟩ := hw.uncons (n := 1) rfl
      cases e
      cases e'
      obtain ⟨_, _, _, _, e, e', w3, hw, _⟩ := hw.uncons (n := 0) rfl
      cases e
      cases e'
      obtain ⟨_, _, _, _, e, e', z0, hw, _⟩ := hu.uncons (n := 3) rfl
      cases e
      cases e'
      obtain ⟨_, _, _, _, e, e', z1, hw, _⟩ := hw.uncons (n := 2) rfl
      cases e
      cases e'
      obtain ⟨_, _, _, _, e, e', z2, hw, _⟩ := hw.uncons (n := 1) rfl
      cases e
      cases e'
      obtain ⟨_, _, _, _, e, e', z3, hw, _⟩ := hw.uncons (n := 0) rfl
      cases e
      cases e'
      have c0 : Same K1 K1 := Same.refl _
      refine ⟨_, rfl, .inl ⟨rfl, _, SqL.of hrr⟩, ?_⟩
      refine ⟨_, rfl, _, rfl, _, rfl, ?_⟩
      intro x1 y1 nx1 ny1 ne1
      refine rd_make nx1 ny1 ne1 (ds := [a, b, c]) (.cons (Rp.same c0 _ _ w0) (.cons (Rp.same c0 _ _ w1) (.cons (Rp.same c0 _ _ w2) .nil))) rfl (fun H0 s0 o1 => ⟨rfl, ?_⟩)
      have c1 : Same K1 H0 := c0.trans s0
      refine ⟨_, rfl, _, rfl, _, rfl, ?_⟩
      refine ⟨rfl, rfl, ?_⟩
      intro x2 y2 nx2 ny2 ne2
      refine rd_make nx2 ny2 ne2 (ds := [a, b, c]) (.cons (Rp.same c1 _ _ w0) (.cons (Rp.same c1 _ _ w1) (.cons (Rp.same c1 _ _ w2) .nil))) rfl (fun H1 s1 o2 => ⟨rfl, ?_⟩)
      have c2 : Same K1 H1 := c1.trans s1
      refine ⟨_, rfl, _, rfl, _, rfl, (by show 4 ≤ sizeLine; decide), fun p3 n3 => ?_⟩
      have s2 : Same H1 (upd H1 p3 (.lst [.str "Field", u0, u1, u2])) := Same.upd n3
      have g3 : (upd H1 p3 (.lst [.str "Field", u0, u1, u2])) p3 = some (.lst [.str "Field", u0, u1, u2]) := upd_same
      have c3 : Same K1 (upd H1 p3 (.lst [.str "Field", u0, u1, u2])) := c2.trans s2
      refine ⟨(by show 3 ≤ sizeLine; decide), fun p4 n4 => ?_⟩
      have s3 : Same (upd H1 p3 (.lst [.str "Field", u0, u1, u2])) (upd (upd H1 p3 (.lst [.str "Field", u0, u1, u2])) p4 (.tup [.ref x1, .ref x2, .ref p3])) := Same.upd n4
      have g4 : (upd (upd H1 p3 (.lst [.str "Field", u0, u1, u2])) p4 (.tup [.ref x1, .ref x2, .ref p3])) p4 = some (.tup [.ref x1, .ref x2, .ref p3]) := upd_same
      have c4 : Same K1 (upd (upd H1 p3 (.lst [.str "Field", u0, u1, u2])) p4 (.tup [.ref x1, .ref x2, .ref p3])) := c3.trans s3
      have t3 : Same (upd (upd H1 p3 (.lst [.str "Field", u0, u1, u2])) p4 (.tup [.ref x1, .ref x2, .ref p3])) (upd (upd H1 p3 (.lst [.str "Field", u0, u1, u2])) p4 (.tup [.ref x1, .ref x2, .ref p3])) := Same.refl _
      have t2 : Same (upd H1 p3 (.lst [.str "Field", u0, u1, u2])) (upd (upd H1 p3 (.lst [.str "Field", u0, u1, u2])) p4 (.tup [.ref x1, .ref x2, .ref p3])) := s3.trans t3
      have t1 : Same H1 (upd (upd H1 p3 (.lst [.str "Field", u0, u1, u2])) p4 (.tup [.ref x1, .ref x2, .ref p3])) := s2.trans t2
      have t0 : Same H0 (upd (upd H1 p3 (.lst [.str "Field", u0, u1, u2])) p4 (.tup [.ref x1, .ref x2, .ref p3])) := s1.trans t1
      have R0 : RowOk C 7 (upd (upd H1 p3 (.lst [.str "Field", u0, u1, u2])) p4 (.tup [.ref x1, .ref x2, .ref p3])) (.ref p4) ([a, b, c].map cp) := ⟨p4, x1, x2, p3, rfl, t3 _ _ g4, o1.same t0, o2.same t1, Rp.same t2 _ _ (.lst g3 (.cons (.str _) (.cons (Rp.same c3 _ _ z0) (.cons (Rp.same c3 _ _ z1) (.cons (Rp.same c3 _ _ z2) .nil)))))⟩
      have g' : (upd (upd H1 p3 (.lst [.str "Field", u0, u1, u2])) p4 (.tup [.ref x1, .ref x2, .ref p3])) r = some (.lst ts) := c4 _ _ hrr
      refine ⟨r, ts, _, rfl, rfl, g', (by rw [hR.1]; show 7 < sizeLine; decide), ?_⟩
      have hR' := hR.same c4
      have hn : ∀ d, ¬ Rp (upd (upd H1 p3 (.lst [.str "Field", u0, u1, u2])) p4 (.tup [.ref x1, .ref x2, .ref p3])) (.ref r) d := by
        cases ts with
        | nil => exact nomatch hR.1
        | cons v ys => exact (hR'.2 0 v _ rfl rfl).notRef g'
      have D : Ch r (upd (upd H1 p3 (.lst [.str "Field", u0, u1, u2])) p4 (.tup [.ref x1, .ref x2, .ref p3])) (upd (upd (upd H1 p3 (.lst [.str "Field", u0, u1, u2])) p4 (.tup [.ref x1, .ref x2, .ref p3])) r (.lst (ts ++ [.ref p4]))) := Ch.upd
      refine ⟨r, ts ++ [.ref p4], rfl, fun b o e => D.at_ (ne_of_none e hr0) ((S0.trans c4) _ _ e), hr0, RpAll.chN hn D _ _ (RpAll.same c4 _ _ hv), RpAll.chN hn D _ _ (RpAll.same c4 _ _ hu), upd_same, ?_⟩
      exact RowsOk.snoc 7 (hR'.chN g' hn D) rfl (R0.chN g' hn D)
    refine ⟨MidR C H [v0, v1, v2, v3] [u0, u1, u2, u3] a b c d [[a, b, c], [a], [b], [c], [a, d], [b], [a, b, c, d], [a, b, c], [c, d]], ?_, fun σ1 K1 m1 => ?_⟩
    · obtain ⟨r, ts, rfl, S0, hr0, hv, hu, hrr, hR⟩ := m1
      obtain ⟨_, _, _, _, e, e', w0, hw, _⟩ := hv.uncons (n := 3) rfl
      cases e
      cases e'
      obtain ⟨_, _, _, _, e, e', w1, hw, _⟩ := hw.uncons (n := 2) rfl
      cases e
      cases e'
      obtain ⟨_, _, _, _, e, e', w2, hw, _⟩ := hw.uncons (n := 1) rfl
      cases e
      cases e'
      obtain ⟨_, _, _, _, e, e', w3, hw, _⟩ := hw.uncons (n := 0) rfl
      cases e
      cases e'
      obtain ⟨_, _, _, _, e, e', z0, hw, _⟩ := hu.uncons (n := 3) rfl
      cases e
      cases e'
      obtain ⟨_, _, _, _, e, e', z1, hw, _⟩ := hw.uncons (n := 2) rfl
      cases e
      cases e'
      obtain ⟨_, _, _, _, e, e', z2, hw, _⟩ := hw.uncons (n := 1) rfl
      cases e
      cases e'
      obtain ⟨_, _, _, _, e, e', z3, hw, _⟩ := hw.uncons (n := 0) rfl
      cases e
      cases e'
      have c0 : Same K1 K1 := Same.refl _
      refine ⟨_, rfl, .inl ⟨rfl, _, SqL.of hrr⟩, ?_⟩
      refine ⟨_, rfl, _, rfl, ?_⟩
      intro x1 y1 nx1 ny1 ne1
      refine rd_make nx1 ny1 ne1 (ds := [c, d]) (.cons (Rp.same c0 _ _ w2) (.cons (Rp.same c0 _ _ w3) .nil)) rfl (fun H0 s0 o1 => ⟨rfl, ?_⟩)
      have c1 : Same K1 H0 := c0.trans s0
      refine ⟨_, rfl, _, rfl, ?_⟩
      refine ⟨rfl, rfl, ?_⟩
      intro x2 y2 nx2 ny2 ne2
      refine rd_make nx2 ny2 ne2 (ds := [c, d]) (.cons (Rp.same c1 _ _ w2) (.cons (Rp.same c1 _ _ w3) .nil)) rfl (fun H1 s1 o2 => ⟨rfl, ?_⟩)
      have c2 : Same K1 H1 := c1.trans s1
      refine ⟨_, rfl, _, rfl, (by show 3 ≤ sizeLine; decide), fun p3 n3 => ?_⟩
      have s2 : Same H1 (upd H1 p3 (.lst [.str "Lead", u2, u3])) := Same.upd n3
      have g3 : (upd H1 p3 (.lst [.str "Lead", u2, u3])) p3 = some (.lst [.str "Lead", u2, u3]) := upd_same
      have c3 : Same K1 (upd H1 p3 (.lst [.str "Lead", u2, u3])) := c2.trans s2
      refine ⟨(by show 3 ≤ sizeLine; decide), fun p4 n4 => ?_⟩
      have s3 : Same (upd H1 p3 (.lst [.str "Lead", u2, u3])) (upd (upd H1 p3 (.lst [.str "Lead", u2, u3])) p4 (.tup [.ref x1, .ref x2, .ref p3])) := Same.upd n4
      have g4 : (upd (upd H1 p3 (.lst [.str "Lead", u2, u3])) p4 (.tup [.ref x1, .ref x2, .ref p3])) p4 = some (.tup [.ref x1, .ref x2, .ref p3]) := upd_same
      have c4 : Same K1 (upd (upd H1 p3 (.lst [.str "Lead", u2, u3])) p4 (.tup [.ref x1, .ref x2, .ref p3])) := c3.trans s3
      have t3 : Same (upd (upd H1 p3 (.lst [.str "Lead", u2, u3])) p4 (.tup [.ref x1, .ref x2, .ref p3])) (upd (upd H1 p3 (.lst [.str "Lead", u2, u3])) p4 (.tup [.ref x1, .ref x2, .ref p3])) := Same.refl _
      have t2 : Same (upd H1 p3 (.lst [.str "Lead", u2, u3])) (upd (upd H1 p3 (.lst [.str "Lead", u2, u3])) p4 (.tup [.ref x1, .ref x2, .ref p3])) := s3.trans t3
      have t1 : Same H1 (upd (upd H1 p3 (.lst [.str "Lead", u2, u3])) p4 (.tup [.ref x1, .ref x2, .ref p3])) := s2.trans t2
      have t0 : Same H0 (upd (upd H1 p3 (.lst [.str "Lead", u2, u3])) p4 (.tup [.ref x1, .ref x2, .ref p3])) := s1.trans t1
      have R0 : RowOk C 8 (upd (upd H1 p3 (.lst [.str "Lead", u2, u3])) p4 (.tup [.ref x1, .ref x2, .ref p3])) (.ref p4) ([c, d].map cp) := ⟨p4, x1, x2, p3, rfl, t3 _ _ g4, o1.same t0, o2.same t1, Rp.same t2 _ _ (.lst g3 (.cons (.str _) (.cons (Rp.same c3 _ _ z2) (.cons (Rp.same c3 _ _ z3) .nil))))⟩
      have g' : (upd (upd H1 p3 (.lst [.str "Lead", u2, u3])) p4 (.tup [.ref x1, .ref x2, .ref p3])) r = some (.lst ts) := c4 _ _ hrr
      refine ⟨r, ts, _, rfl, rfl, g', (by rw [hR.1]; show 8 < sizeLine; decide), ?_⟩
      have hR' := hR.same c4
      have hn : ∀ d, ¬ Rp (upd (upd H1 p3 (.lst [.str "Lead", u2, u3])) p4 (.tup [.ref x1, .ref x2, .ref p3])) (.ref r) d := by
        cases ts with
        | nil => exact nomatch hR.1
        | cons v ys => exact (hR'.2 0 v _ rfl rfl).notRef g'
      have D : Ch r (upd (upd H1 p3 (.lst [.str "Lead", u2, u3])) p4 (.tup [.ref x1, .ref x2, .ref p3])) (upd (upd (upd H1 p3 (.lst [.str "Lead", u2, u3])) p4 (.tup [.ref x1, .ref x2, .ref p3])) r (.lst (ts ++ [.ref p4]))) := Ch.upd
      refine ⟨r, ts ++ [.ref p4], rfl, fun b o e => D.at_ (ne_of_none e hr0) ((S0.trans c4) _ _ e), hr0, RpAll.chN hn D _ _ (RpAll.same c4 _ _ hv), RpAll.chN hn D _ _ (RpAll.same c4 _ _ hu), upd_same, ?_⟩
      exact RowsOk.snoc 8 (hR'.chN g' hn D) rfl (R0.chN g' hn D)
    refine ⟨MidR C H [v0, v1, v2, v3] [u0, u1, u2, u3] a b c d [[a, b, c], [a], [b], [c], [a, d], [b], [a, b, c, d], [a, b, c], [c, d], [a, b, c]], ?_, fun σ1 K1 m1 => ?_⟩
    · obtain ⟨r, ts, rfl, S0, hr0, hv, hu, hrr, hR⟩ := m1
      obtain ⟨_, _, _, _, e, e', w0, hw, _⟩ := hv.uncons (n := 3) rfl
      cases e
      cases e'
      obtain ⟨_, _, _, _, e, e', w1, hw, _⟩ := hw.uncons (n := 2) rfl
      cases e
      cases e'
      obtain ⟨_, _, _, _, e, e', w2, hw, _⟩ := hw.uncons (n := 1) rfl
      cases e
      cases e'
      obtain ⟨_, _, _, _, e, e', w3, hw, _⟩ := hw.uncons (n := 0) rfl
      cases e
      cases e'
      obtain ⟨_, _, _, _, e, e', z0, hw, _⟩ := hu.uncons (n := 3) rfl
      cases e
      cases e'
      obtain ⟨_, _, _, _, e, e', z1, hw, _⟩ := hw.uncons (n := 2) rfl
      cases e
      cases e'
      obtain ⟨_, _, _, _, e, e', z2, hw, _⟩ := hw.uncons (n := 1) rfl
      cases e
      cases e'
      obtain ⟨_, _, _, _, e, e', z3, hw, _⟩ := hw.uncons (n := 0) rfl
      cases e
      cases e'
      have c0 : Same K1 K1 := Same.refl _
      refine ⟨_, rfl, .inl ⟨rfl, _, SqL.of hrr⟩, ?_⟩
      refine ⟨_, rfl, _, rfl, _, rfl, ?_⟩
      intro x1 y1 nx1 ny1 ne1
      refine rd_make nx1 ny1 ne1 (ds := [a, b, c]) (.cons (Rp.same c0 _ _ w0) (.cons (Rp.same c0 _ _ w1) (.cons (Rp.same c0 _ _ w2) .nil))) rfl (fun H0 s0 o1 => ⟨rfl, ?_⟩)
      have c1 : Same K1 H0 := c0.trans s0
      refine ⟨_, rfl, _, rfl, _, rfl, ?_⟩
      refine ⟨rfl, rfl, ?_⟩
      intro x2 y2 nx2 ny2 ne2
      refine rd_make nx2 ny2 ne2 (ds := [a, b, c]) (.cons (Rp.same c1 _ _ w0) (.cons (Rp.same c1 _ _ w1) (.cons (Rp.same c1 _ _ w2) .nil))) rfl (fun H1 s1 o2 => ⟨rfl, ?_⟩)
      have c2 : Same K1 H1 := c1.trans s1
      refine ⟨_, rfl, _, rfl, _, rfl, (by show 4 ≤ sizeLine; decide), fun p3 n3 => ?_⟩
      have s2 : Same H1 (upd H1 p3 (.lst [.str "Model", u0, u1, u2])) := Same.upd n3
      have g3 : (upd H1 p3 (.lst [.str "Model", u0, u1, u2])) p3 = some (.lst [.str "Model", u0, u1, u2]) := upd_same
      have c3 : Same K1 (upd H1 p3 (.lst [.str "Model", u0, u1, u2])) := c2.trans s2
      refine ⟨(by show 3 ≤ sizeLine; decide), fun p4 n4 => ?_⟩
      have s3 : Same (upd H1 p3 (.lst [.str "Model", u0, u1, u2])) (upd (upd H1 p3 (.lst [.str "Model", u0, u1, u2])) p4 (.tup [.ref x1, .ref x2, .ref p3])) := Same.upd n4
      have g4 : (upd (upd H1 p3 (.lst [.str "Model", u0, u1, u2])) p4 (.tup [.ref x1, .ref x2, .ref p3])) p4 = some (.tup [.ref x1, .ref x2, .ref p3]) := upd_same
      have c4 : Same K1 (upd (upd H1 p3 (.lst [.str "Model", u0, u1, u2])) p4 (.tup [.ref x1, .ref x2, .ref p3])) := c3.trans s3
      have t3 : Same (upd (upd H1 p3 (.lst [.str "Model", u0, u1, u2])) p4 (.tup [.ref x1, .ref x2, .ref p3])) (upd (upd H1 p3 (.lst [.str "Model", u0, u1, u2])) p4 (.tup [.ref x1, .ref x2, .ref p3])) := Same.refl _
      have t2 : Same (upd H1 p3 (.lst [.str "Model", u0, u1, u2])) (upd (upd H1 p3 (.lst [.str "Model", u0, u1, u2])) p4 (.tup [.ref x1, .ref x2, .ref p3])) := s3.trans t3
      have t1 : Same H1 (upd (upd H1 p3 (.lst [.str "Model", u0, u1, u2])) p4 (.tup [.ref x1, .ref x2, .ref p3])) := s2.trans t2
      have t0 : Same H0 (upd (upd H1 p3 (.lst [.str "Model", u0, u1, u2])) p4 (.tup [.ref x1, .ref x2, .ref p3])) := s1.trans t1
      have R0 : RowOk C 9 (upd (upd H1 p3 (.lst [.str "Model", u0, u1, u2])) p4 (.tup [.ref x1, .ref x2, .ref p3])) (.ref p4) ([a, b, c].map cp) := ⟨p4, x1, x2, p3, rfl, t3 _ _ g4, o1.same t0, o2.same t1, Rp.same t2 _ _ (.lst g3 (.cons (.str _) (.cons (Rp.same c3 _ _ z0) (.cons (Rp.same c3 _ _ z1) (.cons (Rp.same c3 _ _ z2) .nil)))))⟩
      have g' : (upd (upd H1 p3 (.lst [.str "Model", u0, u1, u2])) p4 (.tup [.ref x1, .ref x2, .ref p3])) r = some (.lst ts) := c4 _ _ hrr
      refine ⟨r, ts, _, rfl, rfl, g', (by rw [hR.1]; show 9 < sizeLine; decide), ?_⟩
      have hR' := hR.same c4
      have hn : ∀ d, ¬ Rp (upd (upd H1 p3 (.lst [.str "Model", u0, u1, u2])) p4 (.tup [.ref x1, .ref x2, .ref p3])) (.ref r) d := by
        cases ts with
        | nil => exact nomatch hR.1
        | cons v ys => exact (hR'.2 0 v _ rfl rfl).notRef g'
      have D : Ch r (upd (upd H1 p3 (.lst [.str "Model", u0, u1, u2])) p4 (.tup [.ref x1, .ref x2, .ref p3])) (upd (upd (upd H1 p3 (.lst [.str "Model", u0, u1, u2])) p4 (.tup [.ref x1, .ref x2, .ref p3])) r (.lst (ts ++ [.ref p4]))) := Ch.upd
      refine ⟨r, ts ++ [.ref p4], rfl, fun b o e => D.at_ (ne_of_none e hr0) ((S0.trans c4) _ _ e), hr0, RpAll.chN hn D _ _ (RpAll.same c4 _ _ hv), RpAll.chN hn D _ _ (RpAll.same c4 _ _ hu), upd_same, ?_⟩
      exact RowsOk.snoc 9 (hR'.chN g' hn D) rfl (R0.chN g' hn D)
    refine ⟨MidR C H [v0, v1, v2, v3] [u0, u1, u2, u3] a b c d [[a, b, c], [a], [b], [c], [a, d], [b], [a, b, c, d], [a, b, c], [c, d], [a, b, c], [a, b, c, d, a, b]], ?_, fun σ1 K1 m1 => ?_⟩
    · obtain ⟨r, ts, rfl, S0, hr0, hv, hu, hrr, hR⟩ := m1
      obtain ⟨_, _, _, _, e, e', w0, hw, _⟩ := hv.uncons (n := 3) rfl
      cases e
      cases e'
      obtain ⟨_, _, _, _, e, e', w1, hw, _⟩ := hw.uncons (n := 2) rfl
      cases e
      cases e'
      obtain ⟨_, _, _, _, e, e', w2, hw, _⟩ := hw.uncons (n := 1) rfl
      cases e
      cases e'
      obtain ⟨_, _, _, _, e, e', w3, hw, _⟩ := hw.uncons (n := 0) rfl
      cases e
      cases e'
      obtain ⟨_, _, _, _, e, e', z0, hw, _⟩ := hu.uncons (n := 3) rfl
      cases e
      cases e'
      obtain ⟨_, _, _, _, e, e', z1, hw, _⟩ := hw.uncons (n := 2) rfl
      cases e
      cases e'
      obtain ⟨_, _, _, _, e, e', z2, hw, _⟩ := hw.uncons (n := 1) rfl
      cases e
      cases e'
      obtain ⟨_, _, _, _, e, e', z3, hw, _⟩ := hw.uncons (n := 0) rfl
      cases e
      cases e'
      have c0 : Same K1 K1 := Same.refl _
      refine ⟨_, rfl, .inl ⟨rfl, _, SqL.of hrr⟩, ?_⟩
      refine ⟨_, rfl, _, rfl, _, rfl, _, rfl, _, rfl, _, rfl, ?_⟩
      intro x1 y1 nx1 ny1 ne1
      refine rd_make nx1 ny1 ne1 (ds := [a, b, c, d, a, b]) (.cons (Rp.same c0 _ _ w0) (.cons (Rp.same c0 _ _ w1) (.cons (Rp.same c0 _ _ w2) (.cons (Rp.same c0 _ _ w3) (.cons (Rp.same c0 _ _ w0) (.cons (Rp.same c0 _ _ w1) .nil)))))) rfl (fun H0 s0 o1 => ⟨rfl, ?_⟩)
      have c1 : Same K1 H0 := c0.trans s0
      refine ⟨_, rfl, _, rfl, _, rfl, _, rfl, _, rfl, _, rfl, ?_⟩
      refine ⟨rfl, rfl, ?_⟩
      intro x2 y2 nx2 ny2 ne2
      refine rd_make nx2 ny2 ne2 (ds := [a, b, c, d, a, b]) (.cons (Rp.same c1 _ _ w0) (.cons (Rp.same c1 _ _ w1) (.cons (Rp.same c1 _ _ w2) (.cons (Rp.same c1 _ _ w3) (.cons (Rp.same c1 _ _ w0) (.cons (Rp.same c1 _ _ w1) .nil)))))) rfl (fun H1 s1 o2 => ⟨rfl, ?_⟩)
      have c2 : Same K1 H1 := c1.trans s1
      refine ⟨_, rfl, _, rfl, _, rfl, _, rfl, _, rfl, _, rfl, (by show 7 ≤ sizeLine; decide), fun p3 n3 => ?_⟩
      have s2 : Same H1 (upd H1 p3 (.lst [.str "Paper", u0, u1, u2, u3, u0, u1])) := Same.upd n3
      have g3 : (upd H1 p3 (.lst [.str "Paper", u0, u1, u2, u3, u0, u1])) p3 = some (.lst [.str "Paper", u0, u1, u2, u3, u0, u1]) := upd_same
      have c3 : Same K1 (upd H1 p3 (.lst [.str "Paper", u0, u1, u2, u3, u0, u1])) := c2.trans s2
      refine ⟨(by show 3 ≤ sizeLine; decide), fun p4 n4 => ?_⟩
      have s3 : Same (upd H1 p3 (.lst [.str "Paper", u0, u1, u2, u3, u0, u1])) (upd (upd H1 p3 (.lst [.str "Paper", u0, u1, u2, u3, u0, u1])) p4 (.tup [.ref x1, .ref x2, .ref p3])) := Same.upd n4
      have g4 : (upd (upd H1 p3 (.lst [.str "Paper", u0, u1, u2, u3, u0, u1])) p4 (.tup [.ref x1, .ref x2, .ref p3])) p4 = some (.tup [.ref x1, .ref x2, .ref p3]) := upd_same
      have c4 : Same K1 (upd (upd H1 p3 (.lst [.str "Paper", u0, u1, u2, u3, u0, u1])) p4 (.tup [.ref x1, .ref x2, .ref p3])) := c3.trans s3
      have t3 : Same (upd (upd H1 p3 (.lst [.str "Paper", u0, u1, u2, u3, u0, u1])) p4 (.tup [.ref x1, .ref x2, .ref p3])) (upd (upd H1 p3 (.lst [.str "Paper", u0, u1, u2, u3, u0, u1])) p4 (.tup [.ref x1, .ref x2, .ref p3])) := Same.refl _
      have t2 : Same (upd H1 p3 (.lst [.str "Paper", u0, u1, u2, u3, u0, u1])) (upd (upd H1 p3 (.lst [.str "Paper", u0, u1, u2, u3, u0, u1])) p4 (.tup [.ref x1, .ref x2, .ref p3])) := s3.trans t3
      have t1 : Same H1 (upd (upd H1 p3 (.lst [.str "Paper", u0, u1, u2, u3, u0, u1])) p4 (.tup [.ref x1, .ref x2, .ref p3])) := s2.trans t2
      have t0 : Same H0 (upd (upd H1 p3 (.lst [.str "Paper", u0, u1, u2, u3, u0, u1])) p4 (.tup [.ref x1, .ref x2, .ref p3])) := s1.trans t1
      have R0 : RowOk C 10 (upd (upd H1 p3 (.lst [.str "Paper", u0, u1, u2, u3, u0, u1])) p4 (.tup [.ref x1, .ref x2, .ref p3])) (.ref p4) ([a, b, c, d, a, b].map cp) := ⟨p4, x1, x2, p3, rfl, t3 _ _ g4, o1.same t0, o2.same t1, Rp.same t2 _ _ (.lst g3 (.cons (.str _) (.cons (Rp.same c3 _ _ z0) (.cons (Rp.same c3 _ _ z1) (.cons (Rp.same c3 _ _ z2) (.cons (Rp.same c3 _ _ z3) (.cons (Rp.same c3 _ _ z0) (.cons (Rp.same c3 _ _ z1) .nil))))))))⟩
      have g' : (upd (upd H1 p3 (.lst [.str "Paper", u0, u1, u2, u3, u0, u1])) p4 (.tup [.ref x1, .ref x2, .ref p3])) r = some (.lst ts) := c4 _ _ hrr
      refine ⟨r, ts, _, rfl, rfl, g', (by rw [hR.1]; show 10 < sizeLine; decide), ?_⟩
      have hR' := hR.same c4
      have hn : ∀ d, ¬ Rp (upd (upd H1 p3 (.lst [.str "Paper", u0, u1, u2, u3, u0, u1])) p4 (.tup [.ref x1, .ref x2, .ref p3])) (.ref r) d := by
        cases ts with
        | nil => exact nomatch hR.1
        | cons v ys => exact (hR'.2 0 v _ rfl rfl).notRef g'
      have D : Ch r (upd (upd H1 p3 (.lst [.str "Paper", u0, u1, u2, u3, u0, u1])) p4 (.tup [.ref x1, .ref x2, .ref p3])) (upd (upd (upd H1 p3 (.lst [.str "Paper", u0, u1, u2, u3, u0, u1])) p4 (.tup [.ref x1, .ref x2, .ref p3])) r (.lst (ts ++ [.ref p4]))) := Ch.upd
      refine ⟨r, ts ++ [.ref p4], rfl, fun b o e => D.at_ (ne_of_none e hr0) ((S0.trans c4) _ _ e), hr0, RpAll.chN hn D _ _ (RpAll.same c4 _ _ hv), RpAll.chN hn D _ _ (RpAll.same c4 _ _ hu), upd_same, ?_⟩
      exact RowsOk.snoc 10 (hR'.chN g' hn D) rfl (R0.chN g' hn D)
    obtain ⟨r, ts, rfl, S0, hr0, hv, hu, hrr, hR⟩ := m1
    exact ⟨_, rfl, k r ts K1 S0 hrr hR⟩
end
end GP
namespace GP
open PySem PySem.Spec PyProof.Rows L2

/-! ### the pen: what is drawn -/
abbrev kS (x : Str) : Key := .inr x
theorem ns_ca : ¬ kS "cells" = kS "at" := by decide +kernel
theorem ns_cd : ¬ kS "cells" = kS "digits" := by decide +kernel
theorem ns_cc : ¬ kS "cells" = kS "count" := by decide +kernel
theorem ns_cf : ¬ kS "cells" = kS "fold" := by decide +kernel
theorem ns_ad : ¬ kS "at" = kS "digits" := by decide +kernel
theorem ns_ac : ¬ kS "at" = kS "count" := by decide +kernel
theorem ns_af : ¬ kS "at" = kS "fold" := by decide +kernel
theorem ns_dc : ¬ kS "digits" = kS "count" := by decide +kernel
theorem ns_df : ¬ kS "digits" = kS "fold" := by decide +kernel
theorem ns_of : ¬ kS "count" = kS "fold" := by decide +kernel
def penL (c : Addr) (a d n f : Int) : List (Key × V) := [(kS "cells", .ref c), (kS "at", .int a), (kS "digits", .int d), (kS "count", .int n), (kS "fold", .int f)]
section
variable {c : Addr} {a d n f z : Int}
theorem pen_c : valV (penL c a d n f) (kS "cells") = some (.ref c) := valV_pos rfl
theorem pen_a : valV (penL c a d n f) (kS "at") = some (.int a) := (valV_neg ns_ca).trans (valV_pos rfl)
theorem pen_d : valV (penL c a d n f) (kS "digits") = some (.int d) := (valV_neg ns_cd).trans ((valV_neg ns_ad).trans (valV_pos rfl))
theorem pen_n : valV (penL c a d n f) (kS "count") = some (.int n) := (valV_neg ns_cc).trans ((valV_neg ns_ac).trans ((valV_neg ns_dc).trans (valV_pos rfl)))
theorem pen_f : valV (penL c a d n f) (kS "fold") = some (.int f) := (valV_neg ns_cf).trans ((valV_neg ns_af).trans ((valV_neg ns_df).trans ((valV_neg ns_of).trans (valV_pos rfl))))
theorem putK_eq {kvs : List (Key × V)} {k : Key} {v : V} (h : (valV kvs k).isSome = true) : putK kvs k v = kvs.map fun kv => if kv.1 = k then (kv.1, v) else kv := by
  unfold putK
  rw [if_pos (by rw [valV_any]; exact h)]
theorem put_a : putK (penL c a d n f) (kS "at") (.int z) = penL c z d n f := by
  rw [putK_eq (by rw [pen_a]; rfl)]
  simp only [penL, List.map_cons, List.map_nil, if_neg ns_ca, if_neg (Ne.symm ns_ad), if_neg (Ne.symm ns_ac), if_neg (Ne.symm ns_af)]
  rfl
theorem put_d : putK (penL c a d n f) (kS "digits") (.int z) = penL c a z n f := by
  rw [putK_eq (by rw [pen_d]; rfl)]
  simp only [penL, List.map_cons, List.map_nil, if_neg ns_cd, if_neg ns_ad, if_neg (Ne.symm ns_dc), if_neg (Ne.symm ns_df)]
  rfl
theorem put_n : putK (penL c a d n f) (kS "count") (.int z) = penL c a d z f := by
  rw [putK_eq (by rw [pen_n]; rfl)]
  simp only [penL, List.map_cons, List.map_nil, if_neg ns_cc, if_neg ns_ac, if_neg ns_dc, if_neg (Ne.symm ns_of)]
  rfl
theorem put_f : putK (penL c a d n f) (kS "fold") (.int z) = penL c a d n z := by
  rw [putK_eq (by rw [pen_f]; rfl)]
  simp only [penL, List.map_cons, List.map_nil, if_neg ns_cf, if_neg ns_af, if_neg ns_df, if_neg ns_of]
  rfl
theorem pen_merge : mergeK [] (penL c a d n f) = penL c a d n f := by
  unfold mergeK penL
  simp only [List.foldl_cons, List.foldl_nil]
  rw [putK_new (kvs := []) _ valV_nil]
  rw [putK_new (k := kS "at") _ (by show valV [_] _ = none; rw [valV_neg ns_ca]; exact valV_nil)]
  rw [putK_new (k := kS "digits") _ (by show valV [_, _] _ = none; rw [valV_neg ns_cd, valV_neg ns_ad]; exact valV_nil)]
  rw [putK_new (k := kS "count") _ (by show valV [_, _, _] _ = none; rw [valV_neg ns_cc, valV_neg ns_ac, valV_neg ns_dc]; exact valV_nil)]
  rw [putK_new (k := kS "fold") _ (by show valV [_, _, _, _] _ = none; rw [valV_neg ns_cf, valV_neg ns_af, valV_neg ns_df, valV_neg ns_of]; exact valV_nil)]
  rfl
end
/-- the pen at p, drawn of n times -/
def PenAt (p c : Addr) (ns : List Int) (H : Hp) (n : Int) : Prop :=
  ∃ (a d f : Int), H p = some (.dK (penL c a d n f)) ∧ H c = some (.lst (ns.map V.int)) ∧ ns.length ≤ 63 ∧ 0 ≤ a ∧ 0 ≤ d ∧ 0 ≤ f ∧ f < 2147483648
theorem PenAt.same {p c : Addr} {ns : List Int} {H H' : Hp} {n : Int} (s : Same H H') (h : PenAt p c ns H n) : PenAt p c ns H' n :=
  let ⟨a, d, f, h1, h2, h3⟩ := h
  ⟨a, d, f, s _ _ h1, s _ _ h2, h3⟩
def spPen (K : PySem.W.Frag) : Sp := fun vs H Q _ => ∃ (a : Addr) (ns : List Int), vs = [.ref a] ∧ SqL K H a (ns.map V.int) ∧ ns.length ≤ 63 ∧ ∀ p c H', Same H H' → PenAt p c ns H' 0 → Q (.ref p) H'
def spDraw : Sp := fun vs H Q _ => ∃ (p c : Addr) (ns : List Int) (n m : Int), vs = [.ref p, .int m] ∧ PenAt p c ns H n ∧ 0 ≤ n ∧ n ≤ 100000 ∧ 0 < m ∧ m < 100000 ∧
  ∀ (r : Int) (H' : Hp), 0 ≤ r → r < m → Ch p H H' → PenAt p c ns H' (n + 1) → Q (.int r) H'
section
variable {P : Program} {w : World} {K : PySem.W.Frag} {mg : Str → Option Value} {base : Heap} {C : Nat → Addr}
abbrev sPen : Stmt := top 22
theorem scPen : FnScope ["script", "fold", "cell"] ["script"] (defScope sPen) := ⟨rfl, rfl, rfl, by decide +kernel, rfl, by decide +kernel, by decide +kernel⟩
theorem ok_pen {f : Addr} {fd : FuncData} (F : Fun K "_law_pen" "_law_pen" sPen f fd) (T : Txt K mg C) : FnOk P w K mg base CX0 1 f fd ["script"] (spPen K) := by
  refine F.ok scPen (fun vs H Q E h => ?_) (fun cdv A outer s H vs Q E hr h => ?_)
  · obtain ⟨a, ns, rfl, _⟩ := h
    rfl
  · obtain ⟨a, ns, rfl, hS, hl, k⟩ := h
    refine ⟨_, pss_cons (ps_set (i := 1) scPen.nd rfl (Or.inl rfl) pe_int) (pss_cons (ps_for PassesOwn.never rfl (pi_list (pv 0)) (pg_name (i := 2) scPen.nd rfl (Or.inl rfl))
      (pss_one (ps_set (i := 1) scPen.nd rfl (Or.inl rfl) (pe_op op_mod (pe_callTy call_int1 (by rfl) T.int (by decide +kernel) (pa_cons (pe_op op_add (pe_op op_mul (pv 1) pe_int) (pv 2)) pa_nil)) pe_int))))
      (pss_one (ps_ret (pe_disp (pps_cons pe_str (pe_callTy call_list_of (by rfl) T.list Pv.boot_list (pa_cons (pv 0) pa_nil)) (pps_cons pe_str pe_int (pps_cons pe_str pe_int (pps_cons pe_str pe_int (pps_cons pe_str (pv 1) pps_nil)))))
        (by rfl) (by rfl) (fun z => by cases z) (by decide))))), ?_⟩
    refine ⟨_, rfl, a, rfl, ⟨_, hS⟩, for_list (K := K) (a := a) (xs := ns.map V.int) (fun i σ H' => ∃ (g : Int) (v : Option V), σ = [some (.ref a), some (.int g), v] ∧ H' = H ∧ 0 ≤ g ∧ g < 2147483648) ⟨0, none, rfl, rfl, by decide, by decide⟩
      (fun i σ H' _ ⟨_, _, _, e, _⟩ => by rw [e]; exact hS) ?_ ?_⟩
    · rintro i y σ H' hi ⟨g, v, rfl, rfl, g0, g1⟩
      obtain ⟨u, rfl⟩ : ∃ u, y = V.int u := by
        rw [List.getElem?_map] at hi
        cases e : ns[i]? with
        | none => rw [e] at hi; cases hi
        | some u => rw [e] at hi; exact ⟨u, (Option.some.inj hi).symm⟩
      refine ⟨_, rfl, _, _, rfl, rfl, .inl ⟨by omega, by omega⟩, _, rfl, _, _, rfl, rfl, .inl ⟨_, rfl, _, _, rfl, rfl, (by show (0 : Int) < 999999223; decide), ?_⟩⟩
      exact ⟨_, _, rfl, rfl, Int.emod_nonneg _ (by decide), Int.lt_trans (Int.emod_lt_of_pos _ (by decide)) (by decide)⟩
    · rintro σ H' ⟨g, v, rfl, rfl, g0, g1⟩
      refine fun p np => ⟨_, rfl, a, _, rfl, .inl (Same.seq (Same.upd np) hS), fun l nl => ⟨_, rfl, ?_⟩⟩
      have lp : l ≠ p := fun e => by rw [e, upd_same] at nl; cases nl
      refine ⟨by rw [upd_ne (Ne.symm lp)]; exact upd_same, penL l 0 0 0 g, rfl, by show 5 ≤ 15; decide, ?_⟩
      have hl0 : H' l = none := by rw [upd_ne lp] at nl; exact nl
      refine k p l _ (fun b o e => ?_) ⟨0, 0, g, by rw [upd_same, pen_merge], by rw [upd_ne lp]; exact upd_same, hl, by decide, by decide, g0, g1⟩
      rw [upd_ne (ne_of_none e np), upd_ne (ne_of_none e hl0), upd_ne (ne_of_none e np)]
      exact e
end
end GP
namespace GP
open PySem PySem.Spec PyProof.Rows L2
section
variable {P : Program} {w : World} {K : PySem.W.Frag} {mg : Str → Option Value} {base : Heap} {C : Nat → Addr}
abbrev sDraw : Stmt := top 23
theorem scDraw : FnScope ["pen", "many", "cell", "digit", "blend"] ["pen", "many"] (defScope sDraw) := ⟨rfl, rfl, rfl, by decide +kernel, rfl, by decide +kernel, by decide +kernel⟩
theorem emod_bd {x m : Int} (h : 0 < m) : 0 ≤ x % m ∧ x % m < m := ⟨Int.emod_nonneg _ (by omega), Int.emod_lt_of_pos _ h⟩
/-- the pen as it stands: the cells at c stay -/
def PenS (p c : Addr) (ns : List Int) (H0 H : Hp) (a d n f : Int) : Prop :=
  H p = some (.dK (penL c a d n f)) ∧ H c = some (.lst (ns.map V.int)) ∧ Ch p H0 H ∧ 0 ≤ a ∧ 0 ≤ d ∧ 0 ≤ f ∧ f < 2147483648
theorem ok_draw {f : Addr} {fd : FuncData} (F : Fun K "_law_draw" "_law_draw" sDraw f fd) (T : Txt K mg C) : FnOk P w K mg base CX0 1 f fd ["pen", "many"] spDraw := by
  refine F.ok scDraw (fun vs H Q E h => ?_) (fun cdv A outer s H vs Q E hr h => ?_)
  · obtain ⟨p, c, ns, n, m, rfl, _⟩ := h
    rfl
  · obtain ⟨p, c, ns, n, m, rfl, hp, n0, n1, m0, m1, k⟩ := h
    obtain ⟨a, d, g, hp, hc, hl, a0, d0, g0, g1⟩ := hp
    have hu := hu_of hr
    have cp : c ≠ p := fun e => by rw [e, hp] at hc; cases hc
    refine ⟨_, C8.pss_cut (ps_dput hu (pv 0) pe_str (pe_op op_add (pe_dget hu (pv 0) pe_str (fun _ _ => rfl)) pe_int) rfl)
      (C8.pss_cut (ps_if (PW.pt (pw_and (pt_cmpR op_eq (pe_dget hu (pv 0) pe_str (fun _ _ => rfl)) pe_int (nomark _))
          (pw_and1 (pt_cmpR op_lt (pe_dget hu (pv 0) pe_str (fun _ _ => rfl)) (pe_callB call_len_seq (by rfl) T.len PySem.boot_len (pa_cons (pe_dget hu (pv 0) pe_str (fun _ _ => rfl)) pa_nil)) (nomark _)))))
        (pss_cons (ps_set (i := 2) scDraw.nd rfl (Or.inl rfl) (pe_ix ix_list (pe_dget hu (pv 0) pe_str (fun _ _ => rfl)) (pe_dget hu (pv 0) pe_str (fun _ _ => rfl)) (fun _ _ => rfl)))
          (pss_cons (ps_dput hu (pv 0) pe_str (pe_op op_add (pe_dget hu (pv 0) pe_str (fun _ _ => rfl)) pe_int) rfl)
          (pss_one (ps_if (pt_cmpR op_ge (pv 2) (pe_op op_pow pe_int pe_int) (nomark _))
            (pss_one (ps_dput hu (pv 0) pe_str (pe_op op_sub (pv 2) (pe_op op_pow pe_int pe_int)) rfl))
            (pss_one (ps_dput hu (pv 0) pe_str (pe_op op_mod (pe_callTy call_int1 (by rfl) T.int (by decide +kernel) (pa_cons (pe_op op_add (pe_op op_mul (pe_dget hu (pv 0) pe_str (fun _ _ => rfl)) pe_int) (pv 2)) pa_nil)) pe_int) rfl))))))
        pss_nil)
      (pss_cons (ps_if (pt_cmpR op_gt (pe_dget hu (pv 0) pe_str (fun _ _ => rfl)) pe_int (nomark _))
        (pss_cons (ps_set (i := 3) scDraw.nd rfl (Or.inl rfl) (pe_op op_mod (pe_callTy call_int1 (by rfl) T.int (by decide +kernel) (pa_cons (pe_dget hu (pv 0) pe_str (fun _ _ => rfl)) pa_nil)) (pv 1)))
          (pss_cons (ps_dput hu (pv 0) pe_str (pe_op op_fdiv (pe_dget hu (pv 0) pe_str (fun _ _ => rfl)) (pv 1)) rfl) (pss_one (ps_ret (pv 3)))))
        pss_nil)
      (pss_cons (ps_set (i := 4) scDraw.nd rfl (Or.inl rfl) (pe_op op_add (pe_op op_add (pe_dget hu (pv 0) pe_str (fun _ _ => rfl)) (pe_op op_mul (pe_dget hu (pv 0) pe_str (fun _ _ => rfl)) pe_int)) pe_int))
      (pss_one (ps_ret (pe_op op_mod (pe_op op_fdiv (pe_callTy call_int1 (by rfl) T.int (by decide +kernel) (pa_cons (pe_op op_mod (pe_op op_pow (pv 4) pe_int) pe_int) pa_nil)) pe_int) (pv 1))))))), ?_⟩
    have five : (penL c a d n g).length < sizeLine := by show 5 < sizeLine; decide
    -- the count
    refine ⟨fun σ H' => σ = [some (.ref p), some (.int m), none, none, none] ∧ PenS p c ns H H' a d (n + 1) g, ?_, ?_⟩
    · refine ⟨_, rfl, p, _, rfl, pen_n ▸ DGet.k (k := kS "count") hp, _, _, rfl, rfl, _, rfl, p, _, rfl, DPut.k (k := kS "count") hp five, ?_⟩
      rw [put_n]
      exact ⟨rfl, upd_same, by rw [upd_ne cp]; exact hc, Ch.upd, a0, d0, g0, g1⟩
    rintro σ H1 ⟨rfl, hp1, hc1, ch1, _, _, _, _⟩
    refine ⟨fun σ H' => ∃ v a' d' g', σ = [some (.ref p), some (.int m), v, none, none] ∧ PenS p c ns H H' a' d' (n + 1) g', ?_, ?_⟩
    · refine ⟨_, rfl, p, _, rfl, pen_d ▸ DGet.k (k := kS "digits") hp1, rfl, _, rfl, bl_cases (fun _ => ?_) (fun _ => ?_)⟩
      · refine ⟨_, rfl, p, _, rfl, pen_a ▸ DGet.k (k := kS "at") hp1, _, rfl, p, _, rfl, pen_c ▸ DGet.k (k := kS "cells") hp1, c, _, rfl, .inl (SqL.of hc1), _, _, rfl, rfl, _, rfl, bl_cases (fun hlt => ?_) (fun _ => ?_)⟩
        · have hlt' : a < ((ns.map V.int).length : Int) := of_decide_eq_true hlt
          rw [List.length_map] at hlt'
          obtain ⟨j, rfl⟩ : ∃ j : Nat, a = (j : Int) := ⟨a.toNat, by omega⟩
          have hj : j < ns.length := by omega
          have hv : (ns.map V.int)[j]? = some (.int ns[j]) := by rw [List.getElem?_map, List.getElem?_eq_getElem hj]; rfl
          refine ⟨_, rfl, p, _, rfl, pen_c ▸ DGet.k (k := kS "cells") hp1, _, rfl, p, _, rfl, pen_a ▸ DGet.k (k := kS "at") hp1, c, _, _, _, rfl, rfl, SqL.of hc1, atI_nat hv, ?_⟩
          refine ⟨_, rfl, p, _, rfl, pen_a ▸ DGet.k (k := kS "at") hp1, _, _, rfl, rfl, _, rfl, p, _, rfl, DPut.k (k := kS "at") hp1 five, ?_⟩
          rw [put_a]
          have hp2 : upd H1 p (.dK (penL c ((j : Int) + 1) d (n + 1) g)) p = some (.dK (penL c ((j : Int) + 1) d (n + 1) g)) := upd_same
          refine ⟨_, rfl, _, _, rfl, rfl, ⟨by decide, by decide, by decide⟩, _, _, rfl, rfl, _, rfl, bl_cases (fun hge => ?_) (fun _ => ?_)⟩
          · have hge' : (10 : Int) ^ (18 : Int).toNat ≤ ns[j] := of_decide_eq_true hge
            refine ⟨_, rfl, _, _, rfl, rfl, ⟨by decide, by decide, by decide⟩, _, _, rfl, rfl, _, rfl, p, _, rfl, DPut.k (k := kS "digits") hp2 five, ?_⟩
            rw [put_d, upd_upd]
            exact ⟨_, _, _, _, rfl, upd_same, by rw [upd_ne cp]; exact hc1, ch1.trans Ch.upd, by omega, by omega, g0, g1⟩
          · refine ⟨_, rfl, p, _, rfl, pen_f ▸ DGet.k (k := kS "fold") hp2, _, _, rfl, rfl, .inr ⟨by decide, by decide⟩, _, rfl, _, _, rfl, rfl, .inl ⟨_, rfl, _, _, rfl, rfl, (by show (0 : Int) < 2147483059; decide), ?_⟩⟩
            refine ⟨_, rfl, p, _, rfl, DPut.k (k := kS "fold") hp2 five, ?_⟩
            rw [put_f, upd_upd]
            have hm := emod_bd (x := g * 23003 + ns[j]) (m := 2147483059) (by decide)
            exact ⟨_, _, _, _, rfl, upd_same, by rw [upd_ne cp]; exact hc1, ch1.trans Ch.upd, by omega, d0, hm.1, by omega⟩
        · exact ⟨_, _, _, _, rfl, hp1, hc1, ch1, a0, d0, g0, g1⟩
      · exact ⟨_, _, _, _, rfl, hp1, hc1, ch1, a0, d0, g0, g1⟩
    rintro σ H2 ⟨v, a', d', g', rfl, hp2, hc2, ch2, a0', d0', g0', g1'⟩
    have five2 : (penL c a' d' (n + 1) g').length < sizeLine := by show 5 < sizeLine; decide
    refine ⟨_, rfl, p, _, rfl, pen_d ▸ DGet.k (k := kS "digits") hp2, _, _, rfl, rfl, _, rfl, bl_cases (fun hd => ?_) (fun _ => ?_)⟩
    · refine ⟨_, rfl, p, _, rfl, pen_d ▸ DGet.k (k := kS "digits") hp2, .inl ⟨_, rfl, _, rfl, _, _, rfl, rfl, m0, ?_⟩⟩
      refine ⟨_, rfl, p, _, rfl, pen_d ▸ DGet.k (k := kS "digits") hp2, _, rfl, _, _, rfl, rfl, ⟨m0, by omega⟩, _, rfl, p, _, rfl, DPut.k (k := kS "digits") hp2 five2, ?_⟩
      rw [put_d]
      refine ⟨_, rfl, ?_⟩
      have hm := emod_bd (x := d') m0
      exact k _ _ hm.1 hm.2 (ch2.trans Ch.upd) ⟨a', d' / m, g', upd_same, by rw [upd_ne cp]; exact hc2, hl, a0', Int.ediv_nonneg d0' (by omega), g0', g1'⟩
    · refine ⟨_, rfl, p, _, rfl, pen_f ▸ DGet.k (k := kS "fold") hp2, _, rfl, p, _, rfl, pen_n ▸ DGet.k (k := kS "count") hp2, _, _, rfl, rfl, .inr ⟨by decide, by decide⟩, _, _, rfl, rfl, _, _, rfl, rfl, ?_⟩
      refine ⟨_, rfl, _, _, rfl, rfl, ⟨by decide, by decide, by omega⟩, _, _, rfl, rfl, (by show (0 : Int) < 2305843009213693951; decide), .inl ⟨_, rfl, _, _, rfl, rfl, ⟨by decide, by decide⟩, _, rfl, _, _, rfl, rfl, m0, ?_⟩⟩
      have hm := emod_bd (x := (g' + (n + 1) * 4903 + 167) ^ (59 : Int).toNat % 2305843009213693951 / 128) m0
      exact k _ _ hm.1 hm.2 ch2 ⟨a', d', g', hp2, hc2, hl, a0', d0', g0', g1'⟩
end
end GP
namespace GP
open PySem PySem.Spec PyProof.Rows L2
def chk (d : PyData) : Bool := okD d && decide (d.depth ≤ 3) && d.showable && decide (d.shown.length ≤ 1000)
def valB (d : PyData) : Bool := chk d && chk (cp d)
theorem noD_pen {c : Addr} {a d n f : Int} : noD (.dK (penL c a d n f)) := trivial
theorem PenAt.some {p c : Addr} {ns : List Int} {H : Hp} {n : Int} (h : PenAt p c ns H n) : ∃ o, H p = some o ∧ noD o ∧ (∀ D dx fs, o ≠ .ins D dx fs) ∧ (∀ xs, o ≠ .lst xs) :=
  let ⟨_, _, _, h1, _⟩ := h
  ⟨_, h1, noD_pen, (fun _ _ _ e => nomatch e), fun _ e => nomatch e⟩
theorem Rp.pen {p c0 : Addr} {ns : List Int} {H H' : Hp} {n : Int} {d : PyData} {v : V} (h : PenAt p c0 ns H n) (c : Ch p H H') (r : Rp H v d) : Rp H' v d :=
  let ⟨_, h1, h2, _, _⟩ := h.some
  Rp.ch h1 h2 c d v r
/-- what is new since H -/
def nw (H H' : Hp) : Hp := fun b => match H b with | some _ => none | none => H' b
theorem nw_at {H H' : Hp} {b : Addr} {o : HO} (h : H b = none) (e : H' b = some o) : nw H H' b = some o := by unfold nw; rw [h]; exact e
theorem nw_some {H H' : Hp} {b : Addr} {o : HO} (e : nw H H' b = some o) : H b = none ∧ H' b = some o := by
  unfold nw at e
  cases q : H b with
  | none => rw [q] at e; exact ⟨rfl, e⟩
  | some u => rw [q] at e; cases e
theorem nw_mono {H K1 H3 : Hp} (h : ∀ b o, H b = none → K1 b = some o → H3 b = some o) : Same (nw H K1) (nw H H3) := fun b o e =>
  let ⟨h1, h2⟩ := nw_some e
  nw_at h1 (h b o h1 h2)
def spPick : Sp := fun vs H Q _ => ∃ (p c : Addr) (ns : List Int) (l : Addr) (n : Int) (xs : List V), vs = [.ref p, .ref l] ∧ PenAt p c ns H n ∧ 0 ≤ n ∧ n ≤ 100000 ∧ H l = some (.lst xs) ∧ xs ≠ [] ∧ xs.length < 100000 ∧
  ∀ (v : V) (H' : Hp), v ∈ xs → Ch p H H' → PenAt p c ns H' (n + 1) → Q v H'
def spValue : Sp := fun vs H Q _ => ∃ (p c : Addr) (ns : List Int) (n : Int), vs = [.ref p] ∧ PenAt p c ns H n ∧ 0 ≤ n ∧ n ≤ 90000 ∧
  ∀ (v : V) (d : PyData) (H' : Hp), valB d = true → Rp (nw H H') v d → Ch p H H' → PenAt p c ns H' (n + 4) → Q v H'
section
variable {P : Program} {w : World} {K : PySem.W.Frag} {mg : Str → Option Value} {base : Heap} {C : Nat → Addr}
abbrev sPick : Stmt := top 24
theorem scPick : FnScope ["pen", "some"] ["pen", "some"] (defScope sPick) := ⟨rfl, rfl, rfl, by decide +kernel, rfl, by decide +kernel, by decide +kernel⟩
theorem ok_pick {f fc : Addr} {fd fdc : FuncData} (F : Fun K "_law_pick" "_law_pick" sPick f fd) (T : Txt K mg C)
    (Fc : FnOk P w K mg base CX0 1 fc fdc ["pen", "many"] spDraw) (mc : mg "_law_draw" = some (.ref fc)) (kc : PySem.W.keepIn K (.ref fc) = true) (bc : Binds K fdc ["pen", "many"] []) : FnOk P w K mg base CX0 2 f fd ["pen", "some"] spPick := by
  refine F.ok scPick (fun vs H Q E h => ?_) (fun cdv A outer s H vs Q E hr h => ?_)
  · obtain ⟨p, c, ns, l, n, xs, rfl, _⟩ := h
    rfl
  · obtain ⟨p, c, ns, l, n, xs, rfl, hp, n0, n1, hl, hne, hlen, k⟩ := h
    have h0 : 0 < xs.length := List.length_pos_iff.mpr hne
    refine ⟨_, pss_one (ps_ret (pe_ix ix_list (pv 1) (pe_call Fc hr (by rfl) mc kc bc .nil pass0 (pa_cons (pv 0) (pa_cons (pe_callB call_len_seq (by rfl) T.len PySem.boot_len (pa_cons (pv 1) pa_nil)) pa_nil))) (fun _ _ => rfl))), ?_⟩
    refine ⟨_, rfl, _, rfl, _, rfl, l, xs, rfl, .inl (SqL.of hl), p, c, ns, n, _, rfl, hp, n0, n1, by omega, by omega, fun r H' r0 r1 ch hp' => ?_⟩
    obtain ⟨o, ho, _, _, nl⟩ := hp.some
    have lp : l ≠ p := fun e => by rw [e, ho] at hl; exact nl _ (Option.some.inj hl)
    obtain ⟨j, rfl⟩ : ∃ j : Nat, r = (j : Int) := ⟨r.toNat, by omega⟩
    have hj : j < xs.length := by omega
    exact ⟨l, xs, _, xs[j], rfl, rfl, SqL.of (ch.at_ lp hl), atI_nat (List.getElem?_eq_getElem hj), k _ _ (List.getElem_mem hj) ch hp'⟩
abbrev sValue : Stmt := top 25
theorem scValue : FnScope ["pen", "some", "k"] ["pen"] (defScope sValue) := ⟨rfl, rfl, rfl, by decide +kernel, rfl, by decide +kernel, by decide +kernel⟩
theorem draws_ok : ∀ a b c : Fin 9, valB (.list [.int (a.val : Int), .int (b.val : Int), .int (c.val : Int)]) = true := by decide +kernel
theorem draws_val {rs : List Int} (hl : rs.length = 3) (h : ∀ r ∈ rs, 0 ≤ r ∧ r < 9) : valB (.list (rs.map PyData.int)) = true := by
  match rs, hl with
  | [a, b, c], _ =>
    have ha := h a (by simp)
    have hb := h b (by simp)
    have hc := h c (by simp)
    have e := draws_ok ⟨a.toNat, by omega⟩ ⟨b.toNat, by omega⟩ ⟨c.toNat, by omega⟩
    have ea : ((a.toNat : Nat) : Int) = a := by omega
    have eb : ((b.toNat : Nat) : Int) = b := by omega
    have ec : ((c.toNat : Nat) : Int) = c := by omega
    simp only [ea, eb, ec] at e
    exact e
theorem RpAll.ints {H : Hp} : ∀ rs : List Int, RpAll H (rs.map V.int) (rs.map PyData.int)
  | [] => .nil
  | r :: rs => .cons (.int r) (RpAll.ints rs)
theorem ok_value {f fc fp : Addr} {fd fdc fdp : FuncData} (F : Fun K "_law_value" "_law_value" sValue f fd) (T : Txt K mg C)
    (Fc : FnOk P w K mg base CX0 1 fc fdc ["pen", "many"] spDraw) (mc : mg "_law_draw" = some (.ref fc)) (kc : PySem.W.keepIn K (.ref fc) = true) (bc : Binds K fdc ["pen", "many"] [])
    (Fp : FnOk P w K mg base CX0 2 fp fdp ["pen", "some"] spPick) (mp : mg "_law_pick" = some (.ref fp)) (kp : PySem.W.keepIn K (.ref fp) = true) (bp : Binds K fdp ["pen", "some"] []) : FnOk P w K mg base CX0 3 f fd ["pen"] spValue := by
  refine F.ok scValue (fun vs H Q E h => ?_) (fun cdv A outer s H vs Q E hr h => ?_)
  · obtain ⟨p, c, ns, n, rfl, _⟩ := h
    rfl
  · obtain ⟨p, c, ns, n, rfl, hp, n0, n1, k⟩ := h
    have hr1 : Room 1 _ := hr.mono (by decide)
    refine ⟨_, C8.pss_cut (ps_set (i := 1) scValue.nd rfl (Or.inl rfl) (pe_lst
      (pa_cons (pe_tup (pa_cons pe_int (pa_cons pe_int pa_nil)))
      (pa_cons (pe_lst (pa_cons pe_int (pa_cons (pe_lst (pa_cons pe_int pa_nil)) pa_nil)))
      (pa_cons (pe_lst pa_nil) (pa_cons (pe_tup pa_nil) (pa_cons pe_str (pa_cons pe_int (pa_cons pe_non (pa_cons pe_bl
      (pa_cons (pe_tup (pa_cons (pe_tup (pa_cons pe_int (pa_cons pe_int pa_nil))) pa_nil))
      (pa_cons (pe_lst (pa_cons (pe_lst (pa_cons pe_int pa_nil)) (pa_cons (pe_lst (pa_cons pe_int pa_nil)) pa_nil)))
      (pa_cons (pe_disp (pps_cons pe_str pe_int pps_nil) (by rfl) (by rfl) (fun z => by cases z) (by decide))
      (pa_cons (pe_un un_neg pe_int) (pa_cons pe_str (pa_cons (pe_lst (pa_cons pe_non pa_nil)) pa_nil))))))))))))))))
      (pss_one (ps_ret (pe_call Fp hr (by rfl) mp kp bp .nil pass0 (pa_cons (pv 0) (pa_cons (pe_op op_cat (pv 1)
        (pe_lst (pa_cons (pe_lc (own := [("k", 2)]) (g := gName 2) (by rfl) scValue.nd (pi_range1 rfl T.range (pa_cons pe_int pa_nil)) (blkOk_by (own := [("k", 2)]) (N := ["pen", "some", "k"]) (sc := defScope sValue) (by decide +kernel))
          (fun _ _ _ _ _ => pg_name (i := 2) scValue.nd rfl (Or.inl rfl)) (fun _ _ _ _ _ => pts_nil)
          (fun _ _ _ _ _ => pe_call Fc hr1 (by rfl) mc kc bc .nil pass0 (pa_cons (pv 0) (pa_cons pe_int pa_nil)))) pa_nil))) pa_nil))))), ?_⟩
    refine ⟨fun σ H' => ∃ l xs, σ = [some (.ref p), some (.ref l), none] ∧ Same H H' ∧ H' l = some (.lst xs) ∧ xs.length = 14 ∧ ∀ v ∈ xs, ∃ d, valB d = true ∧ Rp (nw H H') v d, ?_, fun σ1 K1 m1 => ?_⟩
    · refine ⟨(by show 2 ≤ sizeLine; decide), fun p1 n1 => ?_⟩
      have s1 : Same H (upd H p1 (.tup [.int 1, .int 2])) := Same.upd n1
      have f1 : H p1 = none := (Same.refl H).free n1
      have u1 := (Same.refl H).trans s1
      have g1 : (upd H p1 (.tup [.int 1, .int 2])) p1 = some (.tup [.int 1, .int 2]) := upd_same
      generalize upd H p1 (.tup [.int 1, .int 2]) = H1 at *
      refine ⟨(by show 1 ≤ sizeLine; decide), fun p2 n2 => ?_⟩
      have s2 : Same H1 (upd H1 p2 (.lst [.int 2])) := Same.upd n2
      have f2 : H p2 = none := (u1).free n2
      have u2 := (u1).trans s2
      have g2 : (upd H1 p2 (.lst [.int 2])) p2 = some (.lst [.int 2]) := upd_same
      generalize upd H1 p2 (.lst [.int 2]) = H2 at *
      refine ⟨(by show 2 ≤ sizeLine; decide), fun p3 n3 => ?_⟩
      have s3 : Same H2 (upd H2 p3 (.lst [.int 1, .ref p2])) := Same.upd n3
      have f3 : H p3 = none := (u2).free n3
      have u3 := (u2).trans s3
      have g3 : (upd H2 p3 (.lst [.int 1, .ref p2])) p3 = some (.lst [.int 1, .ref p2]) := upd_same
      generalize upd H2 p3 (.lst [.int 1, .ref p2]) = H3 at *
      refine ⟨(by show 0 ≤ sizeLine; decide), fun p4 n4 => ?_⟩
      have s4 : Same H3 (upd H3 p4 (.lst [])) := Same.upd n4
      have f4 : H p4 = none := (u3).free n4
      have u4 := (u3).trans s4
      have g4 : (upd H3 p4 (.lst [])) p4 = some (.lst []) := upd_same
      generalize upd H3 p4 (.lst []) = H4 at *
      refine ⟨(by show 0 ≤ sizeLine; decide), fun p5 n5 => ?_⟩
      have s5 : Same H4 (upd H4 p5 (.tup [])) := Same.upd n5
      have f5 : H p5 = none := (u4).free n5
      have u5 := (u4).trans s5
      have g5 : (upd H4 p5 (.tup [])) p5 = some (.tup []) := upd_same
      generalize upd H4 p5 (.tup []) = H5 at *
      refine ⟨(by show 2 ≤ sizeLine; decide), fun p6 n6 => ?_⟩
      have s6 : Same H5 (upd H5 p6 (.tup [.int 0, .int 1])) := Same.upd n6
      have f6 : H p6 = none := (u5).free n6
      have u6 := (u5).trans s6
      have g6 : (upd H5 p6 (.tup [.int 0, .int 1])) p6 = some (.tup [.int 0, .int 1]) := upd_same
      generalize upd H5 p6 (.tup [.int 0, .int 1]) = H6 at *
      refine ⟨(by show 1 ≤ sizeLine; decide), fun p7 n7 => ?_⟩
      have s7 : Same H6 (upd H6 p7 (.tup [.ref p6])) := Same.upd n7
      have f7 : H p7 = none := (u6).free n7
      have u7 := (u6).trans s7
      have g7 : (upd H6 p7 (.tup [.ref p6])) p7 = some (.tup [.ref p6]) := upd_same
      generalize upd H6 p7 (.tup [.ref p6]) = H7 at *
      refine ⟨(by show 1 ≤ sizeLine; decide), fun p8 n8 => ?_⟩
      have s8 : Same H7 (upd H7 p8 (.lst [.int 0])) := Same.upd n8
      have f8 : H p8 = none := (u7).free n8
      have u8 := (u7).trans s8
      have g8 : (upd H7 p8 (.lst [.int 0])) p8 = some (.lst [.int 0]) := upd_same
      generalize upd H7 p8 (.lst [.int 0]) = H8 at *
      refine ⟨(by show 1 ≤ sizeLine; decide), fun p9 n9 => ?_⟩
      have s9 : Same H8 (upd H8 p9 (.lst [.int 1])) := Same.upd n9
      have f9 : H p9 = none := (u8).free n9
      have u9 := (u8).trans s9
      have g9 : (upd H8 p9 (.lst [.int 1])) p9 = some (.lst [.int 1]) := upd_same
      generalize upd H8 p9 (.lst [.int 1]) = H9 at *
      refine ⟨(by show 2 ≤ sizeLine; decide), fun p10 n10 => ?_⟩
      have s10 : Same H9 (upd H9 p10 (.lst [.ref p8, .ref p9])) := Same.upd n10
      have f10 : H p10 = none := (u9).free n10
      have u10 := (u9).trans s10
      have g10 : (upd H9 p10 (.lst [.ref p8, .ref p9])) p10 = some (.lst [.ref p8, .ref p9]) := upd_same
      generalize upd H9 p10 (.lst [.ref p8, .ref p9]) = H10 at *
      refine fun p11 n11 => ⟨upd_same, [(kS "a", .int 1)], rfl, by show 1 ≤ 15; decide, ?_⟩
      have s11 : Same H10 (upd (upd H10 p11 (.dK [])) p11 (.dK (mergeK [] [(kS "a", .int 1)]))) := by rw [upd_upd]; exact Same.upd n11
      have f11 : H p11 = none := (u10).free n11
      have u11 := (u10).trans s11
      have g11 : (upd (upd H10 p11 (.dK [])) p11 (.dK (mergeK [] [(kS "a", .int 1)]))) p11 = some (.dK [(kS "a", .int 1)]) := upd_same
      generalize upd (upd H10 p11 (.dK [])) p11 (.dK (mergeK [] [(kS "a", .int 1)])) = H11 at *
      refine ⟨_, rfl, ?_⟩
      refine ⟨(by show 1 ≤ sizeLine; decide), fun p12 n12 => ?_⟩
      have s12 : Same H11 (upd H11 p12 (.lst [.non])) := Same.upd n12
      have f12 : H p12 = none := (u11).free n12
      have u12 := (u11).trans s12
      have g12 : (upd H11 p12 (.lst [.non])) p12 = some (.lst [.non]) := upd_same
      generalize upd H11 p12 (.lst [.non]) = H12 at *
      refine ⟨(by show 14 ≤ sizeLine; decide), fun l nl => ?_⟩
      have s13 : Same H12 _ := Same.upd (o := .lst [.ref p1, .ref p3, .ref p4, .ref p5, .str "web", .int 5, .non, .bl true, .ref p7, .ref p10, .ref p11, .int (-3), .str "", .ref p12]) nl
      have t12 := s13
      have t11 := s12.trans t12
      have t10 := s11.trans t11
      have t9 := s10.trans t10
      have t8 := s9.trans t9
      have t7 := s8.trans t8
      have t6 := s7.trans t7
      have t5 := s6.trans t6
      have t4 := s5.trans t5
      have t3 := s4.trans t4
      have t2 := s3.trans t3
      have t1 := s2.trans t2
      refine ⟨l, _, rfl, s1.trans t1, upd_same, rfl, fun v hv => ?_⟩
      simp only [List.mem_cons, List.not_mem_nil, or_false] at hv
      rcases hv with rfl | rfl | rfl | rfl | rfl | rfl | rfl | rfl | rfl | rfl | rfl | rfl | rfl | rfl
      · exact ⟨.tuple [.int 1, .int 2], by decide +kernel, .tup (nw_at f1 (t1 _ _ g1)) (.cons (.int 1) (.cons (.int 2) .nil))⟩
      · exact ⟨.list [.int 1, .list [.int 2]], by decide +kernel, .lst (nw_at f3 (t3 _ _ g3)) (.cons (.int 1) (.cons (.lst (nw_at f2 (t2 _ _ g2)) (.cons (.int 2) .nil)) .nil))⟩
      · exact ⟨.list [], by decide +kernel, .lst (nw_at f4 (t4 _ _ g4)) .nil⟩
      · exact ⟨.tuple [], by decide +kernel, .tup (nw_at f5 (t5 _ _ g5)) .nil⟩
      · exact ⟨.str "web", by decide +kernel, .str _⟩
      · exact ⟨.int 5, by decide +kernel, .int _⟩
      · exact ⟨.none, by decide +kernel, .non⟩
      · exact ⟨.bool true, by decide +kernel, .bl _⟩
      · exact ⟨.tuple [.tuple [.int 0, .int 1]], by decide +kernel, .tup (nw_at f7 (t7 _ _ g7)) (.cons (.tup (nw_at f6 (t6 _ _ g6)) (.cons (.int 0) (.cons (.int 1) .nil))) .nil)⟩
      · exact ⟨.list [.list [.int 0], .list [.int 1]], by decide +kernel, .lst (nw_at f10 (t10 _ _ g10)) (.cons (.lst (nw_at f8 (t8 _ _ g8)) (.cons (.int 0) .nil)) (.cons (.lst (nw_at f9 (t9 _ _ g9)) (.cons (.int 1) .nil)) .nil))⟩
      · exact ⟨.dict [(.str "a", .int 1)], by decide +kernel, .dct (nw_at f11 (t11 _ _ g11))⟩
      · exact ⟨.int (-3), by decide +kernel, .int _⟩
      · exact ⟨.str "", by decide +kernel, .str _⟩
      · exact ⟨.list [.none], by decide +kernel, .lst (nw_at f12 (t12 _ _ g12)) (.cons .non .nil)⟩
    · obtain ⟨l, xs, rfl, S0, hl, hlen, hx⟩ := m1
      have hp1 : PenAt p c ns K1 n := hp.same S0
      refine ⟨_, rfl, _, rfl, 3, rfl, by decide, by decide, fun D nD => ?_⟩
      have Dp : D ≠ p := fun e => by obtain ⟨o, ho, _⟩ := hp1.some; rw [e, ho] at nD; cases nD
      have cD : c ≠ D := fun e => by obtain ⟨_, _, _, _, q2, _⟩ := hp1; rw [e, nD] at q2; cases q2
      refine lc_range (lo := 0) (n := 3) (fun i H' => ∃ rs : List Int, rs.length = i ∧ (∀ r ∈ rs, 0 ≤ r ∧ r < 9) ∧ H' D = some (.lst (rs.map V.int)) ∧ Ch p K1 H' ∧ PenAt p c ns H' (n + (i : Int))) ?_ ?_ ?_
      · exact ⟨[], rfl, (fun r h => nomatch h), upd_same, Ch.same (Same.upd nD), by have := hp1.same (Same.upd (o := .lst []) nD); simpa using this⟩
      · rintro i H2 hi ⟨rs, h1, h2, h3, h4, h5⟩
        refine ⟨rfl, ?_⟩
        refine ⟨_, rfl, p, c, ns, n + (i : Int), 9, rfl, h5, by omega, by omega, by decide, by decide, fun r H3 r0 r1 ch hp3 => ⟨_, ch.at_ Dp h3, by rw [List.length_map, h1]; exact Nat.lt_trans hi (by decide), ?_⟩⟩
        refine ⟨rs ++ [r], by rw [List.length_append, h1]; rfl, fun z hz => ?_, by rw [upd_same, List.map_append]; rfl, ?_, ?_⟩
        · rcases List.mem_append.mp hz with hz | hz
          · exact h2 z hz
          · rw [List.mem_singleton.mp hz]; exact ⟨r0, r1⟩
        · refine Ch.of fun b o hb e => ?_
          rw [upd_ne (ne_of_none e nD)]
          exact (h4.trans ch).at_ hb e
        · obtain ⟨a, d, g, q1, q2, q3⟩ := hp3
          have e : n + (((i + 1 : Nat)) : Int) = n + (i : Int) + 1 := by omega
          rw [e]
          exact ⟨a, d, g, by rw [upd_ne (Ne.symm Dp)]; exact q1, by rw [upd_ne cD]; exact q2, q3⟩
      · rintro H2 ⟨rs, h1, h2, h3, h4, h5⟩
        have fD : H D = none := S0.free nD
        obtain ⟨op, hop, _⟩ := hp.some
        refine ⟨(by show 1 ≤ sizeLine; decide), fun q nq => ?_⟩
        have S1 : Same H2 (upd H2 q (.lst [.ref D])) := Same.upd nq
        obtain ⟨o, ho, _, _, nl⟩ := hp1.some
        have lp : l ≠ p := fun e => by rw [e, ho] at hl; exact nl _ (Option.some.inj hl)
        refine ⟨l, q, xs, _, rfl, rfl, S1 _ _ (h4.at_ lp hl), upd_same, (by show xs.length + 1 ≤ sizeLine; rw [hlen]; decide), fun t nt => ?_⟩
        have S2 : Same H2 (upd (upd H2 q (.lst [.ref D])) t (.lst (xs ++ [.ref D]))) := S1.trans (Same.upd nt)
        refine ⟨p, c, ns, t, n + ((3 : Nat) : Int), _, rfl, h5.same S2, by omega, by omega, upd_same, by simp, by rw [List.length_append, hlen]; show 14 + 1 < 100000; decide, fun v H3 hv ch hp3 => ?_⟩
        have e : n + ((3 : Nat) : Int) + 1 = n + 4 := by omega
        rw [e] at hp3
        have CH : Ch p H H3 := ((Ch.same S0).trans h4).trans ((Ch.same S2).trans ch)
        rcases List.mem_append.mp hv with hv | hv
        · obtain ⟨d, hd, hr⟩ := hx v hv
          exact k v d H3 hd (Rp.same (nw_mono fun b o e1 e2 => (h4.trans ((Ch.same S2).trans ch)).at_ (fun q => by rw [q, hop] at e1; cases e1) e2) _ _ hr) CH hp3
        · obtain rfl := List.mem_singleton.mp hv
          exact k _ _ H3 (draws_val h1 h2) (.lst (nw_at fD (ch.at_ Dp (S2 _ _ h3))) (RpAll.ints rs)) CH hp3
end
end GP
namespace GP
open PySem PySem.Spec PyProof.Rows L2
mutual
theorem Rp.uniq {H : Hp} : ∀ (d d' : PyData) (v : V), Rp H v d → Rp H v d' → d = d'
  | .none, _, _, h, h' => by cases h; cases h'; rfl
  | .bool b, _, _, h, h' => by cases h; cases h'; rfl
  | .int i, _, _, h, h' => by cases h; cases h'; rfl
  | .str x, _, _, h, h' => by cases h; cases h'; rfl
  | .list ds, _, _, h, h' => by
    cases h with
    | lst e1 e2 =>
      cases h' with
      | lst f1 f2 => rw [e1] at f1; cases f1; rw [RpAll.uniq ds _ _ e2 f2]
      | tup f1 f2 => rw [e1] at f1; cases f1
      | dct f1 => rw [e1] at f1; cases f1
  | .tuple ds, _, _, h, h' => by
    cases h with
    | tup e1 e2 =>
      cases h' with
      | lst f1 f2 => rw [e1] at f1; cases f1
      | tup f1 f2 => rw [e1] at f1; cases f1; rw [RpAll.uniq ds _ _ e2 f2]
      | dct f1 => rw [e1] at f1; cases f1
  | .dict _, _, _, h, h' => by
    cases h with
    | dct e1 =>
      cases h' with
      | lst f1 f2 => rw [e1] at f1; cases f1
      | tup f1 f2 => rw [e1] at f1; cases f1
      | dct f1 => rw [e1] at f1; cases f1; rfl
theorem RpAll.uniq {H : Hp} : ∀ (ds ds' : List PyData) (vs : List V), RpAll H vs ds → RpAll H vs ds' → ds = ds'
  | [], _, _, h, h' => by cases h; cases h'; rfl
  | d :: ds, _, _, h, h' => by
    cases h with
    | cons e1 e2 => cases h' with
      | cons f1 f2 => rw [Rp.uniq d _ _ e1 f1, RpAll.uniq ds _ _ e2 f2]
end
mutual
/-- a datum smaller than the one at p does not hang on p -/
theorem Rp.chS {p : Addr} {H H' : Hp} {e : PyData} (hp : Rp H (.ref p) e) (c : Ch p H H') : ∀ (d : PyData) (v : V), sizeOf d < sizeOf e → Rp H v d → Rp H' v d
  | .none, _, _, h => by cases h; exact .non
  | .bool b, _, _, h => by cases h; exact .bl b
  | .int i, _, _, h => by cases h; exact .int i
  | .str x, _, _, h => by cases h; exact .str x
  | .list ds, _, z, h => by
    have h0 := h
    cases h with
    | lst h1 h2 => exact .lst (c.at_ (fun q => by rw [q] at h0; rw [Rp.uniq _ _ _ h0 hp] at z; exact absurd z (Nat.lt_irrefl _)) h1) (RpAll.chS hp c ds _ (by simp only [PyData.list.sizeOf_spec] at z; omega) h2)
  | .tuple ds, _, z, h => by
    have h0 := h
    cases h with
    | tup h1 h2 => exact .tup (c.at_ (fun q => by rw [q] at h0; rw [Rp.uniq _ _ _ h0 hp] at z; exact absurd z (Nat.lt_irrefl _)) h1) (RpAll.chS hp c ds _ (by simp only [PyData.tuple.sizeOf_spec] at z; omega) h2)
  | .dict _, _, z, h => by
    have h0 := h
    cases h with
    | dct h1 => exact .dct (c.at_ (fun q => by rw [q] at h0; rw [Rp.uniq _ _ _ h0 hp] at z; exact absurd z (Nat.lt_irrefl _)) h1)
theorem RpAll.chS {p : Addr} {H H' : Hp} {e : PyData} (hp : Rp H (.ref p) e) (c : Ch p H H') : ∀ (ds : List PyData) (vs : List V), sizeOf ds < sizeOf e → RpAll H vs ds → RpAll H' vs ds
  | [], _, _, h => by cases h; exact .nil
  | d :: ds, _, z, h => by
    cases h with
    | cons h1 h2 =>
      simp only [List.cons.sizeOf_spec] at z
      exact .cons (Rp.chS hp c d _ (by omega) h1) (RpAll.chS hp c ds _ (by omega) h2)
end
/-- the copy of a list does not hang on it -/
theorem Rp.chC {p : Addr} {H H' : Hp} {ds : List PyData} (hp : Rp H (.ref p) (.list ds)) (c : Ch p H H') {v : V} (h : Rp H v (.tuple ds)) : Rp H' v (.tuple ds) := by
  have h0 := h
  cases h with
  | tup h1 h2 => exact .tup (c.at_ (fun q => by rw [q] at h0; exact nomatch (Rp.uniq _ _ _ h0 hp)) h1) (RpAll.chS hp c ds _ (by simp only [PyData.list.sizeOf_spec]; omega) h2)

/-! ### texts of rows -/
theorem sum_le {ts : List Str} (h : ∀ t ∈ ts, t.length ≤ 1000) : (ts.map (·.length)).sum ≤ 1000 * ts.length := by
  induction ts with
  | nil => exact Nat.zero_le _
  | cons t ts ih =>
    have h1 := h t List.mem_cons_self
    have h2 := ih fun u hu => h u (List.mem_cons_of_mem _ hu)
    simp only [List.map_cons, List.sum_cons, List.length_cons]
    omega
theorem chk_all : ∀ {ds : List PyData}, (∀ d ∈ ds, chk d = true) → ds.all okD = true ∧ PyData.depthAll ds ≤ 3 ∧ PyData.showableAll ds = true ∧ (∀ t ∈ PyData.shownAll ds, t.length ≤ 1000) ∧ (PyData.shownAll ds).length = ds.length
  | [], _ => ⟨rfl, Nat.zero_le _, rfl, (fun _ h => nomatch h), rfl⟩
  | d :: ds, h => by
    obtain ⟨i1, i2, i3, i4, i5⟩ := chk_all fun e he => h e (List.mem_cons_of_mem _ he)
    have h1 := h d List.mem_cons_self
    unfold chk at h1
    simp only [Bool.and_eq_true, decide_eq_true_eq] at h1
    obtain ⟨⟨⟨a1, a2⟩, a3⟩, a4⟩ := h1
    refine ⟨by simp [a1, i1], ?_, by simp [PyData.showableAll, a3, i3], fun t ht => ?_, by simp [PyData.shownAll, i5]⟩
    · simp only [PyData.depthAll]; exact Nat.max_le.mpr ⟨a2, i2⟩
    · simp only [PyData.shownAll, List.mem_cons] at ht
      rcases ht with rfl | ht
      · exact a4
      · exact i4 t ht
theorem canShow_row {ds : List PyData} (h : ∀ d ∈ ds, chk d = true) (hl : ds.length ≤ 20) : canShow (.list ds) = true := by
  obtain ⟨i1, i2, i3, i4, i5⟩ := chk_all h
  have hz := listText_len_le (PyData.shownAll ds)
  have hs := sum_le i4
  have e : sizeLine = 16777216 := rfl
  have hd : (PyData.list ds).depth ≤ 30 := by simp only [PyData.depth]; omega
  have hw : (PyData.list ds).showable = true := by simpa [PyData.showable] using i3
  have hy : (PyData.list ds).shown.length ≤ sizeLine := by simp only [PyData.shown]; rw [e]; omega
  unfold canShow
  rw [hw, decide_eq_true hd, decide_eq_true hy]
  show (true && true && true && (okD (.list ds) || ds.all okD)) = true
  rw [i1]
  simp
theorem canShow_one {d : PyData} (h : chk d = true) : canShow d = true := by
  unfold chk at h
  simp only [Bool.and_eq_true, decide_eq_true_eq] at h
  obtain ⟨⟨⟨a1, a2⟩, a3⟩, a4⟩ := h
  have e : sizeLine = 16777216 := rfl
  have hd : d.depth ≤ 30 := by omega
  have hy : d.shown.length ≤ sizeLine := by rw [e]; omega
  unfold canShow
  rw [a1, a3, decide_eq_true hd, decide_eq_true hy]
  simp
theorem chk_name : ∀ i, i < 11 → chk (.str (cN i)) = true := by decide +kernel
theorem valB_cp {d : PyData} (h : valB d = true) : chk (cp d) = true := by
  unfold valB at h
  simp only [Bool.and_eq_true] at h
  exact h.2
theorem chk_depth {d : PyData} (h : chk d = true) : d.depth ≤ 3 := by
  unfold chk at h
  simp only [Bool.and_eq_true, decide_eq_true_eq] at h
  exact h.1.1.2
theorem depthAll_le {n : Nat} : ∀ {ds : List PyData}, (∀ d ∈ ds, d.depth ≤ n) → PyData.depthAll ds ≤ n
  | [], _ => Nat.zero_le _
  | d :: ds, h => by
    simp only [PyData.depthAll]
    exact Nat.max_le.mpr ⟨h d List.mem_cons_self, depthAll_le fun e he => h e (List.mem_cons_of_mem _ he)⟩
theorem ekey_depth {n : Nat} (i : Nat) (ds : List PyData) (h : ∀ d ∈ ds, d.depth ≤ n) : (ekey i ds).depth ≤ n + 1 := by
  unfold ekey
  split
  · exact Nat.le_succ_of_le (h _ List.mem_cons_self)
  · exact Nat.le_succ_of_le (h _ List.mem_cons_self)
  · exact Nat.le_succ_of_le (h _ List.mem_cons_self)
  · exact Nat.le_succ_of_le (h _ List.mem_cons_self)
  · simp only [PyData.depth]
    exact Nat.succ_le_succ (depthAll_le fun e he => h e (by simp at he ⊢; rcases he with r | r <;> simp [r]))
  · simp only [PyData.depth]
    exact Nat.succ_le_succ (depthAll_le h)
/-- every row's data can be shown, and is equal to itself -/
theorem dss_mem {a b c d : PyData} {k : Nat} {ds : List PyData} (ha : valB a = true) (hb : valB b = true) (hc : valB c = true) (hd : valB d = true) (h : (dss a b c d)[k]? = some ds) : k < 11 ∧ ds.length ≤ 6 ∧ ∀ e ∈ ds, valB e = true := by
  have hk : k < 11 := (List.getElem?_eq_some_iff.mp h).1
  refine ⟨hk, ?_⟩
  have hm := List.mem_of_getElem? h
  simp only [dss, List.mem_cons, List.not_mem_nil, or_false] at hm
  rcases hm with rfl | rfl | rfl | rfl | rfl | rfl | rfl | rfl | rfl | rfl | rfl <;>
    refine ⟨by simp, fun e he => ?_⟩ <;> simp only [List.mem_cons, List.not_mem_nil, or_false] at he <;> (rcases he with rfl | rfl | rfl | rfl | rfl | rfl <;> assumption)
theorem RowOk.pen {C : Nat → Addr} {k : Nat} {H H' : Hp} {v : V} {p c0 : Addr} {ns : List Int} {n : Int} {ds : List PyData} (hp : PenAt p c0 ns H n) (c : Ch p H H') (h : RowOk C k H v ds) : RowOk C k H' v ds := by
  obtain ⟨o, ho, hn, hi, hl⟩ := hp.some
  obtain ⟨t, o1, o2, l, e, h1, h2, h3, h4⟩ := h
  have nt : t ≠ p := fun e => by
    obtain ⟨_, _, _, q, _⟩ := hp
    rw [e, q] at h1; cases h1
  exact ⟨t, o1, o2, l, e, c.at_ nt h1, h2.ch ho hn hi c, h3.ch ho hn hi c, Rp.ch ho hn c _ _ h4⟩
end GP
namespace GP
open PySem PySem.Spec PyProof.Rows L2
section
variable {P : Program} {w : World} {K : PySem.W.Frag} {mg : Str → Option Value} {base : Heap} {C : Nat → Addr}
abbrev sLaw : Stmt := top 30
abbrev NL : List Str := ["script", "pen", "k", "values", "a", "b", "c", "d", "rows", "one", "two", "due", "other", "before", "value"]
theorem scLaw : FnScope NL ["script"] (defScope sLaw) := ⟨rfl, rfl, rfl, by decide +kernel, rfl, by decide +kernel, by decide +kernel⟩
def rListOf (K : PySem.W.Frag) : List V → Hp → VK → Prop := fun xs H Q => ∃ p ys, xs = [.ref p] ∧ (SqL K H p ys ∨ SqT K H p ys) ∧ ∀ l, H l = none → Q (.ref l) (upd H l (.lst ys))
def spLaw (K : PySem.W.Frag) : Sp := fun vs H Q _ => ∃ (a : Addr) (ns : List Int), vs = [.ref a] ∧ SqL K H a (ns.map V.int) ∧ ns.length ≤ 63 ∧ ∀ H', Q (.bl true) H'
theorem shownAll_len : ∀ ds : List PyData, (PyData.shownAll ds).length = ds.length
  | [] => by simp only [PyData.shownAll, List.length_nil]
  | d :: ds => by simp only [PyData.shownAll, List.length_cons, shownAll_len ds]
theorem piled_ge : ∀ ts : List Str, ts.length ≤ piled ts
  | [] => Nat.zero_le _
  | t :: ts => by
    have := piled_ge ts
    rw [piled_cons, List.length_cons]
    omega
theorem valB_len {ds : List PyData} (h : valB (.list ds) = true) : ds.length ≤ 1000 := by
  unfold valB chk at h
  simp only [Bool.and_eq_true, decide_eq_true_eq] at h
  have h1 : (PyData.list ds).shown.length ≤ 1000 := h.1.2
  simp only [PyData.shown] at h1
  have h2 := piled_le_listText (PyData.shownAll ds)
  have h3 := piled_ge (PyData.shownAll ds)
  rw [shownAll_len] at h3
  omega
/-- what the law knows of its names behind the rows -/
def Mid (C : Nat → Addr) (p c : Addr) (ns : List Int) (da db dc dd : PyData) (va : V) (r : Addr) (ts : List V) (m : Nat) (bf : Option V) : L2.St → Hp → Prop := fun σ H' =>
  ∃ x0 x2 x3 x5 x6 x7 x9 x10 x11 x12 x14 : Option V, ∃ n : Int, σ = [x0, some (.ref p), x2, x3, some va, x5, x6, x7, some (.ref r), x9, x10, x11, x12, bf, x14] ∧ PenAt p c ns H' n ∧ 0 ≤ n ∧ n ≤ 16 + m ∧
    Rp H' va da ∧ H' r = some (.lst ts) ∧ RowsOk C H' ts (dss da db dc dd)
theorem Mid.mono {p c : Addr} {ns : List Int} {da db dc dd : PyData} {va : V} {r : Addr} {ts : List V} {m m' : Nat} {bf : Option V} {σ : L2.St} {H : Hp} (h : Mid C p c ns da db dc dd va r ts m bf σ H) (l : m ≤ m') : Mid C p c ns da db dc dd va r ts m' bf σ H := by
  obtain ⟨x0, x2, x3, x5, x6, x7, x9, x10, x11, x12, x14, n, e, h1, h2, h3, h4⟩ := h
  exact ⟨x0, x2, x3, x5, x6, x7, x9, x10, x11, x12, x14, n, e, h1, h2, by omega, h4⟩
theorem ok_law {f f1 f2 f3 f4 f5 f6 : Addr} {fd fd1 fd2 fd3 fd4 fd5 fd6 : FuncData} (F : Fun K "law" "law" sLaw f fd) (T : Txt K mg C)
    (MK : ∀ i, i < 11 → ∃ f fd, MkOk P w K mg base C i f fd)
    (FE : ∀ i, i < 11 → ∃ f fd, Own P w K mg base 10 (C i) "__eq__" ["self", "other"] (spEq C i) f fd)
    (FN : ∀ i, i < 11 → ∃ f fd, Own P w K mg base 11 (C i) "__ne__" ["self", "other"] (spNe C i) f fd)
    (F1 : FnOk P w K mg base CX0 1 f1 fd1 ["script"] (spPen K)) (m1 : mg "_law_pen" = some (.ref f1)) (k1 : PySem.W.keepIn K (.ref f1) = true) (b1 : Binds K fd1 ["script"] [])
    (F2 : FnOk P w K mg base CX0 1 f2 fd2 ["pen", "many"] spDraw) (m2 : mg "_law_draw" = some (.ref f2)) (k2 : PySem.W.keepIn K (.ref f2) = true) (b2 : Binds K fd2 ["pen", "many"] [])
    (F3 : FnOk P w K mg base CX0 3 f3 fd3 ["pen"] spValue) (m3 : mg "_law_value" = some (.ref f3)) (k3 : PySem.W.keepIn K (.ref f3) = true) (b3 : Binds K fd3 ["pen"] [])
    (F4 : FnOk P w K mg base CX0 1 f4 fd4 ["one"] (spFields C)) (m4 : mg "_law_fields" = some (.ref f4)) (k4 : PySem.W.keepIn K (.ref f4) = true) (b4 : Binds K fd4 ["one"] [])
    (F5 : FnOk P w K mg base CX0 4 f5 fd5 ["a", "b", "c", "d"] (spRows C)) (m5 : mg "_law_rows" = some (.ref f5)) (k5 : PySem.W.keepIn K (.ref f5) = true) (b5 : Binds K fd5 ["a", "b", "c", "d"] [])
    (F6 : FnOk P w K mg base CX0 4 f6 fd6 [] (spUnlike C)) (m6 : mg "_law_unlike" = some (.ref f6)) (k6 : PySem.W.keepIn K (.ref f6) = true) (b6 : Binds K fd6 [] []) :
    FnOkG P w K mg base CX0 13 f fd ["script"] (spLaw K) := by
  refine F.okG scLaw (fun vs H Q E h => ?_) (fun cdv A outer s H vs Q E hr hgd h => ?_)
  · obtain ⟨a, ns, rfl, _⟩ := h
    rfl
  · obtain ⟨sa, ns, rfl, hS, hlen, kk⟩ := h
    have hr1 : Room 1 _ := hr.mono (by decide)
    have hr3 : Room 3 _ := hr.mono (by decide)
    have hr4 : Room 4 _ := hr.mono (by decide)
    have hr11 : Room 10 _ := hr.mono (by decide)
    have hr12 : Room 11 _ := hr.mono (by decide)
    have hu : (A.deeper (envOfC "law" (defScope sLaw) s.heap.objs.size f cdv)).units + 64 < cLine := hr.units
    have hg : (A.deeper (envOfC "law" (defScope sLaw) s.heap.objs.size f cdv)).guards = some [] := hgd
    obtain ⟨g0, gd0, M0⟩ := MK 0 (by decide)
    obtain ⟨g1, gd1, M1⟩ := MK 1 (by decide)
    obtain ⟨g2, gd2, M2⟩ := MK 2 (by decide)
    obtain ⟨g3, gd3, M3⟩ := MK 3 (by decide)
    obtain ⟨g4, gd4, M4⟩ := MK 4 (by decide)
    obtain ⟨g5, gd5, M5⟩ := MK 5 (by decide)
    obtain ⟨g8, gd8, M8⟩ := MK 8 (by decide)
    obtain ⟨g9, gd9, M9⟩ := MK 9 (by decide)
    refine ⟨_, C8.pss_cut (ps_set (i := 1) scLaw.nd rfl (Or.inr rfl) (pe_call F1 hr1 (by rfl) m1 k1 b1 .nil pass0 (pa_cons (pv 0) pa_nil)))
      (C8.pss_cut (ps_setLc (i := 3) (own := [("k", 2)]) (g := gName 2) (tt := tYes) rfl scLaw.nd rfl rfl (sw_true rfl rfl rfl (by decide +kernel)) (pi_range1 rfl T.range (pa_cons pe_int pa_nil)) (blkOk_by (own := [("k", 2)]) (N := NL) (sc := defScope sLaw) (by decide +kernel))
        (fun _ _ _ _ _ => pg_name (i := 2) scLaw.nd rfl (Or.inl rfl)) (fun _ _ _ _ _ => pts_nil) (fun _ _ _ _ _ => pe_call F3 hr3 (by rfl) m3 k3 b3 .nil pass0 (pa_cons (pv 1) pa_nil)))
      (C8.pss_cut (ps_asg (pe_lc (own := [("value", 14)]) (g := gName 14) (tt := tYes) (te := tIf (tB (tCB (rIsi K) (tCons (tVar 14) (tCons (tC (.ty "list")) tNil)))) (tCB (rListOf K) (tCons (tVar 14) tNil)) (tVar 14)) rfl scLaw.nd (pi_list (pv 3)) (blkOk_by (own := [("value", 14)]) (N := NL) (sc := defScope sLaw) (by decide +kernel))
          (fun _ _ _ _ _ => pg_name (i := 14) scLaw.nd rfl (Or.inl rfl)) (fun _ _ _ _ _ => pts_nil)
          (fun _ _ _ _ _ => pe_ifExp (pt_val (pe_callB call_isi (by rfl) T.isi boot_isinstance (pa_cons (pv 14) (pa_cons (pe_bltn (v := .ty "list") (by rfl) T.list Pv.boot_list rfl) pa_nil))))
            (pe_callTy call_list_of (by rfl) T.list Pv.boot_list (pa_cons (pv 14) pa_nil)) (pv 14)))
        (pg_unl rfl (pgs_cons (pg_name (i := 4) scLaw.nd rfl (Or.inl rfl)) (pgs_cons (pg_name (i := 5) scLaw.nd rfl (Or.inl rfl)) (pgs_cons (pg_name (i := 6) scLaw.nd rfl (Or.inl rfl)) (pgs_cons (pg_name (i := 7) scLaw.nd rfl (Or.inl rfl)) pgs_nil))))))
      (C8.pss_cut (ps_set (i := 8) scLaw.nd rfl (Or.inl rfl) (pe_call F5 hr4 (by rfl) m5 k5 b5 .nil pass0 (pa_cons (pv 4) (pa_cons (pv 5) (pa_cons (pv 6) (pa_cons (pv 7) pa_nil))))))
      (C8.pss_cut (ps_for PassesOwn.never rfl (pi_list (pv 8)) (pg_tup rfl (pgs_cons (pg_name (i := 9) scLaw.nd rfl (Or.inl rfl)) (pgs_cons (pg_name (i := 10) scLaw.nd rfl (Or.inl rfl)) (pgs_cons (pg_name (i := 11) scLaw.nd rfl (Or.inl rfl)) pgs_nil))))
        (pss_one (ps_if (PW.pt (pw_or (pt_cmpR op_ne (pe_callB (call_repr hg hu) (by rfl) T.repr (by decide +kernel) (pa_cons (pe_call F4 hr1 (by rfl) m4 k4 b4 .nil pass0 (pa_cons (pv 9) pa_nil)) pa_nil)) (pe_callB (call_repr hg hu) (by rfl) T.repr (by decide +kernel) (pa_cons (pv 11) pa_nil)) (nomark _))
          (pw_or (pt_cmpR op_ne (pe_callB (call_repr hg hu) (by rfl) T.repr (by decide +kernel) (pa_cons (pe_call F4 hr1 (by rfl) m4 k4 b4 .nil pass0 (pa_cons (pv 10) pa_nil)) pa_nil)) (pe_callB (call_repr hg hu) (by rfl) T.repr (by decide +kernel) (pa_cons (pv 11) pa_nil)) (nomark _))
          (pw_or (pt_cmpR (op_own (fun _ _ => rfl) rfl (spNe C) hr12 T FN) (pv 9) (pv 10) (nomark _))
          (pw_or1 (pt_not (pt_cmpR (op_own (fun _ _ => rfl) rfl (spEq C) hr11 T FE) (pv 9) (pv 10) (nomark _))))))))
          (pss_one (ps_ret pe_bl)) pss_nil)))
      (C8.pss_cut (ps_for PassesOwn.never rfl (pi_range1 rfl T.range (pa_cons (pe_callB call_len_seq (by rfl) T.len PySem.boot_len (pa_cons (pv 8) pa_nil)) pa_nil)) (pg_name (i := 2) scLaw.nd rfl (Or.inl rfl))
        (pss_cons (ps_set (i := 12) scLaw.nd rfl (Or.inl rfl) (pe_ix ix_tup (pe_ix ix_list (pv 8) (pe_op op_mod (pe_callTy call_int1 (by rfl) T.int (by decide +kernel) (pa_cons (pe_op op_add (pe_op op_add (pv 2) pe_int)
            (pe_call F2 hr1 (by rfl) m2 k2 b2 .nil pass0 (pa_cons (pv 1) (pa_cons (pe_op op_sub (pe_callB call_len_seq (by rfl) T.len PySem.boot_len (pa_cons (pv 8) pa_nil)) pe_int) pa_nil)))) pa_nil))
            (pe_callB call_len_seq (by rfl) T.len PySem.boot_len (pa_cons (pv 8) pa_nil))) (fun _ _ => rfl)) pe_int (fun _ _ => rfl)))
        (pss_one (ps_if (PW.pt (pw_or (pt_cmpR (op_own (fun _ _ => rfl) rfl (spEq C) hr11 T FE) (pe_ix ix_tup (pe_ix ix_list (pv 8) (pv 2) (fun _ _ => rfl)) pe_int (fun _ _ => rfl)) (pv 12) (nomark _))
          (pw_or1 (pt_not (pt_cmpR (op_own (fun _ _ => rfl) rfl (spNe C) hr12 T FN) (pe_ix ix_tup (pe_ix ix_list (pv 8) (pv 2) (fun _ _ => rfl)) pe_int (fun _ _ => rfl)) (pv 12) (nomark _))))))
          (pss_one (ps_ret pe_bl)) pss_nil))))
      (C8.pss_cut (ps_if (PW.pt (pw_or (pt_cmpR (op_own (fun _ _ => rfl) rfl (spEq C) hr11 T FE) (pe_make M0.mk_ M0.ok hr3 (by rfl) (T.mgC 0 (by decide)) M0.b .nil pass0 (pa_cons pe_int (pa_cons pe_int (pa_cons pe_str pa_nil)))) (pe_make M0.mk_ M0.ok hr3 (by rfl) (T.mgC 0 (by decide)) M0.b .nil pass0 (pa_cons pe_int (pa_cons pe_int (pa_cons pe_str pa_nil)))) (nomark _))
        (pw_or (pt_cmpR (op_own (fun _ _ => rfl) rfl (spEq C) hr11 T FE) (pe_make M1.mk_ M1.ok hr3 (by rfl) (T.mgC 1 (by decide)) M1.b .nil pass0 (pa_cons pe_int pa_nil)) (pe_make M1.mk_ M1.ok hr3 (by rfl) (T.mgC 1 (by decide)) M1.b .nil pass0 (pa_cons pe_int pa_nil)) (nomark _))
        (pw_or (pt_cmpR (op_own (fun _ _ => rfl) rfl (spEq C) hr11 T FE) (pe_make M2.mk_ M2.ok hr3 (by rfl) (T.mgC 2 (by decide)) M2.b .nil pass0 (pa_cons pe_int pa_nil)) (pe_make M2.mk_ M2.ok hr3 (by rfl) (T.mgC 2 (by decide)) M2.b .nil pass0 (pa_cons (pe_un un_neg pe_int) pa_nil)) (nomark _))
        (pw_or1 (pt_cmpR (op_own (fun _ _ => rfl) rfl (spEq C) hr11 T FE) (pe_make M3.mk_ M3.ok hr3 (by rfl) (T.mgC 3 (by decide)) M3.b .nil pass0 (pa_cons pe_int pa_nil)) (pe_make M3.mk_ M3.ok hr3 (by rfl) (T.mgC 3 (by decide)) M3.b .nil pass0 (pa_cons pe_int pa_nil)) (nomark _)))))))
          (pss_one (ps_ret pe_bl)) pss_nil)
      (C8.pss_cut (ps_if (PW.pt (pw_or (pt_cmpR (op_own (fun _ _ => rfl) rfl (spEq C) hr11 T FE) (pe_make M4.mk_ M4.ok hr3 (by rfl) (T.mgC 4 (by decide)) M4.b .nil pass0 (pa_cons pe_str (pa_cons pe_int pa_nil))) (pe_make M4.mk_ M4.ok hr3 (by rfl) (T.mgC 4 (by decide)) M4.b .nil pass0 (pa_cons pe_str (pa_cons pe_int pa_nil))) (nomark _))
        (pw_or (pt_cmpR (op_own (fun _ _ => rfl) rfl (spEq C) hr11 T FE) (pe_make M5.mk_ M5.ok hr3 (by rfl) (T.mgC 5 (by decide)) M5.b .nil pass0 (pa_cons (pe_tup pa_nil) pa_nil)) (pe_make M5.mk_ M5.ok hr3 (by rfl) (T.mgC 5 (by decide)) M5.b .nil pass0 (pa_cons (pe_tup (pa_cons pe_int pa_nil)) pa_nil)) (nomark _))
        (pw_or (pt_cmpR (op_own (fun _ _ => rfl) rfl (spEq C) hr11 T FE) (pe_make M8.mk_ M8.ok hr3 (by rfl) (T.mgC 8 (by decide)) M8.b .nil pass0 (pa_cons pe_int (pa_cons (pe_tup pa_nil) pa_nil))) (pe_make M8.mk_ M8.ok hr3 (by rfl) (T.mgC 8 (by decide)) M8.b .nil pass0 (pa_cons pe_int (pa_cons (pe_tup (pa_cons pe_int pa_nil)) pa_nil))) (nomark _))
        (pw_or1 (pt_cmpR (op_own (fun _ _ => rfl) rfl (spEq C) hr11 T FE) (pe_make M9.mk_ M9.ok hr3 (by rfl) (T.mgC 9 (by decide)) M9.b .nil pass0 (pa_cons (pe_tup pa_nil) (pa_cons (pe_tup pa_nil) (pa_cons (pe_tup pa_nil) pa_nil)))) (pe_make M9.mk_ M9.ok hr3 (by rfl) (T.mgC 9 (by decide)) M9.b .nil pass0 (pa_cons (pe_tup pa_nil) (pa_cons (pe_tup (pa_cons pe_int pa_nil)) (pa_cons (pe_tup pa_nil) pa_nil)))) (nomark _)))))))
          (pss_one (ps_ret pe_bl)) pss_nil)
      (C8.pss_cut (ps_if (pt_val (pe_callB (cr_any rfl) (by rfl) T.any (by decide +kernel) (pa_cons
          (pe_lc (own := [("one", 9), ("two", 10)]) (g := gTup K 2 (gCons (gName 9) (gCons (gName 10) gNil))) (tt := tYes) rfl scLaw.nd (pi_list (pe_call0 F6 hr4 (by rfl) m6 k6 b6 .nil pass0)) (blkOk_by (own := [("one", 9), ("two", 10)]) (N := NL) (sc := defScope sLaw) (by decide +kernel))
            (fun _ _ _ _ _ => pg_tup rfl (pgs_cons (pg_name (i := 9) scLaw.nd rfl (Or.inl rfl) (Or.inr rfl)) (pgs_cons (pg_name (i := 10) scLaw.nd rfl (Or.inl rfl) (Or.inr rfl)) pgs_nil))) (fun _ _ _ _ _ => pts_nil)
            (fun _ _ _ _ _ => pe_or (pe_cmpR (op_own (fun _ _ => rfl) rfl (spEq C) hr11 T FE) (pv 9) (pv 10) (nomark _)) (pe_one (pe_not (pe_cmpR (op_own (fun _ _ => rfl) rfl (spNe C) hr12 T FN) (pv 9) (pv 10) (nomark _)))))) pa_nil)))
          (pss_one (ps_ret pe_bl)) pss_nil)
      (C8.pss_cut (ps_set (i := 13) scLaw.nd rfl (Or.inl rfl) (pe_callB (call_repr hg hu) (by rfl) T.repr (by decide +kernel) (pa_cons (pe_fld (pe_ix ix_tup (pe_ix ix_list (pv 8) pe_int (fun _ _ => rfl)) pe_int (fun _ _ => rfl)) rfl) pa_nil)))
      (C8.pss_cut (ps_if (pt_val (pe_callB call_isi (by rfl) T.isi boot_isinstance (pa_cons (pv 4) (pa_cons (pe_bltn (v := .ty "list") (by rfl) T.list Pv.boot_list rfl) pa_nil))))
          (pss_one (ps_expr (pe_bm PySem.F.plainAttrs_list PySem.F.slot_list_append PySem.F.type_list_append mt_append (pv 4) (pa_cons pe_int pa_nil)))) pss_nil)
      (pss_one (ps_ret (pe_cmpR op_eq (pe_callB (call_repr hg hu) (by rfl) T.repr (by decide +kernel) (pa_cons (pe_fld (pe_ix ix_tup (pe_ix ix_list (pv 8) pe_int (fun _ _ => rfl)) pe_int (fun _ _ => rfl)) rfl) pa_nil)) (pv 13) (nomark _)))))))))))))), ?_⟩
    -- the pen
    refine ⟨fun σ H' => ∃ p c, σ = [some (.ref sa), some (.ref p), none, none, none, none, none, none, none, none, none, none, none, none, none] ∧ PenAt p c ns H' 0, ?_, fun σ1 K1 q1 => ?_⟩
    · exact ⟨_, rfl, sa, ns, rfl, hS, hlen, fun p c H' _ hp => ⟨p, c, rfl, hp⟩⟩
    obtain ⟨p, c, rfl, hp⟩ := q1
    -- four values
    refine ⟨fun σ H' => ∃ D vs, σ = [some (.ref sa), some (.ref p), none, some (.ref D), none, none, none, none, none, none, none, none, none, none, none] ∧ H' D = some (.lst vs) ∧ vs.length = 4 ∧ PenAt p c ns H' 16 ∧ ∀ v ∈ vs, ∃ d, valB d = true ∧ Rp H' v d, ?_, fun σ1 K2 q1 => ?_⟩
    · refine ⟨4, rfl, by decide, by decide, fun D nD => ?_⟩
      have Dp : D ≠ p := fun e => by obtain ⟨o, ho, _⟩ := hp.some; rw [e, ho] at nD; cases nD
      have cD : c ≠ D := fun e => by obtain ⟨_, _, _, _, q2, _⟩ := hp; rw [e, nD] at q2; cases q2
      refine lc_range (lo := 0) (n := 4) (fun i H' => ∃ vs : List V, vs.length = i ∧ H' D = some (.lst vs) ∧ PenAt p c ns H' (4 * (i : Int)) ∧ ∀ v ∈ vs, ∃ d, valB d = true ∧ Rp (hid D H') v d) ?_ ?_ ?_
      · exact ⟨[], rfl, upd_same, hp.same (Same.upd nD), fun v hv => nomatch hv⟩
      · rintro i H2 hi ⟨vs, h1, h2, h3, h4⟩
        refine ⟨rfl, ?_⟩
        refine ⟨_, rfl, p, c, ns, 4 * (i : Int), rfl, h3, by omega, by omega, fun v d H3 hd rv ch hp3 => ⟨vs, ch.at_ Dp h2, by rw [h1]; exact Nat.lt_trans hi (by decide), ?_⟩⟩
        have e4 : 4 * (i : Int) + 4 = 4 * (((i + 1 : Nat)) : Int) := by omega
        rw [e4] at hp3
        obtain ⟨op, hop, hnop, _, _⟩ := h3.some
        have hpD : (hid D H2) p = some op := by rw [hid_ne (Ne.symm Dp)]; exact hop
        have chD : Ch p (hid D H2) (hid D (upd H3 D (.lst (vs ++ [v])))) := Ch.of fun b o hb e => by
          obtain ⟨nb, e'⟩ := hid_some e
          rw [hid_ne nb, upd_ne nb]
          exact ch.at_ hb e'
        refine ⟨vs ++ [v], by rw [List.length_append, h1]; rfl, upd_same, ?_, fun u hu => ?_⟩
        · obtain ⟨a, d, g, q1, q2, q3⟩ := hp3
          exact ⟨a, d, g, by rw [upd_ne (Ne.symm Dp)]; exact q1, by rw [upd_ne cD]; exact q2, q3⟩
        · rcases List.mem_append.mp hu with hu | hu
          · obtain ⟨d', hd', r'⟩ := h4 u hu
            exact ⟨d', hd', Rp.ch hpD hnop chD _ _ r'⟩
          · rw [List.mem_singleton.mp hu]
            refine ⟨d, hd, Rp.same (fun b o e => ?_) _ _ rv⟩
            obtain ⟨e1, e2⟩ := nw_some e
            have nb : b ≠ D := fun q => by rw [q, h2] at e1; cases e1
            rw [hid_ne nb, upd_ne nb]
            exact e2
      · rintro H2 ⟨vs, h1, h2, h3, h4⟩
        refine ⟨D, vs, rfl, h2, h1, h3, fun v hv => ?_⟩
        obtain ⟨d, hd, r⟩ := h4 v hv
        exact ⟨d, hd, Rp.same (fun b o e => (hid_some e).2) _ _ r⟩
    obtain ⟨D, vs, rfl, hD, hvl, hp2, hvs⟩ := q1
    -- a, b, c, d
    refine ⟨fun σ H' => ∃ va vb vc vd da db dc dd, σ = [some (.ref sa), some (.ref p), none, some (.ref D), some va, some vb, some vc, some vd, none, none, none, none, none, none, none] ∧ PenAt p c ns H' 16 ∧
        valB da = true ∧ valB db = true ∧ valB dc = true ∧ valB dd = true ∧ RpAll H' [va, vb, vc, vd] [da, db, dc, dd], ?_, fun σ1 K3 q1 => ?_⟩
    · refine ⟨_, rfl, D, rfl, ⟨vs, SqL.of hD⟩, fun G nG => ?_⟩
      have DG : D ≠ G := ne_of_none hD nG
      refine lc_list (K := K) (a := D) (xs := vs) (fun i H' => ∃ us : List V, us.length = i ∧ H' G = some (.lst us) ∧ (∀ b o, K2 b = some o → H' b = some o) ∧ ∀ v ∈ us, ∃ d, valB d = true ∧ Rp (hid G H') v d) ?_ ?_ ?_ ?_
      · exact ⟨[], rfl, upd_same, Same.upd nG, fun v hv => nomatch hv⟩
      · rintro i H2 _ ⟨us, _, _, h3, _⟩
        exact SqL.of (h3 _ _ hD)
      · rintro i x H2 hx ⟨us, h1, h2, h3, h4⟩
        obtain ⟨d, hd, rx⟩ := hvs x (List.mem_of_getElem? hx)
        have rx2 : Rp H2 x d := Rp.same h3 _ _ rx
        have hi : i < 4 := by rw [← hvl]; exact (List.getElem?_eq_some_iff.mp hx).1
        obtain ⟨t, ht, hk⟩ := rx2.isList (K := K)
        refine ⟨rfl, ?_⟩
        refine ⟨_, rfl, _, _, t, _, isList d, rfl, .ty _, ht, hk, _, rfl, ?_⟩
        -- what comes of a value y whose data stand outside G
        have fin : ∀ (y : V) (H4 : Hp), Same H2 H4 → Rp (hid G H4) y d → ∃ acc, H4 G = some (.lst acc) ∧ acc.length < sizeLine ∧
            ∃ us : List V, us.length = i + 1 ∧ (upd H4 G (.lst (acc ++ [y]))) G = some (.lst us) ∧ (∀ b o, K2 b = some o → (upd H4 G (.lst (acc ++ [y]))) b = some o) ∧ ∀ v ∈ us, ∃ d, valB d = true ∧ Rp (hid G (upd H4 G (.lst (acc ++ [y])))) v d := by
          intro y H4 s4 ry
          have sm : ∀ Z, Same (hid G H4) (hid G (upd H4 G (.lst Z))) := fun Z b o e => by
            obtain ⟨nb, e'⟩ := hid_some e
            rw [hid_ne nb, upd_ne nb]
            exact e'
          have sm2 : Same (hid G H2) (hid G H4) := fun b o e => by
            obtain ⟨nb, e'⟩ := hid_some e
            rw [hid_ne nb]
            exact s4 _ _ e'
          refine ⟨us, s4 _ _ h2, by rw [h1]; exact Nat.lt_trans hi (by decide), us ++ [y], by rw [List.length_append, h1]; rfl, upd_same, fun b o e => ?_, fun u hu => ?_⟩
          · rw [upd_ne (ne_of_none e nG)]
            exact s4 _ _ (h3 b o e)
          · rcases List.mem_append.mp hu with hu | hu
            · obtain ⟨d', hd', r'⟩ := h4 u hu
              exact ⟨d', hd', Rp.same (sm2.trans (sm _)) _ _ r'⟩
            · rw [List.mem_singleton.mp hu]
              exact ⟨d, hd, Rp.same (sm _) _ _ ry⟩
        -- the values of K2 stand outside G
        have out : ∀ (H4 : Hp), Same H2 H4 → Same K2 (hid G H4) := fun H4 s4 b o e => by
          rw [hid_ne (ne_of_none e nG)]
          exact s4 _ _ (h3 b o e)
        cases rx with
        | @lst a xs ds e1 e2 =>
          refine iteT ⟨_, rfl, a, xs, rfl, .inl (SqL.of (h3 _ _ e1)), fun l nl => ?_⟩
          have lG : l ≠ G := fun q => by rw [q, h2] at nl; cases nl
          have s4 : Same H2 (upd H2 l (.lst xs)) := Same.upd nl
          exact fin (.ref l) _ s4 (.lst (by rw [hid_ne lG]; exact upd_same) (RpAll.same (out _ s4) _ _ e2))
        | non => exact iteF ⟨_, rfl, fin _ H2 (Same.refl H2) .non⟩
        | bl b => exact iteF ⟨_, rfl, fin _ H2 (Same.refl H2) (.bl b)⟩
        | int i => exact iteF ⟨_, rfl, fin _ H2 (Same.refl H2) (.int i)⟩
        | str z => exact iteF ⟨_, rfl, fin _ H2 (Same.refl H2) (.str z)⟩
        | tup e1 e2 => exact iteF ⟨_, rfl, fin _ H2 (Same.refl H2) (Rp.same (out _ (Same.refl H2)) _ _ (.tup e1 e2))⟩
        | dct e1 => exact iteF ⟨_, rfl, fin _ H2 (Same.refl H2) (Rp.same (out _ (Same.refl H2)) _ _ (.dct e1))⟩
      · rintro H2 ⟨us, h1, h2, h3, h4⟩
        rw [hvl] at h1
        match us, h1, h2, h4 with
        | [va, vb, vc, vd], _, h2, h4 =>
          obtain ⟨da, ea, ra⟩ := h4 va (by simp)
          obtain ⟨db, eb, rb⟩ := h4 vb (by simp)
          obtain ⟨dc, ec, rc⟩ := h4 vc (by simp)
          obtain ⟨dd, ed, rd⟩ := h4 vd (by simp)
          have un : Same (hid G H2) H2 := fun b o e => (hid_some e).2
          exact ⟨G, _, rfl, SqL.of h2, rfl, _, _, rfl, _, _, rfl, _, _, rfl, _, _, rfl, rfl, va, vb, vc, vd, da, db, dc, dd, rfl, hp2.same h3, ea, eb, ec, ed, .cons (Rp.same un _ _ ra) (.cons (Rp.same un _ _ rb) (.cons (Rp.same un _ _ rc) (.cons (Rp.same un _ _ rd) .nil)))⟩
    obtain ⟨va, vb, vc, vd, da, db, dc, dd, rfl, hp3, ea, eb, ec, ed, hv4⟩ := q1
    -- the rows
    refine ⟨fun σ H' => ∃ r ts, ts.length = 11 ∧ Mid C p c ns da db dc dd va r ts 0 none σ H', ?_, fun σ1 K4 q1 => ?_⟩
    · refine ⟨_, rfl, _, rfl, _, rfl, _, rfl, da, db, dc, dd, rfl, hv4, fun r ts H' S hr' hR => ⟨r, ts, hR.1, ?_⟩⟩
      cases hv4 with | cons ra _ => exact ⟨_, _, _, _, _, _, _, _, _, _, _, 16, rfl, hp3.same S, by omega, by omega, Rp.same S _ _ ra, hr', hR⟩
    obtain ⟨r, ts, htl, q1⟩ := q1
    have hrow : ∀ {k : Nat} {v : V} {H' : Hp}, RowsOk C H' ts (dss da db dc dd) → ts[k]? = some v → ∃ ds : List PyData, k < 11 ∧ RowOk C k H' v (ds.map cp) ∧ ds.length ≤ 6 ∧ ∀ e ∈ ds, valB e = true := by
      intro k v H' hR e
      have hk : k < (dss da db dc dd).length := by rw [← hR.1]; exact (List.getElem?_eq_some_iff.mp e).1
      obtain ⟨h1, h2, h3⟩ := dss_mem ea eb ec ed (List.getElem?_eq_getElem hk)
      exact ⟨_, h1, hR.2 k v _ e (List.getElem?_eq_getElem hk), h2, h3⟩
    -- each row is as due
    refine ⟨Mid C p c ns da db dc dd va r ts 0 none, ?_, fun σ1 K5 q1 => ?_⟩
    · have q2 := q1
      obtain ⟨x0, x2, x3, x5, x6, x7, x9, x10, x11, x12, x14, n, rfl, _, _, _, _, hr', hR⟩ := q1
      refine ⟨_, rfl, r, rfl, ⟨ts, SqL.of hr'⟩, for_list (K := K) (a := r) (xs := ts) (fun _ σ H' => Mid C p c ns da db dc dd va r ts 0 none σ H') q2 (fun i σ H' _ z => ?_) (fun i x σ H' hx z => ?_) (fun σ H' z => z)⟩
      · obtain ⟨_, _, _, _, _, _, _, _, _, _, _, _, _, _, _, _, _, hr', _⟩ := z
        exact SqL.of hr'
      · obtain ⟨x0, x2, x3, x5, x6, x7, x9, x10, x11, x12, x14, n, rfl, hp, n0, n1, ra, hr', hR⟩ := z
        obtain ⟨ds, hk, ⟨t, o1, o2, l, rfl, ht, ho1, ho2, hl⟩, hds, hval⟩ := hrow hR hx
        refine ⟨t, _, rfl, SqT.of ht, rfl, _, _, rfl, _, _, rfl, _, _, rfl, rfl, ?_⟩
        have hshow : canShow (.list (.str (cN i) :: ds.map cp)) = true := canShow_row (fun d hd => by
          rcases List.mem_cons.mp hd with e | e
          · rw [e]; exact chk_name i hk
          · obtain ⟨d', hd', rfl⟩ := List.mem_map.mp e
            exact valB_cp (hval d' hd')) (by simp; omega)
        have hdep : (ekey i (ds.map cp)).depth ≤ 6 := Nat.le_trans (ekey_depth (n := 3) i _ fun d hd => by
          obtain ⟨d', hd', rfl⟩ := List.mem_map.mp hd
          exact chk_depth (valB_cp (hval d' hd'))) (by decide)
        refine ⟨_, rfl, o1, i, _, rfl, hk, ho1, fun v1 H1 s1 r1 => ⟨v1, _, rfl, r1, hshow, ?_⟩⟩
        refine ⟨_, rfl, _, _, rfl, Rp.same s1 _ _ hl, hshow, rfl, _, rfl, ?_⟩
        refine iteNS rfl ?_
        refine ⟨_, rfl, o2, i, _, rfl, hk, ho2.same s1, fun v2 H2 s2 r2 => ⟨v2, _, rfl, r2, hshow, ?_⟩⟩
        refine ⟨_, rfl, _, _, rfl, Rp.same (s1.trans s2) _ _ hl, hshow, rfl, _, rfl, ?_⟩
        refine iteNS rfl ?_
        have S := s1.trans s2
        have res : EqRes i i (ds.map cp) (ds.map cp) true := .inr ⟨rfl, .inl ⟨rfl, hdep, rfl⟩⟩
        refine ⟨_, rfl, _, rfl, i, o1, o2, i, _, _, hk, hk, rfl, rfl, ho1.same S, ho2.same S, o1, o2, i, _, _, true, rfl, hk, ho1.same S, ho2.same S, res, fun H3 s3 => ⟨⟨_, rfl⟩, _, rfl, ?_⟩⟩
        refine iteF ?_
        have S3 := S.trans s3
        refine ⟨_, rfl, _, rfl, i, o1, o2, i, _, _, hk, hk, rfl, rfl, ho1.same S3, ho2.same S3, o1, o2, i, _, _, true, rfl, hk, ho1.same S3, ho2.same S3, res, fun H4 s4 => ⟨⟨_, rfl⟩, _, rfl, ?_⟩⟩
        refine iteF ?_
        have S4 := S3.trans s4
        exact ⟨_, _, _, _, _, _, _, _, _, _, _, n, rfl, hp.same S4, n0, n1, Rp.same S4 _ _ ra, S4 _ _ hr', hR.same S4⟩
    -- rows of two classes are not equal
    refine ⟨Mid C p c ns da db dc dd va r ts 11 none, ?_, fun σ1 K6 q1 => ?_⟩
    · have q2 := q1
      obtain ⟨x0, x2, x3, x5, x6, x7, x9, x10, x11, x12, x14, n, rfl, _, _, _, _, hr', hR⟩ := q1
      refine ⟨_, rfl, r, ts, rfl, .inl (SqL.of hr'), (ts.length : Int), rfl, by rw [htl]; decide, by rw [htl]; decide, ?_⟩
      have e11 : ((ts.length : Nat) : Int).toNat = 11 := by rw [htl]; rfl
      rw [e11]
      refine for_range (lo := 0) (n := 11) (fun i σ H' => i ≤ 11 ∧ Mid C p c ns da db dc dd va r ts i none σ H') ⟨by decide, q2⟩ (fun i σ H' hi z => ?_) (fun σ H' z => z.2)
      obtain ⟨_, z⟩ := z
      obtain ⟨x0, x2, x3, x5, x6, x7, x9, x10, x11, x12, x14, n, rfl, hp, n0, n1, ra, hr', hR⟩ := z
      refine ⟨_, rfl, _, rfl, _, _, rfl, rfl, _, rfl, _, rfl, r, ts, rfl, .inl (SqL.of hr'), _, _, rfl, rfl, p, c, ns, n, _, rfl, hp, n0, by omega, by rw [htl]; decide, by rw [htl]; decide, fun u H1 u0 u1 ch hp1 => ?_⟩
      have rp : r ≠ p := fun e => by
        obtain ⟨_, _, _, q, _⟩ := hp
        rw [e, q] at hr'; cases hr'
      have hr1' : H1 r = some (.lst ts) := ch.at_ rp hr'
      have hR1 : RowsOk C H1 ts (dss da db dc dd) := ⟨hR.1, fun k v ds e1 e2 => (hR.2 k v ds e1 e2).pen hp ch⟩
      have ra1 : Rp H1 va da := Rp.pen hp ch ra
      rw [htl] at u1
      have u1' : u < 10 := u1
      obtain ⟨j, hj, hjl, hji⟩ : ∃ j : Nat, (0 + (i : Int) + 1 + u) % ((ts.length : Nat) : Int) = (j : Int) ∧ j < 11 ∧ j ≠ i := by
        rw [htl]
        refine ⟨((0 + (i : Int) + 1 + u) % 11).toNat, ?_, ?_, ?_⟩ <;> omega
      have hjt : j < ts.length := by rw [htl]; exact hjl
      have hit : i < ts.length := by rw [htl]; exact hi
      obtain ⟨es, _, ⟨t2, y1, y2, l2, et2, ht2, hy1, _, _⟩, _, _⟩ := hrow hR1 (List.getElem?_eq_getElem hjt)
      obtain ⟨ds, hk, ⟨t1, z1, z2, l1, et1, ht1, hz1, _, _⟩, _, _⟩ := hrow hR1 (List.getElem?_eq_getElem hit)
      refine ⟨_, _, rfl, rfl, .inl ⟨_, rfl, _, rfl, r, ts, rfl, .inl (SqL.of hr1'), _, _, rfl, rfl, (by show (0 : Int) < ((ts.length : Nat) : Int); rw [htl]; decide), r, ts, _, ts[j], rfl, rfl, SqL.of hr1', ?_, t2, _, _, _, et2, rfl, SqT.of ht2, atI_nat (j := 0) rfl, ?_⟩⟩
      · rw [hj]; exact atI_nat (List.getElem?_eq_getElem hjt)
      have ei : (0 : Int) + (i : Int) = ((i : Nat) : Int) := by omega
      refine ⟨_, rfl, _, rfl, r, ts, _, ts[i], rfl, rfl, SqL.of hr1', by rw [ei]; exact atI_nat (List.getElem?_eq_getElem hit), t1, _, _, _, et1, rfl, SqT.of ht1, atI_nat (j := 0) rfl, _, rfl, ?_⟩
      refine ⟨i, z1, y1, j, _, _, hi, hjl, rfl, rfl, hz1, hy1, z1, y1, j, _, _, false, rfl, hjl, hz1, hy1, .inl ⟨hji, rfl⟩, fun H2 s2 => ⟨⟨_, rfl⟩, _, rfl, ?_⟩⟩
      refine iteF ?_
      refine ⟨_, rfl, _, rfl, r, ts, _, ts[i], rfl, rfl, SqL.of (s2 _ _ hr1'), by rw [ei]; exact atI_nat (List.getElem?_eq_getElem hit), t1, _, _, _, et1, rfl, SqT.of (s2 _ _ ht1), atI_nat (j := 0) rfl, _, rfl, ?_⟩
      refine ⟨i, z1, y1, j, _, _, hi, hjl, rfl, rfl, hz1.same s2, hy1.same s2, z1, y1, j, _, _, false, rfl, hjl, hz1.same s2, hy1.same s2, .inl ⟨hji, rfl⟩, fun H3 s3 => ⟨⟨_, rfl⟩, _, rfl, ?_⟩⟩
      refine iteF ?_
      have S := s2.trans s3
      exact ⟨hi, _, _, _, _, _, _, _, _, _, _, _, n + 1, rfl, hp1.same S, by omega, by omega, Rp.same S _ _ ra1, S _ _ hr1', hR1.same S⟩
    -- what differs in one field
    refine ⟨Mid C p c ns da db dc dd va r ts 11 none, ?_, fun σ1 K7 q1 => ?_⟩
    · obtain ⟨x0, x2, x3, x5, x6, x7, x9, x10, x11, x12, x14, n, rfl, hp, n0, n1, ra, hr', hR⟩ := q1
      intro x1 y1 nx1 ny1 ne1
      refine rd_make nx1 ny1 ne1 (ds := [.int (1), .int (2), .str "a"]) (.cons (.int _) (.cons (.int _) (.cons (.str _) .nil))) rfl (fun H1 z1 o1 => ⟨rfl, ?_⟩)
      intro x2 y2 nx2 ny2 ne2
      refine rd_make nx2 ny2 ne2 (ds := [.int (1), .int (3), .str "a"]) (.cons (.int _) (.cons (.int _) (.cons (.str _) .nil))) rfl (fun H2 z2 o2 => ⟨rfl, ?_⟩)
      refine ⟨0, x1, x2, 0, _, _, by decide, by decide, rfl, rfl, (o1.same z2), o2, x1, x2, 0, _, _, false, rfl, by decide, (o1.same z2), o2, .inr ⟨rfl, .inr ⟨by decide +kernel, by decide +kernel, by decide +kernel⟩⟩, fun J3 w3 => ⟨⟨_, rfl⟩, _, rfl, ?_⟩⟩
      have W := ((z1.trans z2).trans w3)
      refine iteF ?_
      intro x4 y4 nx4 ny4 ne4
      refine rd_make nx4 ny4 ne4 (ds := [.int (1)]) (.cons (.int _) .nil) rfl (fun H4 z4 o4 => ⟨rfl, ?_⟩)
      intro x5 y5 nx5 ny5 ne5
      refine rd_make nx5 ny5 ne5 (ds := [.int (2)]) (.cons (.int _) .nil) rfl (fun H5 z5 o5 => ⟨rfl, ?_⟩)
      refine ⟨1, x4, x5, 1, _, _, by decide, by decide, rfl, rfl, (o4.same z5), o5, x4, x5, 1, _, _, false, rfl, by decide, (o4.same z5), o5, .inr ⟨rfl, .inr ⟨by decide +kernel, by decide +kernel, by decide +kernel⟩⟩, fun J6 w6 => ⟨⟨_, rfl⟩, _, rfl, ?_⟩⟩
      have W := W.trans ((z4.trans z5).trans w6)
      refine iteF ?_
      intro x7 y7 nx7 ny7 ne7
      refine rd_make nx7 ny7 ne7 (ds := [.int (1)]) (.cons (.int _) .nil) rfl (fun H7 z7 o7 => ⟨rfl, ?_⟩)
      refine ⟨_, rfl, ?_⟩
      intro x8 y8 nx8 ny8 ne8
      refine rd_make nx8 ny8 ne8 (ds := [.int (-1)]) (.cons (.int _) .nil) rfl (fun H8 z8 o8 => ⟨rfl, ?_⟩)
      refine ⟨2, x7, x8, 2, _, _, by decide, by decide, rfl, rfl, (o7.same z8), o8, x7, x8, 2, _, _, false, rfl, by decide, (o7.same z8), o8, .inr ⟨rfl, .inr ⟨by decide +kernel, by decide +kernel, by decide +kernel⟩⟩, fun J9 w9 => ⟨⟨_, rfl⟩, _, rfl, ?_⟩⟩
      have W := W.trans ((z7.trans z8).trans w9)
      refine iteF ?_
      intro x10 y10 nx10 ny10 ne10
      refine rd_make nx10 ny10 ne10 (ds := [.int (0)]) (.cons (.int _) .nil) rfl (fun H10 z10 o10 => ⟨rfl, ?_⟩)
      intro x11 y11 nx11 ny11 ne11
      refine rd_make nx11 ny11 ne11 (ds := [.int (1)]) (.cons (.int _) .nil) rfl (fun H11 z11 o11 => ⟨rfl, ?_⟩)
      refine ⟨3, x10, x11, 3, _, _, by decide, by decide, rfl, rfl, (o10.same z11), o11, x10, x11, 3, _, _, false, rfl, by decide, (o10.same z11), o11, .inr ⟨rfl, .inr ⟨by decide +kernel, by decide +kernel, by decide +kernel⟩⟩, fun J12 w12 => ⟨⟨_, rfl⟩, _, rfl, ?_⟩⟩
      have W := W.trans ((z10.trans z11).trans w12)
      refine iteF ?_
      exact ⟨_, _, _, _, _, _, _, _, _, _, _, n, rfl, hp.same W, n0, n1, Rp.same W _ _ ra, W _ _ hr', hR.same W⟩
    refine ⟨Mid C p c ns da db dc dd va r ts 11 none, ?_, fun σ1 K8 q1 => ?_⟩
    · obtain ⟨x0, x2, x3, x5, x6, x7, x9, x10, x11, x12, x14, n, rfl, hp, n0, n1, ra, hr', hR⟩ := q1
      intro x1 y1 nx1 ny1 ne1
      refine rd_make nx1 ny1 ne1 (ds := [.str "a", .int (1)]) (.cons (.str _) (.cons (.int _) .nil)) rfl (fun H1 z1 o1 => ⟨rfl, ?_⟩)
      intro x2 y2 nx2 ny2 ne2
      refine rd_make nx2 ny2 ne2 (ds := [.str "a", .int (2)]) (.cons (.str _) (.cons (.int _) .nil)) rfl (fun H2 z2 o2 => ⟨rfl, ?_⟩)
      refine ⟨4, x1, x2, 4, _, _, by decide, by decide, rfl, rfl, (o1.same z2), o2, x1, x2, 4, _, _, false, rfl, by decide, (o1.same z2), o2, .inr ⟨rfl, .inr ⟨by decide +kernel, by decide +kernel, by decide +kernel⟩⟩, fun J3 w3 => ⟨⟨_, rfl⟩, _, rfl, ?_⟩⟩
      have W := ((z1.trans z2).trans w3)
      refine iteF ?_
      refine ⟨(by show 0 ≤ sizeLine; decide), fun p4 n4 => ?_⟩
      have s4 : Same J3 (upd J3 p4 (.tup [])) := Same.upd n4
      have g4 : upd J3 p4 (.tup []) p4 = some (.tup []) := upd_same
      intro x5 y5 nx5 ny5 ne5
      refine rd_make nx5 ny5 ne5 (ds := [.tuple []]) (.cons (.tup (g4) (.nil)) .nil) rfl (fun H5 z5 o5 => ⟨rfl, ?_⟩)
      refine ⟨(by show 1 ≤ sizeLine; decide), fun p6 n6 => ?_⟩
      have s6 : Same H5 (upd H5 p6 (.tup [.int 1])) := Same.upd n6
      have g6 : upd H5 p6 (.tup [.int 1]) p6 = some (.tup [.int 1]) := upd_same
      intro x7 y7 nx7 ny7 ne7
      refine rd_make nx7 ny7 ne7 (ds := [.tuple [.int (1)]]) (.cons (.tup (g6) (.cons (.int _) .nil)) .nil) rfl (fun H7 z7 o7 => ⟨rfl, ?_⟩)
      refine ⟨5, x5, x7, 5, _, _, by decide, by decide, rfl, rfl, ((o5.same s6).same z7), o7, x5, x7, 5, _, _, false, rfl, by decide, ((o5.same s6).same z7), o7, .inr ⟨rfl, .inr ⟨by decide +kernel, by decide +kernel, by decide +kernel⟩⟩, fun J8 w8 => ⟨⟨_, rfl⟩, _, rfl, ?_⟩⟩
      have W := W.trans ((((s4.trans z5).trans s6).trans z7).trans w8)
      refine iteF ?_
      refine ⟨(by show 0 ≤ sizeLine; decide), fun p9 n9 => ?_⟩
      have s9 : Same J8 (upd J8 p9 (.tup [])) := Same.upd n9
      have g9 : upd J8 p9 (.tup []) p9 = some (.tup []) := upd_same
      intro x10 y10 nx10 ny10 ne10
      refine rd_make nx10 ny10 ne10 (ds := [.int (1), .tuple []]) (.cons (.int _) (.cons (.tup (g9) (.nil)) .nil)) rfl (fun H10 z10 o10 => ⟨rfl, ?_⟩)
      refine ⟨(by show 1 ≤ sizeLine; decide), fun p11 n11 => ?_⟩
      have s11 : Same H10 (upd H10 p11 (.tup [.int 1])) := Same.upd n11
      have g11 : upd H10 p11 (.tup [.int 1]) p11 = some (.tup [.int 1]) := upd_same
      intro x12 y12 nx12 ny12 ne12
      refine rd_make nx12 ny12 ne12 (ds := [.int (1), .tuple [.int (1)]]) (.cons (.int _) (.cons (.tup (g11) (.cons (.int _) .nil)) .nil)) rfl (fun H12 z12 o12 => ⟨rfl, ?_⟩)
      refine ⟨8, x10, x12, 8, _, _, by decide, by decide, rfl, rfl, ((o10.same s11).same z12), o12, x10, x12, 8, _, _, false, rfl, by decide, ((o10.same s11).same z12), o12, .inr ⟨rfl, .inr ⟨by decide +kernel, by decide +kernel, by decide +kernel⟩⟩, fun J13 w13 => ⟨⟨_, rfl⟩, _, rfl, ?_⟩⟩
      have W := W.trans ((((s9.trans z10).trans s11).trans z12).trans w13)
      refine iteF ?_
      refine ⟨(by show 0 ≤ sizeLine; decide), fun p14 n14 => ?_⟩
      have s14 : Same J13 (upd J13 p14 (.tup [])) := Same.upd n14
      have g14 : upd J13 p14 (.tup []) p14 = some (.tup []) := upd_same
      refine ⟨(by show 0 ≤ sizeLine; decide), fun p15 n15 => ?_⟩
      have s15 : Same (upd J13 p14 (.tup [])) (upd (upd J13 p14 (.tup [])) p15 (.tup [])) := Same.upd n15
      have g15 : upd (upd J13 p14 (.tup [])) p15 (.tup []) p15 = some (.tup []) := upd_same
      refine ⟨(by show 0 ≤ sizeLine; decide), fun p16 n16 => ?_⟩
      have s16 : Same (upd (upd J13 p14 (.tup [])) p15 (.tup [])) (upd (upd (upd J13 p14 (.tup [])) p15 (.tup [])) p16 (.tup [])) := Same.upd n16
      have g16 : upd (upd (upd J13 p14 (.tup [])) p15 (.tup [])) p16 (.tup []) p16 = some (.tup []) := upd_same
      intro x17 y17 nx17 ny17 ne17
      refine rd_make nx17 ny17 ne17 (ds := [.tuple [], .tuple [], .tuple []]) (.cons (.tup (s16 _ _ (s15 _ _ g14)) (.nil)) (.cons (.tup (s16 _ _ g15) (.nil)) (.cons (.tup (g16) (.nil)) .nil))) rfl (fun H17 z17 o17 => ⟨rfl, ?_⟩)
      refine ⟨(by show 0 ≤ sizeLine; decide), fun p18 n18 => ?_⟩
      have s18 : Same H17 (upd H17 p18 (.tup [])) := Same.upd n18
      have g18 : upd H17 p18 (.tup []) p18 = some (.tup []) := upd_same
      refine ⟨(by show 1 ≤ sizeLine; decide), fun p19 n19 => ?_⟩
      have s19 : Same (upd H17 p18 (.tup [])) (upd (upd H17 p18 (.tup [])) p19 (.tup [.int 1])) := Same.upd n19
      have g19 : upd (upd H17 p18 (.tup [])) p19 (.tup [.int 1]) p19 = some (.tup [.int 1]) := upd_same
      refine ⟨(by show 0 ≤ sizeLine; decide), fun p20 n20 => ?_⟩
      have s20 : Same (upd (upd H17 p18 (.tup [])) p19 (.tup [.int 1])) (upd (upd (upd H17 p18 (.tup [])) p19 (.tup [.int 1])) p20 (.tup [])) := Same.upd n20
      have g20 : upd (upd (upd H17 p18 (.tup [])) p19 (.tup [.int 1])) p20 (.tup []) p20 = some (.tup []) := upd_same
      intro x21 y21 nx21 ny21 ne21
      refine rd_make nx21 ny21 ne21 (ds := [.tuple [], .tuple [.int (1)], .tuple []]) (.cons (.tup (s20 _ _ (s19 _ _ g18)) (.nil)) (.cons (.tup (s20 _ _ g19) (.cons (.int _) .nil)) (.cons (.tup (g20) (.nil)) .nil))) rfl (fun H21 z21 o21 => ⟨rfl, ?_⟩)
      refine ⟨9, x17, x21, 9, _, _, by decide, by decide, rfl, rfl, ((((o17.same s18).same s19).same s20).same z21), o21, x17, x21, 9, _, _, false, rfl, by decide, ((((o17.same s18).same s19).same s20).same z21), o21, .inr ⟨rfl, .inr ⟨by decide +kernel, by decide +kernel, by decide +kernel⟩⟩, fun J22 w22 => ⟨⟨_, rfl⟩, _, rfl, ?_⟩⟩
      have W := W.trans ((((((((s14.trans s15).trans s16).trans z17).trans s18).trans s19).trans s20).trans z21).trans w22)
      refine iteF ?_
      exact ⟨_, _, _, _, _, _, _, _, _, _, _, n, rfl, hp.same W, n0, n1, Rp.same W _ _ ra, W _ _ hr', hR.same W⟩
    -- no unlike pair is equal
    refine ⟨Mid C p c ns da db dc dd va r ts 11 none, ?_, fun σ1 K9 q1 => ?_⟩
    · obtain ⟨x0, x2, x3, x5, x6, x7, x9, x10, x11, x12, x14, n, rfl, hp, n0, n1, ra, hr', hR⟩ := q1
      refine ⟨rfl, fun z us H1 S1 hz hul hpr => ⟨z, rfl, ⟨us, SqL.of hz⟩, fun D nD => ?_⟩⟩
      refine lc_list (K := K) (a := z) (xs := us) (fun i H' => (∀ b o, H1 b = some o → H' b = some o) ∧ H' D = some (.lst ((List.replicate i false).map V.bl))) ?_ ?_ ?_ ?_
      · exact ⟨Same.upd nD, upd_same⟩
      · rintro i H2 _ ⟨h1, _⟩
        exact SqL.of (h1 _ _ hz)
      · rintro i x H2 hx ⟨h1, h2⟩
        obtain ⟨t, xx, yy, k, ds, es, rfl, ht, hk, hox, hoy, res⟩ := (hpr x (List.mem_of_getElem? hx)).same h1
        have hi : i < 20 := by rw [← hul]; exact (List.getElem?_eq_some_iff.mp hx).1
        refine ⟨t, _, rfl, SqT.of ht, rfl, _, _, rfl, _, _, rfl, rfl, rfl, ?_⟩
        refine ⟨_, rfl, _, rfl, k, xx, yy, k, _, _, hk, hk, rfl, rfl, hox, hoy, xx, yy, k, _, _, false, rfl, hk, hox, hoy, res, fun H3 s3 => ⟨⟨_, rfl⟩, _, rfl, ?_⟩⟩
        refine iteF ?_
        refine ⟨_, rfl, _, rfl, k, xx, yy, k, _, _, hk, hk, rfl, rfl, hox.same s3, hoy.same s3, xx, yy, k, _, _, false, rfl, hk, hox.same s3, hoy.same s3, res, fun H4 s4 => ⟨⟨_, rfl⟩, _, rfl, ?_⟩⟩
        have S := s3.trans s4
        refine ⟨_, S _ _ h2, by rw [List.length_map, List.length_replicate]; exact Nat.lt_trans hi (by decide), fun b o e => ?_, ?_⟩
        · rw [upd_ne (ne_of_none e nD)]
          exact S _ _ (h1 b o e)
        · rw [upd_same, List.replicate_succ', List.map_append]
          rfl
      · rintro H2 ⟨h1, h2⟩
        refine ⟨D, _, rfl, SqL.of h2, _, rfl, ?_⟩
        have ef : ((List.replicate us.length false).any id) = false := by
          rw [List.any_eq_false]
          intro b hb
          rw [(List.mem_replicate.mp hb).2]
          decide
        rw [ef]
        refine iteF ?_
        have S : Same K8 H2 := S1.trans h1
        exact ⟨_, _, _, _, _, _, _, _, _, _, _, n, rfl, hp.same S, n0, n1, Rp.same S _ _ ra, S _ _ hr', hR.same S⟩
    -- the copy stays
    have h1t : 1 < ts.length := by rw [htl]; decide
    refine ⟨Mid C p c ns da db dc dd va r ts 11 (some (.str (cp da).shown)), ?_, fun σ1 K10 q1 => ?_⟩
    · obtain ⟨x0, x2, x3, x5, x6, x7, x9, x10, x11, x12, x14, n, rfl, hp, n0, n1, ra, hr', hR⟩ := q1
      have hrow1 := hR.2 1 ts[1] [da] (List.getElem?_eq_getElem h1t) rfl
      obtain ⟨t, o1, o2, l, et, ht, ⟨dx, ws, ho1, hw, hwl⟩, _, _⟩ := hrow1
      obtain ⟨v0, ws, e0, es, rfl, hes, rv, hw, hwl⟩ := hw.uncons hwl
      cases hes
      obtain ⟨rfl, _⟩ := hw.unnil hwl
      refine ⟨_, rfl, r, ts, _, ts[1], rfl, rfl, SqL.of hr', atI_nat (List.getElem?_eq_getElem h1t), t, _, _, _, et, rfl, SqT.of ht, atI_nat (j := 0) rfl, o1, C 1, dx, _, v0, rfl, ho1, T.cl 1 (by decide), T.no 1 (by decide) _ (List.mem_of_getElem? (i := 0) rfl), zip_lookup (i := 0) (fN_nodup 1 (by decide)) rfl rfl, v0, cp da, rfl, rv, canShow_one (valB_cp ea), ?_⟩
      exact ⟨_, _, _, _, _, _, _, _, _, _, _, n, rfl, hp, n0, n1, ra, hr', hR⟩
    refine ⟨fun σ H' => ∃ x0 x1 x2 x3 x4 x5 x6 x7 x9 x10 x11 x12 x14 : Option V, ∃ t zs o1 dx v0, σ = [x0, x1, x2, x3, x4, x5, x6, x7, some (.ref r), x9, x10, x11, x12, some (.str (cp da).shown), x14] ∧
      H' r = some (.lst ts) ∧ ts[1]? = some (.ref t) ∧ H' t = some (.tup (.ref o1 :: zs)) ∧ H' o1 = some (.ins (C 1) dx ((fN 1).zip [v0])) ∧ Rp H' v0 (cp da), ?_, fun σ1 K11 q1 => ?_⟩
    · obtain ⟨x0, x2, x3, x5, x6, x7, x9, x10, x11, x12, x14, n, rfl, hp, n0, n1, ra, hr', hR⟩ := q1
      have hrow1 := hR.2 1 ts[1] [da] (List.getElem?_eq_getElem h1t) rfl
      have hts1 : ts[1]? = some ts[1] := List.getElem?_eq_getElem h1t
      have hrow0 : RowOk C 0 K10 ts[0] _ := hR.2 0 ts[0] _ (List.getElem?_eq_getElem (by omega)) rfl
      have hnr : ∀ d, ¬ Rp K10 (.ref r) d := by
        match ts, htl, hr', hrow0 with
        | v :: ys, _, hr', hrow0 => exact hrow0.notRef hr'
      obtain ⟨t, o1, o2, l, et, ht, ⟨dx, ws, ho1, hw, hwl⟩, _, _⟩ := hrow1
      obtain ⟨v0, ws, e0, es, rfl, hes, rv, hw, hwl⟩ := hw.uncons hwl
      cases hes
      obtain ⟨rfl, _⟩ := hw.unnil hwl
      rw [et] at hts1
      obtain ⟨tt, htt, hkk⟩ := ra.isList (K := K)
      refine ⟨_, rfl, _, _, tt, _, isList da, rfl, .ty _, htt, hkk, _, rfl, ?_⟩
      have keep : ∃ x0 x1 x2 x3 x4 x5 x6 x7 x9 x10 x11 x12 x14 : Option V, ∃ t zs o1 dx v0, _ = [x0, x1, x2, x3, x4, x5, x6, x7, some (.ref r), x9, x10, x11, x12, some (.str (cp da).shown), x14] ∧
        K10 r = some (.lst ts) ∧ ts[1]? = some (.ref t) ∧ K10 t = some (.tup (.ref o1 :: zs)) ∧ K10 o1 = some (.ins (C 1) dx ((fN 1).zip [v0])) ∧ Rp K10 v0 (cp da) :=
        ⟨x0, some (.ref p), x2, x3, some va, x5, x6, x7, x9, x10, x11, x12, x14, t, _, o1, dx, v0, rfl, hr', hts1, ht, ho1, rv⟩
      cases da with
      | list ds =>
        refine iteT ?_
        have ra0 := ra
        cases ra with
        | @lst a xs _ e1 e2 =>
          have hxl : xs.length < sizeLine := by
            rw [e2.length]
            exact Nat.lt_of_le_of_lt (valB_len ea) (by decide)
          refine ⟨_, rfl, .inl ⟨rfl, _, SqL.of e1⟩, a, xs, _, rfl, rfl, e1, hxl, ?_⟩
          have ar : r ≠ a := fun e => hnr _ (e ▸ ra0)
          have ta : t ≠ a := fun e => by rw [e, e1] at ht; cases ht
          have oa : o1 ≠ a := fun e => by rw [e, e1] at ho1; cases ho1
          refine ⟨_, _, _, _, _, _, _, _, _, _, _, _, _, t, _, o1, dx, v0, rfl, by rw [upd_ne ar]; exact hr', hts1, by rw [upd_ne ta]; exact ht, by rw [upd_ne oa]; exact ho1, Rp.chC ra0 Ch.upd rv⟩
      | none => exact iteF keep
      | bool b => exact iteF keep
      | int i => exact iteF keep
      | str z => exact iteF keep
      | tuple ds => exact iteF keep
      | dict kvs => exact iteF keep
    obtain ⟨x0, x1, x2, x3, x4, x5, x6, x7, x9, x10, x11, x12, x14, t, zs, o1, dx, v0, rfl, hr', hts1, ht, ho1, rv⟩ := q1
    refine ⟨_, rfl, r, ts, _, _, rfl, rfl, SqL.of hr', atI_nat hts1, t, _, _, _, rfl, rfl, SqT.of ht, atI_nat (j := 0) rfl, o1, C 1, dx, _, v0, rfl, ho1, T.cl 1 (by decide), T.no 1 (by decide) _ (List.mem_of_getElem? (i := 0) rfl), zip_lookup (i := 0) (fN_nodup 1 (by decide)) rfl rfl, v0, cp da, rfl, rv, canShow_one (valB_cp ea), ?_⟩
    refine ⟨_, rfl, rfl, ?_⟩
    rw [decide_eq_true rfl]
    exact kk _
end
end GP
namespace GP
open PySem PySem.Spec PyProof.Rows L2
/-! ### what the top has left, in few words -/
def DefAt (K : PySem.W.Frag) (x qual : Str) (st : Stmt) (f : Addr) : Prop := ∃ fd, Fun K x qual st f fd
theorem DefAt.of {K : PySem.W.Frag} {x qual : Str} {st : Stmt} {f : Addr} {oc : Value} {od an : Option Addr} {osl : Array (Option Value)} {kV doc pm cdv ct : Value}
    (l : K.lookup f = some ⟨oc, od, .func (PySem.W.fnOf x qual (defArgs st) (defBody st) (defScope st) .none kV doc pm an cdv ct), osl⟩)
    (c : PySem.W.codeIn K cdv qual = true) (k : PySem.W.keepIn K (.ref f) = true) : DefAt K x qual st f := ⟨_, fun_mk l c k⟩
structure CAt (K : PySem.W.Frag) (C fI fE fN : Addr) : Prop where
  aI : PySem.W.findIn K (.ref C) "__init__" = some (some (.ref fI))
  iI : PySem.W.isFn K (.ref fI) = true
  aE : PySem.W.findIn K (.ref C) "__eq__" = some (some (.ref fE))
  iE : PySem.W.isFn K (.ref fE) = true
  aN : PySem.W.findIn K (.ref C) "__ne__" = some (some (.ref fN))
  iN : PySem.W.isFn K (.ref fN) = true
  pg : PySem.W.plainGet K C Str.empty = true
  hd : PySem.W.hasDictIn K C = true
  po : PySem.W.plainOver K C = true
  sa : PySem.W.findIn K (.ref C) "__setattr__" = some (some (.builtin "object.__setattr__"))
  ty1 : PySem.W.findIn K (.ref C) "__class__" = some (some (.builtin "object.__class__"))
  ty4 : PySem.W.mroIn K C (.type "object") = some true
  mkk : PySem.W.makesIn K C = true
  kc : PySem.W.keepIn K (.ref C) = true
def noL (K : PySem.W.Frag) (C : Addr) : List Str → Prop
  | [] => True
  | f :: fs => PySem.W.findIn K (.ref C) f = some none ∧ noL K C fs
theorem no_all {K : PySem.W.Frag} {C : Addr} : ∀ {fs : List Str}, noL K C fs → ∀ f ∈ fs, NoAttr K C f
  | _ :: _, h, _, .head _ => h.1
  | _ :: _, h, f, .tail _ m => no_all h.2 f m
def kitR (K : PySem.W.Frag) (c : Addr) : List (Addr × Bool) → Prop
  | [] => True
  | (d, b) :: r => PySem.W.kitOne K (.ref c) (.ref d) = some b ∧ kitR K c r
theorem kitR_get {K : PySem.W.Frag} {c d : Addr} {b : Bool} : ∀ {l : List (Addr × Bool)} {j : Nat}, kitR K c l → l[j]? = some (d, b) → PySem.W.kitOne K (.ref c) (.ref d) = some b
  | [], _, _, h => nomatch h
  | (d', b') :: r, 0, h, e => by
    simp at e
    rw [← e.1, ← e.2]
    exact h.1
  | (d', b') :: r, j + 1, h, e => kitR_get (j := j) h.2 (by simpa using e)
def nfR (K : PySem.W.Frag) (c : Addr) : List Addr → Prop
  | [] => True
  | d :: r => PySem.W.notFirst K c (.ref d) = true ∧ nfR K c r
theorem nfR_get {K : PySem.W.Frag} {c d : Addr} : ∀ {l : List Addr} {j : Nat}, nfR K c l → l[j]? = some d → PySem.W.notFirst K c (.ref d) = true
  | [], _, _, h => nomatch h
  | d' :: r, 0, h, e => by
    simp at e
    rw [← e]
    exact h.1
  | d' :: r, j + 1, h, e => nfR_get (j := j) h.2 (by simpa using e)
def cL (l : List Addr) (i : Nat) : Addr := l.getD i 0
theorem vals_reverse {vs : List V} {us : List Value} (h : Vals vs us) : Vals vs.reverse us.reverse := by
  induction h with
  | nil => exact .nil
  | cons h1 h2 ih =>
    rw [List.reverse_cons, List.reverse_cons]
    exact ih.append (.cons h1 .nil)
theorem kbn_of {K : PySem.W.Frag} {x qual : Str} {st : Stmt} {f : Addr} {fd : FuncData} (F : Fun K x qual st f fd) {ps ks : List Str}
    (h : ∀ (kV doc pm : Value) (an : Option Addr) (cdv ct : Value) (us ws : List Value), us.length = 1 → ws.length = ks.length →
      bindArgs (PySem.W.fnOf x qual (defArgs st) (defBody st) (defScope st) .none kV doc pm an cdv ct) ⟨us, ks.zip ws⟩ = pure (ps.zip (us ++ ws.reverse))) :
    KBn K fd ps 1 ks (fun us ws => us ++ ws.reverse) (fun vs zs => vs ++ zs.reverse) := by
  obtain ⟨oc, od, kV, doc, pm, an, cdv, ct, osl, rfl, lk, hcd⟩ := F.ex
  exact ⟨fun s us ws _ l1 l2 => .of_eq (h kV doc pm an cdv ct us ws l1 l2), fun r1 r2 => r1.append (vals_reverse r2)⟩
theorem all_mk {l : PySem.W.OpenLaw} {w : World} {K : PySem.W.Frag} {h : Heap} {mg : Str → Option Value} {fa : Addr} (X : K.In h) (G : h.Ns mainGlobals mg) (hfa : mg "law" = some (.ref fa))
    {c0 c1 c2 c3 c4 c5 c6 c7 c8 c9 c10 i0 e0 n0 i1 e1 n1 i2 e2 n2 i3 e3 n3 i4 e4 n4 i5 e5 n5 i6 e6 n6 i7 e7 n7 i8 e8 n8 i9 e9 n9 i10 e10 n10 fcp fcy ffi fro ful fpe fdr fpi fva fp6 fp7 fp10 fla : Addr}
    (gC0 : PySem.W.nsIn K mainGlobals "Stops" = some (some (.ref c0)))
    (gC1 : PySem.W.nsIn K mainGlobals "Limit" = some (some (.ref c1)))
    (gC2 : PySem.W.nsIn K mainGlobals "Infinite" = some (some (.ref c2)))
    (gC3 : PySem.W.nsIn K mainGlobals "Sign" = some (some (.ref c3)))
    (gC4 : PySem.W.nsIn K mainGlobals "Order" = some (some (.ref c4)))
    (gC5 : PySem.W.nsIn K mainGlobals "Expansion" = some (some (.ref c5)))
    (gC6 : PySem.W.nsIn K mainGlobals "Letter" = some (some (.ref c6)))
    (gC7 : PySem.W.nsIn K mainGlobals "Field" = some (some (.ref c7)))
    (gC8 : PySem.W.nsIn K mainGlobals "Lead" = some (some (.ref c8)))
    (gC9 : PySem.W.nsIn K mainGlobals "Model" = some (some (.ref c9)))
    (gC10 : PySem.W.nsIn K mainGlobals "Paper" = some (some (.ref c10)))
    (gcp : PySem.W.nsIn K mainGlobals "copied" = some (some (.ref fcp)))
    (gcy : PySem.W.nsIn K mainGlobals "_law_copy" = some (some (.ref fcy)))
    (gfi : PySem.W.nsIn K mainGlobals "_law_fields" = some (some (.ref ffi)))
    (gro : PySem.W.nsIn K mainGlobals "_law_rows" = some (some (.ref fro)))
    (gul : PySem.W.nsIn K mainGlobals "_law_unlike" = some (some (.ref ful)))
    (gpe : PySem.W.nsIn K mainGlobals "_law_pen" = some (some (.ref fpe)))
    (gdr : PySem.W.nsIn K mainGlobals "_law_draw" = some (some (.ref fdr)))
    (gpi : PySem.W.nsIn K mainGlobals "_law_pick" = some (some (.ref fpi)))
    (gva : PySem.W.nsIn K mainGlobals "_law_value" = some (some (.ref fva)))
    (gp6 : PySem.W.nsIn K mainGlobals "letter_parts" = some (some (.ref fp6)))
    (gp7 : PySem.W.nsIn K mainGlobals "field_parts" = some (some (.ref fp7)))
    (gp10 : PySem.W.nsIn K mainGlobals "paper_key" = some (some (.ref fp10)))
    (gla : PySem.W.nsIn K mainGlobals "law" = some (some (.ref fla)))
    (K0 : CAt K c0 i0 e0 n0)
    (K1 : CAt K c1 i1 e1 n1)
    (K2 : CAt K c2 i2 e2 n2)
    (K3 : CAt K c3 i3 e3 n3)
    (K4 : CAt K c4 i4 e4 n4)
    (K5 : CAt K c5 i5 e5 n5)
    (K6 : CAt K c6 i6 e6 n6)
    (K7 : CAt K c7 i7 e7 n7)
    (K8 : CAt K c8 i8 e8 n8)
    (K9 : CAt K c9 i9 e9 n9)
    (K10 : CAt K c10 i10 e10 n10)
    (N0 : noL K c0 ["line", "column", "what"])
    (N1 : noL K c1 ["ratio"])
    (N2 : noL K c2 ["sign"])
    (N3 : noL K c3 ["number"])
    (N4 : noL K c4 ["word", "ratio"])
    (N5 : noL K c5 ["row"])
    (N6 : noL K c6 ["kind", "log", "unit", "home"])
    (N7 : noL K c7 ["letters", "order", "x"])
    (N8 : noL K c8 ["number", "powers"])
    (N9 : noL K c9 ["lets", "asks", "spots"])
    (N10 : noL K c10 ["field", "rows", "steps", "depth", "places", "root"])
    (dI0 : DefAt K "__init__" "Stops.__init__" sI0 i0)
    (dE0 : DefAt K "__eq__" "Stops.__eq__" sE0 e0)
    (dN0 : DefAt K "__ne__" "Stops.__ne__" sN0 n0)
    (dI1 : DefAt K "__init__" "Limit.__init__" sI1 i1)
    (dE1 : DefAt K "__eq__" "Limit.__eq__" sE1 e1)
    (dN1 : DefAt K "__ne__" "Limit.__ne__" sN1 n1)
    (dI2 : DefAt K "__init__" "Infinite.__init__" sI2 i2)
    (dE2 : DefAt K "__eq__" "Infinite.__eq__" sE2 e2)
    (dN2 : DefAt K "__ne__" "Infinite.__ne__" sN2 n2)
    (dI3 : DefAt K "__init__" "Sign.__init__" sI3 i3)
    (dE3 : DefAt K "__eq__" "Sign.__eq__" sE3 e3)
    (dN3 : DefAt K "__ne__" "Sign.__ne__" sN3 n3)
    (dI4 : DefAt K "__init__" "Order.__init__" sI4 i4)
    (dE4 : DefAt K "__eq__" "Order.__eq__" sE4 e4)
    (dN4 : DefAt K "__ne__" "Order.__ne__" sN4 n4)
    (dI5 : DefAt K "__init__" "Expansion.__init__" sI5 i5)
    (dE5 : DefAt K "__eq__" "Expansion.__eq__" sE5 e5)
    (dN5 : DefAt K "__ne__" "Expansion.__ne__" sN5 n5)
    (dI6 : DefAt K "__init__" "Letter.__init__" sI6 i6)
    (dE6 : DefAt K "__eq__" "Letter.__eq__" sE6 e6)
    (dN6 : DefAt K "__ne__" "Letter.__ne__" sN6 n6)
    (dI7 : DefAt K "__init__" "Field.__init__" sI7 i7)
    (dE7 : DefAt K "__eq__" "Field.__eq__" sE7 e7)
    (dN7 : DefAt K "__ne__" "Field.__ne__" sN7 n7)
    (dI8 : DefAt K "__init__" "Lead.__init__" sI8 i8)
    (dE8 : DefAt K "__eq__" "Lead.__eq__" sE8 e8)
    (dN8 : DefAt K "__ne__" "Lead.__ne__" sN8 n8)
    (dI9 : DefAt K "__init__" "Model.__init__" sI9 i9)
    (dE9 : DefAt K "__eq__" "Model.__eq__" sE9 e9)
    (dN9 : DefAt K "__ne__" "Model.__ne__" sN9 n9)
    (dI10 : DefAt K "__init__" "Paper.__init__" sI10 i10)
    (dE10 : DefAt K "__eq__" "Paper.__eq__" sE10 e10)
    (dN10 : DefAt K "__ne__" "Paper.__ne__" sN10 n10)
    (dcp : DefAt K "copied" "copied" sCopied fcp)
    (dcy : DefAt K "_law_copy" "_law_copy" sCopy fcy)
    (dfi : DefAt K "_law_fields" "_law_fields" sFields ffi)
    (dro : DefAt K "_law_rows" "_law_rows" sRows fro)
    (dul : DefAt K "_law_unlike" "_law_unlike" sUnlike ful)
    (dpe : DefAt K "_law_pen" "_law_pen" sPen fpe)
    (ddr : DefAt K "_law_draw" "_law_draw" sDraw fdr)
    (dpi : DefAt K "_law_pick" "_law_pick" sPick fpi)
    (dva : DefAt K "_law_value" "_law_value" sValue fva)
    (dp6 : DefAt K "letter_parts" "letter_parts" sP6 fp6)
    (dp7 : DefAt K "field_parts" "field_parts" sP7 fp7)
    (dp10 : DefAt K "paper_key" "paper_key" sP10 fp10)
    (dla : DefAt K "law" "law" sLaw fla)
    (T0 : kitR K c0 [(c0, true), (c1, false), (c2, false), (c3, false), (c4, false), (c5, false), (c6, false), (c7, false), (c8, false), (c9, false), (c10, false)])
    (T1 : kitR K c1 [(c0, false), (c1, true), (c2, false), (c3, false), (c4, false), (c5, false), (c6, false), (c7, false), (c8, false), (c9, false), (c10, false)])
    (T2 : kitR K c2 [(c0, false), (c1, false), (c2, true), (c3, false), (c4, false), (c5, false), (c6, false), (c7, false), (c8, false), (c9, false), (c10, false)])
    (T3 : kitR K c3 [(c0, false), (c1, false), (c2, false), (c3, true), (c4, false), (c5, false), (c6, false), (c7, false), (c8, false), (c9, false), (c10, false)])
    (T4 : kitR K c4 [(c0, false), (c1, false), (c2, false), (c3, false), (c4, true), (c5, false), (c6, false), (c7, false), (c8, false), (c9, false), (c10, false)])
    (T5 : kitR K c5 [(c0, false), (c1, false), (c2, false), (c3, false), (c4, false), (c5, true), (c6, false), (c7, false), (c8, false), (c9, false), (c10, false)])
    (T6 : kitR K c6 [(c0, false), (c1, false), (c2, false), (c3, false), (c4, false), (c5, false), (c6, true), (c7, false), (c8, false), (c9, false), (c10, false)])
    (T7 : kitR K c7 [(c0, false), (c1, false), (c2, false), (c3, false), (c4, false), (c5, false), (c6, false), (c7, true), (c8, false), (c9, false), (c10, false)])
    (T8 : kitR K c8 [(c0, false), (c1, false), (c2, false), (c3, false), (c4, false), (c5, false), (c6, false), (c7, false), (c8, true), (c9, false), (c10, false)])
    (T9 : kitR K c9 [(c0, false), (c1, false), (c2, false), (c3, false), (c4, false), (c5, false), (c6, false), (c7, false), (c8, false), (c9, true), (c10, false)])
    (T10 : kitR K c10 [(c0, false), (c1, false), (c2, false), (c3, false), (c4, false), (c5, false), (c6, false), (c7, false), (c8, false), (c9, false), (c10, true)])
    (O0 : nfR K c0 [c0, c1, c2, c3, c4, c5, c6, c7, c8, c9, c10])
    (O1 : nfR K c1 [c0, c1, c2, c3, c4, c5, c6, c7, c8, c9, c10])
    (O2 : nfR K c2 [c0, c1, c2, c3, c4, c5, c6, c7, c8, c9, c10])
    (O3 : nfR K c3 [c0, c1, c2, c3, c4, c5, c6, c7, c8, c9, c10])
    (O4 : nfR K c4 [c0, c1, c2, c3, c4, c5, c6, c7, c8, c9, c10])
    (O5 : nfR K c5 [c0, c1, c2, c3, c4, c5, c6, c7, c8, c9, c10])
    (O6 : nfR K c6 [c0, c1, c2, c3, c4, c5, c6, c7, c8, c9, c10])
    (O7 : nfR K c7 [c0, c1, c2, c3, c4, c5, c6, c7, c8, c9, c10])
    (O8 : nfR K c8 [c0, c1, c2, c3, c4, c5, c6, c7, c8, c9, c10])
    (O9 : nfR K c9 [c0, c1, c2, c3, c4, c5, c6, c7, c8, c9, c10])
    (O10 : nfR K c10 [c0, c1, c2, c3, c4, c5, c6, c7, c8, c9, c10])
    (ty2 : PySem.W.specialIn K (.builtin "object.__class__") "__get__" = some (some (.builtin "getset_descriptor.__get__")))
    (ty3 : PySem.W.takesIn K (.builtin "object.__class__") = some true)
    (z_isi : PySem.W.nsIn K mainGlobals "isinstance" = some none)
    (z_list : PySem.W.nsIn K mainGlobals "list" = some none)
    (z_tuple : PySem.W.nsIn K mainGlobals "tuple" = some none)
    (z_len : PySem.W.nsIn K mainGlobals "len" = some none)
    (z_int : PySem.W.nsIn K mainGlobals "int" = some none)
    (z_range : PySem.W.nsIn K mainGlobals "range" = some none)
    (z_repr : PySem.W.nsIn K mainGlobals "repr" = some none)
    (z_any : PySem.W.nsIn K mainGlobals "any" = some none) :
    ∃ fd : FuncData, (∀ (s : Shared) (v : Value), BindsTo s fd ⟨[v], []⟩ [("script", v)]) ∧ ∀ base : Heap, K.In base → base.Ns mainGlobals mg → FnOkG l.prog w K mg base CX0 13 fa fd ["script"] (spLaw K) := by
  have e := hfa.symm.trans (PySem.W.mg_of X G gla)
  cases e
  have T : Txt K mg (cL [c0, c1, c2, c3, c4, c5, c6, c7, c8, c9, c10]) :=
  { cl := fun i hi => match i, hi with
    | 0, _ => ⟨K0.pg, K0.hd, K0.po, K0.sa⟩
    | 1, _ => ⟨K1.pg, K1.hd, K1.po, K1.sa⟩
    | 2, _ => ⟨K2.pg, K2.hd, K2.po, K2.sa⟩
    | 3, _ => ⟨K3.pg, K3.hd, K3.po, K3.sa⟩
    | 4, _ => ⟨K4.pg, K4.hd, K4.po, K4.sa⟩
    | 5, _ => ⟨K5.pg, K5.hd, K5.po, K5.sa⟩
    | 6, _ => ⟨K6.pg, K6.hd, K6.po, K6.sa⟩
    | 7, _ => ⟨K7.pg, K7.hd, K7.po, K7.sa⟩
    | 8, _ => ⟨K8.pg, K8.hd, K8.po, K8.sa⟩
    | 9, _ => ⟨K9.pg, K9.hd, K9.po, K9.sa⟩
    | 10, _ => ⟨K10.pg, K10.hd, K10.po, K10.sa⟩
    | n + 11, hn => absurd hn (by omega)
    no := fun i hi => match i, hi with
    | 0, _ => no_all N0
    | 1, _ => no_all N1
    | 2, _ => no_all N2
    | 3, _ => no_all N3
    | 4, _ => no_all N4
    | 5, _ => no_all N5
    | 6, _ => no_all N6
    | 7, _ => no_all N7
    | 8, _ => no_all N8
    | 9, _ => no_all N9
    | 10, _ => no_all N10
    | n + 11, hn => absurd hn (by omega)
    ty1 := fun i hi => match i, hi with
    | 0, _ => K0.ty1
    | 1, _ => K1.ty1
    | 2, _ => K2.ty1
    | 3, _ => K3.ty1
    | 4, _ => K4.ty1
    | 5, _ => K5.ty1
    | 6, _ => K6.ty1
    | 7, _ => K7.ty1
    | 8, _ => K8.ty1
    | 9, _ => K9.ty1
    | 10, _ => K10.ty1
    | n + 11, hn => absurd hn (by omega)
    ty2 := ty2
    ty3 := ty3
    ty4 := fun i hi => match i, hi with
    | 0, _ => K0.ty4
    | 1, _ => K1.ty4
    | 2, _ => K2.ty4
    | 3, _ => K3.ty4
    | 4, _ => K4.ty4
    | 5, _ => K5.ty4
    | 6, _ => K6.ty4
    | 7, _ => K7.ty4
    | 8, _ => K8.ty4
    | 9, _ => K9.ty4
    | 10, _ => K10.ty4
    | n + 11, hn => absurd hn (by omega)
    kit := fun i j hi hj => match i, hi with
    | 0, _ => (match j, hj with
      | 0, _ => kitR_get (j := 0) T0 rfl
      | 1, _ => kitR_get (j := 1) T0 rfl
      | 2, _ => kitR_get (j := 2) T0 rfl
      | 3, _ => kitR_get (j := 3) T0 rfl
      | 4, _ => kitR_get (j := 4) T0 rfl
      | 5, _ => kitR_get (j := 5) T0 rfl
      | 6, _ => kitR_get (j := 6) T0 rfl
      | 7, _ => kitR_get (j := 7) T0 rfl
      | 8, _ => kitR_get (j := 8) T0 rfl
      | 9, _ => kitR_get (j := 9) T0 rfl
      | 10, _ => kitR_get (j := 10) T0 rfl
      | n + 11, hn => absurd hn (by omega))
    | 1, _ => (match j, hj with
      | 0, _ => kitR_get (j := 0) T1 rfl
      | 1, _ => kitR_get (j := 1) T1 rfl
      | 2, _ => kitR_get (j := 2) T1 rfl
      | 3, _ => kitR_get (j := 3) T1 rfl
      | 4, _ => kitR_get (j := 4) T1 rfl
      | 5, _ => kitR_get (j := 5) T1 rfl
      | 6, _ => kitR_get (j := 6) T1 rfl
      | 7, _ => kitR_get (j := 7) T1 rfl
      | 8, _ => kitR_get (j := 8) T1 rfl
      | 9, _ => kitR_get (j := 9) T1 rfl
      | 10, _ => kitR_get (j := 10) T1 rfl
      | n + 11, hn => absurd hn (by omega))
    | 2, _ => (match j, hj with
      | 0, _ => kitR_get (j := 0) T2 rfl
      | 1, _ => kitR_get (j := 1) T2 rfl
      | 2, _ => kitR_get (j := 2) T2 rfl
      | 3, _ => kitR_get (j := 3) T2 rfl
      | 4, _ => kitR_get (j := 4) T2 rfl
      | 5, _ => kitR_get (j := 5) T2 rfl
      | 6, _ => kitR_get (j := 6) T2 rfl
      | 7, _ => kitR_get (j := 7) T2 rfl
      | 8, _ => kitR_get (j := 8) T2 rfl
      | 9, _ => kitR_get (j := 9) T2 rfl
      | 10, _ => kitR_get (j := 10) T2 rfl
      | n + 11, hn => absurd hn (by omega))
    | 3, _ => (match j, hj with
      | 0, _ => kitR_get (j := 0) T3 rfl
      | 1, _ => kitR_get (j := 1) T3 rfl
      | 2, _ => kitR_get (j := 2) T3 rfl
      | 3, _ => kitR_get (j := 3) T3 rfl
      | 4, _ => kitR_get (j := 4) T3 rfl
      | 5, _ => kitR_get (j := 5) T3 rfl
      | 6, _ => kitR_get (j := 6) T3 rfl
      | 7, _ => kitR_get (j := 7) T3 rfl
      | 8, _ => kitR_get (j := 8) T3 rfl
      | 9, _ => kitR_get (j := 9) T3 rfl
      | 10, _ => kitR_get (j := 10) T3 rfl
      | n + 11, hn => absurd hn (by omega))
    | 4, _ => (match j, hj with
      | 0, _ => kitR_get (j := 0) T4 rfl
      | 1, _ => kitR_get (j := 1) T4 rfl
      | 2, _ => kitR_get (j := 2) T4 rfl
      | 3, _ => kitR_get (j := 3) T4 rfl
      | 4, _ => kitR_get (j := 4) T4 rfl
      | 5, _ => kitR_get (j := 5) T4 rfl
      | 6, _ => kitR_get (j := 6) T4 rfl
      | 7, _ => kitR_get (j := 7) T4 rfl
      | 8, _ => kitR_get (j := 8) T4 rfl
      | 9, _ => kitR_get (j := 9) T4 rfl
      | 10, _ => kitR_get (j := 10) T4 rfl
      | n + 11, hn => absurd hn (by omega))
    | 5, _ => (match j, hj with
      | 0, _ => kitR_get (j := 0) T5 rfl
      | 1, _ => kitR_get (j := 1) T5 rfl
      | 2, _ => kitR_get (j := 2) T5 rfl
      | 3, _ => kitR_get (j := 3) T5 rfl
      | 4, _ => kitR_get (j := 4) T5 rfl
      | 5, _ => kitR_get (j := 5) T5 rfl
      | 6, _ => kitR_get (j := 6) T5 rfl
      | 7, _ => kitR_get (j := 7) T5 rfl
      | 8, _ => kitR_get (j := 8) T5 rfl
      | 9, _ => kitR_get (j := 9) T5 rfl
      | 10, _ => kitR_get (j := 10) T5 rfl
      | n + 11, hn => absurd hn (by omega))
    | 6, _ => (match j, hj with
      | 0, _ => kitR_get (j := 0) T6 rfl
      | 1, _ => kitR_get (j := 1) T6 rfl
      | 2, _ => kitR_get (j := 2) T6 rfl
      | 3, _ => kitR_get (j := 3) T6 rfl
      | 4, _ => kitR_get (j := 4) T6 rfl
      | 5, _ => kitR_get (j := 5) T6 rfl
      | 6, _ => kitR_get (j := 6) T6 rfl
      | 7, _ => kitR_get (j := 7) T6 rfl
      | 8, _ => kitR_get (j := 8) T6 rfl
      | 9, _ => kitR_get (j := 9) T6 rfl
      | 10, _ => kitR_get (j := 10) T6 rfl
      | n + 11, hn => absurd hn (by omega))
    | 7, _ => (match j, hj with
      | 0, _ => kitR_get (j := 0) T7 rfl
      | 1, _ => kitR_get (j := 1) T7 rfl
      | 2, _ => kitR_get (j := 2) T7 rfl
      | 3, _ => kitR_get (j := 3) T7 rfl
      | 4, _ => kitR_get (j := 4) T7 rfl
      | 5, _ => kitR_get (j := 5) T7 rfl
      | 6, _ => kitR_get (j := 6) T7 rfl
      | 7, _ => kitR_get (j := 7) T7 rfl
      | 8, _ => kitR_get (j := 8) T7 rfl
      | 9, _ => kitR_get (j := 9) T7 rfl
      | 10, _ => kitR_get (j := 10) T7 rfl
      | n + 11, hn => absurd hn (by omega))
    | 8, _ => (match j, hj with
      | 0, _ => kitR_get (j := 0) T8 rfl
      | 1, _ => kitR_get (j := 1) T8 rfl
      | 2, _ => kitR_get (j := 2) T8 rfl
      | 3, _ => kitR_get (j := 3) T8 rfl
      | 4, _ => kitR_get (j := 4) T8 rfl
      | 5, _ => kitR_get (j := 5) T8 rfl
      | 6, _ => kitR_get (j := 6) T8 rfl
      | 7, _ => kitR_get (j := 7) T8 rfl
      | 8, _ => kitR_get (j := 8) T8 rfl
      | 9, _ => kitR_get (j := 9) T8 rfl
      | 10, _ => kitR_get (j := 10) T8 rfl
      | n + 11, hn => absurd hn (by omega))
    | 9, _ => (match j, hj with
      | 0, _ => kitR_get (j := 0) T9 rfl
      | 1, _ => kitR_get (j := 1) T9 rfl
      | 2, _ => kitR_get (j := 2) T9 rfl
      | 3, _ => kitR_get (j := 3) T9 rfl
      | 4, _ => kitR_get (j := 4) T9 rfl
      | 5, _ => kitR_get (j := 5) T9 rfl
      | 6, _ => kitR_get (j := 6) T9 rfl
      | 7, _ => kitR_get (j := 7) T9 rfl
      | 8, _ => kitR_get (j := 8) T9 rfl
      | 9, _ => kitR_get (j := 9) T9 rfl
      | 10, _ => kitR_get (j := 10) T9 rfl
      | n + 11, hn => absurd hn (by omega))
    | 10, _ => (match j, hj with
      | 0, _ => kitR_get (j := 0) T10 rfl
      | 1, _ => kitR_get (j := 1) T10 rfl
      | 2, _ => kitR_get (j := 2) T10 rfl
      | 3, _ => kitR_get (j := 3) T10 rfl
      | 4, _ => kitR_get (j := 4) T10 rfl
      | 5, _ => kitR_get (j := 5) T10 rfl
      | 6, _ => kitR_get (j := 6) T10 rfl
      | 7, _ => kitR_get (j := 7) T10 rfl
      | 8, _ => kitR_get (j := 8) T10 rfl
      | 9, _ => kitR_get (j := 9) T10 rfl
      | 10, _ => kitR_get (j := 10) T10 rfl
      | n + 11, hn => absurd hn (by omega))
    | n + 11, hn => absurd hn (by omega)
    nf := fun i j hi hj => match i, hi with
    | 0, _ => (match j, hj with
      | 0, _ => nfR_get (j := 0) O0 rfl
      | 1, _ => nfR_get (j := 1) O0 rfl
      | 2, _ => nfR_get (j := 2) O0 rfl
      | 3, _ => nfR_get (j := 3) O0 rfl
      | 4, _ => nfR_get (j := 4) O0 rfl
      | 5, _ => nfR_get (j := 5) O0 rfl
      | 6, _ => nfR_get (j := 6) O0 rfl
      | 7, _ => nfR_get (j := 7) O0 rfl
      | 8, _ => nfR_get (j := 8) O0 rfl
      | 9, _ => nfR_get (j := 9) O0 rfl
      | 10, _ => nfR_get (j := 10) O0 rfl
      | n + 11, hn => absurd hn (by omega))
    | 1, _ => (match j, hj with
      | 0, _ => nfR_get (j := 0) O1 rfl
      | 1, _ => nfR_get (j := 1) O1 rfl
      | 2, _ => nfR_get (j := 2) O1 rfl
      | 3, _ => nfR_get (j := 3) O1 rfl
      | 4, _ => nfR_get (j := 4) O1 rfl
      | 5, _ => nfR_get (j := 5) O1 rfl
      | 6, _ => nfR_get (j := 6) O1 rfl
      | 7, _ => nfR_get (j := 7) O1 rfl
      | 8, _ => nfR_get (j := 8) O1 rfl
      | 9, _ => nfR_get (j := 9) O1 rfl
      | 10, _ => nfR_get (j := 10) O1 rfl
      | n + 11, hn => absurd hn (by omega))
    | 2, _ => (match j, hj with
      | 0, _ => nfR_get (j := 0) O2 rfl
      | 1, _ => nfR_get (j := 1) O2 rfl
      | 2, _ => nfR_get (j := 2) O2 rfl
      | 3, _ => nfR_get (j := 3) O2 rfl
      | 4, _ => nfR_get (j := 4) O2 rfl
      | 5, _ => nfR_get (j := 5) O2 rfl
      | 6, _ => nfR_get (j := 6) O2 rfl
      | 7, _ => nfR_get (j := 7) O2 rfl
      | 8, _ => nfR_get (j := 8) O2 rfl
      | 9, _ => nfR_get (j := 9) O2 rfl
      | 10, _ => nfR_get (j := 10) O2 rfl
      | n + 11, hn => absurd hn (by omega))
    | 3, _ => (match j, hj with
      | 0, _ => nfR_get (j := 0) O3 rfl
      | 1, _ => nfR_get (j := 1) O3 rfl
      | 2, _ => nfR_get (j := 2) O3 rfl
      | 3, _ => nfR_get (j := 3) O3 rfl
      | 4, _ => nfR_get (j := 4) O3 rfl
      | 5, _ => nfR_get (j := 5) O3 rfl
      | 6, _ => nfR_get (j := 6) O3 rfl
      | 7, _ => nfR_get (j := 7) O3 rfl
      | 8, _ => nfR_get (j := 8) O3 rfl
      | 9, _ => nfR_get (j := 9) O3 rfl
      | 10, _ => nfR_get (j := 10) O3 rfl
      | n + 11, hn => absurd hn (by omega))
    | 4, _ => (match j, hj with
      | 0, _ => nfR_get (j := 0) O4 rfl
      | 1, _ => nfR_get (j := 1) O4 rfl
      | 2, _ => nfR_get (j := 2) O4 rfl
      | 3, _ => nfR_get (j := 3) O4 rfl
      | 4, _ => nfR_get (j := 4) O4 rfl
      | 5, _ => nfR_get (j := 5) O4 rfl
      | 6, _ => nfR_get (j := 6) O4 rfl
      | 7, _ => nfR_get (j := 7) O4 rfl
      | 8, _ => nfR_get (j := 8) O4 rfl
      | 9, _ => nfR_get (j := 9) O4 rfl
      | 10, _ => nfR_get (j := 10) O4 rfl
      | n + 11, hn => absurd hn (by omega))
    | 5, _ => (match j, hj with
      | 0, _ => nfR_get (j := 0) O5 rfl
      | 1, _ => nfR_get (j := 1) O5 rfl
      | 2, _ => nfR_get (j := 2) O5 rfl
      | 3, _ => nfR_get (j := 3) O5 rfl
      | 4, _ => nfR_get (j := 4) O5 rfl
      | 5, _ => nfR_get (j := 5) O5 rfl
      | 6, _ => nfR_get (j := 6) O5 rfl
      | 7, _ => nfR_get (j := 7) O5 rfl
      | 8, _ => nfR_get (j := 8) O5 rfl
      | 9, _ => nfR_get (j := 9) O5 rfl
      | 10, _ => nfR_get (j := 10) O5 rfl
      | n + 11, hn => absurd hn (by omega))
    | 6, _ => (match j, hj with
      | 0, _ => nfR_get (j := 0) O6 rfl
      | 1, _ => nfR_get (j := 1) O6 rfl
      | 2, _ => nfR_get (j := 2) O6 rfl
      | 3, _ => nfR_get (j := 3) O6 rfl
      | 4, _ => nfR_get (j := 4) O6 rfl
      | 5, _ => nfR_get (j := 5) O6 rfl
      | 6, _ => nfR_get (j := 6) O6 rfl
      | 7, _ => nfR_get (j := 7) O6 rfl
      | 8, _ => nfR_get (j := 8) O6 rfl
      | 9, _ => nfR_get (j := 9) O6 rfl
      | 10, _ => nfR_get (j := 10) O6 rfl
      | n + 11, hn => absurd hn (by omega))
    | 7, _ => (match j, hj with
      | 0, _ => nfR_get (j := 0) O7 rfl
      | 1, _ => nfR_get (j := 1) O7 rfl
      | 2, _ => nfR_get (j := 2) O7 rfl
      | 3, _ => nfR_get (j := 3) O7 rfl
      | 4, _ => nfR_get (j := 4) O7 rfl
      | 5, _ => nfR_get (j := 5) O7 rfl
      | 6, _ => nfR_get (j := 6) O7 rfl
      | 7, _ => nfR_get (j := 7) O7 rfl
      | 8, _ => nfR_get (j := 8) O7 rfl
      | 9, _ => nfR_get (j := 9) O7 rfl
      | 10, _ => nfR_get (j := 10) O7 rfl
      | n + 11, hn => absurd hn (by omega))
    | 8, _ => (match j, hj with
      | 0, _ => nfR_get (j := 0) O8 rfl
      | 1, _ => nfR_get (j := 1) O8 rfl
      | 2, _ => nfR_get (j := 2) O8 rfl
      | 3, _ => nfR_get (j := 3) O8 rfl
      | 4, _ => nfR_get (j := 4) O8 rfl
      | 5, _ => nfR_get (j := 5) O8 rfl
      | 6, _ => nfR_get (j := 6) O8 rfl
      | 7, _ => nfR_get (j := 7) O8 rfl
      | 8, _ => nfR_get (j := 8) O8 rfl
      | 9, _ => nfR_get (j := 9) O8 rfl
      | 10, _ => nfR_get (j := 10) O8 rfl
      | n + 11, hn => absurd hn (by omega))
    | 9, _ => (match j, hj with
      | 0, _ => nfR_get (j := 0) O9 rfl
      | 1, _ => nfR_get (j := 1) O9 rfl
      | 2, _ => nfR_get (j := 2) O9 rfl
      | 3, _ => nfR_get (j := 3) O9 rfl
      | 4, _ => nfR_get (j := 4) O9 rfl
      | 5, _ => nfR_get (j := 5) O9 rfl
      | 6, _ => nfR_get (j := 6) O9 rfl
      | 7, _ => nfR_get (j := 7) O9 rfl
      | 8, _ => nfR_get (j := 8) O9 rfl
      | 9, _ => nfR_get (j := 9) O9 rfl
      | 10, _ => nfR_get (j := 10) O9 rfl
      | n + 11, hn => absurd hn (by omega))
    | 10, _ => (match j, hj with
      | 0, _ => nfR_get (j := 0) O10 rfl
      | 1, _ => nfR_get (j := 1) O10 rfl
      | 2, _ => nfR_get (j := 2) O10 rfl
      | 3, _ => nfR_get (j := 3) O10 rfl
      | 4, _ => nfR_get (j := 4) O10 rfl
      | 5, _ => nfR_get (j := 5) O10 rfl
      | 6, _ => nfR_get (j := 6) O10 rfl
      | 7, _ => nfR_get (j := 7) O10 rfl
      | 8, _ => nfR_get (j := 8) O10 rfl
      | 9, _ => nfR_get (j := 9) O10 rfl
      | 10, _ => nfR_get (j := 10) O10 rfl
      | n + 11, hn => absurd hn (by omega))
    | n + 11, hn => absurd hn (by omega)
    mgC := fun i hi => match i, hi with
    | 0, _ => PySem.W.mg_of X G gC0
    | 1, _ => PySem.W.mg_of X G gC1
    | 2, _ => PySem.W.mg_of X G gC2
    | 3, _ => PySem.W.mg_of X G gC3
    | 4, _ => PySem.W.mg_of X G gC4
    | 5, _ => PySem.W.mg_of X G gC5
    | 6, _ => PySem.W.mg_of X G gC6
    | 7, _ => PySem.W.mg_of X G gC7
    | 8, _ => PySem.W.mg_of X G gC8
    | 9, _ => PySem.W.mg_of X G gC9
    | 10, _ => PySem.W.mg_of X G gC10
    | n + 11, hn => absurd hn (by omega)
    isi := PySem.W.mg_none_of X G z_isi
    list := PySem.W.mg_none_of X G z_list
    tuple := PySem.W.mg_none_of X G z_tuple
    len := PySem.W.mg_none_of X G z_len
    int := PySem.W.mg_none_of X G z_int
    range := PySem.W.mg_none_of X G z_range
    repr := PySem.W.mg_none_of X G z_repr
    any := PySem.W.mg_none_of X G z_any }
  obtain ⟨dI0', FI0⟩ := dI0
  obtain ⟨dE0', FE0⟩ := dE0
  obtain ⟨dN0', FN0⟩ := dN0
  obtain ⟨dI1', FI1⟩ := dI1
  obtain ⟨dE1', FE1⟩ := dE1
  obtain ⟨dN1', FN1⟩ := dN1
  obtain ⟨dI2', FI2⟩ := dI2
  obtain ⟨dE2', FE2⟩ := dE2
  obtain ⟨dN2', FN2⟩ := dN2
  obtain ⟨dI3', FI3⟩ := dI3
  obtain ⟨dE3', FE3⟩ := dE3
  obtain ⟨dN3', FN3⟩ := dN3
  obtain ⟨dI4', FI4⟩ := dI4
  obtain ⟨dE4', FE4⟩ := dE4
  obtain ⟨dN4', FN4⟩ := dN4
  obtain ⟨dI5', FI5⟩ := dI5
  obtain ⟨dE5', FE5⟩ := dE5
  obtain ⟨dN5', FN5⟩ := dN5
  obtain ⟨dI6', FI6⟩ := dI6
  obtain ⟨dE6', FE6⟩ := dE6
  obtain ⟨dN6', FN6⟩ := dN6
  obtain ⟨dI7', FI7⟩ := dI7
  obtain ⟨dE7', FE7⟩ := dE7
  obtain ⟨dN7', FN7⟩ := dN7
  obtain ⟨dI8', FI8⟩ := dI8
  obtain ⟨dE8', FE8⟩ := dE8
  obtain ⟨dN8', FN8⟩ := dN8
  obtain ⟨dI9', FI9⟩ := dI9
  obtain ⟨dE9', FE9⟩ := dE9
  obtain ⟨dN9', FN9⟩ := dN9
  obtain ⟨dI10', FI10⟩ := dI10
  obtain ⟨dE10', FE10⟩ := dE10
  obtain ⟨dN10', FN10⟩ := dN10
  obtain ⟨dcp', Fcp⟩ := dcp
  obtain ⟨dcy', Fcy⟩ := dcy
  obtain ⟨dfi', Ffi⟩ := dfi
  obtain ⟨dro', Fro⟩ := dro
  obtain ⟨dul', Ful⟩ := dul
  obtain ⟨dpe', Fpe⟩ := dpe
  obtain ⟨ddr', Fdr⟩ := ddr
  obtain ⟨dpi', Fpi⟩ := dpi
  obtain ⟨dva', Fva⟩ := dva
  obtain ⟨dp6', Fp6⟩ := dp6
  obtain ⟨dp7', Fp7⟩ := dp7
  obtain ⟨dp10', Fp10⟩ := dp10
  obtain ⟨dla', Fla⟩ := dla
  have bcp := (Fcp.binds (ps := ["value"]) fun _ _ _ _ _ _ us hl => match us, hl with | [_], _ => rfl)
  have bcy := (Fcy.binds (ps := ["value"]) fun _ _ _ _ _ _ us hl => match us, hl with | [_], _ => rfl)
  have bfi := (Ffi.binds (ps := ["one"]) fun _ _ _ _ _ _ us hl => match us, hl with | [_], _ => rfl)
  have bro := (Fro.binds (ps := ["a", "b", "c", "d"]) fun _ _ _ _ _ _ us hl => match us, hl with | [_, _, _, _], _ => rfl)
  have bul := (Ful.binds (ps := []) fun _ _ _ _ _ _ us hl => match us, hl with | [], _ => rfl)
  have bpe := (Fpe.binds (ps := ["script"]) fun _ _ _ _ _ _ us hl => match us, hl with | [_], _ => rfl)
  have bdr := (Fdr.binds (ps := ["pen", "many"]) fun _ _ _ _ _ _ us hl => match us, hl with | [_, _], _ => rfl)
  have bpi := (Fpi.binds (ps := ["pen", "some"]) fun _ _ _ _ _ _ us hl => match us, hl with | [_, _], _ => rfl)
  have bva := (Fva.binds (ps := ["pen"]) fun _ _ _ _ _ _ us hl => match us, hl with | [_], _ => rfl)
  have bp6 := (Fp6.binds (ps := ["letter"]) fun _ _ _ _ _ _ us hl => match us, hl with | [_], _ => rfl)
  have bp7 := (Fp7.binds (ps := ["field"]) fun _ _ _ _ _ _ us hl => match us, hl with | [_], _ => rfl)
  have bp10 := (Fp10.binds (ps := ["paper"]) fun _ _ _ _ _ _ us hl => match us, hl with | [_], _ => rfl)
  refine ⟨dla', fun s v => ?_, fun base _ _ => ?_⟩
  · obtain ⟨oc, od, kV, doc, pm, an, cdv, ct, osl, rfl, lk, hcd⟩ := Fla.ex
    exact .of_eq rfl
  have mcp := PySem.W.mg_of X G gcp
  have mcy := PySem.W.mg_of X G gcy
  have mfi := PySem.W.mg_of X G gfi
  have mro := PySem.W.mg_of X G gro
  have mul := PySem.W.mg_of X G gul
  have mpe := PySem.W.mg_of X G gpe
  have mdr := PySem.W.mg_of X G gdr
  have mpi := PySem.W.mg_of X G gpi
  have mva := PySem.W.mg_of X G gva
  have mp6 := PySem.W.mg_of X G gp6
  have mp7 := PySem.W.mg_of X G gp7
  have mp10 := PySem.W.mg_of X G gp10
  have Gcp : FnOk l.prog w K mg base CX0 1 fcp dcp' ["value"] (spD GP.mcp 1) := ok_copied Fcp T
  have Gcy : FnOk l.prog w K mg base CX0 1 fcy dcy' ["value"] (spD GP.mcp 1) := ok_copy Fcy T
  have Gp6 : FnOk l.prog w K mg base CX0 1 fp6 dp6' ["letter"] (spParts (cL [c0, c1, c2, c3, c4, c5, c6, c7, c8, c9, c10]) 6) := ok_P6 Fp6 T
  have Gp7 : FnOk l.prog w K mg base CX0 1 fp7 dp7' ["field"] (spParts (cL [c0, c1, c2, c3, c4, c5, c6, c7, c8, c9, c10]) 7) := ok_P7 Fp7 T
  have Gp10 : FnOk l.prog w K mg base CX0 1 fp10 dp10' ["paper"] (spParts (cL [c0, c1, c2, c3, c4, c5, c6, c7, c8, c9, c10]) 10) := ok_P10 Fp10 T
  have MK : ∀ i, i < 11 → ∃ f fd, MkOk l.prog w K mg base (cL [c0, c1, c2, c3, c4, c5, c6, c7, c8, c9, c10]) i f fd := fun i hi => match i, hi with
    | 0, _ => ⟨i0, dI0', ⟨⟨K0.mkk, K0.aI, K0.iI, K0.kc⟩, ok_I0 FI0 T Gcp mcp Fcp.kp bcp, (FI0.binds (ps := ["self", "line", "column", "what"]) fun _ _ _ _ _ _ us hl => match us, hl with | [_, _, _, _], _ => rfl),
      kbn_of (ps := ["self", "line", "column", "what"]) (ks := ["what", "column", "line"]) FI0 fun _ _ _ _ _ _ us ws h1 h2 => match us, ws, h1, h2 with | [_], [_, _, _], _, _ => rfl⟩⟩
    | 1, _ => ⟨i1, dI1', ⟨⟨K1.mkk, K1.aI, K1.iI, K1.kc⟩, ok_I1 FI1 T Gcp mcp Fcp.kp bcp, (FI1.binds (ps := ["self", "ratio"]) fun _ _ _ _ _ _ us hl => match us, hl with | [_, _], _ => rfl),
      kbn_of (ps := ["self", "ratio"]) (ks := ["ratio"]) FI1 fun _ _ _ _ _ _ us ws h1 h2 => match us, ws, h1, h2 with | [_], [_], _, _ => rfl⟩⟩
    | 2, _ => ⟨i2, dI2', ⟨⟨K2.mkk, K2.aI, K2.iI, K2.kc⟩, ok_I2 FI2 T Gcp mcp Fcp.kp bcp, (FI2.binds (ps := ["self", "sign"]) fun _ _ _ _ _ _ us hl => match us, hl with | [_, _], _ => rfl),
      kbn_of (ps := ["self", "sign"]) (ks := ["sign"]) FI2 fun _ _ _ _ _ _ us ws h1 h2 => match us, ws, h1, h2 with | [_], [_], _, _ => rfl⟩⟩
    | 3, _ => ⟨i3, dI3', ⟨⟨K3.mkk, K3.aI, K3.iI, K3.kc⟩, ok_I3 FI3 T Gcp mcp Fcp.kp bcp, (FI3.binds (ps := ["self", "number"]) fun _ _ _ _ _ _ us hl => match us, hl with | [_, _], _ => rfl),
      kbn_of (ps := ["self", "number"]) (ks := ["number"]) FI3 fun _ _ _ _ _ _ us ws h1 h2 => match us, ws, h1, h2 with | [_], [_], _, _ => rfl⟩⟩
    | 4, _ => ⟨i4, dI4', ⟨⟨K4.mkk, K4.aI, K4.iI, K4.kc⟩, ok_I4 FI4 T Gcp mcp Fcp.kp bcp, (FI4.binds (ps := ["self", "word", "ratio"]) fun _ _ _ _ _ _ us hl => match us, hl with | [_, _, _], _ => rfl),
      kbn_of (ps := ["self", "word", "ratio"]) (ks := ["ratio", "word"]) FI4 fun _ _ _ _ _ _ us ws h1 h2 => match us, ws, h1, h2 with | [_], [_, _], _, _ => rfl⟩⟩
    | 5, _ => ⟨i5, dI5', ⟨⟨K5.mkk, K5.aI, K5.iI, K5.kc⟩, ok_I5 FI5 T Gcp mcp Fcp.kp bcp, (FI5.binds (ps := ["self", "row"]) fun _ _ _ _ _ _ us hl => match us, hl with | [_, _], _ => rfl),
      kbn_of (ps := ["self", "row"]) (ks := ["row"]) FI5 fun _ _ _ _ _ _ us ws h1 h2 => match us, ws, h1, h2 with | [_], [_], _, _ => rfl⟩⟩
    | 6, _ => ⟨i6, dI6', ⟨⟨K6.mkk, K6.aI, K6.iI, K6.kc⟩, ok_I6 FI6 T Gcp mcp Fcp.kp bcp, (FI6.binds (ps := ["self", "kind", "log", "unit", "home"]) fun _ _ _ _ _ _ us hl => match us, hl with | [_, _, _, _, _], _ => rfl),
      kbn_of (ps := ["self", "kind", "log", "unit", "home"]) (ks := ["home", "unit", "log", "kind"]) FI6 fun _ _ _ _ _ _ us ws h1 h2 => match us, ws, h1, h2 with | [_], [_, _, _, _], _, _ => rfl⟩⟩
    | 7, _ => ⟨i7, dI7', ⟨⟨K7.mkk, K7.aI, K7.iI, K7.kc⟩, ok_I7 FI7 T Gcp mcp Fcp.kp bcp, (FI7.binds (ps := ["self", "letters", "order", "x"]) fun _ _ _ _ _ _ us hl => match us, hl with | [_, _, _, _], _ => rfl),
      kbn_of (ps := ["self", "letters", "order", "x"]) (ks := ["x", "order", "letters"]) FI7 fun _ _ _ _ _ _ us ws h1 h2 => match us, ws, h1, h2 with | [_], [_, _, _], _, _ => rfl⟩⟩
    | 8, _ => ⟨i8, dI8', ⟨⟨K8.mkk, K8.aI, K8.iI, K8.kc⟩, ok_I8 FI8 T Gcp mcp Fcp.kp bcp, (FI8.binds (ps := ["self", "number", "powers"]) fun _ _ _ _ _ _ us hl => match us, hl with | [_, _, _], _ => rfl),
      kbn_of (ps := ["self", "number", "powers"]) (ks := ["powers", "number"]) FI8 fun _ _ _ _ _ _ us ws h1 h2 => match us, ws, h1, h2 with | [_], [_, _], _, _ => rfl⟩⟩
    | 9, _ => ⟨i9, dI9', ⟨⟨K9.mkk, K9.aI, K9.iI, K9.kc⟩, ok_I9 FI9 T Gcp mcp Fcp.kp bcp, (FI9.binds (ps := ["self", "lets", "asks", "spots"]) fun _ _ _ _ _ _ us hl => match us, hl with | [_, _, _, _], _ => rfl),
      kbn_of (ps := ["self", "lets", "asks", "spots"]) (ks := ["spots", "asks", "lets"]) FI9 fun _ _ _ _ _ _ us ws h1 h2 => match us, ws, h1, h2 with | [_], [_, _, _], _, _ => rfl⟩⟩
    | 10, _ => ⟨i10, dI10', ⟨⟨K10.mkk, K10.aI, K10.iI, K10.kc⟩, ok_I10 FI10 T Gcp mcp Fcp.kp bcp, (FI10.binds (ps := ["self", "field", "rows", "steps", "depth", "places", "root"]) fun _ _ _ _ _ _ us hl => match us, hl with | [_, _, _, _, _, _, _], _ => rfl),
      kbn_of (ps := ["self", "field", "rows", "steps", "depth", "places", "root"]) (ks := ["root", "places", "depth", "steps", "rows", "field"]) FI10 fun _ _ _ _ _ _ us ws h1 h2 => match us, ws, h1, h2 with | [_], [_, _, _, _, _, _], _, _ => rfl⟩⟩
    | n + 11, hn => absurd hn (by omega)
  have FE : ∀ i, i < 11 → ∃ f fd, Own l.prog w K mg base 10 (cL [c0, c1, c2, c3, c4, c5, c6, c7, c8, c9, c10] i) "__eq__" ["self", "other"] (spEq (cL [c0, c1, c2, c3, c4, c5, c6, c7, c8, c9, c10]) i) f fd := fun i hi => match i, hi with
    | 0, _ => ⟨e0, dE0', ⟨ok_E0 FE0 T, K0.aE, K0.iE, (FE0.binds (ps := ["self", "other"]) fun _ _ _ _ _ _ us hl => match us, hl with | [_, _], _ => rfl)⟩⟩
    | 1, _ => ⟨e1, dE1', ⟨ok_E1 FE1 T, K1.aE, K1.iE, (FE1.binds (ps := ["self", "other"]) fun _ _ _ _ _ _ us hl => match us, hl with | [_, _], _ => rfl)⟩⟩
    | 2, _ => ⟨e2, dE2', ⟨ok_E2 FE2 T, K2.aE, K2.iE, (FE2.binds (ps := ["self", "other"]) fun _ _ _ _ _ _ us hl => match us, hl with | [_, _], _ => rfl)⟩⟩
    | 3, _ => ⟨e3, dE3', ⟨ok_E3 FE3 T, K3.aE, K3.iE, (FE3.binds (ps := ["self", "other"]) fun _ _ _ _ _ _ us hl => match us, hl with | [_, _], _ => rfl)⟩⟩
    | 4, _ => ⟨e4, dE4', ⟨ok_E4 FE4 T, K4.aE, K4.iE, (FE4.binds (ps := ["self", "other"]) fun _ _ _ _ _ _ us hl => match us, hl with | [_, _], _ => rfl)⟩⟩
    | 5, _ => ⟨e5, dE5', ⟨ok_E5 FE5 T, K5.aE, K5.iE, (FE5.binds (ps := ["self", "other"]) fun _ _ _ _ _ _ us hl => match us, hl with | [_, _], _ => rfl)⟩⟩
    | 6, _ => ⟨e6, dE6', ⟨ok_E6 FE6 T Gp6 mp6 Fp6.kp bp6, K6.aE, K6.iE, (FE6.binds (ps := ["self", "other"]) fun _ _ _ _ _ _ us hl => match us, hl with | [_, _], _ => rfl)⟩⟩
    | 7, _ => ⟨e7, dE7', ⟨ok_E7 FE7 T Gp7 mp7 Fp7.kp bp7, K7.aE, K7.iE, (FE7.binds (ps := ["self", "other"]) fun _ _ _ _ _ _ us hl => match us, hl with | [_, _], _ => rfl)⟩⟩
    | 8, _ => ⟨e8, dE8', ⟨ok_E8 FE8 T, K8.aE, K8.iE, (FE8.binds (ps := ["self", "other"]) fun _ _ _ _ _ _ us hl => match us, hl with | [_, _], _ => rfl)⟩⟩
    | 9, _ => ⟨e9, dE9', ⟨ok_E9 FE9 T, K9.aE, K9.iE, (FE9.binds (ps := ["self", "other"]) fun _ _ _ _ _ _ us hl => match us, hl with | [_, _], _ => rfl)⟩⟩
    | 10, _ => ⟨e10, dE10', ⟨ok_E10 FE10 T Gp10 mp10 Fp10.kp bp10, K10.aE, K10.iE, (FE10.binds (ps := ["self", "other"]) fun _ _ _ _ _ _ us hl => match us, hl with | [_, _], _ => rfl)⟩⟩
    | n + 11, hn => absurd hn (by omega)
  have FN : ∀ i, i < 11 → ∃ f fd, Own l.prog w K mg base 11 (cL [c0, c1, c2, c3, c4, c5, c6, c7, c8, c9, c10] i) "__ne__" ["self", "other"] (spNe (cL [c0, c1, c2, c3, c4, c5, c6, c7, c8, c9, c10]) i) f fd := fun i hi => match i, hi with
    | 0, _ => ⟨n0, dN0', ⟨ok_N0 FN0 T FE, K0.aN, K0.iN, (FN0.binds (ps := ["self", "other"]) fun _ _ _ _ _ _ us hl => match us, hl with | [_, _], _ => rfl)⟩⟩
    | 1, _ => ⟨n1, dN1', ⟨ok_N1 FN1 T FE, K1.aN, K1.iN, (FN1.binds (ps := ["self", "other"]) fun _ _ _ _ _ _ us hl => match us, hl with | [_, _], _ => rfl)⟩⟩
    | 2, _ => ⟨n2, dN2', ⟨ok_N2 FN2 T FE, K2.aN, K2.iN, (FN2.binds (ps := ["self", "other"]) fun _ _ _ _ _ _ us hl => match us, hl with | [_, _], _ => rfl)⟩⟩
    | 3, _ => ⟨n3, dN3', ⟨ok_N3 FN3 T FE, K3.aN, K3.iN, (FN3.binds (ps := ["self", "other"]) fun _ _ _ _ _ _ us hl => match us, hl with | [_, _], _ => rfl)⟩⟩
    | 4, _ => ⟨n4, dN4', ⟨ok_N4 FN4 T FE, K4.aN, K4.iN, (FN4.binds (ps := ["self", "other"]) fun _ _ _ _ _ _ us hl => match us, hl with | [_, _], _ => rfl)⟩⟩
    | 5, _ => ⟨n5, dN5', ⟨ok_N5 FN5 T FE, K5.aN, K5.iN, (FN5.binds (ps := ["self", "other"]) fun _ _ _ _ _ _ us hl => match us, hl with | [_, _], _ => rfl)⟩⟩
    | 6, _ => ⟨n6, dN6', ⟨ok_N6 FN6 T FE, K6.aN, K6.iN, (FN6.binds (ps := ["self", "other"]) fun _ _ _ _ _ _ us hl => match us, hl with | [_, _], _ => rfl)⟩⟩
    | 7, _ => ⟨n7, dN7', ⟨ok_N7 FN7 T FE, K7.aN, K7.iN, (FN7.binds (ps := ["self", "other"]) fun _ _ _ _ _ _ us hl => match us, hl with | [_, _], _ => rfl)⟩⟩
    | 8, _ => ⟨n8, dN8', ⟨ok_N8 FN8 T FE, K8.aN, K8.iN, (FN8.binds (ps := ["self", "other"]) fun _ _ _ _ _ _ us hl => match us, hl with | [_, _], _ => rfl)⟩⟩
    | 9, _ => ⟨n9, dN9', ⟨ok_N9 FN9 T FE, K9.aN, K9.iN, (FN9.binds (ps := ["self", "other"]) fun _ _ _ _ _ _ us hl => match us, hl with | [_, _], _ => rfl)⟩⟩
    | 10, _ => ⟨n10, dN10', ⟨ok_N10 FN10 T FE, K10.aN, K10.iN, (FN10.binds (ps := ["self", "other"]) fun _ _ _ _ _ _ us hl => match us, hl with | [_, _], _ => rfl)⟩⟩
    | n + 11, hn => absurd hn (by omega)
  have Gdr : FnOk l.prog w K mg base CX0 1 fdr ddr' ["pen", "many"] spDraw := ok_draw Fdr T
  have Gpi : FnOk l.prog w K mg base CX0 2 fpi dpi' ["pen", "some"] spPick := ok_pick Fpi T Gdr mdr Fdr.kp bdr
  exact ok_law Fla T MK FE FN (ok_pen Fpe T) mpe Fpe.kp bpe Gdr mdr Fdr.kp bdr (ok_value Fva T Gdr mdr Fdr.kp bdr Gpi mpi Fpi.kp bpi) mva Fva.kp bva (ok_fields Ffi T) mfi Ffi.kp bfi
    (ok_rows Fro T MK Gcy mcy Fcy.kp bcy) mro Fro.kp bro (ok_unlike Ful T MK) mul Ful.kp bul
theorem walk {l : PySem.W.OpenLaw} {q : Program} {loose : List Str} {XP : (Str → Option Value) → Heap → Prop} {YP : World → Heap → Prop} {d : DefRec} {K : Params → PySem.W.Frag} (hn : l.most = some 63) (hdf : d.params.defaults = [])
    (hY : ∀ (w : World) (h : Heap), YP w h → (K w.params).In h)
    (F : ∀ (w : World) (mg : Str → Option Value) (fa : Addr) (h : Heap), (K w.params).In h → h.Ns mainGlobals mg → mg d.name = some (.ref fa) →
      ∃ fd : FuncData, (∀ (s : Shared) (u : Value), BindsTo s fd ⟨[u], []⟩ [("script", u)]) ∧ ∀ base : Heap, (K w.params).In base → base.Ns mainGlobals mg → FnOkG l.prog w (K w.params) mg base CX0 13 fa fd ["script"] (spLaw (K w.params))) :
    PySem.W.WalkO q loose XP YP l.row.toRowW d [] (fun f vs => PySem.call f vs) :=
  walk_ofG (n := 63) (k := 13) (x := "script") (sp := fun w => spLaw (K w.params)) hn (by decide) hdf ⟨rfl, by decide, by decide⟩ hY F fun _ _ a ns hl _ hS _ => ⟨a, ns, rfl, hS, hl, fun _ => rfl⟩
end GP
open PySem PySem.W PyProof.Rows in
set_option maxRecDepth 100000 in
set_option maxHeartbeats 0 in
theorem PySem.Challenge.cw_growthpapers_k90_classes_made_by_hand_holds : PySem.Challenge.rw_growthpapers_k90_classes_made_by_hand.Holds := by
  w_on; o_law; k_head; (case hw => w_witness2)
  k_fill
  refine GP.walk (l := PySem.Challenge.rw_growthpapers_k90_classes_made_by_hand) rfl rfl (fun w h Y => PySem.W.kIn_of Y) ?F
  case F =>
    intro w mg fa h KX G hmg
    refine' GP.all_mk KX G hmg ?gC0 ?gC1 ?gC2 ?gC3 ?gC4 ?gC5 ?gC6 ?gC7 ?gC8 ?gC9 ?gC10 ?gcp ?gcy ?gfi ?gro ?gul ?gpe ?gdr ?gpi ?gva ?gp6 ?gp7 ?gp10 ?gla ?K0 ?K1 ?K2 ?K3 ?K4 ?K5 ?K6 ?K7 ?K8 ?K9 ?K10 ?N0 ?N1 ?N2 ?N3 ?N4 ?N5 ?N6 ?N7 ?N8 ?N9 ?N10 ?dI0 ?dE0 ?dN0 ?dI1 ?dE1 ?dN1 ?dI2 ?dE2 ?dN2 ?dI3 ?dE3 ?dN3 ?dI4 ?dE4 ?dN4 ?dI5 ?dE5 ?dN5 ?dI6 ?dE6 ?dN6 ?dI7 ?dE7 ?dN7 ?dI8 ?dE8 ?dN8 ?dI9 ?dE9 ?dN9 ?dI10 ?dE10 ?dN10 ?dcp ?dcy ?dfi ?dro ?dul ?dpe ?ddr ?dpi ?dva ?dp6 ?dp7 ?dp10 ?dla ?T0 ?T1 ?T2 ?T3 ?T4 ?T5 ?T6 ?T7 ?T8 ?T9 ?T10 ?O0 ?O1 ?O2 ?O3 ?O4 ?O5 ?O6 ?O7 ?O8 ?O9 ?O10 ?ty2 ?ty3 ?z_isi ?z_list ?z_tuple ?z_len ?z_int ?z_range ?z_repr ?z_any
    (case gC0 => k_is)
    (case gC1 => k_is)
    (case gC2 => k_is)
    (case gC3 => k_is)
    (case gC4 => k_is)
    (case gC5 => k_is)
    (case gC6 => k_is)
    (case gC7 => k_is)
    (case gC8 => k_is)
    (case gC9 => k_is)
    (case gC10 => k_is)
    (case gcp => k_is)
    (case gcy => k_is)
    (case gfi => k_is)
    (case gro => k_is)
    (case gul => k_is)
    (case gpe => k_is)
    (case gdr => k_is)
    (case gpi => k_is)
    (case gva => k_is)
    (case gp6 => k_is)
    (case gp7 => k_is)
    (case gp10 => k_is)
    (case gla => k_is)
    (case K0 => (refine' GP.CAt.mk ?qaI ?qiI ?qaE ?qiE ?qaN ?qiN ?qpg ?qhd ?qpo ?qsa ?qty1 ?qty4 ?qmkk ?qkc; (case qaI => k_is); (case qiI => k_is); (case qaE => k_is); (case qiE => k_is); (case qaN => k_is); (case qiN => k_is); (case qpg => k_is); (case qhd => k_is); (case qpo => k_is); (case qsa => k_is); (case qty1 => k_is); (case qty4 => k_is); (case qmkk => k_is); (case qkc => k_is)))
    (case K1 => (refine' GP.CAt.mk ?qaI ?qiI ?qaE ?qiE ?qaN ?qiN ?qpg ?qhd ?qpo ?qsa ?qty1 ?qty4 ?qmkk ?qkc; (case qaI => k_is); (case qiI => k_is); (case qaE => k_is); (case qiE => k_is); (case qaN => k_is); (case qiN => k_is); (case qpg => k_is); (case qhd => k_is); (case qpo => k_is); (case qsa => k_is); (case qty1 => k_is); (case qty4 => k_is); (case qmkk => k_is); (case qkc => k_is)))
    (case K2 => (refine' GP.CAt.mk ?qaI ?qiI ?qaE ?qiE ?qaN ?qiN ?qpg ?qhd ?qpo ?qsa ?qty1 ?qty4 ?qmkk ?qkc; (case qaI => k_is); (case qiI => k_is); (case qaE => k_is); (case qiE => k_is); (case qaN => k_is); (case qiN => k_is); (case qpg => k_is); (case qhd => k_is); (case qpo => k_is); (case qsa => k_is); (case qty1 => k_is); (case qty4 => k_is); (case qmkk => k_is); (case qkc => k_is)))
    (case K3 => (refine' GP.CAt.mk ?qaI ?qiI ?qaE ?qiE ?qaN ?qiN ?qpg ?qhd ?qpo ?qsa ?qty1 ?qty4 ?qmkk ?qkc; (case qaI => k_is); (case qiI => k_is); (case qaE => k_is); (case qiE => k_is); (case qaN => k_is); (case qiN => k_is); (case qpg => k_is); (case qhd => k_is); (case qpo => k_is); (case qsa => k_is); (case qty1 => k_is); (case qty4 => k_is); (case qmkk => k_is); (case qkc => k_is)))
    (case K4 => (refine' GP.CAt.mk ?qaI ?qiI ?qaE ?qiE ?qaN ?qiN ?qpg ?qhd ?qpo ?qsa ?qty1 ?qty4 ?qmkk ?qkc; (case qaI => k_is); (case qiI => k_is); (case qaE => k_is); (case qiE => k_is); (case qaN => k_is); (case qiN => k_is); (case qpg => k_is); (case qhd => k_is); (case qpo => k_is); (case qsa => k_is); (case qty1 => k_is); (case qty4 => k_is); (case qmkk => k_is); (case qkc => k_is)))
    (case K5 => (refine' GP.CAt.mk ?qaI ?qiI ?qaE ?qiE ?qaN ?qiN ?qpg ?qhd ?qpo ?qsa ?qty1 ?qty4 ?qmkk ?qkc; (case qaI => k_is); (case qiI => k_is); (case qaE => k_is); (case qiE => k_is); (case qaN => k_is); (case qiN => k_is); (case qpg => k_is); (case qhd => k_is); (case qpo => k_is); (case qsa => k_is); (case qty1 => k_is); (case qty4 => k_is); (case qmkk => k_is); (case qkc => k_is)))
    (case K6 => (refine' GP.CAt.mk ?qaI ?qiI ?qaE ?qiE ?qaN ?qiN ?qpg ?qhd ?qpo ?qsa ?qty1 ?qty4 ?qmkk ?qkc; (case qaI => k_is); (case qiI => k_is); (case qaE => k_is); (case qiE => k_is); (case qaN => k_is); (case qiN => k_is); (case qpg => k_is); (case qhd => k_is); (case qpo => k_is); (case qsa => k_is); (case qty1 => k_is); (case qty4 => k_is); (case qmkk => k_is); (case qkc => k_is)))
    (case K7 => (refine' GP.CAt.mk ?qaI ?qiI ?qaE ?qiE ?qaN ?qiN ?qpg ?qhd ?qpo ?qsa ?qty1 ?qty4 ?qmkk ?qkc; (case qaI => k_is); (case qiI => k_is); (case qaE => k_is); (case qiE => k_is); (case qaN => k_is); (case qiN => k_is); (case qpg => k_is); (case qhd => k_is); (case qpo => k_is); (case qsa => k_is); (case qty1 => k_is); (case qty4 => k_is); (case qmkk => k_is); (case qkc => k_is)))
    (case K8 => (refine' GP.CAt.mk ?qaI ?qiI ?qaE ?qiE ?qaN ?qiN ?qpg ?qhd ?qpo ?qsa ?qty1 ?qty4 ?qmkk ?qkc; (case qaI => k_is); (case qiI => k_is); (case qaE => k_is); (case qiE => k_is); (case qaN => k_is); (case qiN => k_is); (case qpg => k_is); (case qhd => k_is); (case qpo => k_is); (case qsa => k_is); (case qty1 => k_is); (case qty4 => k_is); (case qmkk => k_is); (case qkc => k_is)))
    (case K9 => (refine' GP.CAt.mk ?qaI ?qiI ?qaE ?qiE ?qaN ?qiN ?qpg ?qhd ?qpo ?qsa ?qty1 ?qty4 ?qmkk ?qkc; (case qaI => k_is); (case qiI => k_is); (case qaE => k_is); (case qiE => k_is); (case qaN => k_is); (case qiN => k_is); (case qpg => k_is); (case qhd => k_is); (case qpo => k_is); (case qsa => k_is); (case qty1 => k_is); (case qty4 => k_is); (case qmkk => k_is); (case qkc => k_is)))
    (case K10 => (refine' GP.CAt.mk ?qaI ?qiI ?qaE ?qiE ?qaN ?qiN ?qpg ?qhd ?qpo ?qsa ?qty1 ?qty4 ?qmkk ?qkc; (case qaI => k_is); (case qiI => k_is); (case qaE => k_is); (case qiE => k_is); (case qaN => k_is); (case qiN => k_is); (case qpg => k_is); (case qhd => k_is); (case qpo => k_is); (case qsa => k_is); (case qty1 => k_is); (case qty4 => k_is); (case qmkk => k_is); (case qkc => k_is)))
    (case N0 => (refine' ⟨?q0, ?q1, ?q2, trivial⟩; (case q0 => k_is); (case q1 => k_is); (case q2 => k_is)))
    (case N1 => (refine' ⟨?q0, trivial⟩; (case q0 => k_is)))
    (case N2 => (refine' ⟨?q0, trivial⟩; (case q0 => k_is)))
    (case N3 => (refine' ⟨?q0, trivial⟩; (case q0 => k_is)))
    (case N4 => (refine' ⟨?q0, ?q1, trivial⟩; (case q0 => k_is); (case q1 => k_is)))
    (case N5 => (refine' ⟨?q0, trivial⟩; (case q0 => k_is)))
    (case N6 => (refine' ⟨?q0, ?q1, ?q2, ?q3, trivial⟩; (case q0 => k_is); (case q1 => k_is); (case q2 => k_is); (case q3 => k_is)))
    (case N7 => (refine' ⟨?q0, ?q1, ?q2, trivial⟩; (case q0 => k_is); (case q1 => k_is); (case q2 => k_is)))
    (case N8 => (refine' ⟨?q0, ?q1, trivial⟩; (case q0 => k_is); (case q1 => k_is)))
    (case N9 => (refine' ⟨?q0, ?q1, ?q2, trivial⟩; (case q0 => k_is); (case q1 => k_is); (case q2 => k_is)))
    (case N10 => (refine' ⟨?q0, ?q1, ?q2, ?q3, ?q4, ?q5, trivial⟩; (case q0 => k_is); (case q1 => k_is); (case q2 => k_is); (case q3 => k_is); (case q4 => k_is); (case q5 => k_is)))
    (case dI0 => (refine' GP.DefAt.of ?ql ?qc ?qk; (case ql => k_is); (case qc => k_is); (case qk => k_is)))
    (case dE0 => (refine' GP.DefAt.of ?ql ?qc ?qk; (case ql => k_is); (case qc => k_is); (case qk => k_is)))
    (case dN0 => (refine' GP.DefAt.of ?ql ?qc ?qk; (case ql => k_is); (case qc => k_is); (case qk => k_is)))
    (case dI1 => (refine' GP.DefAt.of ?ql ?qc ?qk; (case ql => k_is); (case qc => k_is); (case qk => k_is)))
    (case dE1 => (refine' GP.DefAt.of ?ql ?qc ?qk; (case ql => k_is); (case qc => k_is); (case qk => k_is)))
    (case dN1 => (refine' GP.DefAt.of ?ql ?qc ?qk; (case ql => k_is); (case qc => k_is); (case qk => k_is)))
    (case dI2 => (refine' GP.DefAt.of ?ql ?qc ?qk; (case ql => k_is); (case qc => k_is); (case qk => k_is)))
    (case dE2 => (refine' GP.DefAt.of ?ql ?qc ?qk; (case ql => k_is); (case qc => k_is); (case qk => k_is)))
    (case dN2 => (refine' GP.DefAt.of ?ql ?qc ?qk; (case ql => k_is); (case qc => k_is); (case qk => k_is)))
    (case dI3 => (refine' GP.DefAt.of ?ql ?qc ?qk; (case ql => k_is); (case qc => k_is); (case qk => k_is)))
    (case dE3 => (refine' GP.DefAt.of ?ql ?qc ?qk; (case ql => k_is); (case qc => k_is); (case qk => k_is)))
    (case dN3 => (refine' GP.DefAt.of ?ql ?qc ?qk; (case ql => k_is); (case qc => k_is); (case qk => k_is)))
    (case dI4 => (refine' GP.DefAt.of ?ql ?qc ?qk; (case ql => k_is); (case qc => k_is); (case qk => k_is)))
    (case dE4 => (refine' GP.DefAt.of ?ql ?qc ?qk; (case ql => k_is); (case qc => k_is); (case qk => k_is)))
    (case dN4 => (refine' GP.DefAt.of ?ql ?qc ?qk; (case ql => k_is); (case qc => k_is); (case qk => k_is)))
    (case dI5 => (refine' GP.DefAt.of ?ql ?qc ?qk; (case ql => k_is); (case qc => k_is); (case qk => k_is)))
    (case dE5 => (refine' GP.DefAt.of ?ql ?qc ?qk; (case ql => k_is); (case qc => k_is); (case qk => k_is)))
    (case dN5 => (refine' GP.DefAt.of ?ql ?qc ?qk; (case ql => k_is); (case qc => k_is); (case qk => k_is)))
    (case dI6 => (refine' GP.DefAt.of ?ql ?qc ?qk; (case ql => k_is); (case qc => k_is); (case qk => k_is)))
    (case dE6 => (refine' GP.DefAt.of ?ql ?qc ?qk; (case ql => k_is); (case qc => k_is); (case qk => k_is)))
    (case dN6 => (refine' GP.DefAt.of ?ql ?qc ?qk; (case ql => k_is); (case qc => k_is); (case qk => k_is)))
    (case dI7 => (refine' GP.DefAt.of ?ql ?qc ?qk; (case ql => k_is); (case qc => k_is); (case qk => k_is)))
    (case dE7 => (refine' GP.DefAt.of ?ql ?qc ?qk; (case ql => k_is); (case qc => k_is); (case qk => k_is)))
    (case dN7 => (refine' GP.DefAt.of ?ql ?qc ?qk; (case ql => k_is); (case qc => k_is); (case qk => k_is)))
    (case dI8 => (refine' GP.DefAt.of ?ql ?qc ?qk; (case ql => k_is); (case qc => k_is); (case qk => k_is)))
    (case dE8 => (refine' GP.DefAt.of ?ql ?qc ?qk; (case ql => k_is); (case qc => k_is); (case qk => k_is)))
    (case dN8 => (refine' GP.DefAt.of ?ql ?qc ?qk; (case ql => k_is); (case qc => k_is); (case qk => k_is)))
    (case dI9 => (refine' GP.DefAt.of ?ql ?qc ?qk; (case ql => k_is); (case qc => k_is); (case qk => k_is)))
    (case dE9 => (refine' GP.DefAt.of ?ql ?qc ?qk; (case ql => k_is); (case qc => k_is); (case qk => k_is)))
    (case dN9 => (refine' GP.DefAt.of ?ql ?qc ?qk; (case ql => k_is); (case qc => k_is); (case qk => k_is)))
    (case dI10 => (refine' GP.DefAt.of ?ql ?qc ?qk; (case ql => k_is); (case qc => k_is); (case qk => k_is)))
    (case dE10 => (refine' GP.DefAt.of ?ql ?qc ?qk; (case ql => k_is); (case qc => k_is); (case qk => k_is)))
    (case dN10 => (refine' GP.DefAt.of ?ql ?qc ?qk; (case ql => k_is); (case qc => k_is); (case qk => k_is)))
    (case dcp => (refine' GP.DefAt.of ?ql ?qc ?qk; (case ql => k_is); (case qc => k_is); (case qk => k_is)))
    (case dcy => (refine' GP.DefAt.of ?ql ?qc ?qk; (case ql => k_is); (case qc => k_is); (case qk => k_is)))
    (case dfi => (refine' GP.DefAt.of ?ql ?qc ?qk; (case ql => k_is); (case qc => k_is); (case qk => k_is)))
    (case dro => (refine' GP.DefAt.of ?ql ?qc ?qk; (case ql => k_is); (case qc => k_is); (case qk => k_is)))
    (case dul => (refine' GP.DefAt.of ?ql ?qc ?qk; (case ql => k_is); (case qc => k_is); (case qk => k_is)))
    (case dpe => (refine' GP.DefAt.of ?ql ?qc ?qk; (case ql => k_is); (case qc => k_is); (case qk => k_is)))
    (case ddr => (refine' GP.DefAt.of ?ql ?qc ?qk; (case ql => k_is); (case qc => k_is); (case qk => k_is)))
    (case dpi => (refine' GP.DefAt.of ?ql ?qc ?qk; (case ql => k_is); (case qc => k_is); (case qk => k_is)))
    (case dva => (refine' GP.DefAt.of ?ql ?qc ?qk; (case ql => k_is); (case qc => k_is); (case qk => k_is)))
    (case dp6 => (refine' GP.DefAt.of ?ql ?qc ?qk; (case ql => k_is); (case qc => k_is); (case qk => k_is)))
    (case dp7 => (refine' GP.DefAt.of ?ql ?qc ?qk; (case ql => k_is); (case qc => k_is); (case qk => k_is)))
    (case dp10 => (refine' GP.DefAt.of ?ql ?qc ?qk; (case ql => k_is); (case qc => k_is); (case qk => k_is)))
    (case dla => (refine' GP.DefAt.of ?ql ?qc ?qk; (case ql => k_is); (case qc => k_is); (case qk => k_is)))
    (case T0 => (refine' ⟨?q0, ?q1, ?q2, ?q3, ?q4, ?q5, ?q6, ?q7, ?q8, ?q9, ?q10, trivial⟩; (case q0 => kit_is); (case q1 => kit_is); (case q2 => kit_is); (case q3 => kit_is); (case q4 => kit_is); (case q5 => kit_is); (case q6 => kit_is); (case q7 => kit_is); (case q8 => kit_is); (case q9 => kit_is); (case q10 => kit_is)))
    (case T1 => (refine' ⟨?q0, ?q1, ?q2, ?q3, ?q4, ?q5, ?q6, ?q7, ?q8, ?q9, ?q10, trivial⟩; (case q0 => kit_is); (case q1 => kit_is); (case q2 => kit_is); (case q3 => kit_is); (case q4 => kit_is); (case q5 => kit_is); (case q6 => kit_is); (case q7 => kit_is); (case q8 => kit_is); (case q9 => kit_is); (case q10 => kit_is)))
    (case T2 => (refine' ⟨?q0, ?q1, ?q2, ?q3, ?q4, ?q5, ?q6, ?q7, ?q8, ?q9, ?q10, trivial⟩; (case q0 => kit_is); (case q1 => kit_is); (case q2 => kit_is); (case q3 => kit_is); (case q4 => kit_is); (case q5 => kit_is); (case q6 => kit_is); (case q7 => kit_is); (case q8 => kit_is); (case q9 => kit_is); (case q10 => kit_is)))
    (case T3 => (refine' ⟨?q0, ?q1, ?q2, ?q3, ?q4, ?q5, ?q6, ?q7, ?q8, ?q9, ?q10, trivial⟩; (case q0 => kit_is); (case q1 => kit_is); (case q2 => kit_is); (case q3 => kit_is); (case q4 => kit_is); (case q5 => kit_is); (case q6 => kit_is); (case q7 => kit_is); (case q8 => kit_is); (case q9 => kit_is); (case q10 => kit_is)))
    (case T4 => (refine' ⟨?q0, ?q1, ?q2, ?q3, ?q4, ?q5, ?q6, ?q7, ?q8, ?q9, ?q10, trivial⟩; (case q0 => kit_is); (case q1 => kit_is); (case q2 => kit_is); (case q3 => kit_is); (case q4 => kit_is); (case q5 => kit_is); (case q6 => kit_is); (case q7 => kit_is); (case q8 => kit_is); (case q9 => kit_is); (case q10 => kit_is)))
    (case T5 => (refine' ⟨?q0, ?q1, ?q2, ?q3, ?q4, ?q5, ?q6, ?q7, ?q8, ?q9, ?q10, trivial⟩; (case q0 => kit_is); (case q1 => kit_is); (case q2 => kit_is); (case q3 => kit_is); (case q4 => kit_is); (case q5 => kit_is); (case q6 => kit_is); (case q7 => kit_is); (case q8 => kit_is); (case q9 => kit_is); (case q10 => kit_is)))
    (case T6 => (refine' ⟨?q0, ?q1, ?q2, ?q3, ?q4, ?q5, ?q6, ?q7, ?q8, ?q9, ?q10, trivial⟩; (case q0 => kit_is); (case q1 => kit_is); (case q2 => kit_is); (case q3 => kit_is); (case q4 => kit_is); (case q5 => kit_is); (case q6 => kit_is); (case q7 => kit_is); (case q8 => kit_is); (case q9 => kit_is); (case q10 => kit_is)))
    (case T7 => (refine' ⟨?q0, ?q1, ?q2, ?q3, ?q4, ?q5, ?q6, ?q7, ?q8, ?q9, ?q10, trivial⟩; (case q0 => kit_is); (case q1 => kit_is); (case q2 => kit_is); (case q3 => kit_is); (case q4 => kit_is); (case q5 => kit_is); (case q6 => kit_is); (case q7 => kit_is); (case q8 => kit_is); (case q9 => kit_is); (case q10 => kit_is)))
    (case T8 => (refine' ⟨?q0, ?q1, ?q2, ?q3, ?q4, ?q5, ?q6, ?q7, ?q8, ?q9, ?q10, trivial⟩; (case q0 => kit_is); (case q1 => kit_is); (case q2 => kit_is); (case q3 => kit_is); (case q4 => kit_is); (case q5 => kit_is); (case q6 => kit_is); (case q7 => kit_is); (case q8 => kit_is); (case q9 => kit_is); (case q10 => kit_is)))
    (case T9 => (refine' ⟨?q0, ?q1, ?q2, ?q3, ?q4, ?q5, ?q6, ?q7, ?q8, ?q9, ?q10, trivial⟩; (case q0 => kit_is); (case q1 => kit_is); (case q2 => kit_is); (case q3 => kit_is); (case q4 => kit_is); (case q5 => kit_is); (case q6 => kit_is); (case q7 => kit_is); (case q8 => kit_is); (case q9 => kit_is); (case q10 => kit_is)))
    (case T10 => (refine' ⟨?q0, ?q1, ?q2, ?q3, ?q4, ?q5, ?q6, ?q7, ?q8, ?q9, ?q10, trivial⟩; (case q0 => kit_is); (case q1 => kit_is); (case q2 => kit_is); (case q3 => kit_is); (case q4 => kit_is); (case q5 => kit_is); (case q6 => kit_is); (case q7 => kit_is); (case q8 => kit_is); (case q9 => kit_is); (case q10 => kit_is)))
    (case O0 => (refine' ⟨?q0, ?q1, ?q2, ?q3, ?q4, ?q5, ?q6, ?q7, ?q8, ?q9, ?q10, trivial⟩; (case q0 => k_is); (case q1 => k_is); (case q2 => k_is); (case q3 => k_is); (case q4 => k_is); (case q5 => k_is); (case q6 => k_is); (case q7 => k_is); (case q8 => k_is); (case q9 => k_is); (case q10 => k_is)))
    (case O1 => (refine' ⟨?q0, ?q1, ?q2, ?q3, ?q4, ?q5, ?q6, ?q7, ?q8, ?q9, ?q10, trivial⟩; (case q0 => k_is); (case q1 => k_is); (case q2 => k_is); (case q3 => k_is); (case q4 => k_is); (case q5 => k_is); (case q6 => k_is); (case q7 => k_is); (case q8 => k_is); (case q9 => k_is); (case q10 => k_is)))
    (case O2 => (refine' ⟨?q0, ?q1, ?q2, ?q3, ?q4, ?q5, ?q6, ?q7, ?q8, ?q9, ?q10, trivial⟩; (case q0 => k_is); (case q1 => k_is); (case q2 => k_is); (case q3 => k_is); (case q4 => k_is); (case q5 => k_is); (case q6 => k_is); (case q7 => k_is); (case q8 => k_is); (case q9 => k_is); (case q10 => k_is)))
    (case O3 => (refine' ⟨?q0, ?q1, ?q2, ?q3, ?q4, ?q5, ?q6, ?q7, ?q8, ?q9, ?q10, trivial⟩; (case q0 => k_is); (case q1 => k_is); (case q2 => k_is); (case q3 => k_is); (case q4 => k_is); (case q5 => k_is); (case q6 => k_is); (case q7 => k_is); (case q8 => k_is); (case q9 => k_is); (case q10 => k_is)))
    (case O4 => (refine' ⟨?q0, ?q1, ?q2, ?q3, ?q4, ?q5, ?q6, ?q7, ?q8, ?q9, ?q10, trivial⟩; (case q0 => k_is); (case q1 => k_is); (case q2 => k_is); (case q3 => k_is); (case q4 => k_is); (case q5 => k_is); (case q6 => k_is); (case q7 => k_is); (case q8 => k_is); (case q9 => k_is); (case q10 => k_is)))
    (case O5 => (refine' ⟨?q0, ?q1, ?q2, ?q3, ?q4, ?q5, ?q6, ?q7, ?q8, ?q9, ?q10, trivial⟩; (case q0 => k_is); (case q1 => k_is); (case q2 => k_is); (case q3 => k_is); (case q4 => k_is); (case q5 => k_is); (case q6 => k_is); (case q7 => k_is); (case q8 => k_is); (case q9 => k_is); (case q10 => k_is)))
    (case O6 => (refine' ⟨?q0, ?q1, ?q2, ?q3, ?q4, ?q5, ?q6, ?q7, ?q8, ?q9, ?q10, trivial⟩; (case q0 => k_is); (case q1 => k_is); (case q2 => k_is); (case q3 => k_is); (case q4 => k_is); (case q5 => k_is); (case q6 => k_is); (case q7 => k_is); (case q8 => k_is); (case q9 => k_is); (case q10 => k_is)))
    (case O7 => (refine' ⟨?q0, ?q1, ?q2, ?q3, ?q4, ?q5, ?q6, ?q7, ?q8, ?q9, ?q10, trivial⟩; (case q0 => k_is); (case q1 => k_is); (case q2 => k_is); (case q3 => k_is); (case q4 => k_is); (case q5 => k_is); (case q6 => k_is); (case q7 => k_is); (case q8 => k_is); (case q9 => k_is); (case q10 => k_is)))
    (case O8 => (refine' ⟨?q0, ?q1, ?q2, ?q3, ?q4, ?q5, ?q6, ?q7, ?q8, ?q9, ?q10, trivial⟩; (case q0 => k_is); (case q1 => k_is); (case q2 => k_is); (case q3 => k_is); (case q4 => k_is); (case q5 => k_is); (case q6 => k_is); (case q7 => k_is); (case q8 => k_is); (case q9 => k_is); (case q10 => k_is)))
    (case O9 => (refine' ⟨?q0, ?q1, ?q2, ?q3, ?q4, ?q5, ?q6, ?q7, ?q8, ?q9, ?q10, trivial⟩; (case q0 => k_is); (case q1 => k_is); (case q2 => k_is); (case q3 => k_is); (case q4 => k_is); (case q5 => k_is); (case q6 => k_is); (case q7 => k_is); (case q8 => k_is); (case q9 => k_is); (case q10 => k_is)))
    (case O10 => (refine' ⟨?q0, ?q1, ?q2, ?q3, ?q4, ?q5, ?q6, ?q7, ?q8, ?q9, ?q10, trivial⟩; (case q0 => k_is); (case q1 => k_is); (case q2 => k_is); (case q3 => k_is); (case q4 => k_is); (case q5 => k_is); (case q6 => k_is); (case q7 => k_is); (case q8 => k_is); (case q9 => k_is); (case q10 => k_is)))
    (case ty2 => k_is)
    (case ty3 => k_is)
    (case z_isi => k_is)
    (case z_list => k_is)
    (case z_tuple => k_is)
    (case z_len => k_is)
    (case z_int => k_is)
    (case z_range => k_is)
    (case z_repr => k_is)
    (case z_any => k_is)
#print axioms PySem.Challenge.cw_growthpapers_k90_classes_made_by_hand_holds
