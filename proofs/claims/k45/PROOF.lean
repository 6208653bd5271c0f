import PyProof.Rows.All
import Wide.All
import OpenK.AllK
import Wide.FinOn
import HandS.ForMost
import HandS.Wide
import HandS.TupAny
import HandS.IsInst
import HandS.Style
import HandS.Conv
import HandS.TupLe
import PyProof.StrLawsRepr
import PyProof.P3Eq
import HandS.Star
import HandS.Sort
import KE.KSortTupAny
import PyProof.TupleIter
import PyProof.EnumMake
import PyProof.EnumFor
import PyProof.Draws
import PyProof.RulesMatch
import HandS.Zip
import HandS.SetTxt0
import HandS.Set
import PyProof.Rows.SortShellAny
import HandS.SetBool
import HandS.Strs
import HandS.SetFor
import HandS.NoneIn
import PySem.Challenge.RW_failswhole_k45_shapes
set_option Elab.async false
set_option linter.all false
set_option maxRecDepth 100000
/-! L3A: promises of defs that also know that nothing is being shown (no repr guard runs), calls by position and by name, the law's end. -/
namespace L3
open PySem PySem.Spec PyProof.Rows L2

/-- a def keeps its promise wherever no guard runs -/
structure FnG (P : Program) (w : World) (K : PySem.W.Frag) (mg : Str → Option Value) (base : Heap) (CX : CXT) (k : Nat)
    (f : Addr) (fd : FuncData) (ps : List Str) (sp : Sp) : Prop where
  len : ∀ vs H Q E, sp vs H Q E → vs.length = ps.length
  run : ∀ (A : Around) (outer : List Env) (s : Shared) (H : Hp) (args : Args) (us : List Value) (vs : List V) (Q : VK) (E : XK),
    Room k A → A.guards = some [] → Env0 P w K mg base A outer s H → BindsTo s fd args (ps.zip us) → Vals vs us → sp vs H Q E →
    codeAny (model P w) A (.call (.ref f) args) (CR CX outer P w H s Q E) s

theorem FnG.mono {P : Program} {w : World} {K : PySem.W.Frag} {mg : Str → Option Value} {base : Heap} {CX : CXT} {j k : Nat} {f : Addr}
    {fd : FuncData} {ps : List Str} {sp : Sp} (F : FnG P w K mg base CX j f fd ps sp) (h : j ≤ k) : FnG P w K mg base CX k f fd ps sp :=
  ⟨F.len, fun A outer s H args us vs Q E hr => F.run A outer s H args us vs Q E (hr.mono h)⟩
theorem FnG.imp {P : Program} {w : World} {K : PySem.W.Frag} {mg : Str → Option Value} {base : Heap} {CX : CXT} {k : Nat} {f : Addr}
    {fd : FuncData} {ps : List Str} {sp sp' : Sp} (F : FnG P w K mg base CX k f fd ps sp) (h : ∀ vs H Q E, sp' vs H Q E → sp vs H Q E) :
    FnG P w K mg base CX k f fd ps sp' :=
  ⟨fun vs H Q E q => F.len vs H Q E (h _ _ _ _ q), fun A outer s H args us vs Q E hr hg he hb hv hs => F.run A outer s H args us vs Q E hr hg he hb hv (h _ _ _ _ hs)⟩

/-- a def's body keeps its promise -/
theorem okG {P : Program} {w : World} {K : PySem.W.Frag} {mg : Str → Option Value} {base : Heap} {CX : CXT} {x qual : Str} {st : Stmt} {f : Addr}
    {fd : FuncData} {N ps : List Str} {k : Nat} {sp : Sp} (F : Fun K x qual st f fd) (S : FnScope N ps (defScope st))
    (len : ∀ vs H Q E, sp vs H Q E → vs.length = ps.length)
    (hbody : ∀ (cdv : Value) (A : Around) (outer : List Env) (s : Shared) (H : Hp) (vs : List V) (Q : VK) (E : XK),
      Room k (A.deeper (envOfC qual (defScope st) s.heap.objs.size f cdv)) → A.guards = some [] → sp vs H Q E →
      ∃ t, PSs (cxOf CX P w K mg base N qual (defScope st) f cdv A outer s H E) (defBody st) t ∧
        t { nx := fun _ H' => Q .non H', rt := Q } (start N vs) H) : FnG P w K mg base CX (k + 1) f fd ps sp := by
  obtain ⟨oc, od, kV, doc, pm, an, cdv, ct, osl, rfl, lk, hcd⟩ := F.ex
  refine ⟨len, fun A outer s H args us vs Q E hr hgd e0 hb r hsp => ?_⟩
  have hl := len _ _ _ _ hsp
  have KX : K.In s.heap := e0.mod.kin.keeps (fun b o e => (e0.bs b o e).1)
  have lim : s.heap.NoLimit := e0.mod.nolimit.keeps (fun b o e => (e0.bs b o e).1)
  have hkind : ∀ y ∈ ps.zip us, (defScope st).names.lookup y.1 = some .local ∨ ((defScope st).names.lookup y.1 = some .cell ∧
      ((cellsFrom (s.heap.objs.size + 1) (defScope st).names []).lookup y.1).isSome = true) := by
    rintro ⟨n, v⟩ hy
    rcases S.par n (List.of_mem_zip hy).1 with q | q
    · exact Or.inl q
    · exact Or.inr ⟨q, PySem.W.cellsFrom_some _ _ _ (Or.inl q)⟩
  refine codeAny_call_function hr.depth (KX _ _ lk) rfl S.co S.gen rfl
    (PySem.W.codeRec_of KX hcd) (hb _ _ _ _ ?_)
  refine wpAny_newFunctionEnv_cells S.kind hkind ?_
  intro env he s1 x
  subst he
  refine ⟨lim.keeps x.toInCall.keep, codeAny_func ?_⟩
  obtain ⟨t, ht, hq⟩ := hbody cdv A outer s H vs Q E (hr.deeper _) hgd hsp
  have I := inv_start (P := P) (mg := mg) (cd := cdv) (f := f) (qual := qual) (CX := CX) (E := E) S hr.hd e0 hl r x
  refine wpAny_mono (ht.run [] s1 (start N vs) H _ I hq) ?_ (fun e s' hs => hs)
  intro fl s' hs
  cases fl with
  | ret u =>
    obtain ⟨v, σ', H', J, rv, q⟩ := hs
    exact ⟨v, H', J.os, J.bare, J.base, J.hok, rv, q⟩
  | next =>
    obtain ⟨σ', H', J, q⟩ := hs
    exact ⟨V.non, H', J.os, J.bare, J.base, J.hok, rfl, q⟩
  | brk => obtain ⟨_, _, _, q⟩ := hs; exact q.elim
  | cont => obtain ⟨_, _, _, q⟩ := hs; exact q.elim

section
variable {X : Cx} {CX : CXT} {k : Nat} {f : Addr} {fd : FuncData} {ps ks : List Str} {sp : Sp} {E : XK} {x : Str} {p pos : Pos} {es : List Expr} {kws : List Keyword} {t tk : TA}
  {g : List Value → List Value → List Value} {gV : List V → List V → List V}

/-- a callee runs: positional values us, keywords' values ws -/
theorem run_g {pins : List (Addr × Obj)} {σ : L2.St} {H : Hp} {s : Shared} {Q : VK} {us ws : List Value} {vs zs : List V}
    (F : FnG X.prog X.w X.K X.mg X.base CX k f fd ps sp) (hr : Room k X.A) (hgd : X.A.guards = some []) (hb : KBinds X.K fd ps ks g gV) (hx : Passes CX X E)
    (I : Inv X pins σ H s) (r : Vals vs us) (rz : Vals zs ws) (h : sp (gV vs zs) H Q E) :
    wpAny (model X.prog X.w) X.A (call (.ref f) us (ks.zip ws)) (EP X pins σ Q) X.xe s := by
  have r2 := hb.rel r rz
  have hl : (g us ws).length = ps.length := r2.length.symm.trans (F.len _ _ _ _ h)
  refine wpAny_call (codeAny_mono (F.run X.A X.stack s H ⟨us, ks.zip ws⟩ (g us ws) (gV vs zs) Q E hr hgd I.env0
    (hb.to s us ws I.kIn hl) r2 h) ?_)
  intro r s' hq
  match r, hq with
  | .error e, hq => exact hx pins σ H s e s' I hq
  | .ok (.ret u), hq => exact I.after hq
  | .ok .next, hq => exact hq.elim
  | .ok .brk, hq => exact hq.elim
  | .ok .cont, hq => exact hq.elim

/-- all positional, no keyword: the binding -/
theorem kb_pos {K : PySem.W.Frag} {ds : List Value} {dvs : List V} (hb : Binds K fd ps ds) (hd : Vals dvs ds) :
    KBinds K fd ps [] (fun us _ => us ++ ds) (fun vs _ => vs ++ dvs) :=
  ⟨fun s us ws h hl => hb s us h hl, fun r _ => r.append hd⟩

theorem zipnil {α β : Type} (l : List β) : List.zip ([] : List α) l = [] := rfl

/-- f(e, ..) and f(e, .., k = v, ..) -/
theorem pe_callG {e : Expr} (F : FnG X.prog X.w X.K X.mg X.base CX k f fd ps sp) (hr : Room k X.A) (hgd : X.A.guards = some []) (hg : Gl X x) (hm : X.mg x = some (.ref f))
    (hk : PySem.W.keepIn X.K (.ref f) = true) (hb : KBinds X.K fd ps ks g gV) (hx : Passes CX X E)
    (ha : PA X (e :: es) t) (hkw : PK X kws tk) (hall : (backToKw pos (keywordEach kws X.env)).all (·.1.isSome) = true := by rfl)
    (hks : (backToKw pos (keywordEach kws X.env)).filterMap (·.1) = ks := by rfl)
    (hdb : (x == ("__debug__" : Str)) = false := by decide) (he : starEach (e :: es) X.env = (false, eval e X.env) :: starEach es X.env := by rfl)
    (hpl : ((backTo pos (starEach (e :: es) X.env)).any (·.1) || (backToKw pos (keywordEach kws X.env)).any (·.1.isNone)) = false := by rfl) :
    PE X (.Call (.Name x p) (e :: es) kws pos) (tCallK sp gV E t tk) := by
  constructor
  intro pins s σ H Q I h
  refine wpAny_Call_Name_kw (ld_glob I hg hm ?_ hdb)
  refine PySem.W.callWith_KW (h₀ := X.base) I.ok.mod.kin hk hall (thn (ha.run pos pins s σ H _ I h) ?_) hpl he
  rintro us s1 ⟨vs, H1, I1, r, q⟩
  refine thn (hkw.run pos pins s1 σ H1 _ I1 q) ?_
  rintro ws s2 ⟨zs, H2, I2, rz, q2⟩
  refine ⟨I2.kIn, ?_⟩
  rw [hks]
  exact run_g F hr hgd hb hx I2 r rz q2
/-- f() -/
theorem pe_callG0 (F : FnG X.prog X.w X.K X.mg X.base CX k f fd ps sp) (hr : Room k X.A) (hgd : X.A.guards = some []) (hg : Gl X x) (hm : X.mg x = some (.ref f))
    (hk : PySem.W.keepIn X.K (.ref f) = true) (hb : KBinds X.K fd ps [] g gV) (hx : Passes CX X E)
    (hdb : (x == ("__debug__" : Str)) = false := by decide) : PE X (.Call (.Name x p) [] [] pos) (tCallK sp gV E tNil tNil) := by
  constructor
  intro pins s σ H Q I h
  refine wpAny_Call_Name_kw (ld_glob I hg hm ?_ hdb)
  exact PySem.W.callWith_K0 I.kIn hk (run_g (us := []) (ws := []) F hr hgd hb hx I .nil .nil h)
/-- f(k = v, ..) -/
theorem pe_callGk (F : FnG X.prog X.w X.K X.mg X.base CX k f fd ps sp) (hr : Room k X.A) (hgd : X.A.guards = some []) (hg : Gl X x) (hm : X.mg x = some (.ref f))
    (hk : PySem.W.keepIn X.K (.ref f) = true) (hb : KBinds X.K fd ps ks g gV) (hx : Passes CX X E)
    (hkw : PK X kws tk) (hall : (backToKw pos (keywordEach kws X.env)).all (·.1.isSome) = true := by rfl)
    (hks : (backToKw pos (keywordEach kws X.env)).filterMap (·.1) = ks := by rfl)
    (hdb : (x == ("__debug__" : Str)) = false := by decide)
    (hpl : ((backTo pos (starEach [] X.env)).any (·.1) || (backToKw pos (keywordEach kws X.env)).any (·.1.isNone)) = false := by rfl) :
    PE X (.Call (.Name x p) [] kws pos) (tCallK sp gV E tNil tk) := by
  constructor
  intro pins s σ H Q I h
  refine wpAny_Call_Name_kw (ld_glob I hg hm ?_ hdb)
  refine PySem.W.callWith_KW0 (h₀ := X.base) I.ok.mod.kin hk hall (thn (hkw.run pos pins s σ H _ I h) ?_) hpl
  rintro ws s2 ⟨zs, H2, I2, rz, q2⟩
  refine ⟨I2.kIn, ?_⟩
  rw [hks]
  exact run_g (us := []) (vs := []) F hr hgd hb hx I2 .nil rz q2
end

/-! ### the law's end -/
/-- where the table of modules stands -/
def SysAt (base : Heap) : Prop := ∃ o es ep, base.get? sysModules = some o ∧ o.data = .dict es ep
theorem law_end {P : Program} {w : World} {K : PySem.W.Frag} {mg mb : Str → Option Value} {CX : CXT} {k : Nat} {fa a : Addr} {fd : FuncData} {x : Str} {sp : Sp} {s₁ : Shared}
    {vs : List Value} {ns : List Int} (KX : K.In s₁.heap) (hns : s₁.heap.Ns mainGlobals mg) (hb : s₁.heap.Ns builtinsNs mb)
    (hbb : ∀ x : Str, x ≠ "__name__" → mb x = bootBuiltins x) (hlim : s₁.heap.NoLimit) (hg : s₁.gens = #[])
    (ha : s₁.heap.get? a = some { cls := .type "list", data := .seq vs.toArray }) (hi : IntsAre vs ns) (hl : ns.length ≤ sizeLine) (hr : Room k callerA)
    (hsy : ∃ mm, s₁.heap.Ns sysModules mm)
    (F : ∀ base : Heap, K.In base → base.Ns mainGlobals mg → SysAt base → FnG P w K mg base CX k fa fd [x] sp)
    (hbind : ∀ (s : Shared) (u : Value), BindsTo s fd ⟨[u], []⟩ [(x, u)])
    (hsp : ∀ H : Hp, Only H → SqL K H a (ns.map V.int) → sp [.ref a] H (fun v _ => v = .bl true) fun _ _ _ => False)
    (hCX : ∀ H e s', CX [] H s₁ (fun _ _ _ => False) e s' → False) :
    codeAny (model P w) callerA (.call (.ref fa) ⟨[.ref a], []⟩)
      (fun r s' => r = .ok (.ret (.bool true)) ∧ OldK s₁.heap s'.heap ∧ s'.os = s₁.os ∧ AllBare s'.gens) s₁ := by
  have rv := vals_ints hi
  have core : ∀ H : Hp, Only H → SqL K H a (ns.map V.int) → HOk P w H s₁.heap → (∀ b, H b ≠ none → b = a) → (H a ≠ none → K.lookup a = none) →
      codeAny (model P w) callerA (.call (.ref fa) ⟨[.ref a], []⟩)
        (fun r s' => r = .ok (.ret (.bool true)) ∧ OldK s₁.heap s'.heap ∧ s'.os = s₁.os ∧ AllBare s'.gens) s₁ := by
    intro H hO hS hok hA hK
    have tracked : ∀ {b : Addr} {u : HO}, H b = some u → b = a := by
      intro b u q
      exact hA b (by rw [q]; exact fun z => nomatch z)
    have base_of : ∀ {b : Addr} {o : Obj}, s₁.heap.get? b = some o → H b = none → (hidT s₁.heap H).get? b = some o :=
      fun e n => hidT_get e n
    have noA : ∀ {b : Addr} {o : Obj} {es : Array DictEntry} {ep : Nat}, s₁.heap.get? b = some o → o.data = .dict es ep → H b = none := by
      intro b o es ep e d
      cases q : H b with
      | none => rfl
      | some u =>
        obtain rfl := tracked q
        rw [ha] at e
        cases e
        have d' : Data.seq vs.toArray _ = Data.dict es ep := d
        cases d'
    have nsK : ∀ {b : Addr} {m : Str → Option Value}, s₁.heap.Ns b m → (hidT s₁.heap H).Ns b m := by
      rintro b m ⟨o, es, ep, e, d, r⟩
      exact ⟨o, es, ep, base_of e (noA e d), d, r⟩
    have hKb : K.In (hidT s₁.heap H) := by
      intro b o e
      refine base_of (KX b o e) ?_
      cases q : H b with
      | none => rfl
      | some u =>
        obtain rfl := tracked q
        rw [hK (by rw [q]; exact fun z => nomatch z)] at e
        cases e
    have hM : Mod K mg (hidT s₁.heap H) := by
      obtain ⟨mc, h1, h2⟩ := hlim
      exact ⟨hKb, nsK hns, ⟨mb, nsK hb, hbb⟩, ⟨mc, nsK h1, h2⟩⟩
    have e0 : Env0 P w K mg (hidT s₁.heap H) callerA [] s₁ H := by
      refine ⟨rfl, hM, fun b o e => of_hidT e, Nat.le_of_eq (hidT_size _ _), trivial, ?_, hok, .of_eq hg⟩
      intro b hb
      exact nomatch (show b ∈ ([] : List Addr) from hb)
    have hsB : SysAt (hidT s₁.heap H) := by
      obtain ⟨mm, hm⟩ := hsy
      obtain ⟨o, es, ep, e, d, _⟩ := nsK hm
      exact ⟨o, es, ep, e, d⟩
    refine codeAny_mono ((F _ hKb (nsK hns) hsB).run callerA [] s₁ H ⟨[.ref a], []⟩ [.ref a] [.ref a] _ _ hr rfl e0
      (hbind s₁ (.ref a)) (.cons rfl .nil) (hsp H hO hS)) ?_
    intro r s' h
    match r, h with
    | .error e, h => exact (hCX H e s' h).elim
    | .ok .next, h => exact h.elim
    | .ok .brk, h => exact h.elim
    | .ok .cont, h => exact h.elim
    | .ok (.ret u), h =>
      obtain ⟨v, H', os, bare, un, hok', r', q⟩ := h
      obtain rfl : v = .bl true := q
      obtain rfl : u = Value.bool true := r'
      refine ⟨rfl, OldK.of_keep ?_, os, bare⟩
      intro b o e
      cases q : H b with
      | none =>
        exact un.keep b o e q (fun z => nomatch (show b ∈ ([] : List Addr) from z)) (fun z => nomatch z)
      | some u =>
        rcases hO b with z | ⟨ob, xs, z⟩
        · rw [q] at z
          cases z
        · have e1 := (hok b _ z).1
          have e2 := (hok' b _ (un.frzs b ob _ z)).1
          rw [e] at e1
          cases e1
          exact e2
  cases hk : K.lookup a with
  | some o =>
    have e := KX a o hk
    rw [ha] at e
    cases e
    refine core (fun _ => none) (fun _ => .inl rfl) (.inr ⟨_, vs.toArray, _, hk, rfl, rfl, rfl, ?_, by simpa using rv⟩) ?_ (fun b z => absurd rfl z) (fun z => absurd rfl z)
    · rw [List.size_toArray, hi.length]
      exact hl
    · intro b u z
      exact nomatch (show (none : Option HO) = some u from z)
  | none =>
    have at_a : (if a = a then some (HO.frz { cls := .type "list", data := .seq vs.toArray } (.lst (ns.map V.int))) else none) =
        some (HO.frz { cls := .type "list", data := .seq vs.toArray } (.lst (ns.map V.int))) := if_pos rfl
    refine core (fun b => if b = a then some (.frz { cls := .type "list", data := .seq vs.toArray } (.lst (ns.map V.int))) else none) ?_ (.inl (.inr ⟨_, at_a⟩)) ?_ ?_ (fun _ => hk)
    · intro b
      by_cases hb : b = a
      · exact .inr ⟨_, _, if_pos hb⟩
      · exact .inl (if_neg hb)
    · intro b u z
      by_cases hb : b = a
      · have z' := (if_pos hb).symm.trans z
        cases z'
        subst hb
        refine ⟨ha, ?_, vs, _, rv, ha⟩
        rw [List.length_map]
        exact hl
      · exact nomatch (if_neg hb).symm.trans z
    · intro b z
      by_cases hb : b = a
      · exact hb
      · exact absurd (if_neg hb) z

theorem walkG {l : PySem.W.OpenLaw} {n k : Nat} {q : Program} {loose : List Str} {XP : (Str → Option Value) → Heap → Prop} {YP : World → Heap → Prop} {d : DefRec}
    {K : Params → PySem.W.Frag} {CX : World → CXT} {sp : World → Sp} {x : Str} (hn : l.most = some n) (hn2 : n ≤ sizeLine) (hdf : d.params.defaults = []) (hr : Room k callerA) (him : importsNone q = true)
    (hY : ∀ (w : World) (h : Heap), YP w h → (K w.params).In h)
    (F : ∀ (w : World) (mg : Str → Option Value) (fa : Addr) (h : Heap), (K w.params).In h → h.Ns mainGlobals mg → XP mg h → mg d.name = some (.ref fa) →
      ∃ fd : FuncData, (∀ (s : Shared) (u : Value), BindsTo s fd ⟨[u], []⟩ [(x, u)]) ∧
        ∀ base : Heap, (K w.params).In base → base.Ns mainGlobals mg → SysAt base → FnG l.prog w (K w.params) mg base (CX w) k fa fd [x] (sp w))
    (hsp : ∀ (w : World) (H : Hp) (a : Addr) (ns : List Int), ns.length ≤ n → Only H → SqL (K w.params) H a (ns.map V.int) → sp w [.ref a] H (fun v _ => v = .bl true) fun _ _ _ => False)
    (hCX : ∀ (w : World) (H : Hp) (s : Shared) (e : Value) (s' : Shared), CX w [] H s (fun _ _ _ => False) e s' → False) :
    PySem.W.WalkO q loose XP YP l.row.toRowW d [] (fun f vs => PySem.call f vs) := by
  refine Att.attach_call hn hdf ?_
  intro w s₀ s₁ mg mb fa o pm cd doc a vs ns G Y ho hd hcd hmg hobj hints hlen hg
  obtain ⟨fd, hb, hF⟩ := F w mg fa _ (hY w _ Y) G.T.g G.X hmg
  have hsy : ∃ mm, s₁.heap.Ns sysModules mm := (G.T.seer him).mods.imp fun _ h => h.1
  exact law_end (hY w _ Y) G.T.g G.T.b G.T.builtins G.T.nolimit hg hobj hints (Nat.le_trans hlen hn2) hr hsy hF hb
    (fun H hO hS => hsp w H a ns hlen hO hS) (fun H e s' => hCX w H s₁ e s')
end L3

set_option maxHeartbeats 1000000
/-! L3B: immutable data as trees, what changes by its address; readings over these. -/
namespace L3
open PySem PySem.Spec PyProof.Rows L2

/-- a value as a tree: what never changes any more stands whole; what may change is its bare reference -/
inductive T where
  | non | bl (b : Bool) | int (i : Int) | str (x : Str)
  | tup (xs : List T) | lst (xs : List T) | scr (xs : List T) | dic (kvs : List (Key × T)) | raw (v : V)
  deriving Inhabited
/-- what may change -/
inductive MO where
  | lst (xs : List T) | dct (kvs : List (Key × T)) | ins (C dx : Addr) (fs : List (Str × T))
abbrev Mp := Addr → Option MO
def mset (M : Mp) (a : Addr) (o : MO) : Mp := fun b => if b = a then some o else M b
def mdel (M : Mp) (a : Addr) : Mp := fun b => if b = a then none else M b
theorem mset_same {M : Mp} {a : Addr} {o : MO} : mset M a o a = some o := if_pos rfl
theorem mset_ne {M : Mp} {a b : Addr} {o : MO} (h : b ≠ a) : mset M a o b = M b := if_neg h
theorem mset_mset {M : Mp} {a : Addr} {o u : MO} : mset (mset M a o) a u = mset M a u := by
  funext b; unfold mset; split <;> rfl

section
variable (K : PySem.W.Frag) (F : Hp)
mutual
inductive Rep : V → T → Prop
  | non : Rep .non .non
  | bl (b : Bool) : Rep (.bl b) (.bl b)
  | int (i : Int) : Rep (.int i) (.int i)
  | str (x : Str) : Rep (.str x) (.str x)
  | tup {a : Addr} {vs : List V} {ts : List T} : SqT K F a vs → Reps vs ts → Rep (.ref a) (.tup ts)
  | lst {a : Addr} {vs : List V} {ts : List T} : F a = some (.lst vs) → Reps vs ts → Rep (.ref a) (.lst ts)
  | scr {a : Addr} {vs : List V} {ts : List T} : SqL K F a vs → Reps vs ts → Rep (.ref a) (.scr ts)
  | dic {a : Addr} {kvs : List (Key × V)} {kts : List (Key × T)} : F a = some (.dK kvs) → RepKV kvs kts → Rep (.ref a) (.dic kts)
  | raw (v : V) : Rep v (.raw v)
inductive Reps : List V → List T → Prop
  | nil : Reps [] []
  | cons {v : V} {vs : List V} {t : T} {ts : List T} : Rep v t → Reps vs ts → Reps (v :: vs) (t :: ts)
inductive RepKV : List (Key × V) → List (Key × T) → Prop
  | nil : RepKV [] []
  | cons {k : Key} {v : V} {vs : List (Key × V)} {t : T} {ts : List (Key × T)} : Rep v t → RepKV vs ts → RepKV ((k, v) :: vs) ((k, t) :: ts)
end
end

def Ex (F F' : Hp) : Prop := ∀ a o, F a = some o → F' a = some o
theorem Ex.refl {F : Hp} : Ex F F := fun _ _ h => h
theorem Ex.trans {F G H : Hp} (a : Ex F G) (b : Ex G H) : Ex F H := fun x o h => b x o (a x o h)
theorem Ex.upd {F : Hp} {p : Addr} {o : HO} (h : F p = none) : Ex F (upd F p o) := fun b x e => by
  rw [upd_ne (ne_of_none e h)]
  exact e
section
variable {K : PySem.W.Frag} {F F' H : Hp}
theorem Ex.rd (x : Ex F F') {a : Addr} {u : HO} (h : Rd F a u) : Rd F' a u := h.imp (x _ _) fun ⟨o, e⟩ => ⟨o, x _ _ e⟩
theorem Ex.sqL (x : Ex F F') {a : Addr} {vs : List V} (h : SqL K F a vs) : SqL K F' a vs := h.imp x.rd id
theorem Ex.sqT (x : Ex F F') {a : Addr} {vs : List V} (h : SqT K F a vs) : SqT K F' a vs := h.imp x.rd id
mutual
theorem Rep.mono (x : Ex F F') : ∀ {v : V} {t : T}, Rep K F v t → Rep K F' v t
  | _, _, .non => .non
  | _, _, .bl b => .bl b
  | _, _, .int i => .int i
  | _, _, .str z => .str z
  | _, _, .tup h r => .tup (x.sqT h) (Reps.mono x r)
  | _, _, .lst h r => .lst (x _ _ h) (Reps.mono x r)
  | _, _, .scr h r => .scr (x.sqL h) (Reps.mono x r)
  | _, _, .dic h r => .dic (x _ _ h) (RepKV.mono x r)
  | _, _, .raw v => .raw v
theorem Reps.mono (x : Ex F F') : ∀ {vs : List V} {ts : List T}, Reps K F vs ts → Reps K F' vs ts
  | _, _, .nil => .nil
  | _, _, .cons h r => .cons (Rep.mono x h) (Reps.mono x r)
theorem RepKV.mono (x : Ex F F') : ∀ {vs : List (Key × V)} {ts : List (Key × T)}, RepKV K F vs ts → RepKV K F' vs ts
  | _, _, .nil => .nil
  | _, _, .cons h r => .cons (Rep.mono x h) (RepKV.mono x r)
end
theorem Reps.length : ∀ {vs : List V} {ts : List T}, Reps K F vs ts → vs.length = ts.length
  | _, _, .nil => rfl
  | _, _, .cons _ r => congrArg (· + 1) (Reps.length r)
theorem Reps.get : ∀ {vs : List V} {ts : List T} {i : Nat} {t : T}, Reps K F vs ts → ts[i]? = some t → ∃ v, vs[i]? = some v ∧ Rep K F v t
  | _, _, 0, _, .cons h _, e => ⟨_, rfl, by have e' := Option.some.inj e; subst e'; exact h⟩
  | _, _, i + 1, t, .cons _ r, e => Reps.get (i := i) r e
theorem Reps.get' : ∀ {vs : List V} {ts : List T} {i : Nat} {v : V}, Reps K F vs ts → vs[i]? = some v → ∃ t, ts[i]? = some t ∧ Rep K F v t
  | _, _, 0, _, .cons h _, e => ⟨_, rfl, by have e' := Option.some.inj e; subst e'; exact h⟩
  | _, _, i + 1, t, .cons _ r, e => Reps.get' (i := i) r e
theorem Reps.append : ∀ {vs us : List V} {ts ws : List T}, Reps K F vs ts → Reps K F us ws → Reps K F (vs ++ us) (ts ++ ws)
  | _, _, _, _, .nil, q => q
  | _, _, _, _, .cons h r, q => .cons h (Reps.append r q)
theorem Reps.drop : ∀ {vs : List V} {ts : List T} (n : Nat), Reps K F vs ts → Reps K F (vs.drop n) (ts.drop n)
  | _, _, 0, r => r
  | _, _, _ + 1, .nil => .nil
  | _, _, n + 1, .cons _ r => Reps.drop n r
theorem Reps.take : ∀ {vs : List V} {ts : List T} (n : Nat), Reps K F vs ts → Reps K F (vs.take n) (ts.take n)
  | _, _, 0, _ => .nil
  | _, _, _ + 1, .nil => .nil
  | _, _, n + 1, .cons h r => .cons h (Reps.take n r)
theorem Reps.reverse : ∀ {vs : List V} {ts : List T}, Reps K F vs ts → Reps K F vs.reverse ts.reverse
  | _, _, .nil => .nil
  | _, _, .cons h r => by
    rw [List.reverse_cons, List.reverse_cons]
    exact (Reps.reverse r).append (.cons h .nil)
theorem Reps.ints : ∀ {vs : List V} {ns : List Int}, Reps K F vs (ns.map T.int) → vs = ns.map V.int
  | _, [], .nil => rfl
  | _, n :: ns, .cons h r => by
    cases h
    rw [Reps.ints (ns := ns) r]
    rfl
theorem Reps.of_ints : ∀ (ns : List Int), Reps K F (ns.map V.int) (ns.map T.int)
  | [] => .nil
  | n :: ns => .cons (.int n) (Reps.of_ints ns)
theorem Reps.strs : ∀ {vs : List V} {ns : List Str}, Reps K F vs (ns.map T.str) → vs = ns.map V.str
  | _, [], .nil => rfl
  | _, n :: ns, .cons h r => by
    cases h
    rw [Reps.strs (ns := ns) r]
    rfl
theorem Reps.of_strs : ∀ (ns : List Str), Reps K F (ns.map V.str) (ns.map T.str)
  | [] => .nil
  | n :: ns => .cons (.str n) (Reps.of_strs ns)
theorem Reps.bls : ∀ {vs : List V} {ns : List Bool}, Reps K F vs (ns.map T.bl) → vs = ns.map V.bl
  | _, [], .nil => rfl
  | _, n :: ns, .cons h r => by
    cases h
    rw [Reps.bls (ns := ns) r]
    rfl
theorem RepKV.length : ∀ {vs : List (Key × V)} {ts : List (Key × T)}, RepKV K F vs ts → vs.length = ts.length
  | _, _, .nil => rfl
  | _, _, .cons _ r => congrArg (· + 1) (RepKV.length r)
end

/-- an instance's attributes -/
def RepFs (K : PySem.W.Frag) (F : Hp) (fs : List (Str × V)) (ts : List (Str × T)) : Prop := Paired (fun (p : Str × V) (q : Str × T) => p.1 = q.1 ∧ Rep K F p.2 q.2) fs ts
theorem RepFs.mono {K : PySem.W.Frag} {F F' : Hp} (x : Ex F F') {fs : List (Str × V)} {ts : List (Str × T)} (h : RepFs K F fs ts) : RepFs K F' fs ts :=
  Paired.mapP h fun _ _ q => ⟨q.1, q.2.mono x⟩
inductive RepO (K : PySem.W.Frag) (F : Hp) : HO → MO → Prop
  | lst {vs : List V} {ts : List T} : Reps K F vs ts → RepO K F (.lst vs) (.lst ts)
  | dct {vs : List (Key × V)} {ts : List (Key × T)} : RepKV K F vs ts → RepO K F (.dK vs) (.dct ts)
  | ins {C dx : Addr} {fs : List (Str × V)} {ts : List (Str × T)} : RepFs K F fs ts → RepO K F (.ins C dx fs) (.ins C dx ts)
theorem RepO.mono {K : PySem.W.Frag} {F F' : Hp} (x : Ex F F') {o : HO} {m : MO} (h : RepO K F o m) : RepO K F' o m := by
  cases h with
  | lst h => exact .lst (h.mono x)
  | dct h => exact .dct (h.mono x)
  | ins h => exact .ins (h.mono x)

/-- the heap H in three parts: F never changes, O is nobody's here, M may change -/
structure Wd (K : PySem.W.Frag) (F O H : Hp) (M : Mp) : Prop where
  sub : ∀ a o, F a = some o → H a = some o
  oth : ∀ a o, O a = some o → H a = some o ∧ F a = none
  mo : ∀ a m, M a = some m → F a = none ∧ O a = none ∧ ∃ o, H a = some o ∧ RepO K F o m

section
variable {K : PySem.W.Frag} {F O H : Hp} {M : Mp} {p : Addr}
theorem Wd.fF (w : Wd K F O H M) (h : H p = none) : F p = none := by
  cases e : F p with
  | none => rfl
  | some o => rw [w.sub p o e] at h; cases h
theorem Wd.fO (w : Wd K F O H M) (h : H p = none) : O p = none := by
  cases e : O p with
  | none => rfl
  | some o => rw [(w.oth p o e).1] at h; cases h
theorem Wd.fM (w : Wd K F O H M) (h : H p = none) : M p = none := by
  cases e : M p with
  | none => rfl
  | some o => obtain ⟨_, _, u, e2, _⟩ := w.mo p o e; rw [e2] at h; cases h
/-- a new object that never changes -/
theorem Wd.newF (w : Wd K F O H M) (h : H p = none) (o : HO) : Wd K (upd F p o) O (upd H p o) M := by
  have x : Ex F (upd F p o) := Ex.upd (w.fF h)
  refine ⟨fun a u e => ?_, fun a u e => ?_, fun a m e => ?_⟩
  · by_cases hp : a = p
    · subst hp
      rw [upd_same] at e ⊢
      exact e
    · rw [upd_ne hp] at e ⊢
      exact w.sub a u e
  · obtain ⟨e1, e2⟩ := w.oth a u e
    have hp : a ≠ p := ne_of_none e1 h
    rw [upd_ne hp, upd_ne hp]
    exact ⟨e1, e2⟩
  · obtain ⟨e1, e2, u, e3, r⟩ := w.mo a m e
    have hp : a ≠ p := ne_of_none e3 h
    refine ⟨by rw [upd_ne hp]; exact e1, e2, u, by rw [upd_ne hp]; exact e3, r.mono x⟩
/-- a new object that may change -/
theorem Wd.newM (w : Wd K F O H M) (h : H p = none) {o : HO} {m : MO} (r : RepO K F o m) : Wd K F O (upd H p o) (mset M p m) := by
  refine ⟨fun a u e => ?_, fun a u e => ?_, fun a m' e => ?_⟩
  · have e1 := w.sub a u e
    rw [upd_ne (ne_of_none e1 h)]
    exact e1
  · obtain ⟨e1, e2⟩ := w.oth a u e
    rw [upd_ne (ne_of_none e1 h)]
    exact ⟨e1, e2⟩
  · by_cases hp : a = p
    · subst hp
      rw [mset_same] at e
      cases e
      exact ⟨w.fF h, w.fO h, o, upd_same, r⟩
    · rw [mset_ne hp] at e
      obtain ⟨e1, e2, u, e3, q⟩ := w.mo a m' e
      exact ⟨e1, e2, u, by rw [upd_ne hp]; exact e3, q⟩
/-- what may change changes -/
theorem Wd.write (w : Wd K F O H M) {m0 : MO} (h : M p = some m0) {o : HO} {m : MO} (r : RepO K F o m) : Wd K F O (upd H p o) (mset M p m) := by
  obtain ⟨f0, o0, _⟩ := w.mo p m0 h
  refine ⟨fun a u e => ?_, fun a u e => ?_, fun a m' e => ?_⟩
  · rw [upd_ne (ne_of_none e f0)]
    exact w.sub a u e
  · rw [upd_ne (ne_of_none e o0)]
    exact w.oth a u e
  · by_cases hp : a = p
    · subst hp
      rw [mset_same] at e
      cases e
      exact ⟨f0, o0, o, upd_same, r⟩
    · rw [mset_ne hp] at e
      obtain ⟨e1, e2, u, e3, q⟩ := w.mo a m' e
      exact ⟨e1, e2, u, by rw [upd_ne hp]; exact e3, q⟩
/-- what no longer changes: a list, a dict is from now on a tree -/
theorem Wd.freeze (w : Wd K F O H M) {m0 : MO} (h : M p = some m0) {o : HO} (ho : H p = some o) : Wd K (upd F p o) O H (mdel M p) := by
  obtain ⟨f0, o0, _⟩ := w.mo p m0 h
  refine ⟨fun a u e => ?_, fun a u e => ?_, fun a m' e => ?_⟩
  · by_cases hp : a = p
    · subst hp
      rw [upd_same] at e
      cases e
      exact ho
    · rw [upd_ne hp] at e
      exact w.sub a u e
  · obtain ⟨e1, e2⟩ := w.oth a u e
    refine ⟨e1, ?_⟩
    rw [upd_ne (ne_of_none e o0)]
    exact e2
  · by_cases hp : a = p
    · subst hp
      unfold mdel at e
      rw [if_pos rfl] at e
      cases e
    · unfold mdel at e
      rw [if_neg hp] at e
      obtain ⟨e1, e2, u, e3, q⟩ := w.mo a m' e
      exact ⟨by rw [upd_ne hp]; exact e1, e2, u, e3, q.mono (Ex.upd f0)⟩
end

abbrev SS := List (Option T)
def SlR (K : PySem.W.Frag) (F : Hp) (σ : L2.St) (ss : SS) : Prop := σ.length = ss.length ∧ ∀ (i : Nat) (t : T), ss[i]? = some (some t) → ∃ v, σ[i]? = some (some v) ∧ Rep K F v t
theorem SlR.mono {K : PySem.W.Frag} {F F' : Hp} (x : Ex F F') {σ : L2.St} {ss : SS} (h : SlR K F σ ss) : SlR K F' σ ss :=
  ⟨h.1, fun i t e => let ⟨v, e1, r⟩ := h.2 i t e; ⟨v, e1, r.mono x⟩⟩
theorem SlR.set {K : PySem.W.Frag} {F : Hp} {σ : L2.St} {ss : SS} (h : SlR K F σ ss) {v : V} {t : T} (r : Rep K F v t) (i : Nat) : SlR K F (σ.set i (some v)) (ss.set i (some t)) := by
  refine ⟨by rw [List.length_set, List.length_set]; exact h.1, fun j u e => ?_⟩
  rw [List.getElem?_set] at e ⊢
  by_cases hij : i = j
  · subst hij
    rw [if_pos rfl] at e ⊢
    by_cases hl : i < ss.length
    · rw [if_pos hl] at e
      rw [if_pos (h.1 ▸ hl)]
      cases e
      exact ⟨v, rfl, r⟩
    · rw [if_neg hl] at e
      cases e
  · rw [if_neg hij] at e ⊢
    exact h.2 j u e
theorem SlR.unset {K : PySem.W.Frag} {F : Hp} {σ : L2.St} {ss : SS} (h : SlR K F σ ss) (i : Nat) : SlR K F (σ.set i none) (ss.set i none) := by
  refine ⟨by rw [List.length_set, List.length_set]; exact h.1, fun j u e => ?_⟩
  rw [List.getElem?_set] at e ⊢
  by_cases hij : i = j
  · subst hij
    rw [if_pos rfl] at e
    split at e <;> cases e
  · rw [if_neg hij] at e ⊢
    exact h.2 j u e
def wipe3 (ss : SS) : List Nat → SS
  | [] => ss
  | v :: vs => (wipe3 ss vs).set v none
theorem SlR.wipe {K : PySem.W.Frag} {F : Hp} {σ : L2.St} {ss : SS} (h : SlR K F σ ss) : ∀ vs : List Nat, SlR K F (wipe σ vs) (wipe3 ss vs)
  | [] => h
  | v :: vs => (SlR.wipe h vs).unset v

abbrev QE := T → Mp → Prop
abbrev E3 := SS → Mp → QE → Prop
abbrev T3 := SS → Mp → (Bool → Mp → Prop) → Prop
abbrev A3 := SS → Mp → (List T → Mp → Prop) → Prop
structure Ends3 where
  nx : SS → Mp → Prop
  rt : QE
  bk : SS → Mp → Prop := fun _ _ => False
  ct : SS → Mp → Prop := fun _ _ => False
abbrev S3 := Ends3 → SS → Mp → Prop

/-- what follows a value, from what follows its tree -/
def LkV (K : PySem.W.Frag) (F O : Hp) (Q3 : QE) (Q : VK) : Prop := ∀ (v : V) (H' F' : Hp) (M' : Mp) (t : T), Ex F F' → Wd K F' O H' M' → Rep K F' v t → Q3 t M' → Q v H'
def LkS (K : PySem.W.Frag) (F O : Hp) (Q3 : SS → Mp → Prop) (Q : L2.St → Hp → Prop) : Prop :=
  ∀ (σ' : L2.St) (H' F' : Hp) (M' : Mp) (ss' : SS), Ex F F' → Wd K F' O H' M' → SlR K F' σ' ss' → Q3 ss' M' → Q σ' H'
structure Lnk (K : PySem.W.Frag) (F O : Hp) (D3 : Ends3) (D : Ends) : Prop where
  nx : LkS K F O D3.nx D.nx
  rt : LkV K F O D3.rt D.rt
  bk : LkS K F O D3.bk D.bk
  ct : LkS K F O D3.ct D.ct
theorem LkV.mono {K : PySem.W.Frag} {F F' O : Hp} (x : Ex F F') {Q3 : QE} {Q : VK} (h : LkV K F O Q3 Q) : LkV K F' O Q3 Q := fun v H' G M' t y => h v H' G M' t (x.trans y)
theorem LkS.mono {K : PySem.W.Frag} {F F' O : Hp} (x : Ex F F') {Q3 : SS → Mp → Prop} {Q : L2.St → Hp → Prop} (h : LkS K F O Q3 Q) : LkS K F' O Q3 Q := fun v H' G M' t y => h v H' G M' t (x.trans y)
theorem Lnk.mono {K : PySem.W.Frag} {F F' O : Hp} (x : Ex F F') {D3 : Ends3} {D : Ends} (h : Lnk K F O D3 D) : Lnk K F' O D3 D := ⟨h.nx.mono x, h.rt.mono x, h.bk.mono x, h.ct.mono x⟩

def liftE (K : PySem.W.Frag) (te : E3) : TE := fun σ H Q => ∃ F O M ss Q3, Wd K F O H M ∧ SlR K F σ ss ∧ te ss M Q3 ∧ LkV K F O Q3 Q
def liftT (K : PySem.W.Frag) (tt : T3) : TT := fun σ H Q => ∃ F O M ss Q3, Wd K F O H M ∧ SlR K F σ ss ∧ tt ss M Q3 ∧ ∀ (b : Bool) (H' F' : Hp) (M' : Mp), Ex F F' → Wd K F' O H' M' → Q3 b M' → Q b H'
def liftA (K : PySem.W.Frag) (ta : A3) : TA := fun σ H Q => ∃ F O M ss Q3, Wd K F O H M ∧ SlR K F σ ss ∧ ta ss M Q3 ∧ ∀ (vs : List V) (H' F' : Hp) (M' : Mp) (ts : List T), Ex F F' → Wd K F' O H' M' → Reps K F' vs ts → Q3 ts M' → Q vs H'
def liftS (K : PySem.W.Frag) (ts : S3) : TS := fun D σ H => ∃ F O M ss D3, Wd K F O H M ∧ SlR K F σ ss ∧ ts D3 ss M ∧ Lnk K F O D3 D

abbrev DE (X : Cx) (e : Expr) (te : E3) : Prop := PE X e (liftE X.K te)
abbrev DT (X : Cx) (e : Expr) (tt : T3) : Prop := PT X e (liftT X.K tt)
abbrev DW (X : Cx) (e : Expr) (tt : T3) : Prop := PW X e (liftT X.K tt)
abbrev DA (X : Cx) (es : List Expr) (ta : A3) : Prop := PA X es (liftA X.K ta)
abbrev DK (X : Cx) (es : List Keyword) (ta : A3) : Prop := PK X es (liftA X.K ta)
abbrev DS (X : Cx) (st : Stmt) (ts : S3) : Prop := PS X st (liftS X.K ts)
abbrev DSs (X : Cx) (st : List Stmt) (ts : S3) : Prop := PSs X st (liftS X.K ts)

theorem pe_weak {X : Cx} {e : Expr} {t t' : TE} (h : PE X e t) (i : ∀ σ H Q, t' σ H Q → t σ H Q) : PE X e t' := ⟨fun pins s σ H Q I q => h.run pins s σ H Q I (i σ H Q q)⟩
theorem pt_weak {X : Cx} {e : Expr} {t t' : TT} (h : PT X e t) (i : ∀ σ H Q, t' σ H Q → t σ H Q) : PT X e t' := ⟨fun pins s σ H Q I q => h.run pins s σ H Q I (i σ H Q q)⟩
theorem pw_weak {X : Cx} {e : Expr} {t t' : TT} (h : PW X e t) (i : ∀ σ H Q, t' σ H Q → t σ H Q) : PW X e t' := ⟨fun wh pins s σ H Q I q => h.run wh pins s σ H Q I (i σ H Q q)⟩
theorem pa_weak {X : Cx} {e : List Expr} {t t' : TA} (h : PA X e t) (i : ∀ σ H Q, t' σ H Q → t σ H Q) : PA X e t' := ⟨fun po pins s σ H Q I q => h.run po pins s σ H Q I (i σ H Q q)⟩
theorem pk_weak {X : Cx} {e : List Keyword} {t t' : TA} (h : PK X e t) (i : ∀ σ H Q, t' σ H Q → t σ H Q) : PK X e t' := ⟨fun po pins s σ H Q I q => h.run po pins s σ H Q I (i σ H Q q)⟩
theorem ps_weak {X : Cx} {e : Stmt} {t t' : TS} (h : PS X e t) (i : ∀ D σ H, t' D σ H → t D σ H) : PS X e t' := ⟨fun pins s σ H D I q => h.run pins s σ H D I (i D σ H q)⟩
theorem pss_weak {X : Cx} {e : List Stmt} {t t' : TS} (h : PSs X e t) (i : ∀ D σ H, t' D σ H → t D σ H) : PSs X e t' := ⟨fun pins s σ H D I q => h.run pins s σ H D I (i D σ H q)⟩

section
variable {X : Cx} {a b c e : Expr} {es : List Expr} {te ta tb : E3} {tt tu : T3} {tl : A3} {pos : Pos}
/-! ### names, constants -/
def dVar (i : Nat) : E3 := fun ss M Q => match ss[i]? with
  | some (some t) => Q t M
  | _ => False
def dC (t : T) : E3 := fun _ M Q => Q t M
theorem d_var (i : Nat) {x : Str} {pos : Pos} (hN : X.N[i]? = some x := by rfl) (hv : Vis X.env.scope x := by first | exact Or.inl rfl | exact Or.inr (Or.inl rfl) | exact Or.inr (Or.inr rfl))
    (hd : (x == ("__debug__" : Str)) = false := by decide) (hcd : (x == ("__classdict__" : Str)) = false := by decide) : DE X (.Name x pos) (dVar i) := by
  refine pe_weak (pe_var hN hv hd hcd) ?_
  rintro σ H Q ⟨F, O, M, ss, Q3, w, sl, q, k⟩
  unfold dVar at q
  split at q
  · rename_i t e
    obtain ⟨v, e1, r⟩ := sl.2 i t e
    exact ⟨v, e1, k v H F M t .refl w r q⟩
  · exact q.elim
theorem d_const {e : Expr} {v : V} {t : T} (h : PE X e (tC v)) (r : ∀ F, Rep X.K F v t) : DE X e (dC t) := by
  refine pe_weak h ?_
  rintro σ H Q ⟨F, O, M, ss, Q3, w, sl, q, k⟩
  exact k v H F M t .refl w (r F) q
theorem d_int {i j pos} : DE X (.Constant (.int i) j pos) (dC (.int i)) := d_const pe_int fun _ => .int i
theorem d_bl {i j pos} : DE X (.Constant (.bool i) j pos) (dC (.bl i)) := d_const pe_bl fun _ => .bl i
theorem d_non {j pos} : DE X (.Constant .none j pos) (dC .non) := d_const pe_non fun _ => .non
theorem d_str {i j pos} : DE X (.Constant (.str i) j pos) (dC (.str i)) := d_const pe_str fun _ => .str i
/-- a module's constant -/
theorem d_glob {x : Str} {v : V} {t : T} {u : Value} {pos : Pos} (hg : Gl X x) (hm : X.mg x = some u) (rv : RelV v u) (r : ∀ F, Rep X.K F v t) (hd : (x == ("__debug__" : Str)) = false := by decide) : DE X (.Name x pos) (dC t) :=
  d_const (pe_glob hg hm rv hd) r
/-- a built-in as a value (a type) -/
theorem d_bltn {x : Str} {v : V} {u : Value} {pos : Pos} (hg : Gl X x) (hm : X.mg x = none) (hv : bootBuiltins x = some u) (r : RelV v u) (hn : x ≠ "__name__" := by decide) (hd : (x == ("__debug__" : Str)) = false := by decide) : DE X (.Name x pos) (dC (.raw v)) :=
  d_const (pe_bltn hg hm hv r hn hd) fun _ => .raw v

/-! ### argument lists, displays -/
def dNil : A3 := fun _ M Q => Q [] M
def dCons (te : E3) (tl : A3) : A3 := fun ss M Q => te ss M fun t M1 => tl ss M1 fun ts M2 => Q (t :: ts) M2
theorem da_nil : DA X [] dNil := by
  refine pa_weak pa_nil ?_
  rintro σ H Q ⟨F, O, M, ss, Q3, w, sl, q, k⟩
  exact k [] H F M [] .refl w .nil q
theorem lift_cons {K : PySem.W.Frag} : ∀ σ H Q, liftA K (dCons te tl) σ H Q → tCons (liftE K te) (liftA K tl) σ H Q := by
  rintro σ H Q ⟨F, O, M, ss, Q3, w, sl, q, k⟩
  refine ⟨F, O, M, ss, _, w, sl, q, ?_⟩
  intro v H1 F1 M1 t x1 w1 r1 q1
  refine ⟨F1, O, M1, ss, _, w1, sl.mono x1, q1, ?_⟩
  intro vs H2 F2 M2 ts x2 w2 r2 q2
  exact k _ H2 F2 M2 _ (x1.trans x2) w2 (.cons (r1.mono x2) r2) q2
theorem da_cons (ha : DE X e te) (hr : DA X es tl) (hs : starEach (e :: es) X.env = (false, eval e X.env) :: starEach es X.env := by rfl) : DA X (e :: es) (dCons te tl) :=
  pa_weak (pa_cons ha hr hs) lift_cons
theorem dk_nil : DK X [] dNil := by
  refine pk_weak pk_nil ?_
  rintro σ H Q ⟨F, O, M, ss, Q3, w, sl, q, k⟩
  exact k [] H F M [] .refl w .nil q
theorem dk_cons {nm : Option Str} {kpos : Pos} {kws : List Keyword} (ha : DE X e te) (hr : DK X kws tl) : DK X (⟨nm, e, kpos⟩ :: kws) (dCons te tl) :=
  pk_weak (pk_cons ha hr) lift_cons
def dTup (tl : A3) : E3 := fun ss M Q => tl ss M fun ts M1 => ts.length ≤ sizeLine ∧ Q (.tup ts) M1
def dLst (tl : A3) : E3 := fun ss M Q => tl ss M fun ts M1 => ts.length ≤ sizeLine ∧ Q (.lst ts) M1
/-- a list that will change -/
def dLstM (tl : A3) : E3 := fun ss M Q => tl ss M fun ts M1 => ts.length ≤ sizeLine ∧ ∀ p, M1 p = none → Q (.raw (.ref p)) (mset M1 p (.lst ts))
theorem d_tup {x1} (h : DA X es tl) : DE X (.Tuple es x1 pos) (dTup tl) := by
  refine pe_weak (pe_tup h) ?_
  rintro σ H Q ⟨F, O, M, ss, Q3, w, sl, q, k⟩
  refine ⟨F, O, M, ss, _, w, sl, q, ?_⟩
  rintro vs H1 F1 M1 ts x1 w1 r1 ⟨z, q1⟩
  refine ⟨r1.length ▸ z, fun p hp => ?_⟩
  have x2 : Ex F1 (upd F1 p (.tup vs)) := .upd (w1.fF hp)
  exact k _ _ _ M1 _ (x1.trans x2) (w1.newF hp _) (.tup (.of upd_same) (r1.mono x2)) q1
theorem d_lst (h : DA X es tl) : DE X (.List es pos) (dLst tl) := by
  refine pe_weak (pe_lst h) ?_
  rintro σ H Q ⟨F, O, M, ss, Q3, w, sl, q, k⟩
  refine ⟨F, O, M, ss, _, w, sl, q, ?_⟩
  rintro vs H1 F1 M1 ts x1 w1 r1 ⟨z, q1⟩
  refine ⟨r1.length ▸ z, fun p hp => ?_⟩
  have x2 : Ex F1 (upd F1 p (.lst vs)) := .upd (w1.fF hp)
  exact k _ _ _ M1 _ (x1.trans x2) (w1.newF hp _) (.lst upd_same (r1.mono x2)) q1
theorem d_lstM (h : DA X es tl) : DE X (.List es pos) (dLstM tl) := by
  refine pe_weak (pe_lst h) ?_
  rintro σ H Q ⟨F, O, M, ss, Q3, w, sl, q, k⟩
  refine ⟨F, O, M, ss, _, w, sl, q, ?_⟩
  rintro vs H1 F1 M1 ts x1 w1 r1 ⟨z, q1⟩
  refine ⟨r1.length ▸ z, fun p hp => ?_⟩
  exact k _ _ _ _ _ x1 (w1.newM hp (.lst r1)) (.raw _) (q1 p (w1.fM hp))

/-! ### what does not touch the heap: operators on flat values -/
/-- an operation that asks something of two flat trees -/
def dOp2 (R : T → T → QE → Mp → Prop) (ta tb : E3) : E3 := fun ss M Q => ta ss M fun x M1 => tb ss M1 fun y M2 => R x y Q M2
def dOp1 (R : T → QE → Mp → Prop) (ta : E3) : E3 := fun ss M Q => ta ss M fun x M1 => R x Q M1
/-- a two-place operation's rule carried to trees -/
def OpD (K : PySem.W.Frag) (r : R2) (R : T → T → QE → Mp → Prop) : Prop :=
  ∀ (F O H : Hp) (M : Mp) (x y : V) (t u : T) (Q3 : QE) (Q : VK), Wd K F O H M → Rep K F x t → Rep K F y u → R t u Q3 M → LkV K F O Q3 Q → r x y H Q
def OpD1 (K : PySem.W.Frag) (r : V → Hp → VK → Prop) (R : T → QE → Mp → Prop) : Prop :=
  ∀ (F O H : Hp) (M : Mp) (x : V) (t : T) (Q3 : QE) (Q : VK), Wd K F O H M → Rep K F x t → R t Q3 M → LkV K F O Q3 Q → r x H Q
theorem lift_op2 {K : PySem.W.Frag} {r : R2} {R : T → T → QE → Mp → Prop} (h : OpD K r R) : ∀ σ H Q, liftE K (dOp2 R ta tb) σ H Q → tOp r (liftE K ta) (liftE K tb) σ H Q := by
  rintro σ H Q ⟨F, O, M, ss, Q3, w, sl, q, k⟩
  refine ⟨F, O, M, ss, _, w, sl, q, ?_⟩
  intro v H1 F1 M1 t x1 w1 r1 q1
  refine ⟨F1, O, M1, ss, _, w1, sl.mono x1, q1, ?_⟩
  intro u H2 F2 M2 t2 x2 w2 r2 q2
  exact h F2 O H2 M2 v u t t2 Q3 Q w2 (r1.mono x2) r2 q2 (k.mono (x1.trans x2))
theorem d_op {op : Operator} {r : R2} {R : T → T → QE → Mp → Prop} (ho : OpR X (binaryOp op) r) (h : OpD X.K r R) (ha : DE X a ta) (hb : DE X b tb) : DE X (.BinOp a op b pos) (dOp2 R ta tb) :=
  pe_weak (pe_op ho ha hb) (lift_op2 h)
theorem d_un {op : UnaryOp} {r : V → Hp → VK → Prop} {R : T → QE → Mp → Prop} (ho : UnR X (unaryOp op) r) (h : OpD1 X.K r R) (ha : DE X a ta) : DE X (.UnaryOp op a pos) (dOp1 R ta) := by
  refine pe_weak (pe_un ho ha) ?_
  rintro σ H Q ⟨F, O, M, ss, Q3, w, sl, q, k⟩
  refine ⟨F, O, M, ss, _, w, sl, q, ?_⟩
  intro v H1 F1 M1 t x1 w1 r1 q1
  exact h F1 O H1 M1 v t Q3 Q w1 r1 q1 (k.mono x1)
theorem d_cmp {op : CmpOp} {r : R2} {R : T → T → QE → Mp → Prop} (ho : OpR X (compareOp op) r) (h : OpD X.K r R) (ha : DE X a ta) (hb : DE X b tb) (hm : behindInMarks op b = false) : DE X (.Compare a [op] [b] pos) (dOp2 R ta tb) :=
  pe_weak (pe_cmpR ho ha hb hm) (lift_op2 h)
end
end L3

set_option maxHeartbeats 1000000
/-! L3C: operators over trees. -/
namespace L3
open PySem PySem.Spec PyProof.Rows L2

/-- what a bare reference shows now -/
def look (t : T) (M : Mp) : T := match t with
  | .raw (.ref a) => (match M a with
    | some (.lst xs) => .lst xs
    | some (.dct kvs) => .dic kvs
    | _ => .raw (.ref a))
  | t => t
/-- a value as it is read now -/
inductive Sees (K : PySem.W.Frag) (F H : Hp) : V → T → Prop
  | non : Sees K F H .non .non
  | bl (b : Bool) : Sees K F H (.bl b) (.bl b)
  | int (i : Int) : Sees K F H (.int i) (.int i)
  | str (x : Str) : Sees K F H (.str x) (.str x)
  | tup {a : Addr} {vs : List V} {ts : List T} : SqT K F a vs → Reps K F vs ts → Sees K F H (.ref a) (.tup ts)
  | lst {a : Addr} {vs : List V} {ts : List T} : H a = some (.lst vs) → Reps K F vs ts → Sees K F H (.ref a) (.lst ts)
  | scr {a : Addr} {vs : List V} {ts : List T} : SqL K H a vs → Reps K F vs ts → Sees K F H (.ref a) (.scr ts)
  | dic {a : Addr} {kvs : List (Key × V)} {kts : List (Key × T)} : H a = some (.dK kvs) → RepKV K F kvs kts → Sees K F H (.ref a) (.dic kts)
  | raw (v : V) : Sees K F H v (.raw v)
section
variable {K : PySem.W.Frag} {F O H : Hp} {M : Mp} {v : V} {t : T}
theorem Wd.ex (w : Wd K F O H M) : Ex F H := w.sub
theorem Rep.sees' (w : Wd K F O H M) (r : Rep K F v t) : Sees K F H v t := by
  cases r with
  | non => exact .non
  | bl b => exact .bl b
  | int i => exact .int i
  | str x => exact .str x
  | tup h r => exact .tup h r
  | lst h r => exact .lst (w.sub _ _ h) r
  | scr h r => exact .scr (w.ex.sqL h) r
  | dic h r => exact .dic (w.sub _ _ h) r
  | raw v => exact .raw v
theorem Rep.sees (w : Wd K F O H M) (r : Rep K F v t) : Sees K F H v (look t M) := by
  unfold look
  split
  · cases r
    rename_i a
    split
    · rename_i e
      obtain ⟨_, _, o, e2, q⟩ := w.mo a _ e
      cases q with
      | lst q => exact .lst e2 q
    · rename_i e
      obtain ⟨_, _, o, e2, q⟩ := w.mo a _ e
      cases q with
      | dct q => exact .dic e2 q
    · exact .raw _
  · exact r.sees' w
end

section
variable {X : Cx} {K : PySem.W.Frag}
/-! ### + - * // % ** -/
def oAdd (x y : T) (Q : QE) (M : Mp) : Prop := match look x M, look y M with
  | .int i, .int j => Q (.int (i + j)) M
  | .str a, .str b => a.length + b.length ≤ sizeLine ∧ Q (.str (a ++ b)) M
  | .tup xs, .tup ys => xs.length + ys.length ≤ sizeLine ∧ Q (.tup (xs ++ ys)) M
  | .lst xs, .lst ys => xs.length + ys.length ≤ sizeLine ∧ Q (.lst (xs ++ ys)) M
  | _, _ => False

theorem fin_flat {F O H : Hp} {M : Mp} {Q3 : QE} {Q : VK} (w : Wd K F O H M) (k : LkV K F O Q3 Q) {v : V} {t : T} (r : Rep K F v t) (q : Q3 t M) : Q v H := k v H F M t .refl w r q
theorem fin_new {F O H : Hp} {M : Mp} {Q3 : QE} {Q : VK} (w : Wd K F O H M) (k : LkV K F O Q3 Q) {o : HO} {t : T} (r : ∀ F' p, Ex F F' → F' p = some o → Rep K F' (.ref p) t) (q : Q3 t M) : ∀ p, H p = none → Q (.ref p) (upd H p o) := by
  intro p hp
  have x : Ex F (upd F p o) := .upd (w.fF hp)
  exact k _ _ _ M t x (w.newF hp o) (r _ p x upd_same) q
theorem od_add : OpD K (fun x y H Q => rI0 (fun i j => .int (i + j)) x y H Q ∨ (∃ i j, x = .str i ∧ y = .str j ∧ i.length + j.length ≤ sizeLine ∧ Q (.str (i ++ j)) H) ∨ rCatA K x y H Q ∨ rCat x y H Q) oAdd := by
  intro F O H M x y t u Q3 Q w rx ry q k
  have sx := rx.sees w
  have sy := ry.sees w
  unfold oAdd at q
  split at q
  · rename_i i j e1 e2
    rw [e1] at sx
    rw [e2] at sy
    cases sx; cases sy
    exact .inl ⟨i, j, rfl, rfl, fin_flat w k (.int _) q⟩
  · rename_i i j e1 e2
    rw [e1] at sx
    rw [e2] at sy
    cases sx; cases sy
    exact .inr (.inl ⟨i, j, rfl, rfl, q.1, fin_flat w k (.str _) q.2⟩)
  · rename_i xs ys e1 e2
    rw [e1] at sx
    rw [e2] at sy
    cases sx with
    | tup hx px =>
    cases sy with
    | tup hy py =>
    rename_i a vs b us
    have e3 := px.length
    have e4 := py.length
    refine .inr (.inr (.inl ⟨a, b, vs, us, rfl, rfl, w.ex.sqT hx, w.ex.sqT hy, by omega, fun z => ?_, fun _ z => ?_, fun _ _ => ?_⟩))
    · subst z
      cases px
      exact fin_flat w k (.tup hy py) q.2
    · subst z
      cases py
      rw [List.append_nil] at q
      exact fin_flat w k (.tup hx px) q.2
    · exact fin_new w k (fun F' p x e => .tup (.of e) ((px.append py).mono x)) q.2
  · rename_i xs ys e1 e2
    rw [e1] at sx
    rw [e2] at sy
    cases sx with
    | lst hx px =>
    cases sy with
    | lst hy py =>
    rename_i a vs b us
    have e3 := px.length
    have e4 := py.length
    exact .inr (.inr (.inr ⟨a, b, vs, us, rfl, rfl, hx, hy, by omega, fin_new w k (fun F' p x e => .lst e ((px.append py).mono x)) q.2⟩))
  · exact q.elim

def oInt2 (C : Int → Int → Prop) (g : Int → Int → T) (x y : T) (Q : QE) (M : Mp) : Prop := match x, y with
  | .int i, .int j => C i j ∧ Q (g i j) M
  | _, _ => False
theorem od_int2 {C : Int → Int → Prop} {g : Int → Int → T} {g' : Int → Int → V} (hg : ∀ F i j, Rep K F (g' i j) (g i j)) : OpD K (rI C g') (oInt2 C g) := by
  intro F O H M x y t u Q3 Q w rx ry q k
  unfold oInt2 at q
  split at q
  · cases rx; cases ry
    exact ⟨_, _, rfl, rfl, q.1, fin_flat w k (hg _ _ _) q.2⟩
  · exact q.elim
def oSub : T → T → QE → Mp → Prop := fun x y Q M => match x, y with
  | .int i, .int j => Q (.int (i - j)) M
  | _, _ => False
theorem od_sub : OpD K (rI0 fun i j => .int (i - j)) oSub := by
  intro F O H M x y t u Q3 Q w rx ry q k
  unfold oSub at q
  split at q
  · cases rx; cases ry
    exact ⟨_, _, rfl, rfl, fin_flat w k (.int _) q⟩
  · exact q.elim
theorem op_mulI : OpR X (binaryOp .Mult) (rI IntMulOk fun i j => .int (i * j)) := opI fun _ _ _ _ _ _ _ hc q => mul_int q hc
theorem op_mulS : OpR X (binaryOp .Mult) (fun x y H Q => ∃ z n, x = .str z ∧ y = .int n ∧ MulOk z n ∧ Q (.str (Txt.mul z n)) H) := by
  intro pins s σ H x y v u Q I rx ry h
  obtain ⟨z, n, rfl, rfl, c, q⟩ := h
  obtain ⟨t, rfl⟩ := rx
  obtain ⟨t', rfl⟩ := ry
  exact SB.mul c fun t2 kk => ⟨.str _, H, I.tok _, ⟨_, rfl⟩, q⟩
def oMul : T → T → QE → Mp → Prop := fun x y Q M => match look x M, look y M with
  | .int i, .int j => IntMulOk i j ∧ Q (.int (i * j)) M
  | .str z, .int n => MulOk z n ∧ Q (.str (Txt.mul z n)) M
  | .lst xs, .int n => (-(2 ^ 63) ≤ n ∧ n < 2 ^ 63 ∧ xs.length * n.toNat ≤ sizeLine) ∧ Q (.lst (List.replicate n.toNat xs).flatten) M
  | _, _ => False
theorem Reps.rep {F : Hp} {vs : List V} {ts : List T} (r : Reps K F vs ts) : ∀ n : Nat, Reps K F (List.replicate n vs).flatten (List.replicate n ts).flatten
  | 0 => .nil
  | n + 1 => by
    rw [List.replicate_succ, List.replicate_succ, List.flatten_cons, List.flatten_cons]
    exact r.append (Reps.rep r n)
theorem od_mul : OpD K (fun x y H Q => rI IntMulOk (fun i j => .int (i * j)) x y H Q ∨ (∃ z n, x = .str z ∧ y = .int n ∧ MulOk z n ∧ Q (.str (Txt.mul z n)) H) ∨ rRep x y H Q) oMul := by
  intro F O H M x y t u Q3 Q w rx ry q k
  have sx := rx.sees w
  have sy := ry.sees w
  unfold oMul at q
  split at q
  · rename_i i j e1 e2
    rw [e1] at sx
    rw [e2] at sy
    cases sx; cases sy
    exact .inl ⟨i, j, rfl, rfl, q.1, fin_flat w k (.int _) q.2⟩
  · rename_i i j e1 e2
    rw [e1] at sx
    rw [e2] at sy
    cases sx; cases sy
    exact .inr (.inl ⟨i, j, rfl, rfl, q.1, fin_flat w k (.str _) q.2⟩)
  · rename_i xs n e1 e2
    rw [e1] at sx
    rw [e2] at sy
    cases sy
    cases sx with
    | lst hx px =>
    rename_i a vs
    have e3 := px.length
    obtain ⟨⟨h1, h2, h3⟩, q⟩ := q
    exact .inr (.inr ⟨a, n, vs, rfl, rfl, hx, h1, h2, e3 ▸ h3, fin_new w k (fun F' p x e => .lst e ((px.rep _).mono x)) q⟩)
  · exact q.elim
section
variable {a b c e : Expr} {es : List Expr} {te ta tb tc : E3} {tt tu : T3} {tl : A3} {pos : Pos}
theorem d_add (ha : DE X a ta) (hb : DE X b tb) : DE X (.BinOp a .Add b pos) (dOp2 oAdd ta tb) := d_op (op_add.or (op_add_str.or (op_catA.or op_cat))) od_add ha hb
theorem d_sub (ha : DE X a ta) (hb : DE X b tb) : DE X (.BinOp a .Sub b pos) (dOp2 oSub ta tb) := d_op op_sub od_sub ha hb
theorem d_mul (ha : DE X a ta) (hb : DE X b tb) : DE X (.BinOp a .Mult b pos) (dOp2 oMul ta tb) := d_op (op_mulI.or (op_mulS.or op_rep)) od_mul ha hb
def oFdiv : T → T → QE → Mp → Prop := oInt2 CDivW fun i j => .int (i / j)
def oMod : T → T → QE → Mp → Prop := oInt2 (fun _ j => 0 < j) fun i j => .int (i % j)
def oPow : T → T → QE → Mp → Prop := oInt2 CPow fun i j => .int (i ^ j.toNat)
theorem d_fdiv (ha : DE X a ta) (hb : DE X b tb) : DE X (.BinOp a .FloorDiv b pos) (dOp2 oFdiv ta tb) := d_op op_fdivW (od_int2 fun _ _ _ => .int _) ha hb
theorem d_mod (ha : DE X a ta) (hb : DE X b tb) : DE X (.BinOp a .Mod b pos) (dOp2 oMod ta tb) := d_op op_mod (od_int2 fun _ _ _ => .int _) ha hb
theorem d_pow (ha : DE X a ta) (hb : DE X b tb) : DE X (.BinOp a .Pow b pos) (dOp2 oPow ta tb) := d_op op_pow (od_int2 fun _ _ _ => .int _) ha hb
def oNeg : T → QE → Mp → Prop := fun x Q M => match x with
  | .int i => Q (.int (-i)) M
  | _ => False
theorem d_neg (ha : DE X a ta) : DE X (.UnaryOp .USub a pos) (dOp1 oNeg ta) := d_un un_neg (by
  intro F O H M x t Q3 Q w rx q k
  unfold oNeg at q
  split at q
  · cases rx
    exact ⟨_, rfl, fin_flat w k (.int _) q⟩
  · exact q.elim) ha

/-! ### comparisons -/
mutual
def T.py : T → Option PyData
  | .non => some .none
  | .bl b => some (.bool b)
  | .int i => some (.int i)
  | .str x => some (.str x)
  | .tup xs => (T.pys xs).map PyData.tuple
  | .lst xs => (T.pys xs).map PyData.list
  | .scr xs => (T.pys xs).map PyData.list
  | .dic kvs => (T.pyKV kvs).map PyData.dict
  | .raw _ => none
def T.pys : List T → Option (List PyData)
  | [] => some []
  | x :: xs => match T.py x, T.pys xs with
    | some d, some ds => some (d :: ds)
    | _, _ => none
def T.pyKV : List (Key × T) → Option (List (PyData × PyData))
  | [] => some []
  | (k, x) :: xs => match T.py x, T.pyKV xs with
    | some d, some ds => some ((match k with | .inl i => PyData.int i | .inr s => PyData.str s, d) :: ds)
    | _, _ => none
end
mutual
theorem Rep.dp {F : Hp} : ∀ {v : V} {t : T} {d : PyData}, Rep K F v t → t.py = some d → d.canLay0 = true → Dp K F v d
  | _, _, _, .non, e, _ => by cases e; exact .non
  | _, _, _, .bl b, e, _ => by cases e; exact .bl b
  | _, _, _, .int i, e, _ => by cases e; exact .int i
  | _, _, _, .str x, e, _ => by cases e; exact .str x
  | _, _, _, .tup h r, e, c => by
    rw [T.py] at e
    obtain ⟨ds, e1, e2⟩ := Option.map_eq_some_iff.mp e
    subst e2
    exact .tup h (Reps.dp r e1 (by simpa only [PyData.canLay0] using c))
  | _, _, _, .lst h r, e, c => by
    rw [T.py] at e
    obtain ⟨ds, e1, e2⟩ := Option.map_eq_some_iff.mp e
    subst e2
    exact .lst (.of h) (Reps.dp r e1 (by simpa only [PyData.canLay0] using c))
  | _, _, _, .scr h r, e, c => by
    rw [T.py] at e
    obtain ⟨ds, e1, e2⟩ := Option.map_eq_some_iff.mp e
    subst e2
    exact .lst h (Reps.dp r e1 (by simpa only [PyData.canLay0] using c))
  | _, _, _, .dic _ _, e, c => by
    rw [T.py] at e
    obtain ⟨ds, e1, e2⟩ := Option.map_eq_some_iff.mp e
    subst e2
    simp [PyData.canLay0] at c
  | _, _, _, .raw _, e, _ => by cases e
theorem Reps.dp {F : Hp} : ∀ {vs : List V} {ts : List T} {ds : List PyData}, Reps K F vs ts → T.pys ts = some ds → PyData.canLayAll0 ds = true → DpAll K F vs ds
  | _, _, _, .nil, e, _ => by cases e; exact .nil
  | _, _, _, .cons h r, e, c => by
    rw [T.pys] at e
    split at e
    · rename_i e1 e2
      cases e
      simp only [PyData.canLayAll0, Bool.and_eq_true] at c
      exact .cons (Rep.dp h e1 c.1) (Reps.dp r e2 c.2)
    · cases e
end
mutual
theorem Dp.mono {F F' : Hp} (x : Ex F F') : ∀ {v : V} {d : PyData}, Dp K F v d → Dp K F' v d
  | _, _, .non => .non
  | _, _, .bl b => .bl b
  | _, _, .int i => .int i
  | _, _, .str z => .str z
  | _, _, .lst h r => .lst (x.sqL h) (DpAll.mono x r)
  | _, _, .tup h r => .tup (x.sqT h) (DpAll.mono x r)
theorem DpAll.mono {F F' : Hp} (x : Ex F F') : ∀ {v : List V} {d : List PyData}, DpAll K F v d → DpAll K F' v d
  | _, _, .nil => .nil
  | _, _, .cons h r => .cons (Dp.mono x h) (DpAll.mono x r)
end
theorem Sees.dp {F O H : Hp} {M : Mp} (w : Wd K F O H M) {v : V} {t : T} {d : PyData} (r : Sees K F H v t) (e : t.py = some d) (c : d.canLay0 = true) : Dp K H v d := by
  cases r with
  | non => cases e; exact .non
  | bl b => cases e; exact .bl b
  | int i => cases e; exact .int i
  | str x => cases e; exact .str x
  | tup h r => exact Dp.mono w.ex (Rep.dp (.tup h r) e c)
  | lst h r =>
    rw [T.py] at e
    obtain ⟨ds, e1, e2⟩ := Option.map_eq_some_iff.mp e
    subst e2
    exact .lst (.of h) (DpAll.mono w.ex (Reps.dp r e1 (by simpa only [PyData.canLay0] using c)))
  | scr h r =>
    rw [T.py] at e
    obtain ⟨ds, e1, e2⟩ := Option.map_eq_some_iff.mp e
    subst e2
    exact .lst h (DpAll.mono w.ex (Reps.dp r e1 (by simpa only [PyData.canLay0] using c)))
  | dic h r =>
    rw [T.py] at e
    obtain ⟨ds, e1, e2⟩ := Option.map_eq_some_iff.mp e
    subst e2
    simp [PyData.canLay0] at c
  | raw v => cases e
/-- == of flat values -/
def scalT : T → T → Option Bool
  | .non, .non => some true
  | .non, .int _ => some false | .int _, .non => some false
  | .non, .bl _ => some false | .bl _, .non => some false
  | .non, .str _ => some false | .str _, .non => some false
  | .int i, .int j => some (decide (i = j))
  | .bl i, .bl j => some (decide (i = j))
  | .str i, .str j => some (decide (i = j))
  | .int _, .str _ => some false | .str _, .int _ => some false
  | .bl _, .str _ => some false | .str _, .bl _ => some false
  | _, _ => none
theorem scalT_ok {F : Hp} {x y : V} {t u : T} {b : Bool} (rx : Rep K F x t) (ry : Rep K F y u) (h : scalT t u = some b) : scal x y = true ∧ decide (x = y) = b := by
  unfold scalT at h
  split at h <;> first | (cases h; done) | (cases rx; cases ry; cases h; refine ⟨rfl, ?_⟩; simp)
def oEqB (neg : Bool) (x y : T) (Q : QE) (M : Mp) : Prop := match scalT x y with
  | some b => Q (.bl (if neg then !b else b)) M
  | none => match (look x M).py, (look y M).py with
    | some d, some e => SeqAt.shaped d = true ∧ SeqAt.shaped e = true ∧ Q (.bl (if neg then !PyData.eqv d e else PyData.eqv d e)) M
    | _, _ => False
theorem od_eq : OpD K (fun x y H Q => rEq x y H Q ∨ rEqD K x y H Q) (oEqB false) := by
  intro F O H M x y t u Q3 Q w rx ry q k
  unfold oEqB at q
  split at q
  · rename_i b e
    obtain ⟨h1, h2⟩ := scalT_ok rx ry e
    exact .inl ⟨h1, h2 ▸ fin_flat w k (.bl _) q⟩
  · split at q
    · rename_i d e e1 e2
      obtain ⟨s1, s2, q⟩ := q
      exact .inr ⟨d, e, (rx.sees w).dp w e1 (SeqAt.canLay_of_shaped s1), (ry.sees w).dp w e2 (SeqAt.canLay_of_shaped s2), s1, s2, fin_flat w k (.bl _) q⟩
    · exact q.elim
theorem od_ne : OpD K (fun x y H Q => rNe x y H Q ∨ rNeD K x y H Q) (oEqB true) := by
  intro F O H M x y t u Q3 Q w rx ry q k
  unfold oEqB at q
  split at q
  · rename_i b e
    obtain ⟨h1, h2⟩ := scalT_ok rx ry e
    exact .inl ⟨h1, h2 ▸ fin_flat w k (.bl _) q⟩
  · split at q
    · rename_i d e e1 e2
      obtain ⟨s1, s2, q⟩ := q
      exact .inr ⟨d, e, (rx.sees w).dp w e1 (SeqAt.canLay_of_shaped s1), (ry.sees w).dp w e2 (SeqAt.canLay_of_shaped s2), s1, s2, fin_flat w k (.bl _) q⟩
    · exact q.elim
theorem d_eq (hu : X.A.units + 64 < cLine) (ha : DE X a ta) (hb : DE X b tb) : DE X (.Compare a [.Eq] [b] pos) (dOp2 (oEqB false) ta tb) := d_cmp (op_eq.or (op_eqD hu)) od_eq ha hb (nomark _)
theorem d_ne (hu : X.A.units + 64 < cLine) (ha : DE X a ta) (hb : DE X b tb) : DE X (.Compare a [.NotEq] [b] pos) (dOp2 (oEqB true) ta tb) := d_cmp (op_ne.or (op_neD hu)) od_ne ha hb (nomark _)
/-- order: ints, texts -/
def oOrd (f : Int → Int → Bool) (g : Str → Str → Bool) (x y : T) (Q : QE) (M : Mp) : Prop := match x, y with
  | .int i, .int j => Q (.bl (f i j)) M
  | .str i, .str j => Q (.bl (g i j)) M
  | _, _ => False
theorem od_ord {f : Int → Int → Bool} {g : Str → Str → Bool} : OpD K (fun x y H Q => rI0 (fun i j => .bl (f i j)) x y H Q ∨ ∃ i j, x = .str i ∧ y = .str j ∧ Q (.bl (g i j)) H) (oOrd f g) := by
  intro F O H M x y t u Q3 Q w rx ry q k
  unfold oOrd at q
  split at q
  · cases rx; cases ry
    exact .inl ⟨_, _, rfl, rfl, fin_flat w k (.bl _) q⟩
  · cases rx; cases ry
    exact .inr ⟨_, _, rfl, rfl, fin_flat w k (.bl _) q⟩
  · exact q.elim
def ltS (i j : Str) : Bool := decide (i.cps.toList < j.cps.toList)
def oLt := oOrd (fun i j => decide (i < j)) ltS
def oLe := oOrd (fun i j => decide (i ≤ j)) fun i j => !ltS j i
def oGt := oOrd (fun i j => decide (j < i)) fun i j => ltS j i
def oGe := oOrd (fun i j => decide (j ≤ i)) fun i j => !ltS i j
theorem d_lt (ha : DE X a ta) (hb : DE X b tb) : DE X (.Compare a [.Lt] [b] pos) (dOp2 oLt ta tb) := d_cmp (op_lt.or op_lt_str) od_ord ha hb (nomark _)
theorem d_le (ha : DE X a ta) (hb : DE X b tb) : DE X (.Compare a [.LtE] [b] pos) (dOp2 oLe ta tb) := d_cmp (op_le.or op_le_str) od_ord ha hb (nomark _)
theorem d_gt (ha : DE X a ta) (hb : DE X b tb) : DE X (.Compare a [.Gt] [b] pos) (dOp2 oGt ta tb) := d_cmp (op_gt.or op_gt_str) od_ord ha hb (nomark _)
theorem d_ge (ha : DE X a ta) (hb : DE X b tb) : DE X (.Compare a [.GtE] [b] pos) (dOp2 oGe ta tb) := d_cmp (op_ge.or op_ge_str) od_ord ha hb (nomark _)
/-- a chain of two comparisons -/
def dChain (R R' : T → T → QE → Mp → Prop) (ta tb tc : E3) : E3 := fun ss M Q => ta ss M fun x M1 => tb ss M1 fun y M2 => R x y (fun z M3 => match z with
  | .bl true => tc ss M3 fun z' M4 => R' y z' Q M4
  | .bl false => Q (.bl false) M3
  | _ => False) M2
theorem d_chain {op op' : CmpOp} {r r' : R2} {R R' : T → T → QE → Mp → Prop} (ho : OpR X (compareOp op) r) (h : OpD X.K r R) (ho' : OpR X (compareOp op') r') (h' : OpD X.K r' R') (ha : DE X a ta) (hb : DE X b tb) (hc : DE X c tc)
    (hm : lastMarks [op, op'] [b, c] = false) : DE X (.Compare a [op, op'] [b, c] pos) (dChain R R' ta tb tc) := by
  refine pe_weak (pe_chain ho ho' ha hb hc hm) ?_
  rintro σ H Q ⟨F, O, M, ss, Q3, w, sl, q, k⟩
  refine ⟨F, O, M, ss, _, w, sl, q, ?_⟩
  intro v H1 F1 M1 t x1 w1 r1 q1
  refine ⟨F1, O, M1, ss, _, w1, sl.mono x1, q1, ?_⟩
  intro u H2 F2 M2 t2 x2 w2 r2 q2
  refine h F2 O H2 M2 v u t t2 _ _ w2 (r1.mono x2) r2 q2 ?_
  intro z H3 F3 M3 t3 x3 w3 r3 q3
  split at q3
  · cases r3
    refine ⟨true, rfl, ?_⟩
    rw [if_pos rfl]
    refine ⟨F3, O, M3, ss, _, w3, sl.mono (x1.trans (x2.trans x3)), q3, ?_⟩
    intro z' H4 F4 M4 t4 x4 w4 r4 q4
    exact h' F4 O H4 M4 u z' t2 t4 Q3 Q w4 (r2.mono (x3.trans x4)) r4 q4 (k.mono (x1.trans (x2.trans (x3.trans x4))))
  · cases r3
    refine ⟨false, rfl, ?_⟩
    rw [if_neg Bool.false_ne_true]
    exact k _ H3 F3 M3 _ (x1.trans (x2.trans x3)) w3 (.bl _) q3
  · exact q3.elim
theorem d_lele (ha : DE X a ta) (hb : DE X b tb) (hc : DE X c tc) (hm : lastMarks [.LtE, .LtE] [b, c] = false := by with_unfolding_all rfl) : DE X (.Compare a [.LtE, .LtE] [b, c] pos) (dChain oLe oLe ta tb tc) := d_chain (op_le.or op_le_str) od_ord (op_le.or op_le_str) od_ord ha hb hc hm
theorem d_ltlt (ha : DE X a ta) (hb : DE X b tb) (hc : DE X c tc) (hm : lastMarks [.Lt, .Lt] [b, c] = false := by with_unfolding_all rfl) : DE X (.Compare a [.Lt, .Lt] [b, c] pos) (dChain oLt oLt ta tb tc) := d_chain (op_lt.or op_lt_str) od_ord (op_lt.or op_lt_str) od_ord ha hb hc hm
/-- is None, is not None -/
def isNon : T → Option Bool
  | .non => some true
  | .raw _ => none
  | _ => some false
def oIsN (neg : Bool) (x : T) (Q : QE) (M : Mp) : Prop := match isNon x with
  | some b => Q (.bl (if neg then !b else b)) M
  | none => False
theorem isNon_ok {F : Hp} {x : V} {t : T} {b : Bool} (rx : Rep K F x t) (h : isNon t = some b) : decide (x = .non) = b := by
  unfold isNon at h
  split at h
  · cases rx; cases h; rfl
  · cases h
  · rename_i h1 h2
    cases h
    cases rx <;> first | rfl | exact absurd rfl h1 | exact absurd rfl (h2 _) | simp
theorem d_isN {j pos'} (ha : DE X a ta) : DE X (.Compare a [.Is] [.Constant .none j pos'] pos) (dOp1 (oIsN false) ta) := by
  refine pe_weak (pe_cmp (pc_isN ha)) ?_
  rintro σ H Q ⟨F, O, M, ss, Q3, w, sl, q, k⟩
  refine ⟨F, O, M, ss, _, w, sl, q, ?_⟩
  intro v H1 F1 M1 t x1 w1 r1 q1
  unfold oIsN at q1
  split at q1
  · rename_i b e
    rw [isNon_ok r1 e]
    exact fin_flat w1 (k.mono x1) (.bl _) q1
  · exact q1.elim
theorem d_notN {j pos'} (ha : DE X a ta) : DE X (.Compare a [.IsNot] [.Constant .none j pos'] pos) (dOp1 (oIsN true) ta) := by
  refine pe_weak (pe_cmp (pc_notN ha)) ?_
  rintro σ H Q ⟨F, O, M, ss, Q3, w, sl, q, k⟩
  refine ⟨F, O, M, ss, _, w, sl, q, ?_⟩
  intro v H1 F1 M1 t x1 w1 r1 q1
  unfold oIsN at q1
  split at q1
  · rename_i b e
    rw [isNon_ok r1 e]
    exact fin_flat w1 (k.mono x1) (.bl _) q1
  · exact q1.elim

/-! ### tests -/
def dB (te : E3) : T3 := fun ss M Q => te ss M fun t M1 => match t with
  | .bl b => Q b M1
  | _ => False
theorem lift_bool {K : PySem.W.Frag} {te : E3} {σ : L2.St} {H : Hp} {Q : Bool → Hp → Prop} (h : liftT K (dB te) σ H Q) : liftE K te σ H fun x H1 => ∃ c, x = .bl c ∧ Q c H1 := by
  obtain ⟨F, O, M, ss, Q3, w, sl, q, k⟩ := h
  refine ⟨F, O, M, ss, _, w, sl, q, ?_⟩
  intro v H1 F1 M1 t x1 w1 r1 q1
  split at q1
  · cases r1
    exact ⟨_, rfl, k _ H1 F1 M1 x1 w1 q1⟩
  · exact q1.elim
/-- an expression whose value is a bool -/
theorem dt_val (h : DE X e te) (he : ∀ whole, isTrue e X.env whole = (do let v ← whole; standAt e.pos; holding [v] (truthy v)) := by intro _; rfl) : DT X e (dB te) :=
  pt_weak (pt_val h he) fun _ _ _ => lift_bool
theorem pt_cmp1 {op : CmpOp} {t : TE} (h : PE X (.Compare a [op] [b] pos) t) : PC X op a b t → True := fun _ => trivial
theorem dt_cmp {op : CmpOp} {r : R2} {R : T → T → QE → Mp → Prop} (ho : OpR X (compareOp op) r) (h : OpD X.K r R) (ha : DE X a ta) (hb : DE X b tb) (hm : behindInMarks op b = false) : DT X (.Compare a [op] [b] pos) (dB (dOp2 R ta tb)) := by
  refine pt_weak (pt_cmpR ho ha hb hm) ?_
  intro σ H Q hh
  exact lift_op2 h _ _ _ (lift_bool hh)
theorem dt_eq (hu : X.A.units + 64 < cLine) (ha : DE X a ta) (hb : DE X b tb) : DT X (.Compare a [.Eq] [b] pos) (dB (dOp2 (oEqB false) ta tb)) := dt_cmp (op_eq.or (op_eqD hu)) od_eq ha hb (nomark _)
theorem dt_ne (hu : X.A.units + 64 < cLine) (ha : DE X a ta) (hb : DE X b tb) : DT X (.Compare a [.NotEq] [b] pos) (dB (dOp2 (oEqB true) ta tb)) := dt_cmp (op_ne.or (op_neD hu)) od_ne ha hb (nomark _)
theorem dt_lt (ha : DE X a ta) (hb : DE X b tb) : DT X (.Compare a [.Lt] [b] pos) (dB (dOp2 oLt ta tb)) := dt_cmp (op_lt.or op_lt_str) od_ord ha hb (nomark _)
theorem dt_le (ha : DE X a ta) (hb : DE X b tb) : DT X (.Compare a [.LtE] [b] pos) (dB (dOp2 oLe ta tb)) := dt_cmp (op_le.or op_le_str) od_ord ha hb (nomark _)
theorem dt_gt (ha : DE X a ta) (hb : DE X b tb) : DT X (.Compare a [.Gt] [b] pos) (dB (dOp2 oGt ta tb)) := dt_cmp (op_gt.or op_gt_str) od_ord ha hb (nomark _)
theorem dt_ge (ha : DE X a ta) (hb : DE X b tb) : DT X (.Compare a [.GtE] [b] pos) (dB (dOp2 oGe ta tb)) := dt_cmp (op_ge.or op_ge_str) od_ord ha hb (nomark _)
theorem dt_isN {j pos'} (ha : DE X a ta) : DT X (.Compare a [.Is] [.Constant .none j pos'] pos) (dB (dOp1 (oIsN false) ta)) := by
  refine pt_weak (pt_cmp (pc_isN ha)) ?_
  intro σ H Q hh
  obtain ⟨F, O, M, ss, Q3, w, sl, q, k⟩ := lift_bool hh
  refine ⟨F, O, M, ss, _, w, sl, q, ?_⟩
  intro v H1 F1 M1 t x1 w1 r1 q1
  unfold oIsN at q1
  split at q1
  · rename_i b e
    rw [isNon_ok r1 e]
    exact fin_flat w1 (k.mono x1) (.bl _) q1
  · exact q1.elim
theorem dt_notN {j pos'} (ha : DE X a ta) : DT X (.Compare a [.IsNot] [.Constant .none j pos'] pos) (dB (dOp1 (oIsN true) ta)) := by
  refine pt_weak (pt_cmp (pc_notN ha)) ?_
  intro σ H Q hh
  obtain ⟨F, O, M, ss, Q3, w, sl, q, k⟩ := lift_bool hh
  refine ⟨F, O, M, ss, _, w, sl, q, ?_⟩
  intro v H1 F1 M1 t x1 w1 r1 q1
  unfold oIsN at q1
  split at q1
  · rename_i b e
    rw [isNon_ok r1 e]
    exact fin_flat w1 (k.mono x1) (.bl _) q1
  · exact q1.elim
def dAnd (t u : T3) : T3 := fun ss M Q => t ss M fun b M1 => match b with
  | true => u ss M1 Q
  | false => Q false M1
def dOr (t u : T3) : T3 := fun ss M Q => t ss M fun b M1 => match b with
  | true => Q true M1
  | false => u ss M1 Q
def dNot (t : T3) : T3 := fun ss M Q => t ss M fun b M1 => Q (!b) M1
variable {rest : List Expr}
theorem dw_and1 (ha : DT X a tt) : DW X (.BoolOp .And [a] pos) tt := pw_and1 ha
theorem dw_or1 (ha : DT X a tt) : DW X (.BoolOp .Or [a] pos) tt := pw_or1 ha
theorem dw_and (ha : DT X a tt) (hb : DW X (.BoolOp .And (b :: rest) pos) tu) : DW X (.BoolOp .And (a :: b :: rest) pos) (dAnd tt tu) := by
  refine pw_weak (pw_and ha hb) ?_
  rintro σ H Q ⟨F, O, M, ss, Q3, w, sl, q, k⟩
  refine ⟨F, O, M, ss, _, w, sl, q, ?_⟩
  intro c H1 F1 M1 x1 w1 q1
  cases c with
  | true => exact ⟨F1, O, M1, ss, Q3, w1, sl.mono x1, q1, fun d H2 F2 M2 x2 => k d H2 F2 M2 (x1.trans x2)⟩
  | false => exact k false H1 F1 M1 x1 w1 q1
theorem dw_or (ha : DT X a tt) (hb : DW X (.BoolOp .Or (b :: rest) pos) tu) : DW X (.BoolOp .Or (a :: b :: rest) pos) (dOr tt tu) := by
  refine pw_weak (pw_or ha hb) ?_
  rintro σ H Q ⟨F, O, M, ss, Q3, w, sl, q, k⟩
  refine ⟨F, O, M, ss, _, w, sl, q, ?_⟩
  intro c H1 F1 M1 x1 w1 q1
  cases c with
  | true => exact k true H1 F1 M1 x1 w1 q1
  | false => exact ⟨F1, O, M1, ss, Q3, w1, sl.mono x1, q1, fun d H2 F2 M2 x2 => k d H2 F2 M2 (x1.trans x2)⟩
theorem dt_not (ha : DT X a tt) : DT X (.UnaryOp .Not a pos) (dNot tt) := by
  refine pt_weak (pt_not ha) ?_
  rintro σ H Q ⟨F, O, M, ss, Q3, w, sl, q, k⟩
  exact ⟨F, O, M, ss, _, w, sl, q, fun d H2 F2 M2 x2 w2 q2 => k _ H2 F2 M2 x2 w2 q2⟩
/-- .. as values -/
def dAndV (ta tb : E3) : E3 := fun ss M Q => ta ss M fun x M1 => match x with
  | .bl true => tb ss M1 Q
  | .bl false => Q (.bl false) M1
  | _ => False
def dOrV (ta tb : E3) : E3 := fun ss M Q => ta ss M fun x M1 => match x with
  | .bl true => Q (.bl true) M1
  | .bl false => tb ss M1 Q
  | _ => False
theorem d_one {op} (h : DE X a te) : DE X (.BoolOp op [a] pos) te := pe_one h
theorem d_and (ha : DE X a ta) (hb : DE X (.BoolOp .And (b :: rest) pos) tb) : DE X (.BoolOp .And (a :: b :: rest) pos) (dAndV ta tb) := by
  refine pe_weak (pe_and ha hb) ?_
  rintro σ H Q ⟨F, O, M, ss, Q3, w, sl, q, k⟩
  refine ⟨F, O, M, ss, _, w, sl, q, ?_⟩
  intro c H1 F1 M1 t x1 w1 r1 q1
  split at q1
  · cases r1
    refine ⟨true, rfl, ?_⟩
    rw [if_pos rfl]
    exact ⟨F1, O, M1, ss, Q3, w1, sl.mono x1, q1, k.mono x1⟩
  · cases r1
    refine ⟨false, rfl, ?_⟩
    rw [if_neg Bool.false_ne_true]
    exact k _ H1 F1 M1 _ x1 w1 (.bl _) q1
  · exact q1.elim
theorem d_or (ha : DE X a ta) (hb : DE X (.BoolOp .Or (b :: rest) pos) tb) : DE X (.BoolOp .Or (a :: b :: rest) pos) (dOrV ta tb) := by
  refine pe_weak (pe_or ha hb) ?_
  rintro σ H Q ⟨F, O, M, ss, Q3, w, sl, q, k⟩
  refine ⟨F, O, M, ss, _, w, sl, q, ?_⟩
  intro c H1 F1 M1 t x1 w1 r1 q1
  split at q1
  · cases r1
    refine ⟨true, rfl, ?_⟩
    rw [if_pos rfl]
    exact k _ H1 F1 M1 _ x1 w1 (.bl _) q1
  · cases r1
    refine ⟨false, rfl, ?_⟩
    rw [if_neg Bool.false_ne_true]
    exact ⟨F1, O, M1, ss, Q3, w1, sl.mono x1, q1, k.mono x1⟩
  · exact q1.elim
/-- not e as a value, e a bool -/
def oNotB : T → QE → Mp → Prop := fun x Q M => match x with
  | .bl b => Q (.bl (!b)) M
  | _ => False
theorem d_not (ha : DE X a ta) : DE X (.UnaryOp .Not a pos) (dOp1 oNotB ta) := by
  refine pe_weak (pe_not ha) ?_
  rintro σ H Q ⟨F, O, M, ss, Q3, w, sl, q, k⟩
  refine ⟨F, O, M, ss, _, w, sl, q, ?_⟩
  intro c H1 F1 M1 t x1 w1 r1 q1
  unfold oNotB at q1
  split at q1
  · cases r1
    exact ⟨_, rfl, k _ H1 F1 M1 _ x1 w1 (.bl _) q1⟩
  · exact q1.elim
def dIf (t : T3) (ta tb : E3) : E3 := fun ss M Q => t ss M fun b M1 => match b with
  | true => ta ss M1 Q
  | false => tb ss M1 Q
theorem d_ifExp (hc : DT X c tt) (ha : DE X a ta) (hb : DE X b tb) : DE X (.IfExp c a b pos) (dIf tt ta tb) := by
  refine pe_weak (pe_ifExp hc ha hb) ?_
  rintro σ H Q ⟨F, O, M, ss, Q3, w, sl, q, k⟩
  refine ⟨F, O, M, ss, _, w, sl, q, ?_⟩
  intro d H1 F1 M1 x1 w1 q1
  cases d with
  | true =>
    rw [if_pos rfl]
    exact ⟨F1, O, M1, ss, Q3, w1, sl.mono x1, q1, k.mono x1⟩
  | false =>
    rw [if_neg Bool.false_ne_true]
    exact ⟨F1, O, M1, ss, Q3, w1, sl.mono x1, q1, k.mono x1⟩
end
end
end L3

set_option maxHeartbeats 1000000
/-! L3D: subscripts, slices, loops, comprehensions, statements, calls. -/
namespace L3
open PySem PySem.Spec PyProof.Rows L2

section
variable {X : Cx} {K : PySem.W.Frag} {a b c e : Expr} {es : List Expr} {te ta tb tc : E3} {tt tu : T3} {tl : A3} {pos : Pos}

/-! ### subscripts -/
def oIx (x y : T) (Q : QE) (M : Mp) : Prop := match look x M, y with
  | .lst xs, .int i => (match atI xs i with | some t => Q t M | none => False)
  | .scr xs, .int i => (match atI xs i with | some t => Q t M | none => False)
  | .tup xs, .int i => (match atI xs i with | some t => Q t M | none => False)
  | .str z, .int i => z.length ≤ sizeLine ∧ (match atI z.cps.toList i with | some c => Q (.str ⟨#[c]⟩) M | none => False)
  | _, _ => False
theorem Reps.atI {F : Hp} {vs : List V} {ts : List T} (r : Reps K F vs ts) {i : Int} {t : T} (h : atI ts i = some t) : ∃ v, L2.atI vs i = some v ∧ Rep K F v t := by
  unfold L2.atI at h ⊢
  rw [r.length]
  cases e : ixN ts.length i with
  | none => rw [e] at h; cases h
  | some j =>
    rw [e] at h
    exact r.get h
theorem od_ix : OpD K (rIx K) oIx := by
  intro F O H M x y t u Q3 Q w rx ry q k
  have sx := rx.sees w
  unfold oIx at q
  split at q
  · rename_i xs i e1
    rw [e1] at sx
    cases ry
    cases sx with
    | lst hx px =>
    split at q
    · rename_i t' e
      obtain ⟨v, e2, r⟩ := px.atI e
      exact .inl ⟨_, _, _, v, rfl, rfl, .of hx, e2, fin_flat w k r q⟩
    · exact q.elim
  · rename_i xs i e1
    rw [e1] at sx
    cases ry
    cases sx with
    | scr hx px =>
    split at q
    · rename_i t' e
      obtain ⟨v, e2, r⟩ := px.atI e
      exact .inl ⟨_, _, _, v, rfl, rfl, hx, e2, fin_flat w k r q⟩
    · exact q.elim
  · rename_i xs i e1
    rw [e1] at sx
    cases ry
    cases sx with
    | tup hx px =>
    split at q
    · rename_i t' e
      obtain ⟨v, e2, r⟩ := px.atI e
      exact .inr (.inl ⟨_, _, _, v, rfl, rfl, w.ex.sqT hx, e2, fin_flat w k r q⟩)
    · exact q.elim
  · rename_i z i e1
    rw [e1] at sx
    cases ry
    cases sx
    obtain ⟨hz, q⟩ := q
    split at q
    · rename_i c e
      exact .inr (.inr ⟨z, i, c, rfl, rfl, hz, e, fin_flat w k (.str _) q⟩)
    · exact q.elim
  · exact q.elim
theorem d_ix (ha : DE X a ta) (hb : DE X b tb) (hs : PlainIx b) : DE X (.Subscript a b pos) (dOp2 oIx ta tb) := pe_weak (pe_ix ix_seq ha hb hs) (lift_op2 od_ix)

/-! ### slices -/
abbrev O3 := SS → Mp → (Option Int → Mp → Prop) → Prop
def liftO (K : PySem.W.Frag) (t : O3) : TO := fun σ H Q => ∃ F O M ss Q3, Wd K F O H M ∧ SlR K F σ ss ∧ t ss M Q3 ∧ ∀ (o : Option Int) (H' F' : Hp) (M' : Mp), Ex F F' → Wd K F' O H' M' → Q3 o M' → Q o H'
def doNone : O3 := fun _ M Q => Q none M
def doSome (te : E3) : O3 := fun ss M Q => te ss M fun t M1 => match t with
  | .int i => Q (some i) M1
  | _ => False
theorem do_none : PO X none (liftO X.K doNone) := ⟨fun pins s σ H Q I h => po_none.run pins s σ H Q I (by
  obtain ⟨F, O, M, ss, Q3, w, sl, q, k⟩ := h
  exact k none H F M .refl w q)⟩
theorem do_some (h : DE X e te) : PO X (some e) (liftO X.K (doSome te)) := ⟨fun pins s σ H Q I hq => (po_some h).run pins s σ H Q I (by
  obtain ⟨F, O, M, ss, Q3, w, sl, q, k⟩ := hq
  refine ⟨F, O, M, ss, _, w, sl, q, ?_⟩
  intro v H1 F1 M1 t x1 w1 r1 q1
  split at q1
  · cases r1
    exact ⟨_, rfl, k _ H1 F1 M1 x1 w1 q1⟩
  · exact q1.elim)⟩
def cutT {α : Type} (xs : List α) (lo hi : Option Int) : List α := (xs.drop (HT.sIx xs.length 0 lo)).take (HT.sIx xs.length xs.length hi - HT.sIx xs.length 0 lo)
theorem Reps.cut {F : Hp} {vs : List V} {ts : List T} (r : Reps K F vs ts) (lo hi : Option Int) : Reps K F (cutV vs lo hi) (cutT ts lo hi) := by
  unfold cutV cutT
  rw [r.length]
  exact (r.drop _).take _
def oSl (x : T) (lo hi : Option Int) (Q : QE) (M : Mp) : Prop := match look x M with
  | .str z => z.length ≤ sizeLine ∧ Q (.str (cutS z lo hi)) M
  | .lst xs => Q (.lst (cutT xs lo hi)) M
  | .scr xs => Q (.lst (cutT xs lo hi)) M
  | .tup xs => Q (.tup (cutT xs lo hi)) M
  | _ => False
def dSl (te : E3) (lo hi : O3) : E3 := fun ss M Q => te ss M fun x M1 => lo ss M1 fun l M2 => hi ss M2 fun h M3 => oSl x l h Q M3
theorem d_slice {lo hi : Option Expr} {tlo thi : O3} {p2 : Pos} (he : DE X e te) (hl : PO X lo (liftO X.K tlo)) (hh : PO X hi (liftO X.K thi)) : DE X (.Subscript e (.Slice lo hi none p2) pos) (dSl te tlo thi) := by
  refine pe_weak (pe_slice (sl_str.or (sl_list.or sl_tupA)) he hl hh) ?_
  rintro σ H Q ⟨F, O, M, ss, Q3, w, sl, q, k⟩
  refine ⟨F, O, M, ss, _, w, sl, q, ?_⟩
  intro v H1 F1 M1 t x1 w1 r1 q1
  refine ⟨F1, O, M1, ss, _, w1, sl.mono x1, q1, ?_⟩
  intro l H2 F2 M2 x2 w2 q2
  refine ⟨F2, O, M2, ss, _, w2, sl.mono (x1.trans x2), q2, ?_⟩
  intro h H3 F3 M3 x3 w3 q3
  have kk := k.mono (x1.trans (x2.trans x3))
  have sx := (r1.mono (x2.trans x3)).sees w3
  unfold oSl at q3
  split at q3
  · rename_i z e1
    rw [e1] at sx
    cases sx
    exact .inl ⟨z, rfl, q3.1, fin_flat w3 kk (.str _) q3.2⟩
  · rename_i xs e1
    rw [e1] at sx
    cases sx with
    | lst hx px =>
    exact .inr (.inl ⟨_, _, rfl, .of hx, fin_new w3 kk (fun F' p x e => .lst e ((px.cut l h).mono x)) q3⟩)
  · rename_i xs e1
    rw [e1] at sx
    cases sx with
    | scr hx px =>
    exact .inr (.inl ⟨_, _, rfl, hx, fin_new w3 kk (fun F' p x e => .lst e ((px.cut l h).mono x)) q3⟩)
  · rename_i xs e1
    rw [e1] at sx
    cases sx with
    | tup hx px =>
    rename_i a vs
    refine .inr (.inr ⟨a, vs, rfl, w3.ex.sqT hx, fun z => ?_, fun _ => fin_new w3 kk (fun F' p x e => .tup (.of e) ((px.cut l h).mono x)) q3⟩)
    have e2 : cutT xs l h = xs := by
      unfold cutT
      rw [← px.length, z.1, z.2, List.drop_zero, Nat.sub_zero, px.length, List.take_length]
    rw [e2] at q3
    exact fin_flat w3 kk (.tup hx px) q3
  · exact q3.elim
/-- xs[::-1] -/
def oRev (x : T) (Q : QE) (M : Mp) : Prop := match look x M with
  | .lst xs => Q (.lst xs.reverse) M
  | .scr xs => Q (.lst xs.reverse) M
  | _ => False
/-- .. a list that will change -/
def oRevM (x : T) (Q : QE) (M : Mp) : Prop := match look x M with
  | .lst xs => ∀ p, M p = none → Q (.raw (.ref p)) (mset M p (.lst xs.reverse))
  | .scr xs => ∀ p, M p = none → Q (.raw (.ref p)) (mset M p (.lst xs.reverse))
  | _ => False
theorem d_rev {k : Nat} {p1 p2 p3 : Pos} (he : DE X e te) : DE X (.Subscript e (.Slice none none (some (.UnaryOp .USub (.Constant (.int 1) k p1) p2)) p3) pos) (dOp1 oRev te) := by
  refine pe_weak (pe_revL he) ?_
  rintro σ H Q ⟨F, O, M, ss, Q3, w, sl, q, k⟩
  refine ⟨F, O, M, ss, _, w, sl, q, ?_⟩
  intro v H1 F1 M1 t x1 w1 r1 q1
  have sx := r1.sees w1
  unfold oRev at q1
  split at q1
  · rename_i xs e1
    rw [e1] at sx
    cases sx with
    | lst hx px => exact ⟨_, _, rfl, .of hx, fin_new w1 (k.mono x1) (fun F' p x e => .lst e (px.reverse.mono x)) q1⟩
  · rename_i xs e1
    rw [e1] at sx
    cases sx with
    | scr hx px => exact ⟨_, _, rfl, hx, fin_new w1 (k.mono x1) (fun F' p x e => .lst e (px.reverse.mono x)) q1⟩
  · exact q1.elim
theorem fin_newM {F O H : Hp} {M : Mp} {Q3 : QE} {Q : VK} (w : Wd K F O H M) (k : LkV K F O Q3 Q) {o : HO} {m : MO} (r : RepO K F o m) (q : ∀ p, M p = none → Q3 (.raw (.ref p)) (mset M p m)) : ∀ p, H p = none → Q (.ref p) (upd H p o) :=
  fun p hp => k _ _ _ _ _ .refl (w.newM hp r) (.raw _) (q p (w.fM hp))
theorem d_revM {k : Nat} {p1 p2 p3 : Pos} (he : DE X e te) : DE X (.Subscript e (.Slice none none (some (.UnaryOp .USub (.Constant (.int 1) k p1) p2)) p3) pos) (dOp1 oRevM te) := by
  refine pe_weak (pe_revL he) ?_
  rintro σ H Q ⟨F, O, M, ss, Q3, w, sl, q, k⟩
  refine ⟨F, O, M, ss, _, w, sl, q, ?_⟩
  intro v H1 F1 M1 t x1 w1 r1 q1
  have sx := r1.sees w1
  unfold oRevM at q1
  split at q1
  · rename_i xs e1
    rw [e1] at sx
    cases sx with
    | lst hx px => exact ⟨_, _, rfl, .of hx, fin_newM w1 (k.mono x1) (.lst px.reverse) q1⟩
  · rename_i xs e1
    rw [e1] at sx
    cases sx with
    | scr hx px => exact ⟨_, _, rfl, hx, fin_newM w1 (k.mono x1) (.lst px.reverse) q1⟩
  · exact q1.elim

/-! ### built-in functions and types -/
def CallD (K : PySem.W.Frag) (r : List V → Hp → VK → Prop) (R : List T → QE → Mp → Prop) : Prop :=
  ∀ (F O H : Hp) (M : Mp) (vs : List V) (ts : List T) (Q3 : QE) (Q : VK), Wd K F O H M → Reps K F vs ts → R ts Q3 M → LkV K F O Q3 Q → r vs H Q
def dCall (R : List T → QE → Mp → Prop) (tl : A3) : E3 := fun ss M Q => tl ss M fun ts M1 => R ts Q M1
theorem lift_call {r : List V → Hp → VK → Prop} {R : List T → QE → Mp → Prop} (h : CallD K r R) : ∀ σ H Q, liftE K (dCall R tl) σ H Q → tCB r (liftA K tl) σ H Q := by
  rintro σ H Q ⟨F, O, M, ss, Q3, w, sl, q, k⟩
  refine ⟨F, O, M, ss, _, w, sl, q, ?_⟩
  intro vs H1 F1 M1 ts x1 w1 r1 q1
  exact h F1 O H1 M1 vs ts Q3 Q w1 r1 q1 (k.mono x1)
section
variable {x : Str} {p : Pos} {id Ty : String} {r : List V → Hp → VK → Prop} {R : List T → QE → Mp → Prop}
theorem d_callB (hc : CallR X (.builtin id) r) (h : CallD X.K r R) (hg : Gl X x) (hm : X.mg x = none) (hv : bootBuiltins x = some (.builtin id)) (ha : DA X (e :: es) tl) (hn : x ≠ "__name__" := by decide) (hdb : (x == ("__debug__" : Str)) = false := by decide)
    (he : starEach (e :: es) X.env = (false, eval e X.env) :: starEach es X.env := by rfl) (hpl : (backTo pos (starEach es X.env)).any (·.1) = false := by rfl) : DE X (.Call (.Name x p) (e :: es) [] pos) (dCall R tl) :=
  pe_weak (pe_callB hc hg hm hv ha hn hdb he hpl) (lift_call h)
theorem d_callTy (hc : CallR X (.type Ty) r) (h : CallD X.K r R) (hg : Gl X x) (hm : X.mg x = none) (hv : bootBuiltins x = some (.type Ty)) (ha : DA X (e :: es) tl) (hn : x ≠ "__name__" := by decide) (hdb : (x == ("__debug__" : Str)) = false := by decide)
    (he : starEach (e :: es) X.env = (false, eval e X.env) :: starEach es X.env := by rfl) (hpl : (backTo pos (starEach es X.env)).any (·.1) = false := by rfl) : DE X (.Call (.Name x p) (e :: es) [] pos) (dCall R tl) :=
  pe_weak (pe_callTy hc hg hm hv ha hn hdb he hpl) (lift_call h)
end
def fLen (ts : List T) (Q : QE) (M : Mp) : Prop := match ts with
  | [x] => (match look x M with
    | .str z => z.length ≤ sizeLine ∧ Q (.int z.length) M
    | .lst xs => Q (.int xs.length) M
    | .scr xs => Q (.int xs.length) M
    | .tup xs => Q (.int xs.length) M
    | .dic kvs => Q (.int kvs.length) M
    | _ => False)
  | _ => False
theorem cd_len : CallD K (fun xs H Q => (∃ x n, xs = [x] ∧ LenV K x H n ∧ Q (.int n) H) ∨ ∃ a kvs, xs = [V.ref a] ∧ H a = some (.dK kvs) ∧ Q (.int kvs.length) H) fLen := by
  intro F O H M vs ts Q3 Q w rs q k
  unfold fLen at q
  split at q
  · cases rs with
    | cons rx rn =>
    cases rn
    have sx := rx.sees w
    split at q
    · rename_i e1; rw [e1] at sx; cases sx
      exact .inl ⟨_, _, rfl, ⟨q.1, rfl⟩, fin_flat w k (.int _) q.2⟩
    · rename_i e1; rw [e1] at sx
      cases sx with
      | lst hx px => exact .inl ⟨_, _, rfl, .inl ⟨_, .of hx, rfl⟩, px.length ▸ fin_flat w k (.int _) q⟩
    · rename_i e1; rw [e1] at sx
      cases sx with
      | scr hx px => exact .inl ⟨_, _, rfl, .inl ⟨_, hx, rfl⟩, px.length ▸ fin_flat w k (.int _) q⟩
    · rename_i e1; rw [e1] at sx
      cases sx with
      | tup hx px => exact .inl ⟨_, _, rfl, .inr ⟨_, w.ex.sqT hx, rfl⟩, px.length ▸ fin_flat w k (.int _) q⟩
    · rename_i e1; rw [e1] at sx
      cases sx with
      | dic hx px => exact .inr ⟨_, _, rfl, hx, px.length ▸ fin_flat w k (.int _) q⟩
    · exact q.elim
  · exact q.elim
theorem cr_len : CallR X (.builtin "len") (fun xs H Q => (∃ x n, xs = [x] ∧ LenV X.K x H n ∧ Q (.int n) H) ∨ ∃ a kvs, xs = [V.ref a] ∧ H a = some (.dK kvs) ∧ Q (.int kvs.length) H) := call_len.or call_lenD
/-- isinstance of a built-in type -/
def tyT : T → Option String
  | .non => some "NoneType" | .bl _ => some "bool" | .int _ => some "int" | .str _ => some "str"
  | .tup _ => some "tuple" | .lst _ => some "list" | .scr _ => some "list" | .dic _ => some "dict"
  | .raw _ => none
def fIsi (ts : List T) (Q : QE) (M : Mp) : Prop := match ts with
  | [x, .raw (.ty n)] => (match tyT (look x M) with
    | some m => (match kitB m n with | some b => Q (.bl b) M | none => False)
    | none => False)
  | _ => False
theorem Sees.ty {F O H : Hp} {M : Mp} (w : Wd K F O H M) {v : V} {t : T} {m : String} (s : Sees K F H v t) (h : tyT t = some m) : TyX K H v (.type m) := by
  cases s with
  | non => cases h; exact .base .non
  | bl b => cases h; exact .base (.bl b)
  | int i => cases h; exact .base (.int i)
  | str x => cases h; exact .base (.str x)
  | tup hx px =>
    cases h
    rcases w.ex.sqT hx with (e | ⟨o, e⟩) | ⟨o, its, n, e, c, _⟩
    · exact .base (.tup e)
    · exact .fTuple e
    · exact .kTuple e c
  | lst hx px => cases h; exact .base (.lst hx)
  | scr hx px =>
    cases h
    rcases hx with (e | ⟨o, e⟩) | ⟨o, its, n, e, c, _⟩
    · exact .base (.lst e)
    · exact .base (.frz e)
    · exact .kList e c
  | dic hx px => cases h; exact .base (.dK hx)
  | raw v => cases h
theorem cd_isi : CallD K (rIsi K) fIsi := by
  intro F O H M vs ts Q3 Q w rs q k
  unfold fIsi at q
  split at q
  · cases rs with
    | cons rx rn =>
    cases rn with
    | cons ry rn =>
    cases rn
    cases ry
    split at q
    · rename_i m e1
      split at q
      · rename_i b e2
        exact ⟨_, _, _, _, b, rfl, .ty _, (rx.sees w).ty w e1, kit_ty e2, fin_flat w k (.bl _) q⟩
      · exact q.elim
    · exact q.elim
  · exact q.elim
def fAbs (ts : List T) (Q : QE) (M : Mp) : Prop := match ts with
  | [.int i] => Q (.int (if i < 0 then -i else i)) M
  | _ => False
theorem cd_abs : CallD K (fun xs H Q => ∃ i, xs = [.int i] ∧ Q (.int (if i < 0 then -i else i)) H) fAbs := by
  intro F O H M vs ts Q3 Q w rs q k
  unfold fAbs at q
  split at q
  · cases rs with
    | cons rx rn =>
    cases rn
    cases rx
    exact ⟨_, rfl, fin_flat w k (.int _) q⟩
  · exact q.elim
/-- all(list of bools), any(..) -/
def bls : List T → Option (List Bool)
  | [] => some []
  | .bl b :: r => (bls r).map (b :: ·)
  | _ => none
theorem bls_eq : ∀ {ts : List T} {bs : List Bool}, bls ts = some bs → ts = bs.map T.bl
  | [], bs, h => by cases h; rfl
  | t :: r, bs, h => by
    unfold bls at h
    split at h
    · rename_i e; cases e
    · rename_i e
      cases e
      obtain ⟨cs, e1, e2⟩ := Option.map_eq_some_iff.mp h
      subst e2
      rw [List.map_cons, bls_eq e1]
    · cases h
def fBls (f : List Bool → Bool) (ts : List T) (Q : QE) (M : Mp) : Prop := match ts with
  | [x] => (match look x M with
    | .lst xs => (match bls xs with | some bs => Q (.bl (f bs)) M | none => False)
    | _ => False)
  | _ => False
theorem cd_bls {f : List Bool → Bool} : CallD K (fun vs H Q => ∃ (a : Addr) (bs : List Bool), vs = [V.ref a] ∧ SqL K H a (bs.map V.bl) ∧ Q (.bl (f bs)) H) (fBls f) := by
  intro F O H M vs ts Q3 Q w rs q k
  unfold fBls at q
  split at q
  · cases rs with
    | cons rx rn =>
    cases rn
    have sx := rx.sees w
    split at q
    · rename_i e1; rw [e1] at sx
      cases sx with
      | lst hx px =>
        split at q
        · rename_i bs e2
          have e3 := bls_eq e2
          subst e3
          have e4 := px.bls
          subst e4
          exact ⟨_, bs, rfl, .of hx, fin_flat w k (.bl _) q⟩
        · exact q.elim
    · exact q.elim
  · exact q.elim
theorem d_all {p : Pos} (hc : X.calm = true) (hg : Gl X "all") (hm : X.mg "all" = none) (ha : DA X [e] tl) (he : starEach [e] X.env = (false, eval e X.env) :: starEach [] X.env := by rfl) : DE X (.Call (.Name "all" p) [e] [] pos) (dCall (fBls (·.all id)) tl) :=
  d_callB (cr_all hc) cd_bls hg hm (by decide +kernel) ha (he := he)
theorem d_any {p : Pos} (hc : X.calm = true) (hg : Gl X "any") (hm : X.mg "any" = none) (ha : DA X [e] tl) (he : starEach [e] X.env = (false, eval e X.env) :: starEach [] X.env := by rfl) : DE X (.Call (.Name "any" p) [e] [] pos) (dCall (fBls (·.any id)) tl) :=
  d_callB (cr_any hc) cd_bls hg hm (by decide +kernel) ha (he := he)
theorem d_len {p : Pos} (hg : Gl X "len") (hm : X.mg "len" = none) (ha : DA X [e] tl) (he : starEach [e] X.env = (false, eval e X.env) :: starEach [] X.env := by rfl) : DE X (.Call (.Name "len" p) [e] [] pos) (dCall fLen tl) :=
  d_callB cr_len cd_len hg hm (by decide +kernel) ha (he := he)
theorem d_isi {p : Pos} {e2 : Expr} (hg : Gl X "isinstance") (hm : X.mg "isinstance" = none) (ha : DA X [e, e2] tl) (he : starEach [e, e2] X.env = (false, eval e X.env) :: starEach [e2] X.env := by rfl) (hpl : (backTo pos (starEach [e2] X.env)).any (·.1) = false := by rfl) :
    DE X (.Call (.Name "isinstance" p) [e, e2] [] pos) (dCall fIsi tl) :=
  d_callB call_isi cd_isi hg hm (by decide +kernel) ha (he := he) (hpl := hpl)
theorem d_abs {p : Pos} (hg : Gl X "abs") (hm : X.mg "abs" = none) (ha : DA X [e] tl) (he : starEach [e] X.env = (false, eval e X.env) :: starEach [] X.env := by rfl) : DE X (.Call (.Name "abs" p) [e] [] pos) (dCall fAbs tl) :=
  d_callB call_abs cd_abs hg hm (by decide +kernel) ha (he := he)
/-- list(xs), tuple(xs) -/
def seqOf : T → Option (List T)
  | .lst xs => some xs | .scr xs => some xs | .tup xs => some xs | _ => none
def fList (ts : List T) (Q : QE) (M : Mp) : Prop := match ts with
  | [x] => (match seqOf (look x M) with | some xs => Q (.lst xs) M | none => False)
  | _ => False
def fListM (ts : List T) (Q : QE) (M : Mp) : Prop := match ts with
  | [x] => (match seqOf (look x M) with | some xs => ∀ p, M p = none → Q (.raw (.ref p)) (mset M p (.lst xs)) | none => False)
  | _ => False
def fTuple (ts : List T) (Q : QE) (M : Mp) : Prop := match ts with
  | [x] => (match seqOf (look x M) with | some xs => Q (.tup xs) M | none => False)
  | _ => False
theorem Sees.seq {F O H : Hp} {M : Mp} (w : Wd K F O H M) {v : V} {t : T} {xs : List T} (s : Sees K F H v t) (h : seqOf t = some xs) : ∃ a vs, v = .ref a ∧ (SqL K H a vs ∨ SqT K H a vs) ∧ Reps K F vs xs := by
  cases s with
  | lst hx px => cases h; exact ⟨_, _, rfl, .inl (.of hx), px⟩
  | scr hx px => cases h; exact ⟨_, _, rfl, .inl hx, px⟩
  | tup hx px => cases h; exact ⟨_, _, rfl, .inr (w.ex.sqT hx), px⟩
  | _ => cases h
theorem cd_list : CallD K (fun xs H Q => ∃ p ys, xs = [.ref p] ∧ (SqL K H p ys ∨ SqT K H p ys) ∧ ∀ l, H l = none → Q (.ref l) (upd H l (.lst ys))) fList := by
  intro F O H M vs ts Q3 Q w rs q k
  unfold fList at q
  split at q
  · cases rs with
    | cons rx rn =>
    cases rn
    split at q
    · rename_i xs e1
      obtain ⟨a, us, rfl, h, px⟩ := (rx.sees w).seq w e1
      exact ⟨a, us, rfl, h, fin_new w k (fun F' p x e => .lst e (px.mono x)) q⟩
    · exact q.elim
  · exact q.elim
theorem cd_listM : CallD K (fun xs H Q => ∃ p ys, xs = [.ref p] ∧ (SqL K H p ys ∨ SqT K H p ys) ∧ ∀ l, H l = none → Q (.ref l) (upd H l (.lst ys))) fListM := by
  intro F O H M vs ts Q3 Q w rs q k
  unfold fListM at q
  split at q
  · cases rs with
    | cons rx rn =>
    cases rn
    split at q
    · rename_i xs e1
      obtain ⟨a, us, rfl, h, px⟩ := (rx.sees w).seq w e1
      exact ⟨a, us, rfl, h, fin_newM w k (.lst px) q⟩
    · exact q.elim
  · exact q.elim
theorem cd_tuple : CallD K (fun xs H Q => ∃ p ys, xs = [.ref p] ∧ ((SqL K H p ys ∧ ∀ l, H l = none → Q (.ref l) (upd H l (.tup ys))) ∨ (SqT K H p ys ∧ Q (.ref p) H))) fTuple := by
  intro F O H M vs ts Q3 Q w rs q k
  unfold fTuple at q
  split at q
  · cases rs with
    | cons rx rn =>
    cases rn
    have sx := rx.sees w
    split at q
    · rename_i xs e1
      cases hs : look _ M with
      | lst ys =>
        rw [hs] at sx e1
        cases e1
        cases sx with
        | lst hx px => exact ⟨_, _, rfl, .inl ⟨.of hx, fin_new w k (fun F' p x e => .tup (.of e) (px.mono x)) q⟩⟩
      | scr ys =>
        rw [hs] at sx e1
        cases e1
        cases sx with
        | scr hx px => exact ⟨_, _, rfl, .inl ⟨hx, fin_new w k (fun F' p x e => .tup (.of e) (px.mono x)) q⟩⟩
      | tup ys =>
        rw [hs] at sx e1
        cases e1
        cases sx with
        | tup hx px => exact ⟨_, _, rfl, .inr ⟨w.ex.sqT hx, fin_flat w k (.tup hx px) q⟩⟩
      | _ => rw [hs] at e1; cases e1
    · exact q.elim
  · exact q.elim
theorem d_list {p : Pos} (hg : Gl X "list") (hm : X.mg "list" = none) (ha : DA X [e] tl) (he : starEach [e] X.env = (false, eval e X.env) :: starEach [] X.env := by rfl) : DE X (.Call (.Name "list" p) [e] [] pos) (dCall fList tl) := d_callTy call_list_of cd_list hg hm (by decide +kernel) ha (he := he)
theorem d_listM {p : Pos} (hg : Gl X "list") (hm : X.mg "list" = none) (ha : DA X [e] tl) (he : starEach [e] X.env = (false, eval e X.env) :: starEach [] X.env := by rfl) : DE X (.Call (.Name "list" p) [e] [] pos) (dCall fListM tl) := d_callTy call_list_of cd_listM hg hm (by decide +kernel) ha (he := he)
theorem d_tuple {p : Pos} (hg : Gl X "tuple") (hm : X.mg "tuple" = none) (ha : DA X [e] tl) (he : starEach [e] X.env = (false, eval e X.env) :: starEach [] X.env := by rfl) : DE X (.Call (.Name "tuple" p) [e] [] pos) (dCall fTuple tl) := d_callTy call_tuple_of cd_tuple hg hm (by decide +kernel) ha (he := he)
/-- int(i), int(b) -/
def fInt (ts : List T) (Q : QE) (M : Mp) : Prop := match ts with
  | [.int i] => Q (.int i) M
  | [.bl b] => Q (.int (if b then 1 else 0)) M
  | _ => False
theorem cd_int : CallD K (fun xs H Q => (∃ i, xs = [.int i] ∧ Q (.int i) H) ∨ ∃ k, xs = [.bl k] ∧ Q (.int (if k then 1 else 0)) H) fInt := by
  intro F O H M vs ts Q3 Q w rs q k
  unfold fInt at q
  split at q
  · cases rs with
    | cons rx rn =>
    cases rn
    cases rx
    exact .inl ⟨_, rfl, fin_flat w k (.int _) q⟩
  · cases rs with
    | cons rx rn =>
    cases rn
    cases rx
    exact .inr ⟨_, rfl, fin_flat w k (.int _) q⟩
  · exact q.elim
theorem d_intc {p : Pos} (hg : Gl X "int") (hm : X.mg "int" = none) (ha : DA X [e] tl) (he : starEach [e] X.env = (false, eval e X.env) :: starEach [] X.env := by rfl) : DE X (.Call (.Name "int" p) [e] [] pos) (dCall fInt tl) := d_callTy call_int1 cd_int hg hm (by decide +kernel) ha (he := he)
end

/-! ### targets -/
inductive Pat where
  | nm (i : Nat) | tp (is : List Nat)
def setAll (ss : SS) : List Nat → List T → SS
  | i :: r, t :: ts => setAll (ss.set i (some t)) r ts
  | _, _ => ss
def Pat.set : Pat → T → SS → Option SS
  | .nm i, t, ss => some (ss.set i (some t))
  | .tp is, t, ss => match t with
    | .tup ts => if ts.length = is.length then some (setAll ss is ts) else none
    | _ => none
def gNames : List Nat → TGs
  | [] => gNil
  | i :: r => gCons (gName i) (gNames r)
def Pat.gV (K : PySem.W.Frag) : Pat → TG
  | .nm i => gName i
  | .tp is => gTup K is.length (gNames is)
def Pat.ixs : Pat → List Nat
  | .nm i => [i]
  | .tp is => is
abbrev DG (X : Cx) (tg : Expr) (P : Pat) : Prop := PG X tg (P.gV X.K)
section
variable {X : Cx} {K : PySem.W.Frag}
theorem wipe_set {σ : L2.St} {i : Nat} {v : Option V} : ∀ {vs : List Nat}, i ∈ vs → wipe (σ.set i v) vs = wipe σ vs
  | w :: vs, h => by
    unfold wipe
    by_cases e : i = w
    · subst e
      by_cases h2 : i ∈ vs
      · rw [wipe_set h2]
      · clear h
        have aux : ∀ vs : List Nat, wipe (σ.set i v) vs = wipe σ vs ∨ wipe (σ.set i v) vs = (wipe σ vs).set i v := by
          intro vs
          induction vs with
          | nil => exact .inr rfl
          | cons u us ih =>
            unfold wipe
            rcases ih with ih | ih
            · exact .inl (by rw [ih])
            · rw [ih]
              by_cases e2 : i = u
              · subst e2
                exact .inl (by rw [List.set_set])
              · exact .inr (by rw [List.set_comm _ _ e2])
        rcases aux vs with e | e
        · rw [e]
        · rw [e, List.set_set]
    · have h2 : i ∈ vs := by
        rcases List.mem_cons.mp h with z | z
        · exact absurd z e
        · exact z
      rw [wipe_set h2]
theorem gNames_run {F O H : Hp} {M : Mp} (w : Wd K F O H M) : ∀ {is : List Nat} {vs : List V} {ts : List T} {σ : L2.St} {ss : SS} {Q : L2.St → Hp → Prop} {ws : List Nat}, Reps K F vs ts → ts.length = is.length → SlR K F σ ss →
    (∀ σ', SlR K F σ' (setAll ss is ts) → ((∀ i ∈ is, i ∈ ws) → wipe σ' ws = wipe σ ws) → Q σ' H) → gNames is vs σ H Q
  | [], _, _, σ, ss, Q, ws, .nil, _, sl, q => ⟨rfl, q σ sl fun _ => rfl⟩
  | i :: is, _, _, σ, ss, Q, ws, .cons (v := v) (t := t) h r, e, sl, q => by
    refine ⟨_, _, rfl, gNames_run w (ws := ws) r (Nat.succ.inj e) (sl.set h i) fun σ' sl' e' => q σ' sl' fun hm => ?_⟩
    rw [e' fun j hj => hm j (List.mem_cons_of_mem _ hj)]
    exact wipe_set (hm i List.mem_cons_self)
theorem Pat.run {F O H : Hp} {M : Mp} (w : Wd K F O H M) {P : Pat} {v : V} {t : T} {σ : L2.St} {ss ss' : SS} {Q : L2.St → Hp → Prop} {ws : List Nat} (r : Rep K F v t) (sl : SlR K F σ ss) (e : P.set t ss = some ss')
    (q : ∀ σ', SlR K F σ' ss' → ((∀ i ∈ P.ixs, i ∈ ws) → wipe σ' ws = wipe σ ws) → Q σ' H) : P.gV K v σ H Q := by
  cases P with
  | nm i =>
    cases e
    exact q _ (sl.set r i) fun hm => wipe_set (hm i List.mem_cons_self)
  | tp is =>
    cases t with
    | tup ts =>
      have e' : (if ts.length = is.length then some (setAll ss is ts) else none) = some ss' := e
      split at e'
      · rename_i hl
        cases e'
        cases r with
        | tup h r => exact ⟨_, _, rfl, w.ex.sqT h, r.length.trans hl, gNames_run w r hl sl q⟩
      · cases e'
    | _ => exact nomatch e
theorem dg_nm (i : Nat) {x : Str} {pos : Pos} (hN : X.N.Nodup) (hi : X.N[i]? = some x) (hx : Loc X.env.scope x) (hf : X.fn x = true ∨ X.env.scope.names.lookup x = some .local := by first | exact .inl rfl | exact .inr rfl | assumption) : DG X (.Name x pos) (.nm i) := pg_name hN hi hx hf
end

/-! ### what is walked -/
structure Src where
  xs : List T
  ok : Mp → Prop
abbrev I3 := SS → Mp → (Src → Mp → Prop) → Prop
def SrcOk (K : PySem.W.Frag) (F : Hp) (J : It) (S : Src) : Prop :=
  ∀ (F' O' H' : Hp) (M' : Mp), Ex F F' → Wd K F' O' H' M' → S.ok M' → ∀ i : Nat, (S.xs.length ≤ i → J.stop i H') ∧
    ∀ t, S.xs[i]? = some t → J.go i H' ∧ ∀ x H'', J.yld i H' x H'' → ∃ F'', Ex F' F'' ∧ Wd K F'' O' H'' M' ∧ Rep K F'' x t
def liftI (K : PySem.W.Frag) (w3 : I3) : TI := fun σ H R => ∃ F O M ss R3, Wd K F O H M ∧ SlR K F σ ss ∧ w3 ss M R3 ∧
  ∀ (J : It) (H' F' : Hp) (M' : Mp) (S : Src), Ex F F' → Wd K F' O H' M' → SrcOk K F' J S → R3 S M' → R J H'
abbrev DI (X : Cx) (tg e : Expr) (w3 : I3) : Prop := PI X tg e (liftI X.K w3)
theorem pi_weak {X : Cx} {tg e : Expr} {t t' : TI} (h : PI X tg e t) (i : ∀ σ H Q, t' σ H Q → t σ H Q) : PI X tg e t' := ⟨fun pins s σ H Q I q => h.run pins s σ H Q I (i σ H Q q)⟩
section
variable {X : Cx} {K : PySem.W.Frag} {tg e : Expr} {te : E3}
def iL (te : E3) : I3 := fun ss M R => te ss M fun t M1 => match look t M1 with
  | .lst xs => R ⟨xs, fun M' => look t M' = .lst xs⟩ M1
  | .scr xs => R ⟨xs, fun M' => look t M' = .scr xs⟩ M1
  | _ => False
theorem srcL {F : Hp} {v : V} {t : T} {a : Addr} {xs : List T} (ev : v = .ref a) (r : Rep K F v t) {c : List T → T} (hc : ∀ F H v ys, Sees K F H v (c ys) → ∃ b us, v = .ref b ∧ SqL K H b us ∧ Reps K F us ys) : SrcOk K F (Itl K a) ⟨xs, fun M' => look t M' = c xs⟩ := by
  intro F' O' H' M' x w ok i
  have s := (r.mono x).sees w
  rw [show look t M' = c xs from ok] at s
  obtain ⟨b, us, e1, hx, px⟩ := hc _ _ _ _ s
  subst ev
  cases e1
  refine ⟨fun hl => ⟨us, hx, by rw [px.length]; exact hl⟩, fun t' e => ?_⟩
  obtain ⟨u, e2, r2⟩ := px.get e
  refine ⟨⟨us, u, hx, e2⟩, ?_⟩
  rintro y H'' ⟨rfl, f⟩
  have e3 := Option.some.inj ((f us hx).symm.trans e2)
  subst e3
  exact ⟨F', .refl, w, r2⟩
theorem di_list (he : DE X e te) : DI X tg e (iL te) := by
  refine pi_weak (pi_list he) ?_
  rintro σ H R ⟨F, O, M, ss, R3, w, sl, q, k⟩
  refine ⟨F, O, M, ss, _, w, sl, q, ?_⟩
  intro v H1 F1 M1 t x1 w1 r1 q1
  have sx := r1.sees w1
  split at q1
  · rename_i xs e1
    rw [e1] at sx
    cases sx with
    | lst hx px =>
    refine ⟨_, rfl, ⟨_, .of hx⟩, k _ H1 F1 M1 _ x1 w1 (srcL (c := .lst) rfl r1 ?_) q1⟩
    rintro F H v ys s
    cases s with
    | lst hx px => exact ⟨_, _, rfl, .of hx, px⟩
  · rename_i xs e1
    rw [e1] at sx
    cases sx with
    | scr hx px =>
    refine ⟨_, rfl, ⟨_, hx⟩, k _ H1 F1 M1 _ x1 w1 (srcL (c := .scr) rfl r1 ?_) q1⟩
    rintro F H v ys s
    cases s with
    | scr hx px => exact ⟨_, _, rfl, hx, px⟩
  · exact q1.elim
def iT (te : E3) : I3 := fun ss M R => te ss M fun t M1 => match t with
  | .tup xs => R ⟨xs, fun _ => True⟩ M1
  | _ => False
theorem di_tup (he : DE X e te) : DI X tg e (iT te) := by
  refine pi_weak (pi_tup he) ?_
  rintro σ H R ⟨F, O, M, ss, R3, w, sl, q, k⟩
  refine ⟨F, O, M, ss, _, w, sl, q, ?_⟩
  intro v H1 F1 M1 t x1 w1 r1 q1
  split at q1
  · cases r1 with
    | tup hx px =>
    refine ⟨_, rfl, ⟨_, w1.ex.sqT hx⟩, k _ H1 F1 M1 _ x1 w1 ?_ q1⟩
    intro F' O' H' M' x w2 _ i
    have hx' := w2.ex.sqT (x.sqT hx)
    refine ⟨fun hl => ⟨_, hx', by rw [px.length]; exact hl⟩, fun t' e => ?_⟩
    obtain ⟨u, e2, r2⟩ := px.get e
    refine ⟨⟨_, u, hx', e2⟩, ?_⟩
    rintro y H'' ⟨rfl, f⟩
    have e3 := Option.some.inj ((f _ hx').symm.trans e2)
    subst e3
    exact ⟨F', .refl, w2, r2.mono x⟩
  · exact q1.elim
def signsT (z : Str) : List T := z.cps.toList.map fun c => T.str ⟨#[c]⟩
def iS (te : E3) : I3 := fun ss M R => te ss M fun t M1 => match t with
  | .str z => R ⟨signsT z, fun _ => True⟩ M1
  | _ => False
theorem di_str (he : DE X e te) : DI X tg e (iS te) := by
  refine pi_weak (pi_str he) ?_
  rintro σ H R ⟨F, O, M, ss, R3, w, sl, q, k⟩
  refine ⟨F, O, M, ss, _, w, sl, q, ?_⟩
  intro v H1 F1 M1 t x1 w1 r1 q1
  split at q1
  · rename_i z
    cases r1
    refine ⟨_, rfl, k _ H1 F1 M1 _ x1 w1 ?_ q1⟩
    intro F' O' H' M' x w2 _ i
    have hlen : (signsT z).length = z.cps.size := by unfold signsT; rw [List.length_map, Array.length_toList]
    refine ⟨fun hl => by show z.cps.size ≤ i; rw [← hlen]; exact hl, fun t' e => ?_⟩
    have e' : (z.cps.toList.map fun c => T.str ⟨#[c]⟩)[i]? = some t' := e
    rw [List.getElem?_map, Array.getElem?_toList] at e'
    obtain ⟨c, e2, e3⟩ := Option.map_eq_some_iff.mp e'
    subst e3
    refine ⟨(Array.getElem?_eq_some_iff.mp e2).1, ?_⟩
    rintro y H'' ⟨rfl, c', e4, rfl⟩
    rw [e2] at e4
    cases e4
    exact ⟨F', .refl, w2, .str _⟩
  · exact q1.elim
def ups (lo : Int) (n : Nat) : List T := (List.range n).map fun (k : Nat) => T.int (lo + (k : Int))
def iR1 (te : E3) : I3 := fun ss M R => te ss M fun t M1 => match t with
  | .int j => (-(2 ^ 62) ≤ j ∧ j < 2 ^ 62) ∧ R ⟨ups 0 j.toNat, fun _ => True⟩ M1
  | _ => False
theorem src_range {F : Hp} (lo : Int) (n : Nat) : SrcOk K F (Itr lo n) ⟨ups lo n, fun _ => True⟩ := by
  intro F' O' H' M' x w2 _ i
  have hlen : (ups lo n).length = n := by unfold ups; rw [List.length_map, List.length_range]
  refine ⟨fun hl => by show n ≤ i; rw [← hlen]; exact hl, fun t' e => ?_⟩
  have e' : ((List.range n).map fun (k : Nat) => T.int (lo + (k : Int)))[i]? = some t' := e
  have hi : i < n := by
    have := (List.getElem?_eq_some_iff.mp e).1
    rw [hlen] at this
    exact this
  rw [List.getElem?_map, List.getElem?_range hi] at e'
  cases e'
  refine ⟨hi, ?_⟩
  rintro y H'' ⟨rfl, rfl⟩
  exact ⟨F', .refl, w2, .int _⟩
theorem di_range1 {a : Expr} {p pos : Pos} (hg : Gl X "range") (hm : X.mg "range" = none) (ha : DE X a te) (hs : starEach [a] X.env = [(false, eval a X.env)] := by rfl) : DI X tg (.Call (.Name "range" p) [a] [] pos) (iR1 te) := by
  refine pi_weak (pi_range1 hg hm (da_cons ha da_nil (by exact hs)) hs) ?_
  rintro σ H R ⟨F, O, M, ss, R3, w, sl, q, k⟩
  refine ⟨F, O, M, ss, fun ts M1 => match ts with
    | [t] => (match t with
      | .int j => (-(2 ^ 62) ≤ j ∧ j < 2 ^ 62) ∧ R3 ⟨ups 0 j.toNat, fun _ => True⟩ M1
      | _ => False)
    | _ => False, w, sl, q, ?_⟩
  intro vs H1 F1 M1 ts x1 w1 r1 q1
  split at q1
  · split at q1
    · cases r1 with
      | cons r rr =>
      cases rr
      cases r
      exact ⟨_, rfl, q1.1.1, q1.1.2, k _ H1 F1 M1 _ x1 w1 (src_range 0 _) q1.2⟩
    · exact q1.elim
  · exact q1.elim
def iR2 (ta tb : E3) : I3 := fun ss M R => ta ss M fun t M1 => tb ss M1 fun u M2 => match t, u with
  | .int i, .int j => (-(2 ^ 62) ≤ i ∧ i < 2 ^ 62 ∧ -(2 ^ 62) ≤ j ∧ j < 2 ^ 62) ∧ R ⟨ups i (j - i).toNat, fun _ => True⟩ M2
  | _, _ => False
theorem di_range2 {a b : Expr} {ta tb : E3} {p pos : Pos} (hg : Gl X "range") (hm : X.mg "range" = none) (ha : DE X a ta) (hb : DE X b tb) (hs : starEach [a, b] X.env = [(false, eval a X.env), (false, eval b X.env)] := by rfl)
    (h1 : starEach [a, b] X.env = (false, eval a X.env) :: starEach [b] X.env := by rfl) (h2 : starEach [b] X.env = (false, eval b X.env) :: starEach [] X.env := by rfl) : DI X tg (.Call (.Name "range" p) [a, b] [] pos) (iR2 ta tb) := by
  refine pi_weak (pi_range2 hg hm (da_cons ha (da_cons hb da_nil h2) h1) hs (hs2 := h2)) ?_
  rintro σ H R ⟨F, O, M, ss, R3, w, sl, q, k⟩
  refine ⟨F, O, M, ss, fun ts M1 => match ts with
    | [t, u] => (match t, u with
      | .int i, .int j => (-(2 ^ 62) ≤ i ∧ i < 2 ^ 62 ∧ -(2 ^ 62) ≤ j ∧ j < 2 ^ 62) ∧ R3 ⟨ups i (j - i).toNat, fun _ => True⟩ M1
      | _, _ => False)
    | _ => False, w, sl, q, ?_⟩
  intro vs H1 F1 M1 ts x1 w1 r1 q1
  split at q1
  · split at q1
    · cases r1 with
      | cons r rr =>
      cases rr with
      | cons r2 rr =>
      cases rr
      cases r
      cases r2
      exact ⟨_, _, rfl, q1.1, k _ H1 F1 M1 _ x1 w1 (src_range _ _) q1.2⟩
    · exact q1.elim
  · exact q1.elim
end

/-! ### for -/
def forL (ok : Mp → Prop) (P : Pat) (tb : S3) (D : Ends3) : List T → SS → Mp → Prop
  | [], ss, M => ok M ∧ D.nx ss M
  | t :: r, ss, M => ok M ∧ match P.set t ss with
    | some ss2 => tb { D with nx := forL ok P tb D r, ct := forL ok P tb D r, bk := D.nx } ss2 M
    | none => False
def sFor (w3 : I3) (P : Pat) (tb : S3) : S3 := fun D ss M => w3 ss M fun S M1 => forL S.ok P tb D S.xs ss M1
section
variable {X : Cx} {K : PySem.W.Frag} {tg iter e : Expr} {te : E3} {w3 : I3} {P : Pat} {tb : S3} {pos : Pos}
theorem ds_for {body : List Stmt} (hp : PassesOwn (model X.prog X.w) X.A X.env X.xe) (hc : X.calm = true) (hi : DI X tg iter w3) (hg : DG X tg P) (hb : DSs X body tb)
    (hs : ∀ x, foldedSetIterable iter X.env x = pure x := by intro _; rfl) : DS X (.For tg iter body [] pos) (sFor w3 P tb) := by
  refine ps_weak (ps_for hp hc hi hg hb hs) ?_
  rintro D σ H ⟨F, O, M, ss, D3, w, sl, q, k⟩
  refine ⟨F, O, M, ss, _, w, sl, q, ?_⟩
  intro J H1 F1 M1 S x1 w1 so q1
  refine ⟨fun i m σ' H' => m = S.xs.length - i ∧ i ≤ S.xs.length ∧ ∃ F' M' ss', Ex F1 F' ∧ Wd X.K F' O H' M' ∧ SlR X.K F' σ' ss' ∧ forL S.ok P tb D3 (S.xs.drop i) ss' M', ⟨S.xs.length, rfl, Nat.zero_le _, F1, M1, ss, .refl, w1, sl.mono x1, q1⟩, ?_⟩
  rintro i m σ' H' ⟨rfl, hi, F', M', ss', x2, w2, sl2, q2⟩
  by_cases hl : i < S.xs.length
  · rw [List.drop_eq_getElem_cons hl] at q2
    obtain ⟨ok, q2⟩ := q2
    obtain ⟨_, hgo⟩ := so F' O H' M' x2 w2 ok i
    obtain ⟨go, hy⟩ := hgo _ (List.getElem?_eq_getElem hl)
    refine .inr ⟨go, fun σ' H' => ∃ F' M' ss', Ex F1 F' ∧ Wd X.K F' O H' M' ∧ SlR X.K F' σ' ss' ∧ forL S.ok P tb D3 (S.xs.drop (i + 1)) ss' M', ?_, ?_⟩
    · rintro σ'' H'' hN
      exact ⟨S.xs.length - (i + 1), by omega, rfl, hl, hN⟩
    · intro x H'' y
      obtain ⟨F'', x3, w3', r3⟩ := hy x H'' y
      split at q2
      · rename_i ss2 e
        refine Pat.run w3' (ws := []) r3 (sl2.mono x3) e fun σ2 sl3 _ => ?_
        refine ⟨F'', O, M', ss2, _, w3', sl3, q2, ?_⟩
        have kk := k.mono (x1.trans (x2.trans x3))
        have nxt : LkS X.K F'' O (forL S.ok P tb D3 (S.xs.drop (i + 1))) fun σ' H' => ∃ F' M' ss', Ex F1 F' ∧ Wd X.K F' O H' M' ∧ SlR X.K F' σ' ss' ∧ forL S.ok P tb D3 (S.xs.drop (i + 1)) ss' M' :=
          fun σ3 H3 F3 M3 ss3 x4 w4 sl4 q4 => ⟨F3, M3, ss3, x2.trans (x3.trans x4), w4, sl4, q4⟩
        exact ⟨nxt, kk.rt, kk.nx, nxt⟩
      · exact q2.elim
  · rw [List.drop_of_length_le (by omega)] at q2
    obtain ⟨ok, q2⟩ := q2
    obtain ⟨hst, _⟩ := so F' O H' M' x2 w2 ok i
    exact .inl ⟨hst (by omega), k.nx σ' H' F' M' ss' (x1.trans x2) w2 sl2 q2⟩

/-! ### blocks and small statements -/
variable {st : Stmt} {rest : List Stmt} {t u : S3} {tt : T3} {c : Expr}
def sNext : S3 := fun D ss M => D.nx ss M
def sSeq (t u : S3) : S3 := fun D ss M => t { D with nx := u D } ss M
theorem dss_nil : DSs X [] sNext := by
  refine pss_weak pss_nil ?_
  rintro D σ H ⟨F, O, M, ss, D3, w, sl, q, k⟩
  exact k.nx σ H F M ss .refl w sl q
theorem dss_cons (h1 : DS X st t) (h2 : DSs X rest u) : DSs X (st :: rest) (sSeq t u) := by
  refine pss_weak (pss_cons h1 h2) ?_
  rintro D σ H ⟨F, O, M, ss, D3, w, sl, q, k⟩
  refine ⟨F, O, M, ss, _, w, sl, q, ?_, k.rt, k.bk, k.ct⟩
  intro σ' H' F' M' ss' x' w' sl' q'
  exact ⟨F', O, M', ss', D3, w', sl', q', k.mono x'⟩
theorem dss_one (h1 : DS X st t) : DSs X [st] t := pss_one h1
theorem ds_pass : DS X (.Pass pos) sNext := by
  refine ps_weak ps_pass ?_
  rintro D σ H ⟨F, O, M, ss, D3, w, sl, q, k⟩
  exact k.nx σ H F M ss .refl w sl q
def sBreak : S3 := fun D ss M => D.bk ss M
def sCont : S3 := fun D ss M => D.ct ss M
theorem ds_break : DS X (.Break pos) sBreak := by
  refine ps_weak ps_break ?_
  rintro D σ H ⟨F, O, M, ss, D3, w, sl, q, k⟩
  exact k.bk σ H F M ss .refl w sl q
theorem ds_cont : DS X (.Continue pos) sCont := by
  refine ps_weak ps_continue ?_
  rintro D σ H ⟨F, O, M, ss, D3, w, sl, q, k⟩
  exact k.ct σ H F M ss .refl w sl q
def sDrop (te : E3) : S3 := fun D ss M => te ss M fun _ M1 => D.nx ss M1
theorem ds_expr (he : DE X e te) (hs : swapsWith e none pos.line X.env = pure false := by rfl) : DS X (.Expr e pos) (sDrop te) := by
  refine ps_weak (ps_expr he hs) ?_
  rintro D σ H ⟨F, O, M, ss, D3, w, sl, q, k⟩
  refine ⟨F, O, M, ss, _, w, sl, q, ?_⟩
  intro v H1 F1 M1 t x1 w1 r1 q1
  exact k.nx σ H1 F1 M1 ss x1 w1 (sl.mono x1) q1
def sRet (te : E3) : S3 := fun D ss M => te ss M D.rt
theorem ds_ret (he : DE X e te) : DS X (.Return (some e) pos) (sRet te) := by
  refine ps_weak (ps_ret he) ?_
  rintro D σ H ⟨F, O, M, ss, D3, w, sl, q, k⟩
  exact ⟨F, O, M, ss, _, w, sl, q, k.rt⟩
def sRetN : S3 := fun D _ M => D.rt .non M
theorem ds_retN : DS X (.Return none pos) sRetN := by
  refine ps_weak ps_retN ?_
  rintro D σ H ⟨F, O, M, ss, D3, w, sl, q, k⟩
  exact k.rt _ H F M _ .refl w .non q
def sIf (tt : T3) (t u : S3) : S3 := fun D ss M => tt ss M fun b M1 => match b with
  | true => t D ss M1
  | false => u D ss M1
theorem ds_if {a b : List Stmt} (hc : DT X c tt) (ha : DSs X a t) (hb : DSs X b u) : DS X (.If c a b pos) (sIf tt t u) := by
  refine ps_weak (ps_if hc ha hb) ?_
  rintro D σ H ⟨F, O, M, ss, D3, w, sl, q, k⟩
  refine ⟨F, O, M, ss, _, w, sl, q, ?_⟩
  intro d H1 F1 M1 x1 w1 q1
  cases d with
  | true => exact ⟨F1, O, M1, ss, D3, w1, sl.mono x1, q1, k.mono x1⟩
  | false => exact ⟨F1, O, M1, ss, D3, w1, sl.mono x1, q1, k.mono x1⟩
def sNever : S3 := fun _ _ _ => False
theorem ds_never : DS X st sNever := ps_weak ps_never fun D σ H ⟨_, _, _, _, _, _, _, q, _⟩ => q
theorem dss_never {sts : List Stmt} : DSs X sts sNever := pss_weak pss_never fun D σ H ⟨_, _, _, _, _, _, _, q, _⟩ => q
/-- target = e -/
def sSet (P : Pat) (te : E3) : S3 := fun D ss M => te ss M fun t M1 => match P.set t ss with
  | some ss2 => D.nx ss2 M1
  | none => False
theorem lift_set {D : Ends} {σ : L2.St} {H : Hp} (h : liftS K (sSet P te) D σ H) : tAsg (liftE K te) (P.gV K) D σ H := by
  obtain ⟨F, O, M, ss, D3, w, sl, q, k⟩ := h
  refine ⟨F, O, M, ss, _, w, sl, q, ?_⟩
  intro v H1 F1 M1 t x1 w1 r1 q1
  split at q1
  · rename_i ss2 e
    exact Pat.run w1 (ws := []) r1 (sl.mono x1) e fun σ2 sl2 _ => k.nx σ2 H1 F1 M1 ss2 x1 w1 sl2 q1
  · exact q1.elim
theorem ds_set (i : Nat) {x : Str} {pos' : Pos} (hN : X.N.Nodup) (hi : X.N[i]? = some x) (hx : Loc X.env.scope x) (he : DE X e te) (hs : swapsWith e (some (.Name x pos')) pos.line X.env = pure false := by rfl)
    (hf : X.fn x = true ∨ X.env.scope.names.lookup x = some .local := by first | exact .inl rfl | exact .inr rfl | assumption) : DS X (.Assign [.Name x pos'] e pos) (sSet (.nm i) te) :=
  ps_weak (ps_set hN hi hx he hs hf) fun _ _ _ => lift_set (P := .nm i)
theorem ds_asg (he : DE X e te) (hg : DG X tg P) (hs : swapsWithSole [tg] e pos.line X.env = pure false := by rfl) (hw : swappedStores [tg] e X.env = pure none := by rfl)
    (h1 : (assignEach [tg] X.env).map (·.2) = [assign tg X.env] := by rfl) : DS X (.Assign [tg] e pos) (sSet P te) :=
  ps_weak (ps_asg he hg hs hw h1) fun _ _ _ => lift_set
/-- x, y = a, b -/
def sPar (i j : Nat) (ta tb : E3) : S3 := fun D ss M => ta ss M fun t M1 => tb ss M1 fun u M2 => D.nx ((ss.set i (some t)).set j (some u)) M2
theorem ds_par (i j : Nat) {x y : Str} {a b : Expr} {ta tb : E3} {px py pt : Pos} {kt k2 pt2} (hc : X.calm = true) (hN : X.N.Nodup) (hi : X.N[i]? = some x) (hj : X.N[j]? = some y) (hij : i ≠ j)
    (hx : X.env.scope.names.lookup x = some .local) (hy : X.env.scope.names.lookup y = some .local) (ha : DE X a ta) (hb : DE X b tb)
    (h1 : starEach [a, b] X.env = (false, eval a X.env) :: starEach [b] X.env := by rfl) (h2 : starEach [b] X.env = (false, eval b X.env) :: starEach [] X.env := by rfl)
    (hw : swappedStores [.Tuple [.Name x px, .Name y py] kt pt] (.Tuple [a, b] k2 pt2) X.env = pure (some [x, y]) := by rfl)
    (hs : swapsWithSole [.Tuple [.Name x px, .Name y py] kt pt] (.Tuple [a, b] k2 pt2) pos.line X.env = pure false := by rfl) :
    DS X (.Assign [.Tuple [.Name x px, .Name y py] kt pt] (.Tuple [a, b] k2 pt2) pos) (sPar i j ta tb) := by
  refine ps_weak (ps_par hc hN hi hj hij hx hy (da_cons ha (da_cons hb da_nil h2) h1) hw hs) ?_
  rintro D σ H ⟨F, O, M, ss, D3, w, sl, q, k⟩
  refine ⟨F, O, M, ss, fun ts M1 => match ts with
    | [t, u] => D3.nx ((ss.set i (some t)).set j (some u)) M1
    | _ => False, w, sl, q, ?_⟩
  intro vs H1 F1 M1 ts x1 w1 r1 q1
  split at q1
  · cases r1 with
    | cons r rr =>
    cases rr with
    | cons r2 rr =>
    cases rr
    exact ⟨_, _, rfl, k.nx _ H1 F1 M1 _ x1 w1 (((sl.mono x1).set r i).set r2 j) q1⟩
  · exact q1.elim
end

/-! ### comprehensions -/
def compL (ok : Mp → Prop) (P : Pat) (tt : T3) (te : E3) (vs : List Nat) (ss0 : SS) (Q : List T → Mp → Prop) : List T → List T → Mp → Prop
  | [], acc, M => ok M ∧ Q acc M
  | t :: r, acc, M => ok M ∧ match P.set t (wipe3 ss0 vs) with
    | some ss2 => tt ss2 M fun b M3 => match b with
      | true => te ss2 M3 fun y M4 => acc.length < sizeLine ∧ compL ok P tt te vs ss0 Q r (acc ++ [y]) M4
      | false => compL ok P tt te vs ss0 Q r acc M3
    | none => False
def dYes : T3 := fun _ M Q => Q true M
def dComp (w3 : I3) (P : Pat) (tt : T3) (te : E3) (vs : List Nat) (fin : List T → QE → Mp → Prop) : E3 := fun ss M Q => w3 ss M fun S M1 => compL S.ok P tt te vs ss (fun acc M2 => fin acc Q M2) S.xs [] M1
/-- the list never changes any more -/
def finL : List T → QE → Mp → Prop := fun acc Q M => Q (.lst acc) M
def finM : List T → QE → Mp → Prop := fun acc Q M => ∀ p, M p = none → Q (.raw (.ref p)) (mset M p (.lst acc))
section
variable {X : Cx} {K : PySem.W.Frag}
theorem Wd.keepO {F O H : Hp} {M : Mp} {D : Addr} {o : HO} (w : Wd K F O H M) (h : H D = none) : Wd K F (upd O D o) (upd H D o) M := by
  have hF := w.fF h
  have hM := w.fM h
  refine ⟨fun a u e => ?_, fun a u e => ?_, fun a m e => ?_⟩
  · rw [upd_ne (ne_of_none e hF)]
    exact w.sub a u e
  · by_cases hp : a = D
    · subst hp
      rw [upd_same] at e ⊢
      exact ⟨e, hF⟩
    · rw [upd_ne hp] at e ⊢
      exact w.oth a u e
  · obtain ⟨e1, e2, u, e3, q⟩ := w.mo a m e
    have hp : a ≠ D := ne_of_none e3 h
    exact ⟨e1, by rw [upd_ne hp]; exact e2, u, by rw [upd_ne hp]; exact e3, q⟩
theorem Wd.turnO {F O H : Hp} {M : Mp} {D : Addr} {o o' : HO} (w : Wd K F (upd O D o) H M) : Wd K F (upd O D o') (upd H D o') M := by
  obtain ⟨hD, hF⟩ := w.oth D o upd_same
  refine ⟨fun a u e => ?_, fun a u e => ?_, fun a m e => ?_⟩
  · rw [upd_ne (ne_of_none e hF)]
    exact w.sub a u e
  · by_cases hp : a = D
    · subst hp
      rw [upd_same] at e ⊢
      exact ⟨e, hF⟩
    · rw [upd_ne hp] at e ⊢
      exact w.oth a u (by rw [upd_ne hp]; exact e)
  · obtain ⟨e1, e2, u, e3, q⟩ := w.mo a m e
    have hp : a ≠ D := by
      intro z
      rw [z, upd_same] at e2
      cases e2
    rw [upd_ne hp] at e2
    exact ⟨e1, by rw [upd_ne hp]; exact e2, u, by rw [upd_ne hp]; exact e3, q⟩
theorem Wd.freeO {F O H : Hp} {M : Mp} {D : Addr} {o : HO} (w : Wd K F (upd O D o) H M) (hO : O D = none) : Wd K (upd F D o) O H M := by
  obtain ⟨hD, hF⟩ := w.oth D o upd_same
  refine ⟨fun a u e => ?_, fun a u e => ?_, fun a m e => ?_⟩
  · by_cases hp : a = D
    · subst hp
      rw [upd_same] at e
      cases e
      exact hD
    · rw [upd_ne hp] at e
      exact w.sub a u e
  · have hp : a ≠ D := ne_of_none e hO
    rw [upd_ne hp]
    exact w.oth a u (by rw [upd_ne hp]; exact e)
  · obtain ⟨e1, e2, u, e3, q⟩ := w.mo a m e
    have hp : a ≠ D := by
      intro z
      rw [z, upd_same] at e2
      cases e2
    rw [upd_ne hp] at e2
    exact ⟨by rw [upd_ne hp]; exact e1, e2, u, e3, q.mono (.upd hF)⟩
theorem Wd.freeOM {F O H : Hp} {M : Mp} {D : Addr} {o : HO} {m : MO} (w : Wd K F (upd O D o) H M) (hO : O D = none) (r : RepO K F o m) : M D = none ∧ Wd K F O H (mset M D m) := by
  obtain ⟨hD, hF⟩ := w.oth D o upd_same
  have hM : M D = none := by
    cases e : M D with
    | none => rfl
    | some m' =>
      have := (w.mo D m' e).2.1
      rw [upd_same] at this
      cases this
  refine ⟨hM, fun a u e => w.sub a u e, fun a u e => ?_, fun a m' e => ?_⟩
  · have hp : a ≠ D := ne_of_none e hO
    exact w.oth a u (by rw [upd_ne hp]; exact e)
  · by_cases hp : a = D
    · subst hp
      rw [mset_same] at e
      cases e
      exact ⟨hF, hO, o, hD, r⟩
    · rw [mset_ne hp] at e
      obtain ⟨e1, e2, u, e3, q⟩ := w.mo a m' e
      rw [upd_ne hp] at e2
      exact ⟨e1, e2, u, e3, q⟩
def FinOk (K : PySem.W.Frag) (fin : List T → QE → Mp → Prop) : Prop := ∀ (F O H : Hp) (M : Mp) (D : Addr) (vs : List V) (ts : List T) (Q3 : QE) (Q : VK), Wd K F (upd O D (.lst vs)) H M → O D = none → Reps K F vs ts → fin ts Q3 M → LkV K F O Q3 Q → Q (.ref D) H
theorem fin_L : FinOk K finL := by
  intro F O H M D vs ts Q3 Q w hO r q k
  have w' := w.freeO hO
  have x : Ex F (upd F D (.lst vs)) := .upd (w.oth D _ upd_same).2
  exact k _ H _ M _ x w' (.lst upd_same (r.mono x)) q
theorem fin_M : FinOk K finM := by
  intro F O H M D vs ts Q3 Q w hO r q k
  obtain ⟨h1, w'⟩ := w.freeOM (m := .lst ts) hO (.lst r)
  exact k _ H _ _ _ .refl w' (.raw _) (q D h1)
variable {elt tg iter : Expr} {ifs : List Expr} {scope : Scope} {own : List (Str × Nat)} {pos : Pos} {w3 : I3} {P : Pat} {tt : T3} {te : E3} {fin : List T → QE → Mp → Prop}
theorem lift_comp {vs : List Nat} (hf : FinOk K fin) (hP : ∀ i ∈ P.ixs, i ∈ vs) : ∀ σ H Q, liftE K (dComp w3 P tt te vs fin) σ H Q → tLc (liftI K w3) (P.gV K) (liftT K tt) (liftE K te) vs σ H Q := by
  rintro σ H Q ⟨F, O, M, ss, Q3, w, sl, q, k⟩
  refine ⟨F, O, M, ss, _, w, sl, q, ?_⟩
  intro J H1 F1 M1 S x1 w1 so q1
  intro D hD
  have hO := w1.fO hD
  refine ⟨fun i m H' => m = S.xs.length - i ∧ i ≤ S.xs.length ∧ ∃ F' M' us acc, Ex F1 F' ∧ Wd K F' (upd O D (.lst us)) H' M' ∧ Reps K F' us acc ∧
    compL S.ok P tt te vs ss (fun acc M2 => fin acc Q3 M2) (S.xs.drop i) acc M', ⟨S.xs.length, rfl, Nat.zero_le _, F1, M1, [], [], .refl, w1.keepO hD, .nil, q1⟩, ?_⟩
  rintro i m H' ⟨rfl, hi, F', M', us, acc, x2, w2, ra, q2⟩
  have hD' := (w2.oth D _ upd_same).1
  by_cases hl : i < S.xs.length
  · rw [List.drop_eq_getElem_cons hl] at q2
    obtain ⟨ok, q2⟩ := q2
    obtain ⟨_, hgo⟩ := so F' _ H' M' x2 w2 ok i
    obtain ⟨go, hy⟩ := hgo _ (List.getElem?_eq_getElem hl)
    refine .inr ⟨go, fun H' => ∃ F' M' us acc, Ex F1 F' ∧ Wd K F' (upd O D (.lst us)) H' M' ∧ Reps K F' us acc ∧ compL S.ok P tt te vs ss (fun acc M2 => fin acc Q3 M2) (S.xs.drop (i + 1)) acc M', ?_, ?_⟩
    · rintro H'' hN
      exact ⟨S.xs.length - (i + 1), by omega, rfl, hl, hN⟩
    · intro x H'' y
      obtain ⟨F'', x3, w3', r3⟩ := hy x H'' y
      split at q2
      · rename_i ss2 e
        refine Pat.run w3' (ws := vs) r3 ((sl.mono (x1.trans (x2.trans x3))).wipe vs) e fun σ2 sl3 hw => ?_
        have wiped : wipe (wipe σ vs) vs = wipe σ vs := by
          clear hw sl3 e
          have aux : ∀ us : List Nat, (∀ i ∈ us, i ∈ vs) → wipe (wipe σ us) vs = wipe σ vs := by
            intro us
            induction us with
            | nil => intro _; rfl
            | cons u us ih =>
              intro h
              show wipe ((wipe σ us).set u none) vs = wipe σ vs
              rw [wipe_set (h u List.mem_cons_self)]
              exact ih fun j hj => h j (List.mem_cons_of_mem _ hj)
          exact aux vs fun _ h => h
        refine ⟨(hw hP).trans wiped, F'', _, M', ss2, _, w3', sl3, q2, ?_⟩
        intro b H3 F3 M3 x4 w4 q4
        cases b with
        | true =>
          rw [if_pos rfl]
          refine ⟨F3, _, M3, ss2, _, w4, sl3.mono x4, q4, ?_⟩
          intro v H4 F4 M4 t x5 w5 r5 q5
          refine ⟨us, (w5.oth D _ upd_same).1, ra.length ▸ q5.1, F4, M4, us ++ [v], acc ++ [t], x2.trans (x3.trans (x4.trans x5)), w5.turnO, ?_, q5.2⟩
          exact (ra.mono (x3.trans (x4.trans x5))).append (.cons r5 .nil)
        | false =>
          rw [if_neg Bool.false_ne_true]
          exact ⟨F3, M3, us, acc, x2.trans (x3.trans x4), w4, ra.mono (x3.trans x4), q4⟩
      · exact q2.elim
  · rw [List.drop_of_length_le (by omega)] at q2
    obtain ⟨ok, q2⟩ := q2
    obtain ⟨hst, _⟩ := so F' _ H' M' x2 w2 ok i
    exact .inl ⟨hst (by omega), hf F' O H' M' D us acc Q3 Q w2 hO ra q2 (k.mono (x1.trans x2))⟩
abbrev DTs (X : Cx) (ifs : List Expr) (tt : T3) : Prop := PTs X ifs (liftT X.K tt)
theorem dts_nil : DTs X [] dYes := ⟨fun pins s σ H Q I h => pts_nil.run pins s σ H Q I (by
  obtain ⟨F, O, M, ss, Q3, w, sl, q, k⟩ := h
  exact k true H F M .refl w q)⟩
theorem dts_one {c : Expr} (h : DT X c tt) : DTs X [c] tt := pts_one h
/-- [elt for tg in iter if ..] -/
theorem d_comp (own : List (Str × Nat)) (hf : FinOk X.K fin) (hc : X.calm = true) (hN : X.N.Nodup) (hi : DI X tg iter w3) (ok : blkC X.N X.env.scope scope own = true)
    (hg : ∀ (s : Shared) (H : Hp) (C : Addr) (cl : List (Str × Addr)) (fp : List Addr), DG (X.blk s H scope (compEnvC scope cl C X.env) fp) tg P)
    (ht : ∀ (s : Shared) (H : Hp) (C : Addr) (cl : List (Str × Addr)) (fp : List Addr), DTs (X.blk s H scope (compEnvC scope cl C X.env) fp) ifs tt)
    (he : ∀ (s : Shared) (H : Hp) (C : Addr) (cl : List (Str × Addr)) (fp : List Addr), DE (X.blk s H scope (compEnvC scope cl C X.env) fp) elt te)
    (hP : ∀ i ∈ P.ixs, i ∈ own.map (·.2) := by decide) (hs : ∀ x, foldedSetIterable iter X.env x = pure x := by intro _; rfl) :
    DE X (.ListComp elt [⟨tg, iter, ifs, 0⟩] scope pos) (dComp w3 P tt te (own.map (·.2)) fin) :=
  pe_weak (pe_lc hc hN hi (blkOk_by ok) hg ht he hs) (lift_comp hf hP)
/-- name = [..] on one line -/
theorem ds_setComp (i : Nat) {y : Str} {py spos : Pos} (own : List (Str × Nat)) (hf : FinOk X.K fin) (hc : X.calm = true) (hN : X.N.Nodup) (hy : X.N[i]? = some y) (hyl : X.env.scope.names.lookup y = some .local)
    (hsw : swapsWith (.ListComp elt [⟨tg, iter, ifs, 0⟩] scope pos) (some (.Name y py)) spos.line X.env = pure true) (hi : DI X tg iter w3) (ok : blkC X.N X.env.scope scope own = true)
    (hg : ∀ (s : Shared) (H : Hp) (C : Addr) (cl : List (Str × Addr)) (fp : List Addr), DG (X.blk s H scope (compEnvC scope cl C X.env) fp) tg P)
    (ht : ∀ (s : Shared) (H : Hp) (C : Addr) (cl : List (Str × Addr)) (fp : List Addr), DTs (X.blk s H scope (compEnvC scope cl C X.env) fp) ifs tt)
    (he : ∀ (s : Shared) (H : Hp) (C : Addr) (cl : List (Str × Addr)) (fp : List Addr), DE (X.blk s H scope (compEnvC scope cl C X.env) fp) elt te)
    (hP : ∀ i ∈ P.ixs, i ∈ own.map (·.2) := by decide) (hs : ∀ x, foldedSetIterable iter X.env x = pure x := by intro _; rfl) :
    DS X (.Assign [.Name y py] (.ListComp elt [⟨tg, iter, ifs, 0⟩] scope pos) spos) (sSet (.nm i) (dComp w3 P tt te (own.map (·.2)) fin)) := by
  refine ps_weak (ps_setLc (g := P.gV X.K) (tt := liftT X.K tt) (te := liftE X.K te) hc hN hy hyl hsw hi (blkOk_by ok) hg ht he hs) ?_
  intro D σ H h
  obtain ⟨F, O, M, ss, D3, w, sl, q, k⟩ := h
  refine lift_comp hf hP σ H _ ⟨F, O, M, ss, fun t M1 => D3.nx (ss.set i (some t)) M1, w, sl, q, ?_⟩
  intro v H1 F1 M1 t x1 w1 r1 q1
  exact k.nx _ H1 F1 M1 _ x1 w1 ((sl.mono x1).set r1 i) q1
end
end L3

set_option maxHeartbeats 1000000
/-! L3E: dicts, methods of lists and texts, repr, calls of defs, a def's promise. -/
namespace L3
open PySem PySem.Spec PyProof.Rows L2

/-! ### dicts -/
def getT (kvs : List (Key × T)) (k : Key) : Option T := (kvs.find? fun kv => decide (kv.1 = k)).map (·.2)
def putT (kvs : List (Key × T)) (k : Key) (v : T) : List (Key × T) :=
  if (kvs.any fun kv => decide (kv.1 = k)) = true then kvs.map (fun kv => if kv.1 = k then (kv.1, v) else kv) else kvs ++ [(k, v)]
def mergeT (kvs more : List (Key × T)) : List (Key × T) := more.foldl (fun acc kv => putT acc kv.1 kv.2) kvs
def keyT : T → Option Key
  | .int i => some (.inl i)
  | .str s => some (.inr s)
  | _ => none
section
variable {K : PySem.W.Frag} {F O H : Hp} {M : Mp}
theorem keyT_ok {x : V} {t : T} {k : Key} (r : Rep K F x t) (h : keyT t = some k) : x = kV k := by
  unfold keyT at h
  split at h
  · cases r; cases h; rfl
  · cases r; cases h; rfl
  · cases h
theorem RepKV.get : ∀ {vs : List (Key × V)} {ts : List (Key × T)} {k : Key}, RepKV K F vs ts → (∀ {t : T}, getT ts k = some t → ∃ v, valV vs k = some v ∧ Rep K F v t) ∧ (getT ts k = none → valV vs k = none)
  | _, _, k, .nil => ⟨fun h => (nomatch h), fun _ => rfl⟩
  | _, _, k, .cons (k := j) (v := v) (t := t) (vs := us) (ts := ws) h r => by
    by_cases e : j = k
    · have e1 : getT ((j, t) :: ws) k = some t := by unfold getT; rw [List.find?_cons_of_pos (by simpa using e)]; rfl
      rw [e1]
      refine ⟨fun {t'} h' => ?_, fun h' => nomatch h'⟩
      cases h'
      exact ⟨v, valV_pos e, h⟩
    · have e1 : getT ((j, t) :: ws) k = getT ws k := by unfold getT; rw [List.find?_cons_of_neg (by simpa using e)]
      have ih := RepKV.get (k := k) r
      rw [e1, valV_neg (show ¬ (j, v).1 = k from e)]
      exact ih
theorem RepKV.any : ∀ {vs : List (Key × V)} {ts : List (Key × T)} {k : Key}, RepKV K F vs ts → (vs.any fun kv => decide (kv.1 = k)) = (ts.any fun kv => decide (kv.1 = k))
  | _, _, k, .nil => rfl
  | _, _, k, .cons h r => by
    rw [List.any_cons, List.any_cons, RepKV.any r]
theorem RepKV.repl {v : V} {t : T} (q : Rep K F v t) : ∀ {vs : List (Key × V)} {ts : List (Key × T)} {k : Key}, RepKV K F vs ts → RepKV K F (vs.map fun kv => if kv.1 = k then (kv.1, v) else kv) (ts.map fun kv => if kv.1 = k then (kv.1, t) else kv)
  | _, _, k, .nil => .nil
  | _, _, k, .cons (k := j) h r => by
    rw [List.map_cons, List.map_cons]
    by_cases e : j = k
    · rw [if_pos e, if_pos e]
      exact .cons q (RepKV.repl q r)
    · rw [if_neg e, if_neg e]
      exact .cons h (RepKV.repl q r)
theorem RepKV.snoc {k : Key} {v : V} {t : T} (q : Rep K F v t) : ∀ {vs : List (Key × V)} {ts : List (Key × T)}, RepKV K F vs ts → RepKV K F (vs ++ [(k, v)]) (ts ++ [(k, t)])
  | _, _, .nil => .cons q .nil
  | _, _, .cons h r => .cons h (RepKV.snoc q r)
theorem RepKV.put {v : V} {t : T} (q : Rep K F v t) {vs : List (Key × V)} {ts : List (Key × T)} {k : Key} (r : RepKV K F vs ts) : RepKV K F (putK vs k v) (putT ts k t) := by
  unfold putK putT
  rw [r.any]
  split
  · exact r.repl q
  · exact r.snoc q
theorem RepKV.merge : ∀ {more : List (Key × V)} {mt : List (Key × T)} {vs : List (Key × V)} {ts : List (Key × T)}, RepKV K F more mt → RepKV K F vs ts → RepKV K F (mergeK vs more) (mergeT ts mt)
  | _, _, _, _, .nil, q => q
  | _, _, _, _, .cons (k := k) (v := v) (t := t) (vs := more) (ts := mt) h r, q => by
    show RepKV K F (mergeK (putK _ k v) more) (mergeT (putT _ k t) mt)
    exact RepKV.merge r (q.put h)
end
section
variable {X : Cx} {K : PySem.W.Frag} {o i e value : Expr} {es : List Expr} {td ty tv te ta : E3} {tl : A3} {pos pos' : Pos}
def oDGet (x y : T) (Q : QE) (M : Mp) : Prop := match look x M, keyT y with
  | .dic kvs, some k => (match getT kvs k with | some t => Q t M | none => False)
  | _, _ => False
theorem d_dget (hu : X.A.units + 1 < cLine) (ho : DE X o td) (hi : DE X i ty) (hs : NoSl i) : DE X (.Subscript o i pos) (dOp2 oDGet td ty) := by
  refine pe_weak (pe_dget hu ho hi hs) ?_
  rintro σ H Q ⟨F, O, M, ss, Q3, w, sl, q, k⟩
  refine ⟨F, O, M, ss, _, w, sl, q, ?_⟩
  intro v H1 F1 M1 t x1 w1 r1 q1
  refine ⟨F1, O, M1, ss, _, w1, sl.mono x1, q1, ?_⟩
  intro u H2 F2 M2 t2 x2 w2 r2 q2
  unfold oDGet at q2
  have sx := (r1.mono x2).sees w2
  split at q2
  · rename_i kvs kk e1 e2
    rw [e1] at sx
    split at q2
    · rename_i t' e3
      cases sx with
      | dic hx px =>
      obtain ⟨v', e4, r4⟩ := (px.get (k := kk)).1 e3
      have := keyT_ok r2 e2
      subst this
      exact ⟨_, v', rfl, e4 ▸ DGet.k hx, fin_flat w2 (k.mono (x1.trans x2)) r4 q2⟩
    · exact q2.elim
  · exact q2.elim
/-- y in d, y not in d, d a dict -/
def oDIn (neg : Bool) (y x : T) (Q : QE) (M : Mp) : Prop := match look x M, keyT y with
  | .dic kvs, some k => Q (.bl (if neg then !(getT kvs k).isSome else (getT kvs k).isSome)) M
  | _, _ => False
theorem RepKV.some_eq {F : Hp} {vs : List (Key × V)} {ts : List (Key × T)} {k : Key} (r : RepKV K F vs ts) : (valV vs k).isSome = (getT ts k).isSome := by
  cases e : getT ts k with
  | none => rw [(r.get (k := k)).2 e]; rfl
  | some t => obtain ⟨v, e2, _⟩ := (r.get (k := k)).1 e; rw [e2]; rfl
theorem d_din (hu : X.A.units + 1 < cLine) (hi : DE X i ty) (ho : DE X o td) (hm : behindInMarks .In o = false) : DE X (.Compare i [.In] [o] pos) (dOp2 (oDIn false) ty td) := by
  refine pe_weak (pe_cmp (pc_din hu hi ho) hm) ?_
  rintro σ H Q ⟨F, O, M, ss, Q3, w, sl, q, k⟩
  refine ⟨F, O, M, ss, _, w, sl, q, ?_⟩
  intro v H1 F1 M1 t x1 w1 r1 q1
  refine ⟨F1, O, M1, ss, _, w1, sl.mono x1, q1, ?_⟩
  intro u H2 F2 M2 t2 x2 w2 r2 q2
  unfold oDIn at q2
  have sx := r2.sees w2
  split at q2
  · rename_i kvs kk e1 e2
    rw [e1] at sx
    cases sx with
    | dic hx px =>
    have := keyT_ok (r1.mono x2) e2
    subst this
    refine ⟨_, _, rfl, DGet.k hx, fin_flat w2 (k.mono (x1.trans x2)) (.bl _) ?_⟩
    rw [px.some_eq]
    exact q2
  · exact q2.elim
theorem d_dnotin (hu : X.A.units + 1 < cLine) (hi : DE X i ty) (ho : DE X o td) (hm : behindInMarks .NotIn o = false) : DE X (.Compare i [.NotIn] [o] pos) (dOp2 (oDIn true) ty td) := by
  refine pe_weak (pe_cmp (pc_dnotin hu hi ho) hm) ?_
  rintro σ H Q ⟨F, O, M, ss, Q3, w, sl, q, k⟩
  refine ⟨F, O, M, ss, _, w, sl, q, ?_⟩
  intro v H1 F1 M1 t x1 w1 r1 q1
  refine ⟨F1, O, M1, ss, _, w1, sl.mono x1, q1, ?_⟩
  intro u H2 F2 M2 t2 x2 w2 r2 q2
  unfold oDIn at q2
  have sx := r2.sees w2
  split at q2
  · rename_i kvs kk e1 e2
    rw [e1] at sx
    cases sx with
    | dic hx px =>
    have := keyT_ok (r1.mono x2) e2
    subst this
    refine ⟨_, _, rfl, DGet.k hx, fin_flat w2 (k.mono (x1.trans x2)) (.bl _) ?_⟩
    rw [px.some_eq]
    exact q2
  · exact q2.elim
/-- d[y] = v -/
def sPut (td ty tv : E3) : S3 := fun D ss M => tv ss M fun v M1 => td ss M1 fun x M2 => ty ss M2 fun y M3 => match x, keyT y with
  | .raw (.ref a), some k => (match M3 a with
    | some (.dct kvs) => kvs.length < sizeLine ∧ D.nx ss (mset M3 a (.dct (putT kvs k v)))
    | _ => False)
  | _, _ => False
theorem ds_dput (hu : X.A.units + 1 < cLine) (ho : DE X o td) (hi : DE X i ty) (hv : DE X value tv) (hs : swapsWith value (some (.Subscript o i pos')) pos.line X.env = pure false := by rfl) :
    DS X (.Assign [.Subscript o i pos'] value pos) (sPut td ty tv) := by
  refine ps_weak (ps_dput hu ho hi hv hs) ?_
  rintro D σ H ⟨F, O, M, ss, D3, w, sl, q, k⟩
  refine ⟨F, O, M, ss, _, w, sl, q, ?_⟩
  intro v H1 F1 M1 t x1 w1 r1 q1
  refine ⟨F1, O, M1, ss, _, w1, sl.mono x1, q1, ?_⟩
  intro u H2 F2 M2 t2 x2 w2 r2 q2
  refine ⟨F2, O, M2, ss, _, w2, sl.mono (x1.trans x2), q2, ?_⟩
  intro y H3 F3 M3 t3 x3 w3 r3 q3
  split at q3
  · rename_i a kk e2
    split at q3
    · rename_i kvs e3
      cases r2
      have := keyT_ok r3 e2
      subst this
      obtain ⟨_, _, ho, e4, ro⟩ := w3.mo a _ e3
      cases ro with
      | dct rk =>
      exact ⟨a, _, rfl, DPut.k e4 (by rw [rk.length]; exact q3.1), k.nx σ _ F3 _ ss (x1.trans (x2.trans x3)) (w3.write e3 (.dct (rk.put (r1.mono (x2.trans x3))))) (sl.mono (x1.trans (x2.trans x3))) q3.2⟩
    · exact q3.elim
  · exact q3.elim
/-- the pairs of a display -/
def dPairs : List (E3 × E3) → SS → Mp → (List (T × T) → Mp → Prop) → Prop
  | [], _, M, Q => Q [] M
  | (tk, tv) :: r, ss, M, Q => tk ss M fun x M1 => tv ss M1 fun y M2 => dPairs r ss M2 fun ps M3 => Q ((x, y) :: ps) M3
def keysT : List (T × T) → Option (List (Key × T))
  | [] => some []
  | (x, y) :: r => match keyT x, keysT r with
    | some k, some s => some ((k, y) :: s)
    | _, _ => none
def dDisp (trs : List (E3 × E3)) : E3 := fun ss M Q => dPairs trs ss M fun ps M1 => match keysT ps with
  | some kvs => kvs.length ≤ 15 ∧ Q (.dic (mergeT [] kvs)) M1
  | none => False
def dDispM (trs : List (E3 × E3)) : E3 := fun ss M Q => dPairs trs ss M fun ps M1 => match keysT ps with
  | some kvs => kvs.length ≤ 15 ∧ ∀ p, M1 p = none → Q (.raw (.ref p)) (mset M1 p (.dct (mergeT [] kvs)))
  | none => False
inductive RepPs (K : PySem.W.Frag) (F : Hp) : List (V × V) → List (T × T) → Prop
  | nil : RepPs K F [] []
  | cons {x y : V} {t u : T} {ps : List (V × V)} {ts : List (T × T)} : Rep K F x t → Rep K F y u → RepPs K F ps ts → RepPs K F ((x, y) :: ps) ((t, u) :: ts)
theorem RepPs.keys {F : Hp} : ∀ {ps : List (V × V)} {ts : List (T × T)} {kvs : List (Key × T)}, RepPs K F ps ts → keysT ts = some kvs → ∃ vs : List (Key × V), ps = vs.map (fun kv => (kV kv.1, kv.2)) ∧ RepKV K F vs kvs
  | _, _, kvs, .nil, h => by cases h; exact ⟨[], rfl, .nil⟩
  | _, _, kvs, .cons hx hy r, h => by
    unfold keysT at h
    split at h
    · rename_i k s e1 e2
      cases h
      obtain ⟨vs, e3, r3⟩ := RepPs.keys r e2
      have := keyT_ok hx e1
      subst this
      subst e3
      exact ⟨(k, _) :: vs, rfl, .cons hy r3⟩
    · cases h
theorem lift_pairs {F0 O : Hp} {σ : L2.St} {ss : SS} {R : List (V × V) → Hp → Prop} : ∀ {trs : List (E3 × E3)} {F H : Hp} {M : Mp} {Q3 : List (T × T) → Mp → Prop}, Ex F0 F → Wd K F O H M → SlR K F σ ss → dPairs trs ss M Q3 →
    (∀ ps H' F' M' ts, Ex F F' → Wd K F' O H' M' → RepPs K F' ps ts → Q3 ts M' → R ps H') → tPairs (trs.map fun p => (liftE K p.1, liftE K p.2)) σ H R
  | [], F, H, M, Q3, x, w, sl, q, k => k [] H F M [] .refl w .nil q
  | (tk, tv) :: r, F, H, M, Q3, x, w, sl, q, k => by
    refine ⟨F, O, M, ss, _, w, sl, q, ?_⟩
    intro v H1 F1 M1 t x1 w1 r1 q1
    refine ⟨F1, O, M1, ss, _, w1, sl.mono x1, q1, ?_⟩
    intro u H2 F2 M2 t2 x2 w2 r2 q2
    refine lift_pairs (x.trans (x1.trans x2)) w2 (sl.mono (x1.trans x2)) q2 ?_
    intro ps H3 F3 M3 ts x3 w3 r3 q3
    exact k _ H3 F3 M3 _ (x1.trans (x2.trans x3)) w3 (.cons (r1.mono (x2.trans x3)) (r2.mono x3) r3) q3
abbrev DPs (X : Cx) (pos : Pos) (keys : List (Option Expr)) (values : List Expr) (trs : List (E3 × E3)) : Prop := PPs X pos keys values (trs.map fun p => (liftE X.K p.1, liftE X.K p.2))
theorem dps_nil : DPs X pos [] [] [] := pps_nil
theorem dps_cons {k v : Expr} {ks : List (Option Expr)} {vs : List Expr} {tk tv : E3} {trs : List (E3 × E3)} (hk : DE X k tk) (hv : DE X v tv) (hr : DPs X pos ks vs trs) : DPs X pos (some k :: ks) (v :: vs) ((tk, tv) :: trs) := pps_cons hk hv hr
theorem Wd.freeW {F O H : Hp} {M : Mp} {D : Addr} {o o' : HO} (w : Wd K F (upd O D o) H M) (hO : O D = none) : Wd K (upd F D o') O (upd H D o') M := (w.turnO (o' := o')).freeO hO
theorem d_disp {keys : List (Option Expr)} {values : List Expr} {trs : List (E3 × E3)} (h : DPs X pos keys values trs) (hall : keys.all (·.isSome) = true := by rfl) (hl : keys.length = values.length := by rfl) (h0 : keys ≠ [] := by intro z; cases z)
    (h15 : keys.length ≤ 15 := by decide) : DE X (.Dict keys values pos) (dDisp trs) := by
  refine pe_weak (pe_disp h hall hl h0 h15) ?_
  rintro σ H Q ⟨F, O, M, ss, Q3, w, sl, q, k⟩ p hp
  have hO := w.fO hp
  refine lift_pairs .refl (w.keepO hp) sl q ?_
  intro ps H1 F1 M1 ts x1 w1 r1 q1
  split at q1
  · rename_i kvs e1
    obtain ⟨vs, e2, r2⟩ := r1.keys e1
    obtain ⟨hD, hF⟩ := w1.oth p _ upd_same
    refine ⟨hD, vs, e2, by rw [r2.length]; exact q1.1, ?_⟩
    have x2 : Ex F1 (upd F1 p (.dK (mergeK [] vs))) := .upd hF
    exact k _ _ _ M1 _ (x1.trans x2) (w1.freeW hO) (.dic upd_same (RepKV.mono x2 (RepKV.merge r2 .nil))) q1.2
  · exact q1.elim
theorem d_dispM {keys : List (Option Expr)} {values : List Expr} {trs : List (E3 × E3)} (h : DPs X pos keys values trs) (hall : keys.all (·.isSome) = true := by rfl) (hl : keys.length = values.length := by rfl) (h0 : keys ≠ [] := by intro z; cases z)
    (h15 : keys.length ≤ 15 := by decide) : DE X (.Dict keys values pos) (dDispM trs) := by
  refine pe_weak (pe_disp h hall hl h0 h15) ?_
  rintro σ H Q ⟨F, O, M, ss, Q3, w, sl, q, k⟩ p hp
  have hO := w.fO hp
  refine lift_pairs .refl (w.keepO hp) sl q ?_
  intro ps H1 F1 M1 ts x1 w1 r1 q1
  split at q1
  · rename_i kvs e1
    obtain ⟨vs, e2, r2⟩ := r1.keys e1
    obtain ⟨hD, hF⟩ := w1.oth p _ upd_same
    refine ⟨hD, vs, e2, by rw [r2.length]; exact q1.1, ?_⟩
    obtain ⟨h3, w3⟩ := (w1.turnO (o' := .dK (mergeK [] vs))).freeOM hO (.dct (RepKV.merge r2 .nil))
    exact k _ _ _ _ _ x1 w3 (.raw _) (q1.2 p h3)
  · exact q1.elim
/-- {} -/
def dNewD : E3 := fun _ M Q => Q (.dic []) M
def dNewDM : E3 := fun _ M Q => ∀ p, M p = none → Q (.raw (.ref p)) (mset M p (.dct []))
theorem d_newD : DE X (.Dict [] [] pos) dNewD := by
  refine pe_weak pe_dnewK ?_
  rintro σ H Q ⟨F, O, M, ss, Q3, w, sl, q, k⟩
  exact fin_new w k (fun F' p x e => .dic e .nil) q
theorem d_newDM : DE X (.Dict [] [] pos) dNewDM := by
  refine pe_weak pe_dnewK ?_
  rintro σ H Q ⟨F, O, M, ss, Q3, w, sl, q, k⟩
  exact fin_newM w k (.dct .nil) q

/-! ### methods of lists -/
def isL (x : T) (M : Mp) : Prop := match look x M with | .lst _ => True | _ => False
/-- o.m(e, ..) of a list that changes -/
def dLm (R : T → List T → QE → Mp → Prop) (te : E3) (tl : A3) : E3 := fun ss M Q => te ss M fun x M1 => isL x M1 ∧ tl ss M1 fun ts M2 => R x ts Q M2
def mAppend (x : T) (ts : List T) (Q : QE) (M : Mp) : Prop := match x, ts with
  | .raw (.ref a), [y] => (match M a with
    | some (.lst xs) => xs.length < sizeLine ∧ Q .non (mset M a (.lst (xs ++ [y])))
    | _ => False)
  | _, _ => False
def MtD (K : PySem.W.Frag) (r : V → List V → Hp → VK → Prop) (R : T → List T → QE → Mp → Prop) : Prop :=
  ∀ (F O H : Hp) (M : Mp) (x : V) (t : T) (vs : List V) (ts : List T) (Q3 : QE) (Q : VK), Wd K F O H M → Rep K F x t → Reps K F vs ts → R t ts Q3 M → LkV K F O Q3 Q → r x vs H Q
theorem isL_ok {F O H : Hp} {M : Mp} (w : Wd K F O H M) {v : V} {t : T} (r : Rep K F v t) (h : isL t M) : tyV K "list" v H := by
  unfold isL at h
  have s := r.sees w
  split at h
  · rename_i e
    rw [e] at s
    cases s with
    | lst hx px => exact .inl ⟨rfl, _, .of hx⟩
  · exact h.elim
theorem d_lm {name : Str} {id : String} {apos cpos : Pos} {r : V → List V → Hp → VK → Prop} {R : T → List T → QE → Mp → Prop} (slot : Slot "list" name id) (hty : typeOf (.builtin id) = pure (.type "method_descriptor")) (hm : MtR X id r) (h : MtD X.K r R)
    (ho : DE X o te) (ha : DA X (e :: es) tl) (hbase : attributeBase o name X.env (eval o X.env) = eval o X.env := by rfl)
    (hfew : ((backTo cpos (starEach (e :: es) X.env)).all (fun x => !x.1) && (backToKw cpos (keywordEach [] X.env)).all (fun x => x.1.isSome)
      && decide ((e :: es).length + ([] : List Keyword).length + (if ([] : List Keyword).isEmpty then 0 else 1) < 30)) = true := by rfl)
    (hline : (apos.endLine == cpos.line) = true := by rfl) (hs : starEach (e :: es) X.env = (false, eval e X.env) :: starEach es X.env := by rfl) (hplain : (backTo cpos (starEach es X.env)).any (·.1) = false := by rfl) :
    DE X (.Call (.Attribute o name apos) (e :: es) [] cpos) (dLm R te tl) := by
  refine pe_weak (pe_bm PySem.F.plainAttrs_list slot hty hm ho ha hbase hfew hline hs hplain) ?_
  rintro σ H Q ⟨F, O, M, ss, Q3, w, sl, q, k⟩
  refine ⟨F, O, M, ss, _, w, sl, q, ?_⟩
  rintro v H1 F1 M1 t x1 w1 r1 ⟨c1, q1⟩
  refine ⟨isL_ok w1 r1 c1, F1, O, M1, ss, _, w1, sl.mono x1, q1, ?_⟩
  intro vs H2 F2 M2 ts x2 w2 r2 q2
  exact h F2 O H2 M2 v t vs ts Q3 Q w2 (r1.mono x2) r2 q2 (k.mono (x1.trans x2))
/-- o.m() -/
def dLm0 (R : T → List T → QE → Mp → Prop) (te : E3) : E3 := fun ss M Q => te ss M fun x M1 => isL x M1 ∧ R x [] Q M1
theorem d_lm0 {name : Str} {id : String} {apos cpos : Pos} {r : V → List V → Hp → VK → Prop} {R : T → List T → QE → Mp → Prop} (slot : Slot "list" name id) (hty : typeOf (.builtin id) = pure (.type "method_descriptor")) (hm : MtR X id r) (h : MtD X.K r R)
    (ho : DE X o te) (hbase : attributeBase o name X.env (eval o X.env) = eval o X.env := by rfl) (hline : (apos.endLine == cpos.line) = true := by rfl) :
    DE X (.Call (.Attribute o name apos) [] [] cpos) (dLm0 R te) := by
  refine pe_weak (pe_bm0 PySem.F.plainAttrs_list slot hty hm ho hbase hline) ?_
  rintro σ H Q ⟨F, O, M, ss, Q3, w, sl, q, k⟩
  refine ⟨F, O, M, ss, _, w, sl, q, ?_⟩
  rintro v H1 F1 M1 t x1 w1 r1 ⟨c1, q1⟩
  exact ⟨isL_ok w1 r1 c1, h F1 O H1 M1 v t [] [] Q3 Q w1 r1 .nil q1 (k.mono x1)⟩
theorem md_append : MtD K rAppend mAppend := by
  intro F O H M x t vs ts Q3 Q w rx rs q k
  unfold mAppend at q
  split at q
  · rename_i a y
    cases rx
    cases rs with
    | cons ry rn =>
    cases rn
    split at q
    · rename_i xs e1
      obtain ⟨_, _, ho, e2, ro⟩ := w.mo a _ e1
      cases ro with
      | lst rl =>
      exact ⟨a, _, _, rfl, rfl, e2, by rw [rl.length]; exact q.1, k _ _ F _ _ .refl (w.write e1 (.lst (rl.append (.cons ry .nil)))) .non q.2⟩
    · exact q.elim
  · exact q.elim
def mPop (x : T) (ts : List T) (Q : QE) (M : Mp) : Prop := match x, ts with
  | .raw (.ref a), [] => (match M a with
    | some (.lst xs) => (match xs[xs.length - 1]? with | some t => Q t (mset M a (.lst xs.dropLast)) | none => False)
    | _ => False)
  | _, _ => False
theorem Reps.dropLast {F : Hp} {vs : List V} {ts : List T} (r : Reps K F vs ts) : Reps K F vs.dropLast ts.dropLast := by
  rw [List.dropLast_eq_take, List.dropLast_eq_take, r.length]
  exact r.take _
theorem md_pop : MtD K rPop mPop := by
  intro F O H M x t vs ts Q3 Q w rx rs q k
  unfold mPop at q
  split at q
  · rename_i a
    cases rx
    cases rs
    split at q
    · rename_i xs e1
      obtain ⟨_, _, ho, e2, ro⟩ := w.mo a _ e1
      cases ro with
      | lst rl =>
      split at q
      · rename_i t' e3
        obtain ⟨v, e4, rv⟩ := rl.get e3
        exact ⟨a, _, v, rfl, rfl, e2, by rw [rl.length]; exact e4, k _ _ F _ _ .refl (w.write e1 (.lst rl.dropLast)) rv q⟩
      · exact q.elim
    · exact q.elim
  · exact q.elim
theorem d_append {apos cpos : Pos} (ho : DE X o te) (ha : DA X [e] tl) (hbase : attributeBase o "append" X.env (eval o X.env) = eval o X.env := by rfl)
    (hfew : ((backTo cpos (starEach [e] X.env)).all (fun x => !x.1) && (backToKw cpos (keywordEach [] X.env)).all (fun x => x.1.isSome)
      && decide (([e] : List Expr).length + ([] : List Keyword).length + (if ([] : List Keyword).isEmpty then 0 else 1) < 30)) = true := by rfl)
    (hline : (apos.endLine == cpos.line) = true := by rfl) (hs : starEach [e] X.env = (false, eval e X.env) :: starEach [] X.env := by rfl) :
    DE X (.Call (.Attribute o "append" apos) [e] [] cpos) (dLm mAppend te tl) := d_lm PySem.F.slot_list_append PySem.F.type_list_append mt_append md_append ho ha hbase hfew hline hs rfl
theorem d_pop {apos cpos : Pos} (ho : DE X o te) (hbase : attributeBase o "pop" X.env (eval o X.env) = eval o X.env := by rfl) (hline : (apos.endLine == cpos.line) = true := by rfl) :
    DE X (.Call (.Attribute o "pop" apos) [] [] cpos) (dLm0 mPop te) := d_lm0 PySem.F.slot_list_pop PySem.F.type_list_pop mt_pop md_pop ho hbase hline
/-! ### methods of texts -/
def isS (x : T) : Prop := match x with | .str _ => True | _ => False
def dSm (R : T → List T → QE → Mp → Prop) (te : E3) (tl : A3) : E3 := fun ss M Q => te ss M fun x M1 => isS x ∧ tl ss M1 fun ts M2 => R x ts Q M2
theorem isS_ok {F H : Hp} {v : V} {t : T} (r : Rep K F v t) (h : isS t) : tyV K "str" v H := by
  unfold isS at h
  split at h
  · cases r; rfl
  · exact h.elim
theorem d_sm {name : Str} {id : String} {apos cpos : Pos} {r : V → List V → Hp → VK → Prop} {R : T → List T → QE → Mp → Prop} (slot : Slot "str" name id) (hty : typeOf (.builtin id) = pure (.type "method_descriptor")) (hm : MtR X id r) (h : MtD X.K r R)
    (ho : DE X o te) (ha : DA X (e :: es) tl) (hbase : attributeBase o name X.env (eval o X.env) = eval o X.env := by rfl)
    (hfew : ((backTo cpos (starEach (e :: es) X.env)).all (fun x => !x.1) && (backToKw cpos (keywordEach [] X.env)).all (fun x => x.1.isSome)
      && decide ((e :: es).length + ([] : List Keyword).length + (if ([] : List Keyword).isEmpty then 0 else 1) < 30)) = true := by rfl)
    (hline : (apos.endLine == cpos.line) = true := by rfl) (hs : starEach (e :: es) X.env = (false, eval e X.env) :: starEach es X.env := by rfl) (hplain : (backTo cpos (starEach es X.env)).any (·.1) = false := by rfl) :
    DE X (.Call (.Attribute o name apos) (e :: es) [] cpos) (dSm R te tl) := by
  refine pe_weak (pe_bm PySem.F.plainAttrs_str slot hty hm ho ha hbase hfew hline hs hplain) ?_
  rintro σ H Q ⟨F, O, M, ss, Q3, w, sl, q, k⟩
  refine ⟨F, O, M, ss, _, w, sl, q, ?_⟩
  rintro v H1 F1 M1 t x1 w1 r1 ⟨c1, q1⟩
  refine ⟨isS_ok r1 c1, F1, O, M1, ss, _, w1, sl.mono x1, q1, ?_⟩
  intro vs H2 F2 M2 ts x2 w2 r2 q2
  exact h F2 O H2 M2 v t vs ts Q3 Q w2 (r1.mono x2) r2 q2 (k.mono (x1.trans x2))
def strsT : List T → Option (List Str)
  | [] => some []
  | .str b :: r => (strsT r).map (b :: ·)
  | _ => none
theorem strs_eq : ∀ {ts : List T} {bs : List Str}, strsT ts = some bs → ts = bs.map T.str
  | [], bs, h => by cases h; rfl
  | t :: r, bs, h => by
    unfold strsT at h
    split at h
    · rename_i e; cases e
    · rename_i e
      cases e
      obtain ⟨cs, e1, e2⟩ := Option.map_eq_some_iff.mp h
      subst e2
      rw [List.map_cons, strs_eq e1]
    · cases h
def mJoin (x : T) (ts : List T) (Q : QE) (M : Mp) : Prop := match x, ts with
  | .str a, [y] => (match seqOf (look y M) with
    | some xs => (match strsT xs with | some ys => (ys.map (·.length)).sum + ys.length * a.length ≤ 16777216 ∧ Q (.str (Txt.join a ys)) M | none => False)
    | none => False)
  | _, _ => False
theorem md_join : MtD K (fun x xs H Q => ∃ a p, ∃ ys : List Str, x = .str a ∧ xs = [.ref p] ∧ (SqL K H p (ys.map V.str) ∨ SqT K H p (ys.map V.str)) ∧
    (ys.map (·.length)).sum + ys.length * a.length ≤ 16777216 ∧ Q (.str (Txt.join a ys)) H) mJoin := by
  intro F O H M x t vs ts Q3 Q w rx rs q k
  unfold mJoin at q
  split at q
  · rename_i a y
    cases rx
    cases rs with
    | cons ry rn =>
    cases rn
    split at q
    · rename_i xs e1
      split at q
      · rename_i ys e2
        obtain ⟨p, us, rfl, hq, px⟩ := (ry.sees w).seq w e1
        have e3 := strs_eq e2
        subst e3
        have e4 := px.strs
        subst e4
        exact ⟨a, p, ys, rfl, rfl, hq, q.1, fin_flat w k (.str _) q.2⟩
      · exact q.elim
    · exact q.elim
  · exact q.elim
theorem d_join {apos cpos : Pos} (ho : DE X o te) (ha : DA X [e] tl) (hbase : attributeBase o "join" X.env (eval o X.env) = eval o X.env := by rfl)
    (hfew : ((backTo cpos (starEach [e] X.env)).all (fun x => !x.1) && (backToKw cpos (keywordEach [] X.env)).all (fun x => x.1.isSome)
      && decide (([e] : List Expr).length + ([] : List Keyword).length + (if ([] : List Keyword).isEmpty then 0 else 1) < 30)) = true := by rfl)
    (hline : (apos.endLine == cpos.line) = true := by rfl) (hs : starEach [e] X.env = (false, eval e X.env) :: starEach [] X.env := by rfl) :
    DE X (.Call (.Attribute o "join" apos) [e] [] cpos) (dSm mJoin te tl) := d_sm PySem.F.slot_str_join PySem.F.type_str_join mt_join md_join ho ha hbase hfew hline hs rfl
end

/-! ### in, not in: a sign in a text, a flat value in a list or tuple -/
section
variable {X : Cx} {K : PySem.W.Frag} {a b : Expr} {ta tb : E3} {pos : Pos}
def oInS (neg : Bool) (x y : T) (Q : QE) (M : Mp) : Prop := match x, y with
  | .str s, .str z => (match s.cps.toList with | [c] => Q (.bl (if neg then !decide (c ∈ z.cps.toList) else decide (c ∈ z.cps.toList))) M | _ => False)
  | _, _ => False
theorem one_sign {s : Str} {c : Nat} (h : s.cps.toList = [c]) : s = ⟨#[c]⟩ := by
  obtain ⟨⟨l⟩⟩ := s
  have h' : l = [c] := h
  subst h'
  rfl
theorem od_inS : OpD K (fun x y H Q => ∃ (c : Nat) (z : Str), x = .str ⟨#[c]⟩ ∧ y = .str z ∧ Q (.bl (decide (c ∈ z.cps.toList))) H) (oInS false) := by
  intro F O H M x y t u Q3 Q w rx ry q k
  unfold oInS at q
  split at q
  · split at q
    · rename_i c e
      cases rx; cases ry
      exact ⟨c, _, by rw [one_sign e], rfl, fin_flat w k (.bl _) q⟩
    · exact q.elim
  · exact q.elim
theorem od_ninS : OpD K (fun x y H Q => ∃ (c : Nat) (z : Str), x = .str ⟨#[c]⟩ ∧ y = .str z ∧ Q (.bl (!decide (c ∈ z.cps.toList))) H) (oInS true) := by
  intro F O H M x y t u Q3 Q w rx ry q k
  unfold oInS at q
  split at q
  · split at q
    · rename_i c e
      cases rx; cases ry
      exact ⟨c, _, by rw [one_sign e], rfl, fin_flat w k (.bl _) q⟩
    · exact q.elim
  · exact q.elim
theorem d_inS (ha : DE X a ta) (hb : DE X b tb) (hm : behindInMarks .In b = false) : DE X (.Compare a [.In] [b] pos) (dOp2 (oInS false) ta tb) := d_cmp op_in_sign od_inS ha hb hm
theorem d_ninS (ha : DE X a ta) (hb : DE X b tb) (hm : behindInMarks .NotIn b = false) : DE X (.Compare a [.NotIn] [b] pos) (dOp2 (oInS true) ta tb) := d_cmp op_notIn_sign od_ninS ha hb hm
/-- a flat value among flat values -/
def eqF : T → T → Bool
  | .non, .non => true
  | .bl a, .bl b => a == b
  | .bl a, .int j => (if a then 1 else 0) == j
  | .int i, .bl b => i == (if b then 1 else 0)
  | .int i, .int j => i == j
  | .str a, .str b => a == b
  | _, _ => false
def flatT : T → Bool
  | .non => true | .bl _ => true | .int _ => true | .str _ => true | _ => false
theorem flatT_ok {F O H : Hp} {M : Mp} {v : V} {t : T} (r : Rep K F v t) (h : flatT t = true) : flatV v = true := by
  cases r <;> first | rfl | cases h
theorem eqF_ok {F : Hp} {v u : V} {t s : T} (r : Rep K F v t) (q : Rep K F u s) (h : flatT t = true) (h' : flatT s = true) : eqV v u = eqF t s := by
  cases r <;> first | (cases h; done) | (cases q <;> first | rfl | (cases h'; done))
def inT (x : T) (xs : List T) : Bool := xs.any fun y => eqF y x
theorem inT_ok {F : Hp} {x : V} {t : T} (r : Rep K F x t) (h : flatT t = true) : ∀ {vs : List V} {ts : List T}, Reps K F vs ts → ts.all flatT = true → vs.all flatV = true ∧ inV x vs = inT t ts
  | _, _, .nil, _ => ⟨rfl, rfl⟩
  | _, _, .cons q rs, e => by
    rw [List.all_cons, Bool.and_eq_true] at e
    obtain ⟨h1, h2⟩ := inT_ok r h rs e.2
    refine ⟨by rw [List.all_cons, flatT_ok (F := F) (O := F) (H := F) (M := fun _ => none) q e.1, h1]; rfl, ?_⟩
    unfold inV inT at *
    rw [List.any_cons, List.any_cons, eqF_ok q r e.1 h, h2]
def oIn (neg : Bool) (x y : T) (Q : QE) (M : Mp) : Prop := match seqOf (look y M) with
  | some xs => flatT x = true ∧ xs.all flatT = true ∧ Q (.bl (if neg then !inT x xs else inT x xs)) M
  | none => False
theorem od_in {neg : Bool} : OpD K (rIn K neg) (oIn neg) := by
  intro F O H M x y t u Q3 Q w rx ry q k
  unfold oIn at q
  split at q
  · rename_i xs e
    obtain ⟨p, us, rfl, hq, px⟩ := (ry.sees w).seq w e
    obtain ⟨f1, f2, q⟩ := q
    obtain ⟨h1, h2⟩ := inT_ok rx f1 px f2
    exact ⟨p, us, rfl, hq, flatT_ok (F := F) (O := O) (H := H) (M := M) rx f1, h1, by rw [h2]; exact fin_flat w k (.bl _) q⟩
  · exact q.elim
theorem d_in (ha : DE X a ta) (hb : DE X b tb) (hm : behindInMarks .In b = false) : DE X (.Compare a [.In] [b] pos) (dOp2 (oIn false) ta tb) := d_cmp op_in_seq od_in ha hb hm
theorem d_nin (ha : DE X a ta) (hb : DE X b tb) (hm : behindInMarks .NotIn b = false) : DE X (.Compare a [.NotIn] [b] pos) (dOp2 (oIn true) ta tb) := d_cmp op_notIn_seq od_in ha hb hm
theorem dt_in (ha : DE X a ta) (hb : DE X b tb) (hm : behindInMarks .In b = false) : DT X (.Compare a [.In] [b] pos) (dB (dOp2 (oIn false) ta tb)) := dt_cmp op_in_seq od_in ha hb hm
theorem dt_nin (ha : DE X a ta) (hb : DE X b tb) (hm : behindInMarks .NotIn b = false) : DT X (.Compare a [.NotIn] [b] pos) (dB (dOp2 (oIn true) ta tb)) := dt_cmp op_notIn_seq od_in ha hb hm

/-! ### repr -/
section
variable {pins : List (Addr × Obj)} {σ : L2.St} {s : Shared} {F O H : Hp} {M : Mp}
theorem list_apart (I : Inv X pins σ H s) (hy : SysAt X.base) {p : Addr} {o : Obj} {its : Array Value} {n : Nat} (e : s.heap.get? p = some o) (d : o.data = .seq its n) : sysModules ≠ p := by
  obtain ⟨o', es, ep, e1, d1⟩ := hy
  intro z
  have e2 := I.bk _ _ e1
  rw [z, e] at e2
  cases e2
  rw [d] at d1
  cases d1
mutual
theorem Rep.reads (I : Inv X pins σ H s) (w : Wd X.K F O H M) (hy : SysAt X.base) : ∀ {v : V} {t : T} {d : PyData} {u : Value}, Rep X.K F v t → t.py = some d → RelV v u → ∃ as, Reads s.heap u d as ∧ sysModules ∉ as
  | _, _, _, _, .non, e, r => by cases e; cases r; exact ⟨[], .none, List.not_mem_nil⟩
  | _, _, _, _, .bl b, e, r => by cases e; cases r; exact ⟨[], .bool b, List.not_mem_nil⟩
  | _, _, _, _, .int i, e, r => by cases e; obtain ⟨t, rfl⟩ := r; exact ⟨[], .int i t, List.not_mem_nil⟩
  | _, _, _, _, .str x, e, r => by cases e; obtain ⟨t, rfl⟩ := r; exact ⟨[], .str x t, List.not_mem_nil⟩
  | _, _, _, _, .tup h rs, e, r => by
    rw [T.py] at e
    obtain ⟨ds, e1, e2⟩ := Option.map_eq_some_iff.mp e
    subst e2
    cases r
    obtain ⟨its, rv, ⟨o, e3, c, n, dd⟩, _⟩ := I.tuple (w.ex.sqT h)
    obtain ⟨as, h1, h2⟩ := Reps.reads I w hy rs e1 rv
    exact ⟨as, .tuple e3 c dd h1, h2⟩
  | _, _, _, _, .lst h rs, e, r => by
    rw [T.py] at e
    obtain ⟨ds, e1, e2⟩ := Option.map_eq_some_iff.mp e
    subst e2
    cases r
    obtain ⟨its, rv, ⟨o, n, e3, c, _, dd⟩, _⟩ := I.list (.of (w.sub _ _ h))
    obtain ⟨as, h1, h2⟩ := Reps.reads I w hy rs e1 rv
    exact ⟨_, .list e3 c dd h1, fun z => (List.mem_cons.mp z).elim (list_apart I hy e3 dd) h2⟩
  | _, _, _, _, .scr h rs, e, r => by
    rw [T.py] at e
    obtain ⟨ds, e1, e2⟩ := Option.map_eq_some_iff.mp e
    subst e2
    cases r
    obtain ⟨its, rv, ⟨o, n, e3, c, _, dd⟩, _⟩ := I.list (w.ex.sqL h)
    obtain ⟨as, h1, h2⟩ := Reps.reads I w hy rs e1 rv
    exact ⟨_, .list e3 c dd h1, fun z => (List.mem_cons.mp z).elim (list_apart I hy e3 dd) h2⟩
  | _, _, _, _, .dic (kvs := kvs) h rs, e, r => by
    rw [T.py] at e
    obtain ⟨ds, e1, e2⟩ := Option.map_eq_some_iff.mp e
    subst e2
    cases r
    obtain ⟨_, ne, vs, rk, o, es, ep, e3, ex, dd, _, pr, _⟩ := dk_of I.hok (w.sub _ _ h)
    obtain ⟨as, bs, h1, h2, h3, h4⟩ := RepKV.reads I w hy rs e1 rk pr
    refine ⟨_, .dict e3 ex.1 dd h1 h2, fun z => ?_⟩
    rcases List.mem_append.mp z with z | z
    · rcases List.mem_cons.mp z with z | z
      · rw [← z] at ne
        exact absurd ne (by decide)
      · exact h3 z
    · exact h4 z
  | _, _, _, _, .raw _, e, _ => by cases e
theorem Reps.reads (I : Inv X pins σ H s) (w : Wd X.K F O H M) (hy : SysAt X.base) : ∀ {vs : List V} {ts : List T} {ds : List PyData} {us : List Value}, Reps X.K F vs ts → T.pys ts = some ds → Vals vs us → ∃ as, ReadsAll s.heap us ds as ∧ sysModules ∉ as
  | _, _, _, _, .nil, e, r => by cases e; cases r; exact ⟨[], .nil, List.not_mem_nil⟩
  | _, _, _, _, .cons h rs, e, r => by
    rw [T.pys] at e
    split at e
    · rename_i e1 e2
      cases e
      cases r with
      | cons r1 r2 =>
      obtain ⟨as, h1, h2⟩ := Rep.reads I w hy h e1 r1
      obtain ⟨bs, h3, h4⟩ := Reps.reads I w hy rs e2 r2
      exact ⟨as ++ bs, .cons h1 h3, fun z => (List.mem_append.mp z).elim h2 h4⟩
    · cases e
theorem RepKV.reads (I : Inv X pins σ H s) (w : Wd X.K F O H M) (hy : SysAt X.base) : ∀ {vs : List (Key × V)} {ts : List (Key × T)} {ds : List (PyData × PyData)} {us : List (Key × Value)} {es : List DictEntry}, RepKV X.K F vs ts → T.pyKV ts = some ds → KV vs us →
    Pairs (mixKind X.prog X.w) es us → ∃ as bs, ReadsAll s.heap (es.map (·.key)) (ds.map (·.1)) as ∧ ReadsAll s.heap (es.map (·.val)) (ds.map (·.2)) bs ∧ sysModules ∉ as ∧ sysModules ∉ bs
  | _, _, _, _, _, .nil, e, r, p => by cases e; cases r; cases p; exact ⟨[], [], .nil, .nil, List.not_mem_nil, List.not_mem_nil⟩
  | _, _, _, _, _, .cons (k := k) h rs, e, r, p => by
    rw [T.pyKV.eq_def] at e
    dsimp only at e
    split at e
    · rename_i e1 e2
      cases e
      cases r with
      | cons r1 r2 =>
      cases p with
      | cons p1 p2 p3 =>
      obtain ⟨as, h1, h2⟩ := Rep.reads I w hy h e1 r1.2
      obtain ⟨as', bs, g1, g2, g3, g4⟩ := RepKV.reads I w hy rs e2 r2 p3
      have hk := r1.1
      rw [← hk] at p1
      refine ⟨[] ++ as', as ++ bs, ?_, ?_, g3, fun z => (List.mem_append.mp z).elim h2 g4⟩
      · refine ReadsAll.cons ?_ g1
        rcases keyIs_shape (show keyIs k _ = true from p1) with ⟨i, t, e3, e4⟩ | ⟨x, t, e3, e4⟩
        · subst e3
          dsimp only
          rw [e4]
          exact .int i t
        · subst e3
          dsimp only
          rw [e4]
          exact .str x t
      · refine ReadsAll.cons ?_ g2
        dsimp only
        rw [p2]
        exact h1
    · cases e
end
theorem Sees.reads (I : Inv X pins σ H s) (w : Wd X.K F O H M) (hy : SysAt X.base) {v : V} {t : T} {d : PyData} {u : Value} (r : Sees X.K F H v t) (e : t.py = some d) (rv : RelV v u) : ∃ as, Reads s.heap u d as ∧ sysModules ∉ as := by
  cases r with
  | non => exact Rep.reads I w hy .non e rv
  | bl b => exact Rep.reads I w hy (.bl b) e rv
  | int i => exact Rep.reads I w hy (.int i) e rv
  | str x => exact Rep.reads I w hy (.str x) e rv
  | tup h r => exact Rep.reads I w hy (.tup h r) e rv
  | lst h rs =>
    rw [T.py] at e
    obtain ⟨ds, e1, e2⟩ := Option.map_eq_some_iff.mp e
    subst e2
    cases rv
    obtain ⟨its, rv, ⟨o, n, e3, c, _, dd⟩, _⟩ := I.list (.of h)
    obtain ⟨as, h1, h2⟩ := Reps.reads I w hy rs e1 rv
    exact ⟨_, .list e3 c dd h1, fun z => (List.mem_cons.mp z).elim (list_apart I hy e3 dd) h2⟩
  | scr h rs =>
    rw [T.py] at e
    obtain ⟨ds, e1, e2⟩ := Option.map_eq_some_iff.mp e
    subst e2
    cases rv
    obtain ⟨its, rv, ⟨o, n, e3, c, _, dd⟩, _⟩ := I.list h
    obtain ⟨as, h1, h2⟩ := Reps.reads I w hy rs e1 rv
    exact ⟨_, .list e3 c dd h1, fun z => (List.mem_cons.mp z).elim (list_apart I hy e3 dd) h2⟩
  | dic h rs =>
    rw [T.py] at e
    obtain ⟨ds, e1, e2⟩ := Option.map_eq_some_iff.mp e
    subst e2
    cases rv
    obtain ⟨_, ne, vs, rk, o, es, ep, e3, ex, dd, _, pr, _⟩ := dk_of I.hok h
    obtain ⟨as, bs, h1, h2, h3, h4⟩ := RepKV.reads I w hy rs e1 rk pr
    refine ⟨_, .dict e3 ex.1 dd h1 h2, fun z => ?_⟩
    rcases List.mem_append.mp z with z | z
    · rcases List.mem_cons.mp z with z | z
      · rw [← z] at ne
        exact absurd ne (by decide)
      · exact h3 z
    · exact h4 z
  | raw v => cases e
end
/-- what repr shows, if it can be shown -/
def Shows (d : PyData) : Prop := d.showable = true ∧ d.depth ≤ 60 ∧ d.shown.length ≤ sizeLine
def fRepr (ts : List T) (Q : QE) (M : Mp) : Prop := match ts with
  | [x] => (match (look x M).py with | some d => Shows d ∧ Q (.str d.shown) M | none => False)
  | _ => False
theorem d_repr {e : Expr} {tl : A3} {p pos : Pos} (hgd : X.A.guards = some []) (hu : X.A.units + 64 < cLine) (hy : SysAt X.base) (hg : Gl X "repr") (hm : X.mg "repr" = none) (ha : DA X [e] tl)
    (he : starEach [e] X.env = (false, eval e X.env) :: starEach [] X.env := by rfl) : DE X (.Call (.Name "repr" p) [e] [] pos) (dCall fRepr tl) := by
  constructor
  rintro pins s σ H Q I ⟨F, O, M, ss, Q3, w, sl, q, k⟩
  refine wpAny_Call_Name_kw (ld_blt I hg hm (u := .builtin "repr") (by decide +kernel) ?_)
  refine PyProof.Rows.callWith_builtin1 (thn (ha.run pos pins s σ H (fun vs H1 => ∃ F1 M1 ts, Ex F F1 ∧ Wd X.K F1 O H1 M1 ∧ Reps X.K F1 vs ts ∧ fRepr ts Q3 M1) I
    ⟨F, O, M, ss, _, w, sl, q, fun vs H1 F1 M1 ts x1 w1 r1 q1 => ⟨F1, M1, ts, x1, w1, r1, q1⟩⟩) ?_) he rfl
  rintro us s1 ⟨vs, H1, I1, rv, F1, M1, ts, x1, w1, rs, q1⟩
  unfold fRepr at q1
  split at q1
  · rename_i x
    cases rs with
    | cons rx rn =>
    cases rn
    cases rv with
    | cons rv rn =>
    cases rn
    split at q1
    · rename_i d e1
      obtain ⟨⟨c1, c2, c3⟩, q1⟩ := q1
      have kk : ∀ (tk : Nat) (t : Tok), EP X pins σ Q (.str d.shown t) { s1 with toks := tk } := fun tk t => ⟨.str d.shown, H1, I1.tok _, ⟨_, rfl⟩, k _ H1 F1 M1 _ x1 w1 (.str _) q1⟩
      have sx := rx.sees w1
      obtain ⟨as, hr, hs⟩ := sx.reads I1 w1 hy e1 rv
      cases hr with
      | none => exact P.repr_of_none (kk _ _)
      | bool b => exact P.repr_of_bool (kk _ _)
      | int i t => exact P.repr_of_int (by simpa [PyData.showable] using c1) (kk _ _)
      | str x t => exact P.repr_of_str (kk _ _) (by simpa [PyData.shown] using c3)
      | list h1 h2 h3 h4 =>
        exact repr_of_reads' (.list h1 h2 h3 h4) c1 (fun _ => hs) hgd (by omega) (fun _ _ z => z) (fun h' u tk hk => ⟨.str _, H1, I1.kept (t' := tk) hk, ⟨_, rfl⟩, k _ H1 F1 M1 _ x1 w1 (.str _) q1⟩) c3
      | tuple h1 h2 h3 h4 =>
        exact repr_of_reads' (.tuple h1 h2 h3 h4) c1 (fun _ => hs) hgd (by omega) (fun _ _ z => z) (fun h' u tk hk => ⟨.str _, H1, I1.kept (t' := tk) hk, ⟨_, rfl⟩, k _ H1 F1 M1 _ x1 w1 (.str _) q1⟩) c3
      | dict h1 h2 h3 h4 h5 =>
        exact repr_of_reads' (.dict h1 h2 h3 h4 h5) c1 (fun _ => hs) hgd (by omega) (fun _ _ z => z) (fun h' u tk hk => ⟨.str _, H1, I1.kept (t' := tk) hk, ⟨_, rfl⟩, k _ H1 F1 M1 _ x1 w1 (.str _) q1⟩) c3
    · exact q1.elim
  · exact q1.elim
end
end L3

set_option maxHeartbeats 1000000
/-! L3F: promises of defs over trees, calls, the law's end. -/
namespace L3
open PySem PySem.Spec PyProof.Rows L2

/-- a def's promise: its arguments, what may change, what is wanted behind it -/
abbrev Sp3 := List T → Mp → QE → Prop
def liftSp (K : PySem.W.Frag) (sp : Sp3) : Sp := fun vs H Q _ => ∃ F O M ts Q3, Wd K F O H M ∧ Reps K F vs ts ∧ sp ts M Q3 ∧ LkV K F O Q3 Q
abbrev FnD (P : Program) (w : World) (K : PySem.W.Frag) (mg : Str → Option Value) (base : Heap) (k : Nat) (f : Addr) (fd : FuncData) (ps : List Str) (sp : Sp3) : Prop :=
  FnG P w K mg base CX0 k f fd ps (liftSp K sp)
def start3 (N : List Str) (ts : List T) : SS := ts.map some ++ List.replicate (N.length - ts.length) none

theorem slr_start {K : PySem.W.Frag} {F : Hp} {N : List Str} {vs : List V} {ts : List T} (r : Reps K F vs ts) : SlR K F (L2.start N vs) (start3 N ts) := by
  have hl := r.length
  refine ⟨?_, fun i t e => ?_⟩
  · unfold L2.start start3
    rw [List.length_append, List.length_append, List.length_map, List.length_map, List.length_replicate, List.length_replicate, hl]
  · unfold start3 at e
    unfold L2.start
    by_cases hi : i < ts.length
    · rw [List.getElem?_append_left (by rw [List.length_map]; exact hi), List.getElem?_map] at e
      obtain ⟨t', e1, e2⟩ := Option.map_eq_some_iff.mp e
      cases e2
      obtain ⟨v, e3, r3⟩ := r.get e1
      refine ⟨v, ?_, r3⟩
      rw [List.getElem?_append_left (by rw [List.length_map]; omega), List.getElem?_map, e3]
      rfl
    · rw [List.getElem?_append_right (by rw [List.length_map]; omega), List.getElem?_replicate] at e
      split at e <;> cases e

theorem okD {P : Program} {w : World} {K : PySem.W.Frag} {mg : Str → Option Value} {base : Heap} {x qual : Str} {st : Stmt} {f : Addr}
    {fd : FuncData} {N ps : List Str} {k : Nat} {sp : Sp3} (F : Fun K x qual st f fd) (S : FnScope N ps (defScope st))
    (len : ∀ ts M Q, sp ts M Q → ts.length = ps.length)
    (hbody : ∀ (cdv : Value) (A : Around) (outer : List Env) (s : Shared) (H : Hp) (E : XK),
      Room k (A.deeper (envOfC qual (defScope st) s.heap.objs.size f cdv)) → (A.deeper (envOfC qual (defScope st) s.heap.objs.size f cdv)).guards = some [] →
      ∃ t : S3, DSs (cxOf CX0 P w K mg base N qual (defScope st) f cdv A outer s H E).nox (defBody st) t ∧
        ∀ (ts : List T) (M : Mp) (Q : QE), sp ts M Q → t { nx := fun _ M' => Q .non M', rt := Q } (start3 N ts) M) :
    FnD P w K mg base (k + 1) f fd ps sp := by
  refine okG F S ?_ ?_
  · rintro vs H Q E ⟨F, O, M, ts, Q3, w, r, h, _⟩
    exact r.length.trans (len ts M Q3 h)
  · rintro cdv A outer s H vs Q E hr hg ⟨F0, O, M, ts, Q3, w0, r, h, lk⟩
    obtain ⟨t, ht, hq⟩ := hbody cdv A outer s H E hr hg
    refine ⟨_, ht.nox, F0, O, M, start3 N ts, _, w0, slr_start r, hq ts M Q3 h, ?_, lk, ?_, ?_⟩
    · intro σ' H' F' M' ss' x' w' sl' q'
      exact lk _ H' F' M' _ x' w' .non q'
    · intro _ _ _ _ _ _ _ _ q
      exact q
    · intro _ _ _ _ _ _ _ _ q
      exact q

/-- arguments in the parameters' order: n positional ones, m by name, then defaults -/
def pick {α : Type} (n m : Nat) (perm : List Nat) (ds us ws : List α) : List α :=
  if us.length = n ∧ ws.length = m then perm.filterMap fun i => (us ++ ws ++ ds)[i]? else []
def Rel2 {α β : Type} (R : α → β → Prop) : List α → List β → Prop
  | [], [] => True
  | a :: as, b :: bs => R a b ∧ Rel2 R as bs
  | _, _ => False
theorem pick_vals {n m : Nat} {perm : List Nat} {dvs : List V} {ds : List Value} (hd : Vals dvs ds) {vs zs : List V} {us ws : List Value} (r : Vals vs us) (q : Vals zs ws) : Vals (pick n m perm dvs vs zs) (pick n m perm ds us ws) := by
  unfold pick
  rw [r.length, q.length]
  split
  · have a := (r.append q).append hd
    induction perm with
    | nil => exact .nil
    | cons i is ih =>
      rw [List.filterMap_cons, List.filterMap_cons]
      cases e : (vs ++ zs ++ dvs)[i]? with
      | none => rw [a.none_of e]; exact ih
      | some v =>
        obtain ⟨u, e2, r2⟩ := a.get e
        rw [e2]
        exact .cons r2 ih
  · exact .nil
theorem pick_reps {K : PySem.W.Frag} {F : Hp} {n m : Nat} {perm : List Nat} {dvs : List V} {ds : List T} (hd : Reps K F dvs ds) {vs zs : List V} {us ws : List T} (r : Reps K F vs us) (q : Reps K F zs ws) : Reps K F (pick n m perm dvs vs zs) (pick n m perm ds us ws) := by
  unfold pick
  rw [r.length, q.length]
  split
  · have a := (r.append q).append hd
    induction perm with
    | nil => exact .nil
    | cons i is ih =>
      rw [List.filterMap_cons, List.filterMap_cons]
      cases e : (us ++ ws ++ ds)[i]? with
      | none =>
        have e2 : (vs ++ zs ++ dvs)[i]? = none := by
          rw [List.getElem?_eq_none_iff] at e ⊢
          rw [a.length]
          exact e
        rw [e2]
        exact ih
      | some t =>
        obtain ⟨v, e2, r2⟩ := a.get e
        rw [e2]
        exact .cons r2 ih
  · exact .nil

section
variable {X : Cx} {k : Nat} {f : Addr} {fd : FuncData} {ps ks : List Str} {sp : Sp3} {x : Str} {p pos : Pos} {e : Expr} {es : List Expr} {kws : List Keyword} {tl tk : A3} {n m : Nat} {perm : List Nat} {ds : List Value} {dvs : List V} {dts : List T}
/-- how the call's arguments come to the parameters -/
structure KB (K : PySem.W.Frag) (fd : FuncData) (ps ks : List Str) (n m : Nat) (perm : List Nat) (ds : List Value) (dvs : List V) (dts : List T) : Prop where
  to : ∀ (s : Shared) (us ws : List Value), K.In s.heap → us.length = n → ws.length = m → BindsTo s fd ⟨us, ks.zip ws⟩ (ps.zip (pick n m perm ds us ws))
  rel : Vals dvs ds
  rep : ∀ F, Reps K F dvs dts
  ne : ps ≠ []
theorem KB.kb {K : PySem.W.Frag} (h : KB K fd ps ks n m perm ds dvs dts) : KBinds K fd ps ks (pick n m perm ds) (pick n m perm dvs) := by
  refine ⟨fun s us ws hk hl => ?_, fun r q => pick_vals h.rel r q⟩
  by_cases c : us.length = n ∧ ws.length = m
  · exact h.to s us ws hk c.1 c.2
  · unfold pick at hl
    rw [if_neg c] at hl
    exact absurd (List.length_eq_zero_iff.mp hl.symm) h.ne
/-- no defaults -/
theorem KB.mk0 {K : PySem.W.Frag} {x qual : Str} {st : Stmt} (F : Fun K x qual st f fd) (ne : ps ≠ [])
    (h : ∀ (kV doc pm : Value) (an : Option Addr) (cdv ct : Value) (us ws : List Value), us.length = n → ws.length = m →
      bindArgs (PySem.W.fnOf x qual (defArgs st) (defBody st) (defScope st) .none kV doc pm an cdv ct) ⟨us, ks.zip ws⟩ = pure (ps.zip (pick n m perm [] us ws))) : KB K fd ps ks n m perm [] [] [] := by
  obtain ⟨oc, od, kV, doc, pm, an, cdv, ct, osl, rfl, lk, hcd⟩ := F.ex
  exact ⟨fun s us ws _ hn hm => .of_eq (h kV doc pm an cdv ct us ws hn hm), .nil, fun _ => .nil, ne⟩
def dFn (sp : Sp3) (n m : Nat) (perm : List Nat) (dts : List T) (tl tk : A3) : E3 := fun ss M Q => tl ss M fun ts M1 => tk ss M1 fun us M2 => sp (pick n m perm dts ts us) M2 Q
theorem lift_fn {K : PySem.W.Frag} (rep : ∀ F, Reps K F dvs dts) : ∀ σ H Q, liftE K (dFn sp n m perm dts tl tk) σ H Q → tCallK (liftSp K sp) (pick n m perm dvs) (fun _ _ _ => False) (liftA K tl) (liftA K tk) σ H Q := by
  rintro σ H Q ⟨F, O, M, ss, Q3, w, sl, q, k⟩
  refine ⟨F, O, M, ss, _, w, sl, q, ?_⟩
  intro vs H1 F1 M1 ts x1 w1 r1 q1
  refine ⟨F1, O, M1, ss, _, w1, sl.mono x1, q1, ?_⟩
  intro zs H2 F2 M2 us x2 w2 r2 q2
  exact ⟨F2, O, M2, _, Q3, w2, pick_reps (rep F2) (r1.mono x2) r2, q2, k.mono (x1.trans x2)⟩
theorem d_fn (F : FnD X.prog X.w X.K X.mg X.base k f fd ps sp) (hr : Room k X.A) (hgd : X.A.guards = some []) (hg : Gl X x) (hm : X.mg x = some (.ref f))
    (hk : PySem.W.keepIn X.K (.ref f) = true) (hb : KB X.K fd ps ks n m perm ds dvs dts) (ha : DA X (e :: es) tl) (hkw : DK X kws tk)
    (hall : (backToKw pos (keywordEach kws X.env)).all (·.1.isSome) = true := by rfl) (hks : (backToKw pos (keywordEach kws X.env)).filterMap (·.1) = ks := by rfl)
    (hdb : (x == ("__debug__" : Str)) = false := by decide) (he : starEach (e :: es) X.env = (false, eval e X.env) :: starEach es X.env := by rfl)
    (hpl : ((backTo pos (starEach (e :: es) X.env)).any (·.1) || (backToKw pos (keywordEach kws X.env)).any (·.1.isNone)) = false := by rfl) :
    DE X (.Call (.Name x p) (e :: es) kws pos) (dFn sp n m perm dts tl tk) :=
  pe_weak (pe_callG (E := fun _ _ _ => False) F hr hgd hg hm hk hb.kb (fun _ _ _ _ _ _ _ h => h.elim) ha hkw hall hks hdb he hpl) (lift_fn hb.rep)
theorem d_fnK (F : FnD X.prog X.w X.K X.mg X.base k f fd ps sp) (hr : Room k X.A) (hgd : X.A.guards = some []) (hg : Gl X x) (hm : X.mg x = some (.ref f))
    (hk : PySem.W.keepIn X.K (.ref f) = true) (hb : KB X.K fd ps ks n m perm ds dvs dts) (hkw : DK X kws tk)
    (hall : (backToKw pos (keywordEach kws X.env)).all (·.1.isSome) = true := by rfl) (hks : (backToKw pos (keywordEach kws X.env)).filterMap (·.1) = ks := by rfl)
    (hdb : (x == ("__debug__" : Str)) = false := by decide) (hpl : ((backTo pos (starEach [] X.env)).any (·.1) || (backToKw pos (keywordEach kws X.env)).any (·.1.isNone)) = false := by rfl) :
    DE X (.Call (.Name x p) [] kws pos) (dFn sp n m perm dts dNil tk) := by
  refine pe_weak (pe_callGk (E := fun _ _ _ => False) F hr hgd hg hm hk hb.kb (fun _ _ _ _ _ _ _ h => h.elim) hkw hall hks hdb hpl) ?_
  rintro σ H Q ⟨F, O, M, ss, Q3, w, sl, q, k⟩
  refine ⟨F, O, M, ss, _, w, sl, q, ?_⟩
  intro zs H2 F2 M2 us x2 w2 r2 q2
  exact ⟨F2, O, M2, _, Q3, w2, pick_reps (hb.rep F2) .nil r2, q2, k.mono x2⟩
/-- f() of a def without parameters -/
def dFn0 (sp : Sp3) : E3 := fun _ M Q => sp [] M Q
theorem kb_none {K : PySem.W.Frag} {x qual : Str} {st : Stmt} (F : Fun K x qual st f fd)
    (h : ∀ (kV doc pm : Value) (an : Option Addr) (cdv ct : Value), bindArgs (PySem.W.fnOf x qual (defArgs st) (defBody st) (defScope st) .none kV doc pm an cdv ct) ⟨[], []⟩ = pure []) :
    KBinds K fd [] [] (fun us _ => us) (fun vs _ => vs) := by
  obtain ⟨oc, od, kV, doc, pm, an, cdv, ct, osl, rfl, lk, hcd⟩ := F.ex
  refine ⟨fun s us ws _ hl => ?_, fun r _ => r⟩
  obtain rfl := List.length_eq_zero_iff.mp hl
  exact .of_eq (h kV doc pm an cdv ct)
theorem d_fn0 (F : FnD X.prog X.w X.K X.mg X.base k f fd [] sp) (hr : Room k X.A) (hgd : X.A.guards = some []) (hg : Gl X x) (hm : X.mg x = some (.ref f))
    (hk : PySem.W.keepIn X.K (.ref f) = true) (hb : KBinds X.K fd [] [] (fun us _ => us) (fun vs _ => vs)) (hdb : (x == ("__debug__" : Str)) = false := by decide) :
    DE X (.Call (.Name x p) [] [] pos) (dFn0 sp) := by
  refine pe_weak (pe_callG0 (E := fun _ _ _ => False) F hr hgd hg hm hk hb (fun _ _ _ _ _ _ _ h => h.elim) hdb) ?_
  rintro σ H Q ⟨F, O, M, ss, Q3, w, sl, q, k⟩
  exact ⟨F, O, M, [], Q3, w, .nil, q, k⟩
end

/-! ### the end -/
/-- the script, as the law gets it -/
theorem law_start {K : PySem.W.Frag} {sp : Sp3} {H : Hp} {a : Addr} {ns : List Int} (hO : Only H) (hS : SqL K H a (ns.map V.int))
    (h : sp [.scr (ns.map T.int)] (fun _ => none) fun t _ => t = .bl true) : liftSp K sp [.ref a] H (fun v _ => v = .bl true) fun _ _ _ => False := by
  refine ⟨H, fun _ => none, fun _ => none, _, _, ⟨fun _ _ e => e, fun _ _ e => (nomatch e), fun _ _ e => (nomatch e)⟩, .cons (.scr hS (Reps.of_ints ns)) .nil, h, ?_⟩
  intro v H' F' M' t x w r e
  subst e
  cases r
  rfl
theorem walkD {l : PySem.W.OpenLaw} {n k : Nat} {q : Program} {loose : List Str} {XP : (Str → Option Value) → Heap → Prop} {YP : World → Heap → Prop} {d : DefRec}
    {K : Params → PySem.W.Frag} {sp : Sp3} {x : Str} (hn : l.most = some n) (hn2 : n ≤ sizeLine) (hdf : d.params.defaults = []) (hr : Room k callerA) (him : importsNone q = true)
    (hY : ∀ (w : World) (h : Heap), YP w h → (K w.params).In h)
    (F : ∀ (w : World) (mg : Str → Option Value) (fa : Addr) (h : Heap), (K w.params).In h → h.Ns mainGlobals mg → XP mg h → mg d.name = some (.ref fa) →
      ∃ fd : FuncData, (∀ (s : Shared) (u : Value), BindsTo s fd ⟨[u], []⟩ [(x, u)]) ∧
        ∀ base : Heap, (K w.params).In base → base.Ns mainGlobals mg → SysAt base → FnD l.prog w (K w.params) mg base k fa fd [x] sp)
    (hsp : ∀ ns : List Int, ns.length ≤ n → sp [.scr (ns.map T.int)] (fun _ => none) fun t _ => t = .bl true) :
    PySem.W.WalkO q loose XP YP l.row.toRowW d [] (fun f vs => PySem.call f vs) :=
  walkG (CX := fun _ => CX0) (sp := fun w => liftSp (K w.params) sp) hn hn2 hdf hr him hY F (fun w H a ns hl hO hS => law_start hO hS (hsp ns hl)) (fun _ _ _ _ _ h => h.elim)
end L3

set_option maxHeartbeats 1000000
/-! L3G: constants of the module, targets, the deck of draws. -/
namespace L3
open PySem PySem.Spec PyProof.Rows L2
/-- a constant of the module: a flat value -/
def GC (mg : Str → Option Value) (x : Str) (v : V) : Prop := ∃ u, mg x = some u ∧ RelV v u
def flatOf : V → T
  | .non => .non | .bl b => .bl b | .int i => .int i | .str x => .str x | v => .raw v
theorem flatOf_rep {K : PySem.W.Frag} {F : Hp} (v : V) : Rep K F v (flatOf v) := by
  cases v <;> first | exact .raw _ | constructor
section
variable {X : Cx} {K : PySem.W.Frag} {a b c e : Expr} {es : List Expr} {te ta tb tc : E3} {pos : Pos}
theorem d_gc {x : Str} {v : V} {pos : Pos} (hg : Gl X x) (h : GC X.mg x v) (hd : (x == ("__debug__" : Str)) = false := by decide) : DE X (.Name x pos) (dC (flatOf v)) := by
  obtain ⟨u, hm, r⟩ := h
  exact d_glob hg hm r (fun F => flatOf_rep v) hd
theorem dg_tp (is : List Nat) {k : Nat} (hc : X.calm = true) (h : PGs X es (gNames is)) (hn : (assignEach es X.env).length = is.length := by rfl) (hst : (assignEach es X.env).findIdx? (·.1) = none := by rfl) : DG X (.Tuple es k pos) (.tp is) :=
  pg_tup hc h hn hst
theorem dt_chain {op op' : CmpOp} {r r' : R2} {R R' : T → T → QE → Mp → Prop} (ho : OpR X (compareOp op) r) (h : OpD X.K r R) (ho' : OpR X (compareOp op') r') (h' : OpD X.K r' R') (ha : DE X a ta) (hb : DE X b tb) (hc : DE X c tc)
    (hm : lastMarks [op, op'] [b, c] = false) : DT X (.Compare a [op, op'] [b, c] pos) (dB (dChain R R' ta tb tc)) := by
  refine pt_weak (pt_chain ho ho' ha hb hc hm) ?_
  intro σ H Q hh
  obtain ⟨F, O, M, ss, Q3, w, sl, q, k⟩ := lift_bool hh
  show tChain r r' (liftE X.K ta) (liftE X.K tb) (liftE X.K tc) σ H _
  refine ⟨F, O, M, ss, _, w, sl, q, ?_⟩
  intro v H1 F1 M1 t x1 w1 r1 q1
  refine ⟨F1, O, M1, ss, _, w1, sl.mono x1, q1, ?_⟩
  intro u H2 F2 M2 t2 x2 w2 r2 q2
  refine h F2 O H2 M2 v u t t2 _ _ w2 (r1.mono x2) r2 q2 ?_
  intro z H3 F3 M3 t3 x3 w3 r3 q3
  split at q3
  · cases r3
    refine ⟨true, rfl, ?_⟩
    rw [if_pos rfl]
    refine ⟨F3, O, M3, ss, _, w3, sl.mono (x1.trans (x2.trans x3)), q3, ?_⟩
    intro z' H4 F4 M4 t4 x4 w4 r4 q4
    exact h' F4 O H4 M4 u z' t2 t4 Q3 _ w4 (r2.mono (x3.trans x4)) r4 q4 (k.mono (x1.trans (x2.trans (x3.trans x4))))
  · cases r3
    refine ⟨false, rfl, ?_⟩
    rw [if_neg Bool.false_ne_true]
    exact k _ H3 F3 M3 _ (x1.trans (x2.trans x3)) w3 (.bl _) q3
  · exact q3.elim
theorem dt_lele (ha : DE X a ta) (hb : DE X b tb) (hc : DE X c tc) (hm : lastMarks [.LtE, .LtE] [b, c] = false := by with_unfolding_all rfl) : DT X (.Compare a [.LtE, .LtE] [b, c] pos) (dB (dChain oLe oLe ta tb tc)) := dt_chain (op_le.or op_le_str) od_ord (op_le.or op_le_str) od_ord ha hb hc hm
theorem dt_ltlt (ha : DE X a ta) (hb : DE X b tb) (hc : DE X c tc) (hm : lastMarks [.Lt, .Lt] [b, c] = false := by with_unfolding_all rfl) : DT X (.Compare a [.Lt, .Lt] [b, c] pos) (dB (dChain oLt oLt ta tb tc)) := dt_chain (op_lt.or op_lt_str) od_ord (op_lt.or op_lt_str) od_ord ha hb hc hm
end

/-! ### the deck of draws -/
def deckD (c : Addr) (t k : Int) : MO := .dct [(.inr "cells", .raw (.ref c)), (.inr "total", .int t), (.inr "draws", .int k)]
/-- a deck at dk with its cells at c, from which at most n draws were made -/
structure DeckAt (dk c : Addr) (M : Mp) (n : Nat) : Prop where
  ne : dk ≠ c
  at_ : ∃ (ns : List Int) (t k : Int), M dk = some (deckD c t k) ∧ M c = some (.lst (ns.map T.int)) ∧ ns.length ≤ 63 ∧ 0 ≤ k ∧ k ≤ n
theorem DeckAt.le {dk c : Addr} {M : Mp} {n m : Nat} (h : DeckAt dk c M n) (l : n ≤ m) : DeckAt dk c M m :=
  ⟨h.ne, let ⟨ns, t, k, a, b, d, e, f⟩ := h.at_; ⟨ns, t, k, a, b, d, e, by omega⟩⟩
/-- nothing but the deck has changed -/
def Fr2 (dk c : Addr) (M M' : Mp) : Prop := ∀ a, a ≠ dk → a ≠ c → M' a = M a
theorem Fr2.refl {dk c : Addr} {M : Mp} : Fr2 dk c M M := fun _ _ _ => rfl
theorem Fr2.trans {dk c : Addr} {M M' M'' : Mp} (a : Fr2 dk c M M') (b : Fr2 dk c M' M'') : Fr2 dk c M M'' := fun x h1 h2 => (b x h1 h2).trans (a x h1 h2)
def spDraw : Sp3 := fun ts M Q => ∃ (dk c : Addr) (n : Nat) (many : Int), ts = [.raw (.ref dk), .int many] ∧ DeckAt dk c M n ∧ n < 2 ^ 60 ∧ 0 < many ∧ many < 2 ^ 60 ∧
  ∀ M' r, DeckAt dk c M' (n + 1) → Fr2 dk c M M' → 0 ≤ r → r < many → Q (.int r) M'
/-- what may be picked from -/
def itemsOf : T → List T
  | .lst xs => xs | .scr xs => xs | .tup xs => xs | .str z => signsT z | _ => []
def spPick : Sp3 := fun ts M Q => ∃ (dk c : Addr) (n : Nat) (x : T), ts = [.raw (.ref dk), x] ∧ DeckAt dk c M n ∧ n < 2 ^ 60 ∧ 0 < (itemsOf x).length ∧ (itemsOf x).length ≤ sizeLine ∧
  ∀ M' t, DeckAt dk c M' (n + 1) → Fr2 dk c M M' → t ∈ itemsOf x → Q t M'
/-- a new deck -/
def spDeck : Sp3 := fun ts M Q => ∃ ns : List Int, ts = [.scr (ns.map T.int)] ∧ ns.length ≤ 63 ∧ ∀ dk c M', M dk = none → M c = none → DeckAt dk c M' 0 → Fr2 dk c M M' → Q (.raw (.ref dk)) M'
end L3
namespace L3
open PySem PySem.Spec PyProof.Rows L2
theorem st_ct : ¬ (("cells" : Str) = "total") := by decide +kernel
theorem st_cd : ¬ (("cells" : Str) = "draws") := by decide +kernel
theorem st_td : ¬ (("total" : Str) = "draws") := by decide +kernel
theorem st_tc : ¬ (("total" : Str) = "cells") := by decide +kernel
theorem st_dc : ¬ (("draws" : Str) = "cells") := by decide +kernel
theorem st_dt : ¬ (("draws" : Str) = "total") := by decide +kernel
theorem getT_hit {k : Key} {t : T} {r : List (Key × T)} : getT ((k, t) :: r) k = some t := by
  unfold getT
  rw [List.find?_cons_of_pos (by simp)]
  rfl
theorem getT_miss {k j : Key} {t : T} {r : List (Key × T)} (h : ¬ j = k) : getT ((j, t) :: r) k = getT r k := by
  unfold getT
  rw [List.find?_cons_of_neg (by simpa using h)]
theorem inr_ne {a b : Str} (h : ¬ a = b) : ¬ (Sum.inr a : Key) = Sum.inr b := fun e => h (Sum.inr.inj e)
variable {c : Addr} {t k j : Int} {x : T}
def deckL (c : Addr) (t k : Int) : List (Key × T) := [(.inr "cells", .raw (.ref c)), (.inr "total", .int t), (.inr "draws", .int k)]
theorem deckD_eq : deckD c t k = .dct (deckL c t k) := rfl
theorem deck_cells : getT (deckL c t k) (.inr "cells") = some (.raw (.ref c)) := getT_hit
theorem deck_total : getT (deckL c t k) (.inr "total") = some (.int t) := (getT_miss (inr_ne st_ct)).trans getT_hit
theorem deck_draws : getT (deckL c t k) (.inr "draws") = some (.int k) := (getT_miss (inr_ne st_cd)).trans ((getT_miss (inr_ne st_td)).trans getT_hit)
theorem deck_put : putT (deckL c t k) (.inr "draws") (.int j) = deckL c t j := by
  unfold putT deckL
  simp [st_cd, st_td]
theorem deck_len : (deckL c t k).length = 3 := rfl
theorem deck_mk : mergeT [] [(.inr "cells", .raw (.ref c)), (.inr "total", .int t), (.inr "draws", .int k)] = deckL c t k := by
  unfold mergeT deckL putT
  simp [st_ct, st_cd, st_td]
end L3
namespace L3
open PySem PySem.Spec PyProof.Rows L2
theorem pys_ints : ∀ ns : List Int, T.pys (ns.map T.int) = some (ns.map PyData.int)
  | [] => by rw [List.map_nil, List.map_nil, T.pys]
  | n :: ns => by rw [List.map_cons, List.map_cons, T.pys, T.py, pys_ints ns]
theorem py_ints (ns : List Int) : (T.lst (ns.map T.int)).py = some (.list (ns.map PyData.int)) := by rw [T.py, pys_ints]; rfl
theorem py_nil : (T.lst []).py = some (.list []) := by rw [T.py, T.pys]; rfl
theorem lay_ints : ∀ ns : List Int, PyData.canLayAll0 (ns.map PyData.int) = true
  | [] => by rw [List.map_nil, PyData.canLayAll0]
  | n :: ns => by rw [List.map_cons, PyData.canLayAll0, PyData.canLay0, lay_ints ns]; rfl
theorem dep_ints : ∀ ns : List Int, PyData.depthAll (ns.map PyData.int) = 0
  | [] => by rw [List.map_nil, PyData.depthAll]
  | n :: ns => by rw [List.map_cons, PyData.depthAll, PyData.depth, dep_ints ns]; rfl
theorem shaped_ints (ns : List Int) : SeqAt.shaped (.list (ns.map PyData.int)) = true := by
  unfold SeqAt.shaped
  rw [PyData.canLay0, lay_ints, PyData.depth, dep_ints]
  rfl
theorem shaped_nil : SeqAt.shaped (.list []) = true := shaped_ints []
theorem eqv_nil (ns : List Int) : PyData.eqv (.list (ns.map PyData.int)) (.list []) = decide (ns = []) := by
  cases ns with
  | nil => rw [List.map_nil, PyData.eqv, PyData.eqvAll]; rfl
  | cons n r => rw [List.map_cons, PyData.eqv, PyData.eqvAll]; rfl
theorem last_get (l : List Int) (x : Int) : ((l ++ [x]).map T.int)[((l ++ [x]).map T.int).length - 1]? = some (.int x) := by
  rw [List.map_append, List.length_append]
  simp
theorem last_drop (l : List Int) (x : Int) : ((l ++ [x]).map T.int).dropLast = l.map T.int := by
  rw [List.map_append]
  simp
theorem small_mul {i j : Int} (h : j.natAbs < 2 ^ 64) : IntMulOk i j := .of_right (intBits_le_64 (by omega) (by omega))
theorem small_mulL {i j : Int} (h : i.natAbs < 2 ^ 64) : IntMulOk i j := .of_left (intBits_le_64 (by omega) (by omega))
theorem small_div {i j : Int} (h : 0 < j) (h2 : j < 2 ^ 60) : CDivW i j := wide_div (b := 60) h (by omega) (by decide) (by decide)
theorem sz {n : Nat} (h : n ≤ 100000) : n ≤ sizeLine := Nat.le_trans h (by decide)
theorem sz' {n : Nat} (h : n ≤ 100000) : n < sizeLine := Nat.lt_of_le_of_lt h (by decide)
end L3
namespace L3
open PySem PySem.Spec PyProof.Rows L2
/-! ### slices -/
section
variable {α : Type} {xs : List α}
theorem cut_to (k : Nat) : cutT xs none (some (k : Int)) = xs.take k := by
  unfold cutT
  rw [HT.sIx_none, show HT.sIx xs.length xs.length (some (k : Int)) = min k xs.length from HT.sIx_nat xs.length xs.length k, List.drop_zero, Nat.sub_zero]
  by_cases h : k ≤ xs.length
  · rw [Nat.min_eq_left h]
  · rw [Nat.min_eq_right (by omega), List.take_length, List.take_of_length_le (by omega)]
theorem cut_from (k : Nat) : cutT xs (some (k : Int)) none = xs.drop k := by
  unfold cutT
  rw [HT.sIx_none, show HT.sIx xs.length 0 (some (k : Int)) = min k xs.length from HT.sIx_nat xs.length 0 k]
  by_cases h : k ≤ xs.length
  · rw [Nat.min_eq_left h, List.take_of_length_le (by rw [List.length_drop]; omega)]
  · rw [Nat.min_eq_right (by omega), Nat.sub_self, List.take_zero, List.drop_of_length_le (by omega)]
theorem cut_map {β : Type} (f : α → β) (lo hi : Option Int) : cutT (xs.map f) lo hi = (cutT xs lo hi).map f := by
  unfold cutT
  rw [List.length_map, List.map_take, List.map_drop]
end
theorem atI_ok {α : Type} {xs : List α} {i : Int} (h0 : 0 ≤ i) (h1 : i < xs.length) : ∃ t, atI xs i = some t ∧ t ∈ xs := by
  have hi : i.toNat < xs.length := by omega
  refine ⟨xs[i.toNat], ?_, List.getElem_mem hi⟩
  unfold atI ixN
  rw [if_pos h0, if_pos h1, Option.bind_some, List.getElem?_eq_getElem hi]
theorem signs_len (z : Str) : (signsT z).length = z.length := by
  unfold signsT
  rw [List.length_map, Array.length_toList]
  rfl
theorem atI_signs {z : Str} {i : Int} (h0 : 0 ≤ i) (h1 : i < (z.length : Int)) : ∃ c, atI z.cps.toList i = some c ∧ T.str ⟨#[c]⟩ ∈ signsT z := by
  obtain ⟨c, e, m⟩ := atI_ok (xs := z.cps.toList) h0 (by rw [Array.length_toList]; exact h1)
  exact ⟨c, e, List.mem_map.mpr ⟨c, m, rfl⟩⟩
end L3

set_option maxHeartbeats 1000000
/-! L3H: how long a text repr makes; the order of tuples. -/
namespace L3
open PySem PySem.Spec PyProof.Rows L2

/-- t is shown within n signsT, at most k deep -/
def Fine (t : T) (n k : Nat) : Prop := ∃ d, t.py = some d ∧ d.showable = true ∧ d.shown.length ≤ n ∧ d.depth ≤ k
theorem Fine.mono {t : T} {n k n' k' : Nat} (h : Fine t n k) (a : n ≤ n') (b : k ≤ k') : Fine t n' k' :=
  let ⟨d, e, s, l, p⟩ := h; ⟨d, e, s, by omega, by omega⟩
theorem Fine.shows {t : T} {n k : Nat} (h : Fine t n k) (a : n ≤ 16000000) (b : k ≤ 60) : ∃ d, t.py = some d ∧ Shows d :=
  let ⟨d, e, s, l, p⟩ := h; ⟨d, e, s, by omega, by rw [sizeLine_eq]; omega⟩
theorem fine_non : Fine .non 4 0 := ⟨.none, rfl, rfl, by decide +kernel, Nat.le_refl _⟩
theorem fine_bl (b : Bool) : Fine (.bl b) 5 0 := ⟨.bool b, rfl, rfl, by cases b <;> decide +kernel, Nat.le_refl _⟩
theorem fine_int {i : Int} (h : i.natAbs < 10 ^ 60) : Fine (.int i) 61 0 := by
  refine ⟨.int i, rfl, ?_, ?_, Nat.le_refl _⟩
  · have : i.natAbs.log2 < 1920 := PySem.Flt.log2_lt_of (by decide) (Nat.lt_of_lt_of_le h (by decide))
    simpa [PyData.showable] using this
  · have e := int_text_length_le10 (k := 60) (by decide) h
    show (Str.ofString (toString i)).length ≤ 61
    rw [PySem.ofString_length]
    exact e
/-- signsT that repr shows in at most ten -/
def Low (z : Str) : Prop := ∀ c ∈ z.cps.toList, c < 0x110000
theorem fine_str {z : Str} (h : Low z) : Fine (.str z) (10 * z.length + 2) 0 := by
  refine ⟨.str z, rfl, rfl, ?_, Nat.le_refl _⟩
  rw [PyData.shown]
  exact PySem.StrLaws.reprText_len z fun c hc => Nat.lt_trans (h c hc) (by decide)
theorem fine_all {n k : Nat} : ∀ {xs : List T}, (∀ x ∈ xs, Fine x n k) → ∃ ds, T.pys xs = some ds ∧ PyData.showableAll ds = true ∧ ((PyData.shownAll ds).map (·.length)).sum ≤ xs.length * n ∧ (PyData.shownAll ds).length = xs.length ∧ PyData.depthAll ds ≤ k
  | [], _ => ⟨[], rfl, rfl, by rw [PyData.shownAll]; exact Nat.zero_le _, by rw [PyData.shownAll]; rfl, by rw [PyData.depthAll]; exact Nat.zero_le _⟩
  | x :: xs, h => by
    obtain ⟨d, e, s, l, p⟩ := h x List.mem_cons_self
    obtain ⟨ds, e', s', l', q', p'⟩ := fine_all fun y hy => h y (List.mem_cons_of_mem _ hy)
    refine ⟨d :: ds, by rw [T.pys, e, e'], by rw [PyData.showableAll, s, s']; rfl, ?_, ?_, ?_⟩
    · rw [PyData.shownAll, List.map_cons, List.sum_cons, List.length_cons, Nat.succ_mul]
      omega
    · rw [PyData.shownAll, List.length_cons, List.length_cons, q']
    · rw [PyData.depthAll]
      omega
theorem fine_tup {n k : Nat} {xs : List T} (h : ∀ x ∈ xs, Fine x n k) : Fine (.tup xs) (xs.length * (n + 2) + 3) (k + 1) := by
  obtain ⟨ds, e, s, l, q, p⟩ := fine_all h
  refine ⟨.tuple ds, by rw [T.py, e]; rfl, by rw [PyData.showable]; exact s, ?_, by rw [PyData.depth]; omega⟩
  rw [PyData.shown]
  have := tupleText_len_le (PyData.shownAll ds)
  rw [q] at this
  rw [Nat.mul_add]
  omega
theorem fine_lst {n k : Nat} {xs : List T} (h : ∀ x ∈ xs, Fine x n k) : Fine (.lst xs) (xs.length * (n + 2) + 3) (k + 1) := by
  obtain ⟨ds, e, s, l, q, p⟩ := fine_all h
  refine ⟨.list ds, by rw [T.py, e]; rfl, by rw [PyData.showable]; exact s, ?_, by rw [PyData.depth]; omega⟩
  rw [PyData.shown]
  have := listText_len_le (PyData.shownAll ds)
  rw [q] at this
  rw [Nat.mul_add]
  omega
theorem fine_dic1 {n k : Nat} {z : Str} {x : T} (hz : Low z) (h : Fine x n k) : Fine (.dic [(.inr z, x)]) (10 * z.length + n + 20) (k + 1) := by
  obtain ⟨d, e, s, l, p⟩ := h
  have ek : T.pyKV [((.inr z : Key), x)] = some [(PyData.str z, d)] := by
    rw [T.pyKV.eq_def]
    dsimp only
    rw [e, T.pyKV.eq_def]
  refine ⟨.dict [(.str z, d)], by rw [T.py, ek]; rfl, ?_, ?_, ?_⟩
  · rw [PyData.showable, PyData.showableKv, s, PyData.showableKv]
    rfl
  · rw [PyData.shown]
    have h1 := dictText_len_le (PyData.shownKv [(PyData.str z, d)])
    have h2 : ((PyData.shownKv [(PyData.str z, d)]).map (·.length)).sum = (PyData.shown (.str z)).length + 2 + d.shown.length := by
      rw [PyData.shownKv, PyData.shownKv, List.map_cons, List.map_nil, List.sum_cons, List.sum_nil]
      have e1 : ∀ a b : Str, (a ++ b).length = a.length + b.length := fun a b => by
        show (a.cps ++ b.cps).size = _
        rw [Array.size_append]
        rfl
      rw [e1, e1]
      rfl
    have h3 : (PyData.shownKv [(PyData.str z, d)]).length = 1 := by rw [PyData.shownKv, PyData.shownKv]; rfl
    have h4 : (PyData.shown (.str z)).length ≤ 10 * z.length + 2 := by
      rw [PyData.shown]
      exact PySem.StrLaws.reprText_len z fun c hc => Nat.lt_trans (hz c hc) (by decide)
    omega
  · rw [PyData.depth, PyData.depthKv, PyData.depthKv, PyData.depth]
    omega
theorem fine_dic0 : Fine (.dic []) 3 1 := by
  refine ⟨.dict [], by rw [T.py, T.pyKV]; rfl, by rw [PyData.showable, PyData.showableKv], ?_, by rw [PyData.depth, PyData.depthKv]; exact Nat.le_refl _⟩
  rw [PyData.shown, PyData.shownKv]
  exact dictText_len_le []
theorem Fine.repr {t : T} {n k : Nat} {Q : QE} {M : Mp} (h : Fine t n k) (a : n ≤ 16000000) (b : k ≤ 60) (hl : look t M = t) (q : ∀ d, t.py = some d → Q (.str d.shown) M) : fRepr [t] Q M := by
  obtain ⟨d, e, s⟩ := h.shows a b
  unfold fRepr
  dsimp only
  rw [hl, e]
  exact ⟨s, q d e⟩

/-! ### the order of tuples -/
def eqT (x y : T) : Option Bool := match x.py, y.py with
  | some d, some e => if SeqAt.shaped d && SeqAt.shaped e then some (PyData.eqv d e) else none
  | _, _ => none
def ltL (f : T → T → Option Bool) : List T → List T → Option Bool
  | [], [] => some false
  | [], _ :: _ => some true
  | _ :: _, [] => some false
  | x :: xs, y :: ys => match eqT x y, ltL f xs ys with
    | some true, some r => some r
    | some false, some _ => f x y
    | _, _ => none
/-- one value ahead of another, tuples at most so deep -/
def ltN : Nat → T → T → Option Bool
  | 0, x, y => (match x, y with
    | .int i, .int j => some (decide (i < j))
    | .str a, .str b => some (ltS a b)
    | _, _ => none)
  | k + 1, x, y => (match x, y with
    | .int i, .int j => some (decide (i < j))
    | .str a, .str b => some (ltS a b)
    | .tup xs, .tup ys => ltL (ltN k) xs ys
    | _, _ => none)
section
variable {X : Cx} {K : PySem.W.Frag} {pins : List (Addr × Obj)} {σ : L2.St} {s : Shared} {F O H : Hp} {M : Mp}
theorem eqT_at (I : Inv X pins σ H s) (w : Wd X.K F O H M) (hy : SysAt X.base) {A : Around} (hu : A.units + 64 < cLine) {x y : V} {t u : T} {v z : Value} {b : Bool} (rx : Rep X.K F x t) (ry : Rep X.K F y u) (vx : RelV x v) (vy : RelV y z) (h : eqT t u = some b) :
    SeqAt.EqAt A s v z b := by
  unfold eqT at h
  split at h
  · rename_i d e e1 e2
    split at h
    · rename_i hs
      cases h
      rw [Bool.and_eq_true] at hs
      obtain ⟨as, r1, _⟩ := Rep.reads I w hy rx e1 vx
      obtain ⟨bs, r2, _⟩ := Rep.reads I w hy ry e2 vy
      exact SeqAt.eqAt_reads d e A s v z as bs r1 r2 (SeqAt.canLay_of_shaped hs.1) (SeqAt.canLay_of_shaped hs.2) (SeqAt.room_of_shaped hs.1 hu)
    · cases h
  · cases h
/-- what the items say of two lists of trees -/
theorem ltL_eq {f : T → T → Option Bool} : ∀ {xs ys : List T} {b : Bool}, ltL f xs ys = some b → ∃ e r : Nat → Bool, (∀ j x y, xs[j]? = some x → ys[j]? = some y → eqT x y = some (e j) ∧ (e j = false → f x y = some (r j))) ∧
    ∀ i0, Ob.lexAt (fun j => e (j - i0)) (fun j => r (j - i0)) (decide (xs.length < ys.length)) i0 (min xs.length ys.length) = b
  | [], [], b, h => by
    rw [ltL] at h
    cases h
    exact ⟨fun _ => true, fun _ => true, fun j x y h => (nomatch h), fun _ => rfl⟩
  | [], _ :: _, b, h => by
    rw [ltL] at h
    cases h
    exact ⟨fun _ => true, fun _ => true, fun j x y h => (nomatch h), fun _ => by rw [List.length_nil, Nat.zero_min]; rfl⟩
  | _ :: _, [], b, h => by
    rw [ltL] at h
    cases h
    exact ⟨fun _ => true, fun _ => true, fun j x y _ h => (nomatch h), fun _ => by rw [List.length_nil, Nat.min_zero]; rfl⟩
  | x :: xs, y :: ys, b, h => by
    rw [ltL] at h
    have hm : min (x :: xs).length (y :: ys).length = min xs.length ys.length + 1 := by
      rw [List.length_cons, List.length_cons]
      omega
    have hd : decide ((x :: xs).length < (y :: ys).length) = decide (xs.length < ys.length) := by
      rw [List.length_cons, List.length_cons]
      simp
    split at h
    · rename_i r0 e0 e1
      cases h
      obtain ⟨e, r, h1, h2⟩ := ltL_eq e1
      refine ⟨fun j => match j with | 0 => true | j + 1 => e j, fun j => match j with | 0 => true | j + 1 => r j, ?_, fun i0 => ?_⟩
      · intro j a c ha hc
        cases j with
        | zero =>
          cases ha; cases hc
          exact ⟨e0, fun z => (nomatch z)⟩
        | succ j => exact h1 j a c ha hc
      · rw [hm, hd, Ob.lexAt_succ, Nat.sub_self, if_pos rfl, ← h2 (i0 + 1)]
        have aux : ∀ (k i : Nat), i0 + 1 ≤ i → Ob.lexAt (fun j => match j - i0 with | 0 => true | j + 1 => e j) (fun j => match j - i0 with | 0 => true | j + 1 => r j) (decide (xs.length < ys.length)) i k = Ob.lexAt (fun j => e (j - (i0 + 1))) (fun j => r (j - (i0 + 1))) (decide (xs.length < ys.length)) i k := by
          intro k
          induction k with
          | zero => intro i _; rfl
          | succ k ih =>
            intro i hi
            have e1 : i - i0 = (i - (i0 + 1)) + 1 := by omega
            rw [Ob.lexAt_succ, Ob.lexAt_succ, ih (i + 1) (by omega), e1]
        exact aux _ _ (Nat.le_refl _)
    · rename_i r0 e0 e1
      obtain ⟨e, r, h1, h2⟩ := ltL_eq e1
      refine ⟨fun j => match j with | 0 => false | j + 1 => e j, fun j => match j with | 0 => b | j + 1 => r j, ?_, fun i0 => ?_⟩
      · intro j a c ha hc
        cases j with
        | zero =>
          cases ha; cases hc
          exact ⟨e0, fun _ => h⟩
        | succ j => exact h1 j a c ha hc
      · rw [hm, Ob.lexAt_succ, Nat.sub_self, if_neg Bool.false_ne_true]
    · cases h
theorem ltN_ok (I : Inv X pins σ H s) (w : Wd X.K F O H M) (hy : SysAt X.base) : ∀ (n : Nat) {t u : T} {b : Bool} {A : Around} {x y : V} {v z : Value}, A.units + 64 + n < cLine → Rep X.K F x t → Rep X.K F y u → RelV x v → RelV y z → ltN n t u = some b → Ob.RcOp .Lt A s v z b := by
  have flat : ∀ {t u : T} {b : Bool} {A : Around} {x y : V} {v z : Value}, Rep X.K F x t → Rep X.K F y u → RelV x v → RelV y z → (match t, u with
    | .int i, .int j => some (decide (i < j))
    | .str a, .str b => some (ltS a b)
    | _, _ => none) = some b → Ob.RcOp .Lt A s v z b := by
    intro t u b A x y v z rx ry vx vy h
    split at h
    · cases h
      cases rx; cases ry
      obtain ⟨_, rfl⟩ := vx
      obtain ⟨_, rfl⟩ := vy
      exact Ob.RcOp.lt_int _ _ _ _
    · cases h
      cases rx; cases ry
      obtain ⟨_, rfl⟩ := vx
      obtain ⟨_, rfl⟩ := vy
      exact fun _ _ _ _ q => PyProof.Rows.lt_str q
    · cases h
  intro n
  induction n with
  | zero =>
    intro t u b A x y v z hu rx ry vx vy h
    exact flat rx ry vx vy h
  | succ n ih =>
    intro t u b A x y v z hu rx ry vx vy h
    rw [ltN.eq_def] at h
    dsimp only at h
    split at h
    · exact flat (t := .int _) (u := .int _) rx ry vx vy h
    · exact flat (t := .str _) (u := .str _) rx ry vx vy h
    · rename_i xs ys
      cases rx with
      | tup h1 r1 =>
      cases ry with
      | tup h2 r2 =>
      cases vx; cases vy
      obtain ⟨its, q1, p1, _⟩ := I.tuple (w.ex.sqT h1)
      obtain ⟨its2, q2, p2, _⟩ := I.tuple (w.ex.sqT h2)
      obtain ⟨e, r, k1, k2⟩ := ltL_eq h
      have l1 : its.toArray.size = xs.length := by rw [List.size_toArray, ← q1.length, r1.length]
      have l2 : its2.toArray.size = ys.length := by rw [List.size_toArray, ← q2.length, r2.length]
      have at_ : ∀ {its : List Value} {us : List V} {xs : List T}, Vals us its → Reps X.K F us xs → ∀ j, (h1 : j < its.toArray.size) → ∃ t v, xs[j]? = some t ∧ Rep X.K F v t ∧ RelV v its.toArray[j] := fun {its us xs} q1 r1 j hj => by
        have hj' : j < xs.length := by
          rw [List.size_toArray, ← q1.length, r1.length] at hj
          exact hj
        obtain ⟨v, e1, rv⟩ := r1.get (List.getElem?_eq_getElem hj')
        obtain ⟨u, e2, ru⟩ := q1.get e1
        refine ⟨_, v, List.getElem?_eq_getElem hj', rv, ?_⟩
        have e3 : its.toArray[j] = u := by
          obtain ⟨_, e4⟩ := List.getElem?_eq_some_iff.mp e2
          simpa using e4
        rw [e3]
        exact ru
      have R := Ob.RcOp.tuples_lt (A := A) (e := e) (r := r) p1 p2 (by omega) (fun j j1 j2 => by
        obtain ⟨t, v, e1, r1, v1⟩ := at_ q1 r1 j j1
        obtain ⟨u, z, e2, r2, v2⟩ := at_ q2 r2 j j2
        exact eqT_at I w hy (A := A.in1) (by show A.units + 1 + 64 < cLine; omega) r1 r2 v1 v2 (k1 j t u e1 e2).1) (fun j j1 j2 ej => by
        obtain ⟨t, v, e1, r1, v1⟩ := at_ q1 r1 j j1
        obtain ⟨u, z, e2, r2, v2⟩ := at_ q2 r2 j j2
        exact ih (A := A.in1) (by show A.units + 1 + 64 + n < cLine; omega) r1 r2 v1 v2 ((k1 j t u e1 e2).2 ej))
      rw [l1, l2] at R
      have k3 := k2 0
      simp only [Nat.sub_zero] at k3
      rw [k3] at R
      exact R
    · cases h
end
section
variable {X : Cx} {a b : Expr} {ta tb : E3} {pos : Pos}
def oLtT (n : Nat) (x y : T) (Q : QE) (M : Mp) : Prop := match ltN n x y with
  | some b => Q (.bl b) M
  | none => False
def rLtN (X : Cx) (n : Nat) : R2 := fun x y H Q => ∃ F O M t u b, Wd X.K F O H M ∧ Rep X.K F x t ∧ Rep X.K F y u ∧ ltN n t u = some b ∧ Q (.bl b) H
theorem op_ltN (hy : SysAt X.base) {n : Nat} (hu : X.A.units + 64 + n < cLine) : OpR X (compareOp .Lt) (rLtN X n) := by
  intro pins s σ H x y v u Q I rx ry h
  obtain ⟨F, O, M, t, t', b, w, r1, r2, e, q⟩ := h
  have R := ltN_ok I w hy n hu r1 r2 rx ry e
  have z : wpAny (model X.prog X.w) X.A (compareOp .Lt v u) (EP X pins σ Q) X.xe s := R X.prog X.w X.xe (EP X pins σ Q) ⟨.bl _, H, I, rfl, q⟩
  exact z
theorem d_ltT (hu : X.A.units + 84 < cLine) (hy : SysAt X.base) (ha : DE X a ta) (hb : DE X b tb) : DE X (.Compare a [.Lt] [b] pos) (dOp2 (oLtT 20) ta tb) :=
  d_cmp (op_ltN hy hu) (by
    intro F O H M x y t u Q3 Q w rx ry q k
    unfold oLtT at q
    split at q
    · rename_i b e
      exact ⟨F, O, M, t, u, b, w, rx, ry, e, fin_flat w k (.bl _) q⟩
    · exact q.elim) ha hb (nomark _)
end
end L3

set_option maxHeartbeats 1000000
/-! L3I: comprehensions by what their element gives; data. -/
namespace L3
open PySem PySem.Spec PyProof.Rows L2
theorem hu84 {A : Around} {k : Nat} (hr : Room k A) : A.units + 84 < cLine := by
  have := hr.un
  omega
/-- not a bare reference -/
def Dat (t : T) : Prop := (tyT t).isSome = true
theorem look_dat {t : T} {M : Mp} (h : Dat t) : look t M = t := by
  cases t <;> first | rfl | cases h
section
variable {ok : Mp → Prop} {P : Pat} {tt : T3} {te : E3} {vs : List Nat} {ss0 : SS} {Q : List T → Mp → Prop}
/-- elements that change nothing -/
theorem compL_map {f : T → T} {keep : T → Bool} {M : Mp} (hok : ok M) : ∀ {xs acc : List T}, (∀ t ∈ xs, ∃ ss2, P.set t (wipe3 ss0 vs) = some ss2 ∧ (∀ R : Bool → Mp → Prop, R (keep t) M → tt ss2 M R) ∧ (keep t = true → ∀ R : QE, R (f t) M → te ss2 M R)) →
    acc.length + xs.length ≤ sizeLine → Q (acc ++ (xs.filter keep).map f) M → compL ok P tt te vs ss0 Q xs acc M
  | [], acc, _, _, q => ⟨hok, by simpa using q⟩
  | t :: xs, acc, h, hz, q => by
    obtain ⟨ss2, e, h1, h2⟩ := h t List.mem_cons_self
    refine ⟨hok, ?_⟩
    rw [e]
    refine h1 _ ?_
    rw [List.length_cons] at hz
    cases hk : keep t with
    | true =>
      refine h2 hk _ ⟨by omega, compL_map hok (fun u hu => h u (List.mem_cons_of_mem _ hu)) (by rw [List.length_append, List.length_singleton]; omega) ?_⟩
      rw [List.filter_cons_of_pos hk, List.map_cons] at q
      rw [List.append_assoc]
      exact q
    | false =>
      refine compL_map hok (fun u hu => h u (List.mem_cons_of_mem _ hu)) (by omega) ?_
      rw [List.filter_cons_of_neg (by rw [hk]; decide)] at q
      exact q
/-- elements that keep an invariant and are as Pd says -/
theorem compL_inv (Iv : Nat → Mp → Prop) (Pd : T → Prop) (hok : ∀ i M, Iv i M → ok M) : ∀ {xs acc : List T} {M : Mp} (i : Nat), Iv i M →
    (∀ j t M, xs[j]? = some t → Iv (i + j) M → ∃ ss2, P.set t (wipe3 ss0 vs) = some ss2 ∧ ∀ R : QE, (∀ y M4, Pd y → Iv (i + j + 1) M4 → R y M4) → te ss2 M R) →
    acc.length + xs.length ≤ sizeLine → (∀ ys M', ys.length = xs.length → (∀ y ∈ ys, Pd y) → Iv (i + xs.length) M' → Q (acc ++ ys) M') → compL ok P dYes te vs ss0 Q xs acc M
  | [], acc, M, i, h0, _, _, q => ⟨hok i M h0, by simpa using q [] M rfl (fun _ h => (nomatch h)) h0⟩
  | t :: xs, acc, M, i, h0, h, hz, q => by
    obtain ⟨ss2, e, h1⟩ := h 0 t M rfl h0
    refine ⟨hok i M h0, ?_⟩
    rw [e]
    show te ss2 M _
    rw [List.length_cons] at hz
    refine h1 _ fun y M4 hy h4 => ⟨by omega, compL_inv Iv Pd hok (i + 1) h4 (fun j u M5 hu h5 => ?_) (by rw [List.length_append, List.length_singleton]; omega) fun ys M' hl hp hI => ?_⟩
    · have h6 := h (j + 1) u M5 hu (by rw [show i + (j + 1) = i + 1 + j by omega]; exact h5)
      rw [show i + (j + 1) + 1 = i + 1 + j + 1 by omega] at h6
      exact h6
    · rw [List.append_assoc]
      refine q (y :: ys) M' (by rw [List.length_cons, List.length_cons, hl]) (fun z hz => ?_) (by rw [List.length_cons, show i + (xs.length + 1) = i + 1 + xs.length by omega]; exact hI)
      rcases List.mem_cons.mp hz with rfl | hz
      · exact hy
      · exact hp z hz
end
theorem ups_len (lo : Int) (n : Nat) : (ups lo n).length = n := by unfold ups; rw [List.length_map, List.length_range]
theorem bls_map (bs : List Bool) : bls (bs.map T.bl) = some bs := by
  induction bs with
  | nil => rfl
  | cons b r ih => rw [List.map_cons, bls, ih]; rfl
theorem bls_map' {α : Type} (f : α → Bool) (xs : List α) : bls (xs.map fun x => T.bl (f x)) = some (xs.map f) := by
  induction xs with
  | nil => rfl
  | cons x r ih => rw [List.map_cons, bls, ih]; rfl
theorem strsT_map (bs : List Str) : strsT (bs.map T.str) = some bs := by
  induction bs with
  | nil => rfl
  | cons b r ih => rw [List.map_cons, strsT, ih]; rfl
end L3
namespace L3
open PySem PySem.Spec PyProof.Rows L2
theorem kit_NoneType_str : kitB "NoneType" "str" = some false := by decide +kernel
theorem kit_bool_str : kitB "bool" "str" = some false := by decide +kernel
theorem kit_int_str : kitB "int" "str" = some false := by decide +kernel
theorem kit_str_str : kitB "str" "str" = some true := by decide +kernel
theorem kit_tuple_str : kitB "tuple" "str" = some false := by decide +kernel
theorem kit_list_str : kitB "list" "str" = some false := by decide +kernel
theorem kit_dict_str : kitB "dict" "str" = some false := by decide +kernel
theorem kit_NoneType_int : kitB "NoneType" "int" = some false := by decide +kernel
theorem kit_bool_int : kitB "bool" "int" = some true := by decide +kernel
theorem kit_int_int : kitB "int" "int" = some true := by decide +kernel
theorem kit_str_int : kitB "str" "int" = some false := by decide +kernel
theorem kit_tuple_int : kitB "tuple" "int" = some false := by decide +kernel
theorem kit_list_int : kitB "list" "int" = some false := by decide +kernel
theorem kit_dict_int : kitB "dict" "int" = some false := by decide +kernel
theorem kit_NoneType_bool : kitB "NoneType" "bool" = some false := by decide +kernel
theorem kit_bool_bool : kitB "bool" "bool" = some true := by decide +kernel
theorem kit_int_bool : kitB "int" "bool" = some false := by decide +kernel
theorem kit_str_bool : kitB "str" "bool" = some false := by decide +kernel
theorem kit_tuple_bool : kitB "tuple" "bool" = some false := by decide +kernel
theorem kit_list_bool : kitB "list" "bool" = some false := by decide +kernel
theorem kit_dict_bool : kitB "dict" "bool" = some false := by decide +kernel
theorem kit_NoneType_tuple : kitB "NoneType" "tuple" = some false := by decide +kernel
theorem kit_bool_tuple : kitB "bool" "tuple" = some false := by decide +kernel
theorem kit_int_tuple : kitB "int" "tuple" = some false := by decide +kernel
theorem kit_str_tuple : kitB "str" "tuple" = some false := by decide +kernel
theorem kit_tuple_tuple : kitB "tuple" "tuple" = some true := by decide +kernel
theorem kit_list_tuple : kitB "list" "tuple" = some false := by decide +kernel
theorem kit_dict_tuple : kitB "dict" "tuple" = some false := by decide +kernel
theorem kit_NoneType_list : kitB "NoneType" "list" = some false := by decide +kernel
theorem kit_bool_list : kitB "bool" "list" = some false := by decide +kernel
theorem kit_int_list : kitB "int" "list" = some false := by decide +kernel
theorem kit_str_list : kitB "str" "list" = some false := by decide +kernel
theorem kit_tuple_list : kitB "tuple" "list" = some false := by decide +kernel
theorem kit_list_list : kitB "list" "list" = some true := by decide +kernel
theorem kit_dict_list : kitB "dict" "list" = some false := by decide +kernel
theorem kit_NoneType_dict : kitB "NoneType" "dict" = some false := by decide +kernel
theorem kit_bool_dict : kitB "bool" "dict" = some false := by decide +kernel
theorem kit_int_dict : kitB "int" "dict" = some false := by decide +kernel
theorem kit_str_dict : kitB "str" "dict" = some false := by decide +kernel
theorem kit_tuple_dict : kitB "tuple" "dict" = some false := by decide +kernel
theorem kit_list_dict : kitB "list" "dict" = some false := by decide +kernel
theorem kit_dict_dict : kitB "dict" "dict" = some true := by decide +kernel
end L3
namespace L3
theorem filter_tt {α : Type} (xs : List α) : xs.filter (fun _ => true) = xs := List.filter_eq_self.mpr fun _ _ => rfl
end L3
namespace L3
open PySem PySem.Spec PyProof.Rows L2
theorem low_ok {z : Str} (h : Low z) : PyData.strOk z = true := by
  unfold PyData.strOk
  rw [← Array.all_toList, List.all_eq_true]
  exact fun c hc => decide_eq_true (h c hc)
theorem shaped_str {z : Str} (h : Low z) : SeqAt.shaped (.str z) = true := by
  unfold SeqAt.shaped
  rw [PyData.canLay0, low_ok h]
  rfl
theorem shaped_int (i : Int) : SeqAt.shaped (.int i) = true := rfl
theorem hu65 {A : Around} {k : Nat} (hr : Room k A) : A.units + 65 < cLine := by
  have := hr.un
  omega
section
variable {X : Cx} {K : PySem.W.Frag} {a b : Expr} {ta tb : E3} {pos : Pos}
/-- a value among the items of a list, a tuple, whatever they are -/
def rInT (K : PySem.W.Frag) (neg : Bool) : R2 := fun x y H Q => ∃ d ds, Dp K H x d ∧ (Dp K H y (.list ds) ∨ Dp K H y (.tuple ds)) ∧ SeqAt.shaped d = true ∧ SeqAt.shaped (.list ds) = true ∧
  Q (.bl (if neg then !ds.any fun z => PyData.eqv z d else ds.any fun z => PyData.eqv z d)) H
theorem op_inT (hu : X.A.units + 65 < cLine) : OpR X (compareOp .In) (rInT X.K false) := by
  intro pins s σ H x y v u Q I rx ry h
  obtain ⟨d, ds, hd, he, sd, se, q⟩ := h
  obtain ⟨as, r1⟩ := Dp.reads I d x v hd rx
  have room := PyProof.Rows.room_in_shaped (xs := ds) sd hu
  have lay : PyData.canLayAll0 ds = true := by simpa only [PyData.canLay0] using SeqAt.canLay_of_shaped se
  rcases he with he | he
  · obtain ⟨bs, r2⟩ := Dp.reads I (.list ds) y u he ry
    exact SeqAt.in_list_reads r2 r1 lay (SeqAt.canLay_of_shaped sd) room ⟨.bl _, H, I, rfl, q⟩
  · obtain ⟨bs, r2⟩ := Dp.reads I (.tuple ds) y u he ry
    exact SeqAt.in_tuple_reads r2 r1 lay (SeqAt.canLay_of_shaped sd) room ⟨.bl _, H, I, rfl, q⟩
theorem op_ninT (hu : X.A.units + 65 < cLine) : OpR X (compareOp .NotIn) (rInT X.K true) := by
  intro pins s σ H x y v u Q I rx ry h
  obtain ⟨d, ds, hd, he, sd, se, q⟩ := h
  obtain ⟨as, r1⟩ := Dp.reads I d x v hd rx
  have room := PyProof.Rows.room_in_shaped (xs := ds) sd hu
  have lay : PyData.canLayAll0 ds = true := by simpa only [PyData.canLay0] using SeqAt.canLay_of_shaped se
  rcases he with he | he
  · obtain ⟨bs, r2⟩ := Dp.reads I (.list ds) y u he ry
    exact SeqAt.notIn_list_reads r2 r1 lay (SeqAt.canLay_of_shaped sd) room ⟨.bl _, H, I, rfl, q⟩
  · obtain ⟨bs, r2⟩ := Dp.reads I (.tuple ds) y u he ry
    exact SeqAt.notIn_tuple_reads r2 r1 lay (SeqAt.canLay_of_shaped sd) room ⟨.bl _, H, I, rfl, q⟩
def oInD (neg : Bool) (x y : T) (Q : QE) (M : Mp) : Prop := match (look x M).py, (look y M).py with
  | some d, some (.list ds) => SeqAt.shaped d = true ∧ SeqAt.shaped (.list ds) = true ∧ Q (.bl (if neg then !ds.any fun z => PyData.eqv z d else ds.any fun z => PyData.eqv z d)) M
  | some d, some (.tuple ds) => SeqAt.shaped d = true ∧ SeqAt.shaped (.list ds) = true ∧ Q (.bl (if neg then !ds.any fun z => PyData.eqv z d else ds.any fun z => PyData.eqv z d)) M
  | _, _ => False
theorem shaped_tl (ds : List PyData) : SeqAt.shaped (.tuple ds) = SeqAt.shaped (.list ds) := by
  unfold SeqAt.shaped
  rw [PyData.canLay0, PyData.canLay0, PyData.depth, PyData.depth]
theorem od_inD {neg : Bool} : OpD K (rInT K neg) (oInD neg) := by
  intro F O H M x y t u Q3 Q w rx ry q k
  unfold oInD at q
  split at q
  · rename_i d ds e1 e2
    exact ⟨d, ds, (rx.sees w).dp w e1 (SeqAt.canLay_of_shaped q.1), .inl ((ry.sees w).dp w e2 (SeqAt.canLay_of_shaped q.2.1)), q.1, q.2.1, fin_flat w k (.bl _) q.2.2⟩
  · rename_i d ds e1 e2
    exact ⟨d, ds, (rx.sees w).dp w e1 (SeqAt.canLay_of_shaped q.1), .inr ((ry.sees w).dp w e2 (SeqAt.canLay_of_shaped (by rw [shaped_tl]; exact q.2.1))), q.1, q.2.1, fin_flat w k (.bl _) q.2.2⟩
  · exact q.elim
theorem d_inD (hu : X.A.units + 65 < cLine) (ha : DE X a ta) (hb : DE X b tb) (hm : behindInMarks .In b = false) : DE X (.Compare a [.In] [b] pos) (dOp2 (oInD false) ta tb) := d_cmp (op_inT hu) od_inD ha hb hm
theorem d_ninD (hu : X.A.units + 65 < cLine) (ha : DE X a ta) (hb : DE X b tb) (hm : behindInMarks .NotIn b = false) : DE X (.Compare a [.NotIn] [b] pos) (dOp2 (oInD true) ta tb) := d_cmp (op_ninT hu) od_inD ha hb hm
theorem dt_inD (hu : X.A.units + 65 < cLine) (ha : DE X a ta) (hb : DE X b tb) (hm : behindInMarks .In b = false) : DT X (.Compare a [.In] [b] pos) (dB (dOp2 (oInD false) ta tb)) := dt_cmp (op_inT hu) od_inD ha hb hm
theorem dt_ninD (hu : X.A.units + 65 < cLine) (ha : DE X a ta) (hb : DE X b tb) (hm : behindInMarks .NotIn b = false) : DT X (.Compare a [.NotIn] [b] pos) (dB (dOp2 (oInD true) ta tb)) := dt_cmp (op_ninT hu) od_inD ha hb hm
end
end L3
namespace L3
open PySem PySem.Spec PyProof.Rows L2
theorem sz_1 : (1 ≤ sizeLine) = True := eq_true (by decide)
theorem sz_2 : (2 ≤ sizeLine) = True := eq_true (by decide)
theorem sz_3 : (3 ≤ sizeLine) = True := eq_true (by decide)
theorem sz_4 : (4 ≤ sizeLine) = True := eq_true (by decide)
theorem sz_5 : (5 ≤ sizeLine) = True := eq_true (by decide)
theorem sz_6 : (6 ≤ sizeLine) = True := eq_true (by decide)
theorem sz_7 : (7 ≤ sizeLine) = True := eq_true (by decide)
theorem sz_8 : (8 ≤ sizeLine) = True := eq_true (by decide)
theorem sz_9 : (9 ≤ sizeLine) = True := eq_true (by decide)
theorem sz_10 : (10 ≤ sizeLine) = True := eq_true (by decide)
theorem sz_11 : (11 ≤ sizeLine) = True := eq_true (by decide)
theorem sz_12 : (12 ≤ sizeLine) = True := eq_true (by decide)
theorem sz_13 : (13 ≤ sizeLine) = True := eq_true (by decide)
theorem sz_14 : (14 ≤ sizeLine) = True := eq_true (by decide)
theorem sz_15 : (15 ≤ sizeLine) = True := eq_true (by decide)
theorem sz_16 : (16 ≤ sizeLine) = True := eq_true (by decide)
theorem sz_17 : (17 ≤ sizeLine) = True := eq_true (by decide)
theorem sz_18 : (18 ≤ sizeLine) = True := eq_true (by decide)
theorem sz_19 : (19 ≤ sizeLine) = True := eq_true (by decide)
theorem sz_20 : (20 ≤ sizeLine) = True := eq_true (by decide)
theorem sz_21 : (21 ≤ sizeLine) = True := eq_true (by decide)
theorem sz_22 : (22 ≤ sizeLine) = True := eq_true (by decide)
theorem sz_23 : (23 ≤ sizeLine) = True := eq_true (by decide)
theorem sz_24 : (24 ≤ sizeLine) = True := eq_true (by decide)
theorem sz_25 : (25 ≤ sizeLine) = True := eq_true (by decide)
theorem sz_26 : (26 ≤ sizeLine) = True := eq_true (by decide)
theorem sz_27 : (27 ≤ sizeLine) = True := eq_true (by decide)
theorem sz_28 : (28 ≤ sizeLine) = True := eq_true (by decide)
theorem sz_29 : (29 ≤ sizeLine) = True := eq_true (by decide)
theorem sz_30 : (30 ≤ sizeLine) = True := eq_true (by decide)
theorem sz_31 : (31 ≤ sizeLine) = True := eq_true (by decide)
theorem sz_32 : (32 ≤ sizeLine) = True := eq_true (by decide)
theorem sz_33 : (33 ≤ sizeLine) = True := eq_true (by decide)
theorem sz_34 : (34 ≤ sizeLine) = True := eq_true (by decide)
theorem sz_35 : (35 ≤ sizeLine) = True := eq_true (by decide)
theorem sz_36 : (36 ≤ sizeLine) = True := eq_true (by decide)
theorem sz_37 : (37 ≤ sizeLine) = True := eq_true (by decide)
theorem sz_38 : (38 ≤ sizeLine) = True := eq_true (by decide)
theorem sz_39 : (39 ≤ sizeLine) = True := eq_true (by decide)
theorem sz_40 : (40 ≤ sizeLine) = True := eq_true (by decide)
theorem sz_41 : (41 ≤ sizeLine) = True := eq_true (by decide)
theorem sz_42 : (42 ≤ sizeLine) = True := eq_true (by decide)
theorem sz_43 : (43 ≤ sizeLine) = True := eq_true (by decide)
theorem sz_44 : (44 ≤ sizeLine) = True := eq_true (by decide)
theorem sz_45 : (45 ≤ sizeLine) = True := eq_true (by decide)
theorem sz_46 : (46 ≤ sizeLine) = True := eq_true (by decide)
theorem sz_47 : (47 ≤ sizeLine) = True := eq_true (by decide)
theorem sz_0 : (0 ≤ sizeLine) = True := eq_true (Nat.zero_le _)
section
variable {α : Type} {a b c d e : α} {r : List α}
theorem atI_c0 : atI (a :: r) 0 = some a := by
  unfold atI ixN
  rw [if_pos (by decide), if_pos (by rw [List.length_cons]; omega)]
  rfl
theorem atI_c1 : atI (a :: b :: r) 1 = some b := by
  unfold atI ixN
  rw [if_pos (by decide), if_pos (by rw [List.length_cons, List.length_cons]; omega)]
  rfl
theorem atI_c2 : atI (a :: b :: c :: r) 2 = some c := by
  unfold atI ixN
  rw [if_pos (by decide), if_pos (by rw [List.length_cons, List.length_cons, List.length_cons]; omega)]
  rfl
theorem atI_c3 : atI (a :: b :: c :: d :: r) 3 = some d := by
  unfold atI ixN
  rw [if_pos (by decide), if_pos (by rw [List.length_cons, List.length_cons, List.length_cons, List.length_cons]; omega)]
  rfl
theorem atI_c4 : atI (a :: b :: c :: d :: e :: r) 4 = some e := by
  unfold atI ixN
  rw [if_pos (by decide), if_pos (by rw [List.length_cons, List.length_cons, List.length_cons, List.length_cons, List.length_cons]; omega)]
  rfl
end
end L3

set_option maxHeartbeats 1000000
/-! L3J: drawing and picking, texts of low signs. -/
namespace L3
open PySem PySem.Spec PyProof.Rows L2
theorem draw_of {dk c : Addr} {n : Nat} {m : Int} {M : Mp} {Q : QE} (hD : DeckAt dk c M n) (hn : n < 2 ^ 59) (h0 : 0 < m) (h1 : m < 2 ^ 60) (k : ∀ M' r, DeckAt dk c M' (n + 1) → 0 ≤ r → r < m → Q (.int r) M') :
    spDraw [.raw (.ref dk), .int m] M Q := ⟨dk, c, n, m, rfl, hD, by omega, h0, h1, fun M' r d _ a b => k M' r d a b⟩
theorem pick_of {dk c : Addr} {n : Nat} {x : T} {M : Mp} {Q : QE} (hD : DeckAt dk c M n) (hn : n < 2 ^ 59) (h0 : 0 < (itemsOf x).length) (h1 : (itemsOf x).length ≤ 100000) (k : ∀ M' t, DeckAt dk c M' (n + 1) → t ∈ itemsOf x → Q t M') :
    spPick [.raw (.ref dk), x] M Q := ⟨dk, c, n, x, rfl, hD, by omega, h0, sz h1, fun M' t d _ a => k M' t d a⟩
/-- no call at all -/
def spNo : Sp3 := fun _ _ _ => False
theorem fnd_no {P : Program} {w : World} {K : PySem.W.Frag} {mg : Str → Option Value} {base : Heap} {k : Nat} {f : Addr} {fd : FuncData} {ps : List Str} : FnD P w K mg base k f fd ps spNo :=
  ⟨fun _ _ _ _ ⟨_, _, _, _, _, _, _, h, _⟩ => h.elim, fun _ _ _ _ _ _ _ _ _ _ _ _ _ _ ⟨_, _, _, _, _, _, _, h, _⟩ => h.elim⟩
theorem str_len (z : Str) : z.cps.toList.length = z.length := Array.length_toList
theorem app_cps (a b : Str) : (a ++ b).cps.toList = a.cps.toList ++ b.cps.toList := by
  show (a.cps ++ b.cps).toList = _
  rw [Array.toList_append]
theorem app_len (a b : Str) : (a ++ b).length = a.length + b.length := Str.length_append a b
theorem low_app {a b : Str} (ha : Low a) (hb : Low b) : Low (a ++ b) := by
  intro c hc
  rw [app_cps] at hc
  rcases List.mem_append.mp hc with h | h
  · exact ha c h
  · exact hb c h
theorem low_cut {a : Str} (ha : Low a) (lo hi : Option Int) : Low (cutS a lo hi) := by
  intro c hc
  unfold cutS at hc
  exact ha c (List.mem_of_mem_drop (List.mem_of_mem_take hc))
theorem low_sign {z : Str} (hz : Low z) {t : T} (h : t ∈ signsT z) : ∃ c : Nat, t = .str ⟨#[c]⟩ ∧ Low ⟨#[c]⟩ := by
  unfold signsT at h
  obtain ⟨c, hc, e⟩ := List.mem_map.mp h
  refine ⟨c, e.symm, fun d hd => ?_⟩
  rw [List.mem_singleton] at hd
  exact hd ▸ hz c hc
theorem low_of {z : Str} (h : (z.cps.toList.all fun c => decide (c < 0x110000)) = true) : Low z := fun c hc => of_decide_eq_true (List.all_eq_true.mp h c hc)
theorem low_empty : Low Str.empty := fun _ h => nomatch h
theorem low_joinE : ∀ {xs : List Str}, (∀ x ∈ xs, Low x) → Low (Str.join "" xs)
  | [], _ => low_empty
  | [x], h => h x List.mem_cons_self
  | x :: y :: r, h => low_app (low_app (h x List.mem_cons_self) low_empty) (low_joinE fun z hz => h z (List.mem_cons_of_mem _ hz))
theorem low_join {xs : List Str} (h : ∀ x ∈ xs, Low x) : Low (Txt.join "" xs) := by
  show Low (Builtin.Str.glued "" xs)
  rw [StrLaws.glued_eq_join]
  exact low_joinE h
theorem join_len (xs : List Str) : (Txt.join "" xs).length ≤ (xs.map (·.length)).sum := by
  show (Builtin.Str.glued "" xs).length ≤ _
  rw [StrLaws.glued_eq_join]
  have h := StrLaws.join_length_le "" xs
  exact Nat.le_trans h (Nat.le_of_eq (by rw [show (("" : Str)).length = 0 from rfl, Nat.mul_zero, Nat.add_zero]))
theorem cut_len (a : Str) (lo hi : Option Int) : (cutS a lo hi).length ≤ a.length := cutS_length a lo hi
theorem cut_len_to (a : Str) (k : Nat) : (cutS a none (some (k : Int))).length ≤ k := by
  rw [← str_len]
  show (cutT a.cps.toList none (some (k : Int))).length ≤ k
  rw [cut_to, List.length_take]
  omega
theorem mul_fold (x : Array Nat) : ∀ (n : Nat) (acc : Array Nat), ((List.replicate n x).foldl (· ++ ·) acc).toList = acc.toList ++ (List.replicate n x.toList).flatten
  | 0, acc => by simp
  | n + 1, acc => by
    rw [List.replicate_succ, List.foldl_cons, mul_fold x n, Array.toList_append, List.replicate_succ, List.flatten_cons, List.append_assoc]
theorem low_mul {z : Str} (hz : Low z) (n : Int) : Low (Txt.mul z n) := by
  unfold Txt.mul
  split
  · exact low_empty
  · split
    · exact hz
    · intro c hc
      show c < _
      have e := mul_fold z.cps n.toNat #[]
      rw [show (Str.mk ((List.replicate n.toNat z.cps).foldl (· ++ ·) #[])).cps.toList = ((List.replicate n.toNat z.cps).foldl (· ++ ·) #[]).toList from rfl, e] at hc
      simp only [List.nil_append, List.mem_flatten, List.mem_replicate] at hc
      obtain ⟨l, ⟨_, rfl⟩, h⟩ := hc
      exact hz c h
theorem mul_len (z : Str) (n : Int) : (Txt.mul z n).length ≤ z.length * n.toNat := by
  unfold Txt.mul
  split
  · exact Nat.zero_le _
  · rename_i h1
    split
    · exact Nat.le_mul_of_pos_right _ (by omega)
    · have e := mul_fold z.cps n.toNat #[]
      rw [← str_len]
      rw [show (Str.mk ((List.replicate n.toNat z.cps).foldl (· ++ ·) #[])).cps.toList = ((List.replicate n.toNat z.cps).foldl (· ++ ·) #[]).toList from rfl, e]
      simp only [List.nil_append, List.length_flatten, List.map_replicate, List.sum_replicate_nat]
      rw [str_len, Nat.mul_comm]
      exact Nat.le_refl _
theorem tooLong_of {n : Nat} (h : n ≤ 100000) : Builtin.Str.tooLong n = false := by
  unfold Builtin.Str.tooLong
  exact decide_eq_false (by have := sz h; omega)
theorem mul_ok {z : Str} {n : Int} (hz : z.length ≤ 10000) (hn : 0 ≤ n) (h : n ≤ 100000) (hm : z.length * n.toNat ≤ 100000) : MulOk z n := by
  refine ⟨?_, ?_, ?_⟩
  · rw [Bool.or_eq_false_iff]
    exact ⟨decide_eq_false (by omega), decide_eq_false (by omega)⟩
  · intro h1 _ h2
    have h3 : (10000000000000 : Int) ≤ (2 ^ 63 - 1) / n := by
      rw [Int.le_ediv_iff_mul_le (by omega)]
      omega
    omega
  · intro _ _
    exact tooLong_of hm
end L3

set_option maxHeartbeats 1000000
/-! L3K: loops by an invariant; the order of triples; reprs of lists of flat values. -/
namespace L3
open PySem PySem.Spec PyProof.Rows L2
theorem forL_inv {ok : Mp → Prop} {P : Pat} {tb : S3} {D : Ends3} (Iv : Nat → SS → Mp → Prop) (hok : ∀ i ss M, Iv i ss M → ok M) : ∀ {xs : List T} {ss : SS} {M : Mp} (i : Nat), Iv i ss M →
    (∀ j t ss M, xs[j]? = some t → Iv (i + j) ss M → ∃ ss2, P.set t ss = some ss2 ∧ ∀ N : SS → Mp → Prop, (∀ ss' M', Iv (i + j + 1) ss' M' → N ss' M') → tb { nx := N, rt := D.rt, bk := D.nx, ct := N } ss2 M) →
    (∀ ss M, Iv (i + xs.length) ss M → D.nx ss M) → forL ok P tb D xs ss M
  | [], ss, M, i, h0, _, q => ⟨hok i ss M h0, q ss M h0⟩
  | t :: xs, ss, M, i, h0, h, q => by
    obtain ⟨ss2, e, h1⟩ := h 0 t ss M rfl h0
    refine ⟨hok i ss M h0, ?_⟩
    rw [e]
    refine h1 _ fun ss' M' h2 => forL_inv Iv hok (i + 1) h2 (fun j u ss3 M3 hu h3 => ?_) fun ss3 M3 h3 => ?_
    · have h6 := h (j + 1) u ss3 M3 hu (by rw [show i + (j + 1) = i + 1 + j by omega]; exact h3)
      rw [show i + (j + 1) + 1 = i + 1 + j + 1 by omega] at h6
      exact h6
    · exact q ss3 M3 (by rw [List.length_cons, show i + (xs.length + 1) = i + 1 + xs.length by omega]; exact h3)
theorem pys_map {α : Type} (f : α → T) (g : α → PyData) (h : ∀ a, (f a).py = some (g a)) : ∀ xs : List α, T.pys (xs.map f) = some (xs.map g)
  | [] => by rw [List.map_nil, List.map_nil, T.pys]
  | n :: ns => by rw [List.map_cons, List.map_cons, T.pys, h, pys_map f g h ns]
theorem lst_py {α : Type} (f : α → T) (g : α → PyData) (h : ∀ a, (f a).py = some (g a)) (xs : List α) : (T.lst (xs.map f)).py = some (.list (xs.map g)) := by rw [T.py, pys_map f g h]; rfl
theorem str_py (z : Str) : (T.str z).py = some (.str z) := rfl
theorem int_py (i : Int) : (T.int i).py = some (.int i) := rfl
theorem bl_py (b : Bool) : (T.bl b).py = some (.bool b) := rfl
theorem eqv_empty (xs : List PyData) : PyData.eqv (.list xs) (.list []) = decide (xs = []) := by
  cases xs with
  | nil => rw [PyData.eqv, PyData.eqvAll]; rfl
  | cons n r => rw [PyData.eqv, PyData.eqvAll]; rfl
theorem shaped_flats {xs : List PyData} (h : ∀ x ∈ xs, PyData.canLay0 x = true ∧ PyData.depth x = 0) : SeqAt.shaped (.list xs) = true := by
  have h1 : PyData.canLayAll0 xs = true ∧ PyData.depthAll xs = 0 := by
    induction xs with
    | nil => exact ⟨by rw [PyData.canLayAll0], by rw [PyData.depthAll]⟩
    | cons x r ih =>
      obtain ⟨a, b⟩ := h x List.mem_cons_self
      obtain ⟨c, d⟩ := ih fun y hy => h y (List.mem_cons_of_mem _ hy)
      exact ⟨by rw [PyData.canLayAll0, a, c]; rfl, by rw [PyData.depthAll, b, d]; rfl⟩
  unfold SeqAt.shaped
  rw [PyData.canLay0, h1.1, PyData.depth, h1.2]
  rfl
theorem shaped_strs {bs : List Str} (h : ∀ b ∈ bs, Low b) : SeqAt.shaped (.list (bs.map PyData.str)) = true := by
  refine shaped_flats fun x hx => ?_
  obtain ⟨b, hb, rfl⟩ := List.mem_map.mp hx
  exact ⟨by rw [PyData.canLay0, low_ok (h b hb)], rfl⟩
/-- [texts] == [] -/
theorem eq_strs_nil {bs : List Str} (h : ∀ b ∈ bs, Low b) {neg : Bool} {Q : QE} {M : Mp} (q : Q (.bl (if neg then !decide (bs = []) else decide (bs = []))) M) : oEqB neg (.lst (bs.map T.str)) (.lst []) Q M := by
  have e : PyData.eqv (.list (bs.map PyData.str)) (.list []) = decide (bs = []) := by
    rw [eqv_empty]
    exact decide_eq_decide.mpr List.map_eq_nil_iff
  unfold oEqB look
  dsimp only [scalT]
  rw [lst_py T.str PyData.str str_py, py_nil]
  refine ⟨shaped_strs h, shaped_nil, ?_⟩
  rw [e]
  exact q
theorem eq_nil_nil {neg : Bool} {Q : QE} {M : Mp} (q : Q (.bl (!neg)) M) : oEqB neg (.lst []) (.lst []) Q M := eq_strs_nil (bs := []) (fun _ h => nomatch h) (by cases neg <;> exact q)
theorem ltS_irr (a : Str) : ltS a a = false := decide_eq_false (List.lt_irrefl _)
theorem eqT_int (i j : Int) : eqT (.int i) (.int j) = some (decide (i = j)) := by
  unfold eqT
  rw [int_py, int_py]
  dsimp only
  rw [if_pos (show (SeqAt.shaped (.int i) && SeqAt.shaped (.int j)) = true from rfl), PyData.eqv]
  rfl
theorem eqT_str {a b : Str} (ha : Low a) (hb : Low b) : eqT (.str a) (.str b) = some (decide (a = b)) := by
  unfold eqT
  rw [str_py, str_py]
  dsimp only
  rw [shaped_str ha, shaped_str hb, if_pos (show (true && true) = true from rfl), PyData.eqv]
  rfl
/-- (int, int, text) ahead of another -/
theorem lt_iis (n : Nat) (a b x y : Int) {c z : Str} (hc : Low c) (hz : Low z) : ltN (n + 2) (.tup [.int a, .int b, .str c]) (.tup [.int x, .int y, .str z]) = some (if a = x then if b = y then ltS c z else decide (b < y) else decide (a < x)) := by
  have e : ltL (ltN (n + 1)) [.int a, .int b, .str c] [.int x, .int y, .str z] = some (if a = x then if b = y then ltS c z else decide (b < y) else decide (a < x)) := by
    rw [ltL, ltL, ltL, ltL, eqT_int, eqT_int, eqT_str hc hz]
    have f1 : ltN (n + 1) (.str c) (.str z) = some (ltS c z) := rfl
    have f2 : ltN (n + 1) (.int b) (.int y) = some (decide (b < y)) := rfl
    have f3 : ltN (n + 1) (.int a) (.int x) = some (decide (a < x)) := rfl
    rw [f1, f2, f3]
    by_cases h1 : a = x <;> by_cases h2 : b = y <;> by_cases h3 : c = z <;> simp [h1, h2, h3, ltS_irr]
  exact e
theorem lt_iisO (a b x y : Int) {c z : Str} (hc : Low c) (hz : Low z) {Q : QE} {M : Mp} (q : Q (.bl (if a = x then if b = y then ltS c z else decide (b < y) else decide (a < x))) M) : oLtT 20 (.tup [.int a, .int b, .str c]) (.tup [.int x, .int y, .str z]) Q M := by
  unfold oLtT
  rw [lt_iis 18 a b x y hc hz]
  exact q
def shT (t : T) : Str := (t.py.map PyData.shown).getD ""
theorem Fine.rep {t : T} {n k : Nat} {Q : QE} {M : Mp} (h : Fine t n k) (a : n ≤ 16000000) (b : k ≤ 60) (hl : look t M = t) (q : Q (.str (shT t)) M) : fRepr [t] Q M :=
  h.repr a b hl fun d e => by
    unfold shT at q
    rw [e] at q
    exact q
theorem fine_bls {bs : List Bool} (h : bs.length ≤ 1000) : Fine (.lst (bs.map T.bl)) 7003 1 :=
  (fine_lst (n := 5) (k := 0) (xs := bs.map T.bl) fun x hx => by
    obtain ⟨b, _, rfl⟩ := List.mem_map.mp hx
    exact fine_bl b).mono (by rw [List.length_map]; omega) (Nat.le_refl _)
theorem eq_strB {a b : Str} {neg : Bool} {Q : QE} {M : Mp} (q : Q (.bl (if neg then !decide (a = b) else decide (a = b))) M) : oEqB neg (.str a) (.str b) Q M := q
end L3

set_option maxHeartbeats 1000000
/-! L3L: starred displays, split, sorted of texts and of tuples that begin with a text. -/
namespace L3
open PySem PySem.Spec PyProof.Rows L2
section
variable {X : Cx} {K : PySem.W.Frag} {e o : Expr} {es : List Expr} {te : E3} {tl : A3} {p pos : Pos}
/-- *e ahead of more -/
def dStar (te : E3) (tl : A3) : A3 := fun ss M Q => te ss M fun x M1 => match seqOf (look x M1) with
  | some xs => tl ss M1 fun ys M2 => Q (xs ++ ys) M2
  | none => False
theorem da_star (he : DE X e te) (hr : DA X es tl) (hs : starEach (.Starred e p :: es) X.env = (true, eval e X.env) :: starEach es X.env := by rfl) : DA X (.Starred e p :: es) (dStar te tl) := by
  refine pa_weak (StX.pa_star he hr hs) ?_
  rintro σ H Q ⟨F, O, M, ss, Q3, w, sl, q, k⟩
  refine ⟨F, O, M, ss, _, w, sl, q, ?_⟩
  intro v H1 F1 M1 t x1 w1 r1 q1
  split at q1
  · rename_i xs e1
    obtain ⟨a, us, rfl, h, px⟩ := (r1.sees w1).seq w1 e1
    refine ⟨a, us, rfl, h.symm, F1, O, M1, ss, _, w1, sl.mono x1, q1, ?_⟩
    intro vs H2 F2 M2 ts x2 w2 r2 q2
    exact k _ H2 F2 M2 _ (x1.trans x2) w2 ((px.mono x2).append r2) q2
  · exact q1.elim
/-- s.split(sep) -/
def mSplit (x : T) (ts : List T) (Q : QE) (M : Mp) : Prop := match x, ts with
  | .str a, [.str b] => (b.length == 0) = false ∧ a.length + 2 ≤ sizeLine ∧ Q (.lst ((Txt.split a b).map T.str)) M
  | _, _ => False
theorem md_split : MtD K (fun x xs H Q => ∃ a b, x = .str a ∧ xs = [.str b] ∧ (b.length == 0) = false ∧ a.length + 2 ≤ sizeLine ∧ rNewStrs (Txt.split a b) H Q) mSplit := by
  intro F O H M x t vs ts Q3 Q w rx rs q k
  unfold mSplit at q
  split at q
  · cases rx
    cases rs with
    | cons ry rn =>
    cases rn
    cases ry
    exact ⟨_, _, rfl, rfl, q.1, q.2.1, fin_new w k (fun F' p x e => .lst e (Reps.of_strs _)) q.2.2⟩
  · exact q.elim
theorem d_split {apos cpos : Pos} (ho : DE X o te) (ha : DA X [e] tl) (hbase : attributeBase o "split" X.env (eval o X.env) = eval o X.env := by rfl)
    (hfew : ((backTo cpos (starEach [e] X.env)).all (fun x => !x.1) && (backToKw cpos (keywordEach [] X.env)).all (fun x => x.1.isSome)
      && decide (([e] : List Expr).length + ([] : List Keyword).length + (if ([] : List Keyword).isEmpty then 0 else 1) < 30)) = true := by rfl)
    (hline : (apos.endLine == cpos.line) = true := by rfl) (hs : starEach [e] X.env = (false, eval e X.env) :: starEach [] X.env := by rfl) :
    DE X (.Call (.Attribute o "split" apos) [e] [] cpos) (dSm mSplit te tl) := d_sm PySem.F.slot_str_split PySem.F.type_str_split mt_split md_split ho ha hbase hfew hline hs rfl
/-- sorted of texts -/
def fSortS (ts : List T) (Q : QE) (M : Mp) : Prop := match ts with
  | [x] => (match look x M with
    | .lst xs => (match strsT xs with
      | some bs => bs.length < 64 ∧ ∀ ys : List Str, ys.Perm bs → sortedS ys = true → Q (.lst (ys.map T.str)) M
      | none => False)
    | _ => False)
  | _ => False
theorem cd_sortS : CallD K (rSortedS K) fSortS := by
  intro F O H M vs ts Q3 Q w rs q k
  unfold fSortS at q
  split at q
  · cases rs with
    | cons rx rn =>
    cases rn
    have sx := rx.sees w
    split at q
    · rename_i e1
      rw [e1] at sx
      cases sx with
      | lst hx px =>
      split at q
      · rename_i bs e2
        have e3 := strs_eq e2
        subst e3
        have e4 := px.strs
        subst e4
        exact ⟨_, bs, rfl, .of hx, q.1, fun ys p h1 h2 hp => fin_new w k (fun F' p x e => .lst e (Reps.of_strs _)) (q.2 ys h1 h2) p hp⟩
      · exact q.elim
    · exact q.elim
  · exact q.elim
theorem d_sortedS {p : Pos} (hg : Gl X "sorted") (hm : X.mg "sorted" = none) (ha : DA X [e] tl) (he : starEach [e] X.env = (false, eval e X.env) :: starEach [] X.env := by rfl) : DE X (.Call (.Name "sorted" p) [e] [] pos) (dCall fSortS tl) := d_callB cr_sortedS cd_sortS hg hm (by decide +kernel) ha (he := he)
end

/-! ### sorted of tuples -/
section
variable {X : Cx} {pins : List (Addr × Obj)} {σ : L2.St} {s : Shared} {F O H : Hp} {M : Mp}
theorem katlex_of (I : Inv X pins σ H s) (w : Wd X.K F O H M) (hy : SysAt X.base) {A : Around} {n : Nat} (hu : A.units + 64 + n < cLine) {prog : Program} {wo : World} {fin : Bool} : ∀ {xs ys : List T} {us zs : List V} {vs ws : List Value} {b : Bool} (i : Nat),
    Reps X.K F us xs → Reps X.K F zs ys → Vals us vs → Vals zs ws → ltL (ltN n) xs ys = some b → (i = 0 → (∀ t, xs.head? = some t → ∃ z, t = .str z) ∧ ∀ t, ys.head? = some t → ∃ z, t = .str z) → fin = decide (xs.length < ys.length) →
    PySem.W.KatLex prog wo A true fin (fun r s' => s' = s ∧ r = b) (vs.zip ws) i s
  | [], [], _, _, _, _, b, i, .nil, .nil, .nil, .nil, h, _, hf => by
    rw [ltL] at h
    cases h
    exact PySem.W.kat_nil ⟨rfl, hf⟩
  | [], y :: ys, _, _, _, _, b, i, .nil, .cons _ _, .nil, .cons _ _, h, _, hf => by
    rw [ltL] at h
    cases h
    exact PySem.W.kat_nil ⟨rfl, hf.trans (decide_eq_true (by rw [List.length_nil, List.length_cons]; omega))⟩
  | x :: xs, [], _, _, _, _, b, i, .cons _ _, .nil, .cons _ _, .nil, h, _, hf => by
    rw [ltL] at h
    cases h
    exact PySem.W.kat_nil ⟨rfl, hf.trans (decide_eq_false (by rw [List.length_nil]; omega))⟩
  | x :: xs, y :: ys, _, _, _, _, b, i, .cons rx rxs, .cons ry rys, .cons vx vxs, .cons vy vys, h, h0, hf => by
    rw [ltL] at h
    split at h
    · rename_i r0 e0 e1
      cases h
      refine PySem.W.kat_cons (eqT_at I w hy (by omega) rx ry vx vy e0 _ _ _ _ (PySem.W.kat_yes ?_))
      refine katlex_of I w hy hu (i + 1) rxs rys vxs vys e1 (fun z => absurd z (Nat.succ_ne_zero i)) (hf.trans ?_)
      rw [List.length_cons, List.length_cons]
      exact decide_eq_decide.mpr Nat.succ_lt_succ_iff
    · rename_i r0 e0 e1
      refine PySem.W.kat_cons (eqT_at I w hy (by omega) rx ry vx vy e0 _ _ _ _ (PySem.W.kat_no ?_))
      cases i with
      | zero =>
        obtain ⟨z1, e2⟩ := (h0 rfl).1 x rfl
        obtain ⟨z2, e3⟩ := (h0 rfl).2 y rfl
        subst e2
        subst e3
        cases rx; cases ry
        obtain ⟨_, rfl⟩ := vx
        obtain ⟨_, rfl⟩ := vy
        have e4 : ltN n (.str z1) (.str z2) = some (ltS z1 z2) := by cases n <;> rfl
        rw [e4] at h
        cases h
        exact oneLt_any_str ⟨rfl, rfl⟩
      | succ i =>
        exact PySem.W.kat_one _ _ (ltN_ok I w hy n hu rx ry vx vy h _ _ _ _ ⟨rfl, rfl⟩)
    · cases h
end
def tupS : T → Bool
  | .tup (.str _ :: _) => true
  | _ => false
/-- all of them can be compared -/
def cmpAll (n : Nat) (xs : List T) : Prop := ∀ x ∈ xs, tupS x = true ∧ ∀ y ∈ xs, (ltN (n + 1) x y).isSome = true
def fSortT (ts : List T) (Q : QE) (M : Mp) : Prop := match ts with
  | [x] => (match look x M with
    | .lst xs => cmpAll 12 xs ∧ ∀ ys : List T, ys.Perm xs → Q (.lst ys) M
    | _ => False)
  | _ => False
def rSortT (X : Cx) : List V → Hp → VK → Prop := fun vs H Q => ∃ (a : Addr) (F O : Hp) (M : Mp) (us : List V) (xs : List T), vs = [V.ref a] ∧ SqL X.K H a us ∧ Wd X.K F O H M ∧ Reps X.K F us xs ∧ cmpAll 12 xs ∧
  ∀ ys p, ys.Perm us → H p = none → Q (.ref p) (upd H p (.lst ys))
theorem Reps.perm {K : PySem.W.Frag} {F : Hp} {us vs : List V} (p : us.Perm vs) : ∀ {ts : List T}, Reps K F us ts → ∃ ss, Reps K F vs ss ∧ ss.Perm ts := by
  induction p with
  | nil => intro ts h; cases h; exact ⟨[], .nil, .nil⟩
  | cons x _ ih =>
    intro ts h
    cases h with
    | cons r rs =>
    obtain ⟨ss, h1, h2⟩ := ih rs
    exact ⟨_ :: ss, .cons r h1, h2.cons _⟩
  | swap x y l =>
    intro ts h
    cases h with
    | cons r rs =>
    cases rs with
    | cons r2 rs =>
    exact ⟨_, .cons r2 (.cons r rs), List.Perm.swap _ _ _⟩
  | trans _ _ ih1 ih2 =>
    intro ts h
    obtain ⟨ss, h1, h2⟩ := ih1 h
    obtain ⟨rr, h3, h4⟩ := ih2 h1
    exact ⟨rr, h3, h4.trans h2⟩
section
variable {X : Cx} {e : Expr} {tl : A3} {pos : Pos}
theorem cr_sortT (hy : SysAt X.base) (hu : X.A.units + 84 < cLine) : CallR X (.builtin "sorted") (rSortT X) := by
  intro pins s σ H vs us Q I r h
  obtain ⟨a, F, O, M, xs, ts, rfl, hs, wd, rp, hc, q⟩ := h
  obtain ⟨its, rv, hl, hz⟩ := I.list hs
  obtain ⟨u, rfl, ru⟩ := vals1 r
  obtain rfl : u = Value.ref a := ru
  have hit : ∀ v ∈ its, ∃ (x : V) (t : T), RelV x v ∧ Rep X.K F x t ∧ t ∈ ts := by
    intro v hv
    obtain ⟨j, hj, e⟩ := List.getElem_of_mem hv
    have hj2 : j < xs.length := by rw [rv.length]; exact hj
    obtain ⟨u2, e2, r2⟩ := rv.get (List.getElem?_eq_getElem hj2)
    rw [List.getElem?_eq_getElem hj, e] at e2
    cases e2
    obtain ⟨t, e3, r3⟩ := rp.get' (List.getElem?_eq_getElem hj2)
    exact ⟨_, t, r2, r3, List.mem_of_getElem? e3⟩
  have hrefs : ∀ x ∈ xs, ∃ a, x = V.ref a := by
    intro x hx
    obtain ⟨j, hj, e⟩ := List.getElem_of_mem hx
    obtain ⟨t, e3, r3⟩ := rp.get' (List.getElem?_eq_getElem hj)
    rw [e] at r3
    have := (hc t (List.mem_of_getElem? e3)).1
    cases r3 with
    | tup h _ => exact ⟨_, rfl⟩
    | _ => cases this
  obtain ⟨e1, e2⟩ := refs_back rv hrefs
  have data : ∀ v ∈ its, ∃ (p : Addr) (o : Obj) (vs' : List Value) (n : Nat) (us' : List V) (xs' : List T), v = .ref p ∧ s.heap.get? p = some o ∧ o.cls = .type "tuple" ∧ o.data = .seq vs'.toArray n ∧ Vals us' vs' ∧ Reps X.K F us' xs' ∧ T.tup xs' ∈ ts := by
    intro v hv
    obtain ⟨x, t, rx, rt, ht⟩ := hit v hv
    have ht1 := (hc t ht).1
    cases rt with
    | tup h1 r1 =>
      cases rx
      obtain ⟨vs', q1, p1, _⟩ := I.tuple (wd.ex.sqT h1)
      obtain ⟨o, ho, hcl, n, hd⟩ := p1
      exact ⟨_, o, vs', n, _, _, rfl, ho, hcl, hd, q1, r1, ht⟩
    | _ => cases ht1
  refine Srt.sorted_any hl.isList (by rw [← rv.length]; exact hz) (fun h2 h₁ b hb kk h' keep => ?_) fun out hp => ?_
  · have kk' : ∀ c o, s.heap.get? c = some o → h'.get? c = some o := fun c o e => keep c o (kk c o e).1 (kk c o e).2
    have I2 : Inv X pins σ H { s with heap := h' } := I.kept (t' := s.toks) kk'
    refine ⟨tuples' true, fun Q E hq => ?_, ?_⟩
    · have firsts : ∀ l : List Value, (∀ v ∈ l, v ∈ its) → ∃ fs : List Value, PySem.W.KatTups h' l fs ∧ fs.length = l.length ∧ ∀ f ∈ fs, ∃ x t, f = Value.str x t := by
        intro l
        induction l with
        | nil => exact fun _ => ⟨[], PySem.W.KatTups.nil, rfl, fun _ hm => nomatch hm⟩
        | cons v r ih =>
          intro hv
          obtain ⟨fs, k1, k2, k3⟩ := ih fun y hy' => hv y (List.mem_cons_of_mem _ hy')
          obtain ⟨p, o, vs', n, us', xs', rfl, ho, hcl, hd, q1, r1, ht⟩ := data v (hv v List.mem_cons_self)
          have t1 := (hc _ ht).1
          cases r1 with
          | nil => cases t1
          | cons rr rrs =>
            cases rr with
            | str z =>
              cases q1 with
              | cons q0 q1 =>
              obtain ⟨tk, rfl⟩ := q0
              refine ⟨.str z tk :: fs, PySem.W.KatTups.cons (kk' _ _ ho) hcl hd rfl k1, by rw [List.length_cons, List.length_cons, k2], fun f hm => ?_⟩
              rcases List.mem_cons.mp hm with rfl | hm
              · exact ⟨z, tk, rfl⟩
              · exact k3 f hm
            | _ => cases t1
      obtain ⟨fs, k1, k2, k3⟩ := firsts its fun _ h => h
      refine PySem.W.kat_kind (T := .type "str") (s := { s with heap := h' }) k1 (by omega) (fun f hm => ?_) (by rfl) ?_
      · obtain ⟨x, t, rfl⟩ := k3 f hm
        exact PySem.W.Looks.now
      · have e : (Value.type "str" != Value.type "tuple") = true := by first | decide +kernel | rfl | decide
        rw [e]
        exact hq
    · intro p q hm hm'
      obtain ⟨a1, o1, v1, n1, u1, x1, e1', ho1, hc1, hd1, q1, r1, t1⟩ := data _ hm
      obtain ⟨a2, o2, v2, n2, u2, x2, e2', ho2, hc2, hd2, q2, r2, t2⟩ := data _ hm'
      rw [e1', e2']
      obtain ⟨b, hb2⟩ := Option.isSome_iff_exists.mp ((hc _ t1).2 _ t2)
      have hb3 : ltL (ltN 12) x1 x2 = some b := hb2
      refine ⟨b, PySem.W.kat_lt (kk' _ _ ho1) hd1 (kk' _ _ ho2) hd2 ?_⟩
      have s1 := (hc _ t1).1
      have s2 := (hc _ t2).1
      refine katlex_of I2 wd hy (n := 12) (A := _) (by show X.A.units + 1 + 1 + 64 + 12 < cLine; omega) 0 r1 r2 q1 q2 hb3 (fun _ => ⟨fun t ht => ?_, fun t ht => ?_⟩) ?_
      · cases x1 with
        | nil => cases ht
        | cons z r =>
          cases ht
          cases t with
          | str z => exact ⟨z, rfl⟩
          | _ => cases s1
      · cases x2 with
        | nil => cases ht
        | cons z r =>
          cases ht
          cases t with
          | str z => exact ⟨z, rfl⟩
          | _ => cases s2
      · rw [List.size_toArray, List.size_toArray, ← q1.length, ← q2.length, r1.length, r2.length]
  · have h3 : ∀ u ∈ out, ∃ a, u = Value.ref a := fun u hu => e2 u (hp.mem_iff.mp hu)
    obtain ⟨n, hn⟩ := PyProof.Rows.sortedAll_at s.heap its out.toArray
    refine ⟨.ref _, upd H (s.heap.objs.size + 1) (.lst (out.map backV)), I.laid (t' := s.toks) (fun _ _ => PyProof.Rows.sortedAll_old) (Nat.le_succ _) ⟨?_, out, n, vals_back h3, hn⟩, rfl, q _ _ ?_ (I.hok.fresh (Nat.le_succ _))⟩
    · rw [List.length_map, hp.length_eq, ← rv.length]; exact hz
    · rw [e1]; exact hp.map backV
theorem cd_sortT : ∀ (F O H : Hp) (M : Mp) (vs : List V) (ts : List T) (Q3 : QE) (Q : VK), Wd X.K F O H M → Reps X.K F vs ts → fSortT ts Q3 M → LkV X.K F O Q3 Q → rSortT X vs H Q := by
  intro F O H M vs ts Q3 Q w rs q k
  unfold fSortT at q
  split at q
  · cases rs with
    | cons rx rn =>
    cases rn
    have sx := rx.sees w
    split at q
    · rename_i e1
      rw [e1] at sx
      cases sx with
      | lst hx px =>
      refine ⟨_, F, O, M, _, _, rfl, .of hx, w, px, q.1, fun ys p hp hn => ?_⟩
      obtain ⟨ss, h1, h2⟩ := px.perm hp.symm
      exact fin_new w k (fun F' p x e => .lst e (h1.mono x)) (q.2 ss h2) p hn
    · exact q.elim
  · exact q.elim
theorem d_sortedT {p : Pos} (hu : X.A.units + 84 < cLine) (hy : SysAt X.base) (hg : Gl X "sorted") (hm : X.mg "sorted" = none) (ha : DA X [e] tl) (he : starEach [e] X.env = (false, eval e X.env) :: starEach [] X.env := by rfl) : DE X (.Call (.Name "sorted" p) [e] [] pos) (dCall fSortT tl) := d_callB (cr_sortT hy hu) cd_sortT hg hm (by decide +kernel) ha (he := he)
end
end L3

set_option maxHeartbeats 1000000
/-! L3M: enumerate of a tuple, of a list. -/
namespace EnT
open PySem
open Sem (wp)
open AutoSeq1 (wpAny_loadPart')
abbrev tIt (l : Addr) : Obj := { cls := .type "tuple_iterator", data := .fields #[.ref l, .int 0 0] }
abbrev eOb (k : Addr) : Obj := { cls := .type "enumerate", data := .fields #[.none, .bool false, .ref k, rawInt 0, .none, .none] }
theorem meets_new (l : Addr) (xs : Array Value) (n : Nat) (d₀ : Option Addr) (z₀ : Array (Option Value)) :
    Meets (Builtin.«enumerate.__new__» ⟨[.type "enumerate", .ref l], []⟩) (fun _ R s => s.heap.get? l = some { cls := .type "tuple", dict := d₀, data := .seq xs n, slots := z₀ } ∧
      R (.ok (.ret (.ref (s.heap.push (tIt l)).objs.size))) { s with heap := (s.heap.push (tIt l)).push (eOb s.heap.objs.size) }) :=
  .of_wp fun P wo A R s h => by
    obtain ⟨hp, g, dd, tk, os⟩ := s
    obtain ⟨hl, h⟩ := h
    have hsb := sub_enumerate
    have hT : Heap.IsTuple (Shared.heap ⟨hp, g, dd, tk, os⟩) l xs := ⟨_, hl, rfl, n, rfl⟩
    wp_walk using wpAny_loadPart' hl
    refine wpAny_stack_any fun _ => wpAny_pure ?_
    split
    · rename_i c _ _ _ _ _
      cases (c == Value.type "enumerate") <;> wp_walk using wpAny_loadPart' hl, wpAny_pyIter_tuple hT
      all_goals exact ⟨_, rfl, h⟩
    · wp_walk using wpAny_loadPart' hl, wpAny_pyIter_tuple hT
      exact ⟨_, rfl, h⟩
section
variable {prog : Program} {w : World} {A : Around} {E : Value → Shared → Prop} {s : Shared}
theorem call_tup {l : Addr} {xs : Array Value} {Q : Value → Shared → Prop} (hL : s.heap.IsTuple l xs)
    (h : ∀ h', IsEnum h' (s.heap.objs.size + 1) s.heap.objs.size 0 .none → h'.IsTupleIter s.heap.objs.size l 0 → (∀ b o, s.heap.get? b = some o → h'.get? b = some o) → Q (.ref (s.heap.objs.size + 1)) { s with heap := h' }) :
    wpAny (model prog w) A (call (.type "enumerate") [.ref l]) Q E s := by
  obtain ⟨⟨c, d₀, dt, z₀⟩, hl, hc, n, hd⟩ := hL
  cases (show c = .type "tuple" from hc)
  cases (show dt = .seq xs n from hd)
  refine callType_new F.called_enumerate (by decide) (F.typeCall_enumerate_1 _) (F.newCall_enumerate_1 _) (fun o => F.args_object_init_2 o _) F.entry_enumerate_new (meets_new l xs n d₀ z₀) ⟨hl, ?_⟩
  have hz : (s.heap.push (tIt l)).objs.size = s.heap.objs.size + 1 := Heap.size_push ..
  show _ ∧ _
  rw [hz]
  have he : IsEnum ((s.heap.push (tIt l)).push (eOb s.heap.objs.size)) (s.heap.objs.size + 1) s.heap.objs.size 0 .none := by
    have k := Heap.get?_push_size (s.heap.push (tIt l)) (o := eOb s.heap.objs.size) rfl
    rw [hz] at k
    exact k
  exact ⟨⟨_, he, rfl⟩, h _ he ⟨_, Heap.get?_push_of_some _ (Heap.get?_push_size _ rfl), rfl, rfl⟩ fun b o x => Heap.get?_push_of_some _ (Heap.get?_push_of_some _ x)⟩
/-- the next item of a tuple's iterator -/
theorem next_item {k l : Addr} {i : Nat} {xs : Array Value} {x : Value} {Q : Value → Shared → Prop} (ht : s.heap.IsTupleIter k l i) (hl : s.heap.IsTuple l xs) (hx : xs[i]? = some x)
    (q : ∀ h', h'.IsTupleIter k l (i + 1) → Heap.SameBut k s.heap h' → Q x { s with heap := h' }) : wpAny (model prog w) A (Builtin.SmallTypes.nextOf (.ref k)) Q E s := by
  obtain ⟨o, ho, hc, hd⟩ := id ht
  obtain ⟨u, hu, _, m, hm⟩ := hl
  unfold Builtin.SmallTypes.nextOf
  refine wpAny_bind (wpAny_callSpecial?_slot (name := Str.ofString "__next__") ht.typeIs F.slot_tuple_iterator_next (wpAny_call_entry F.slot_tuple_iterator_next ht.typeIs F.entry_tuple_iterator_next ?_ (F.args_tuple_iterator_next_1 _)))
  show wpAny _ _ (field (.ref k) 0 >>= _) _ _ s
  refine wpAny_bind (wpAny_field ho hd (x := .ref l) rfl ?_)
  show wpAny _ _ (if (Value.ref l == Value.none) = true then _ else _) _ _ s
  rw [if_neg (show ¬ ((Value.ref l == Value.none) = true) from Bool.false_ne_true)]
  show wpAny _ _ (field (.ref k) 1 >>= _) _ _ s
  refine wpAny_bind (wpAny_field ho hd (x := .int i 0) rfl ?_)
  show wpAny _ _ (seqItems? (.ref l) >>= _) _ _ s
  refine wpAny_bind (wpAny_seqItems hu hm ?_)
  simp only [Int.toNat_natCast, hx]
  refine wpAny_bind (wpAny_setField ho hd (by simp) (wpAny_pure ⟨x, rfl, wpAny_pure (q _ ⟨_, Heap.get?_update_self _ ho (Obj.isFreed_of_fields (Obj.data_mapFields hd _)), (Obj.cls_mapFields ..).trans hc, ?_⟩ (Heap.SameBut.update ..))⟩))
  rw [Obj.data_mapFields hd]
  simp [rawInt]
theorem next_end {k l : Addr} {i : Nat} {xs : Array Value} {Q : Value → Shared → Prop} (hh : A.handled = none) (ht : s.heap.IsTupleIter k l i) (hl : s.heap.IsTuple l xs) (hx : xs[i]? = none)
    (q : ∀ h' e, Heap.ExtBut k s.heap h' → (∃ o, h'.get? e = some o ∧ o.cls = .type "StopIteration") → E (.ref e) { s with heap := h' }) : wpAny (model prog w) A (Builtin.SmallTypes.nextOf (.ref k)) Q E s := by
  obtain ⟨o, ho, hc, hd⟩ := id ht
  obtain ⟨u, hu, _, m, hm⟩ := hl
  unfold Builtin.SmallTypes.nextOf
  refine wpAny_bind (wpAny_callSpecial?_slot (name := Str.ofString "__next__") ht.typeIs F.slot_tuple_iterator_next (wpAny_call_entry F.slot_tuple_iterator_next ht.typeIs F.entry_tuple_iterator_next ?_ (F.args_tuple_iterator_next_1 _)))
  show wpAny _ _ (field (.ref k) 0 >>= _) _ _ s
  refine wpAny_bind (wpAny_field ho hd (x := .ref l) rfl ?_)
  show wpAny _ _ (if (Value.ref l == Value.none) = true then _ else _) _ _ s
  rw [if_neg (show ¬ ((Value.ref l == Value.none) = true) from Bool.false_ne_true)]
  show wpAny _ _ (field (.ref k) 1 >>= _) _ _ s
  refine wpAny_bind (wpAny_field ho hd (x := .int i 0) rfl ?_)
  show wpAny _ _ (seqItems? (.ref l) >>= _) _ _ s
  refine wpAny_bind (wpAny_seqItems hu hm ?_)
  simp only [Int.toNat_natCast, hx]
  refine wpAny_bind (wpAny_rule (wpAny_bind (wpAny_setField ho hd (by simp) ?_)))
  show wpAny _ _ (newExc (.type "StopIteration") [] >>= _) _ _ _
  refine wpAny_bind ?_
  simp only [newExc, newTuple]
  refine wpAny_bind (wpAny_newObj_type ?_ (by size_fits))
  refine wpAny_bind (m := firstArgMember _ _) (wpAny_of_eq (a := Value.none) (by first | rfl | (simp only [firstArgMember]; rfl)) (wpAny_newObj_type ?_ (by size_fits)))
  simp only [raiseNew]
  refine wpAny_bind (wpAny_handled ?_)
  first | rw [show A.in1.handled = none from hh] | rw [hh]
  exact wpAny_bind (wpAny_pure (wpAny_throw (q _ _ (((Heap.SameBut.update ..).extBut.push _).push _) ⟨_, Heap.get?_push_size _ rfl, rfl⟩)))
theorem draws_tup (hh : A.handled = none) (k l : Addr) (xs : Array Value) : Draws prog w A k [k, l] xs.size (fun i v => xs[i]? = some v) (fun i h => h.IsTupleIter k l i ∧ h.IsTuple l xs) where
  live := fun _ _ st => st.1.imp fun _ h => h.1
  frame := fun _ _ _ st hk => ⟨st.1.imp fun o h => ⟨hk k (by simp) o h.1, h.2⟩, st.2.imp fun o h => ⟨hk l (by simp) o h.1, h.2⟩⟩
  item := fun i s Q E hi st q => by
    have hne : l ≠ k := by
      rintro rfl
      obtain ⟨o, h1, h2, _⟩ := st.1
      obtain ⟨u, h3, h4, _⟩ := st.2
      rw [h1] at h3
      cases h3
      rw [h2] at h4
      exact absurd (Value.type.inj h4) (by decide)
    exact next_item st.1 st.2 (x := xs[i]) (by simp [hi]) fun h' a b => q _ h' s.toks (by simp [hi]) ⟨a, st.2.extBut b.extBut hne⟩ b
  done := fun s Q E st q => next_end hh st.1 st.2 (by simp) q
theorem draws_end (hh : A.handled = none) (k l : Addr) (xs : Array Value) (n : Nat) (hx : xs[n]? = none) : Draws prog w A k [k, l] n (fun _ _ => False) (fun i h => i = n ∧ h.IsTupleIter k l n ∧ h.IsTuple l xs) where
  live := fun _ _ st => st.2.1.imp fun _ h => h.1
  frame := fun _ _ _ st hk => ⟨st.1, st.2.1.imp fun o h => ⟨hk k (by simp) o h.1, h.2⟩, st.2.2.imp fun o h => ⟨hk l (by simp) o h.1, h.2⟩⟩
  item := fun i s Q E hi st q => absurd st.1 (Nat.ne_of_lt hi)
  done := fun s Q E st q => next_end hh st.2.1 st.2.2 hx q
theorem apart_of {h : Heap} {a b : Addr} {o u : Obj} (ha : h.get? a = some o) (hb : h.get? b = some u) (ne : o.cls ≠ u.cls) : a ≠ b := by
  rintro rfl
  rw [ha] at hb
  cases hb
  exact ne rfl
end
end EnT
namespace L3
open PySem PySem.Spec PyProof.Rows L2
/-- the tuple at a, n items, each in a new pair -/
def IteT (K : PySem.W.Frag) (a : Addr) : It :=
  ⟨fun i H => ∃ (xs : List V) (x : V), SqT K H a xs ∧ xs[i]? = some x, fun i H v H' => ∃ q x, v = .ref q ∧ H q = none ∧ H' = upd H q (.tup [.int (i : Nat), x]) ∧ ∀ xs, SqT K H a xs → xs[i]? = some x,
    fun i H => ∃ xs : List V, SqT K H a xs ∧ xs.length ≤ i⟩
theorem turn_enT {P : Program} {w : World} {K : PySem.W.Frag} {elts : List Expr} {kk : Nat} {tpos : Pos} (a e k : Addr) :
    Turn P w K (.Tuple elts kk tpos) (IteT K a) [e, k] e (fun i h => (∃ old, IsEnum h e k ((i : Nat) : Int) old) ∧ h.IsTupleIter k a i ∧ e ≠ k) where
  mem := List.mem_cons_self
  obj := fun i h st b hb => by
    obtain ⟨⟨old, he⟩, ⟨o, ho, hc, hd⟩, _⟩ := st
    rcases List.mem_cons.mp hb with z | z
    · rw [z]
      exact ⟨_, he, fun v q => nomatch q⟩
    · rw [List.mem_singleton.mp z]
      exact ⟨o, ho, fun v q => by rw [hd] at q; cases q⟩
  keep := fun i h h' st f => by
    obtain ⟨⟨old, he⟩, ⟨o, ho, hr⟩, hne⟩ := st
    exact ⟨⟨old, f e List.mem_cons_self _ he⟩, ⟨o, f k (List.mem_cons_of_mem _ List.mem_cons_self) _ ho, hr⟩, hne⟩
  item := by
    intro X hP hw hK hc i pins s σ H E I hf st hg
    subst hP hw hK
    obtain ⟨⟨old, he⟩, hit, hne⟩ := st
    obtain ⟨vs, x, hq, hx⟩ := hg
    obtain ⟨its, rv, p, hz⟩ := I.tuple hq
    have p' : s.heap.IsTuple a its.toArray := p
    obtain ⟨u, hu, ru⟩ := rv.get hx
    have hel : e < s.heap.objs.size := Heap.lt_size he
    have hil : k < s.heap.objs.size := by
      obtain ⟨_, q, _⟩ := hit
      exact Heap.lt_size q
    have hea : e ≠ a := by
      obtain ⟨o, h1, h2, _⟩ := p'
      exact EnT.apart_of he h1 (by rw [h2]; exact fun z => absurd (Value.type.inj z) (by decide))
    have hhd : X.A.in1.handled = none := I.ok.hd hc
    have hi : i < its.toArray.size := by
      rw [List.size_toArray]
      exact (List.getElem?_eq_some_iff.mp hu).1
    refine wpAny_pyNext_enum_itemD (EnT.draws_tup hhd k a its.toArray) he ⟨hit, p'⟩ hi hne (by simp [hne, hea]) fun x' h1 tk hx' ho hst hT hsz hk => ?_
    have ex : x' = u := by
      have z : its[i]? = some x' := by simpa using hx'
      rw [hu] at z
      exact (Option.some.inj z).symm
    subst ex
    refine ⟨_, rfl, wpAny_letOwnedTupleGo_enum (s := { s with heap := h1, toks := tk + 1 }) ho fun h2 he' sb => ?_⟩
    have hT2 : h2.get? s.heap.objs.size = some { cls := .type "tuple", data := .seq #[.int i tk, x'] } := (sb.2 _ (Nat.ne_of_gt hel)).trans hT
    have new : ObjOk X.prog X.w (upd H s.heap.objs.size (.tup [.int (i : Nat), x])) h2 s.heap.objs.size (.tup [.int (i : Nat), x]) :=
      ⟨(by decide : 2 ≤ sizeLine), [.int i tk, x'], .cons ⟨_, rfl⟩ (.cons ru .nil), ⟨_, hT2, rfl, _, rfl⟩⟩
    have J : Inv X pins σ (upd H s.heap.objs.size (.tup [.int (i : Nat), x])) { s with heap := h2, toks := tk + 1 } :=
      I.turnedNew (ch := [e, k]) (fun b ob hb q => (sb.2 b (fun z => hb (by simp [z]))).trans (hk b ob (fun z => hb (by simp [z])) (fun z => hb (by simp [z])) q)) hf (Nat.le_refl _) new
    refine ⟨.ref s.heap.objs.size, _, J, rfl, ⟨_, x, rfl, I.hok.fresh (Nat.le_refl _), rfl, fun ys hy => by rw [I.tuple_inj hy hq]; exact hx⟩, ⟨⟨x', ?_⟩, ?_, hne⟩, fun b hb => ?_⟩
    · rw [show ((i + 1 : Nat) : Int) = (i : Int) + 1 by omega]
      exact he'
    · obtain ⟨o, z1, z2⟩ := hst.1
      exact ⟨o, (sb.2 k (Ne.symm hne)).trans z1, z2⟩
    · have hb' : b < s.heap.objs.size := by
        rcases List.mem_cons.mp hb with z | z
        · exact z ▸ hel
        · exact (List.mem_singleton.mp z) ▸ hil
      rw [upd_ne (Nat.ne_of_lt hb')]
      exact (hf b hb).1
  done := by
    intro X hP hw hK hc i pins s σ H E I hf st hg
    subst hP hw hK
    obtain ⟨⟨old, he⟩, hit, hne⟩ := st
    obtain ⟨vs, hq, hx⟩ := hg
    obtain ⟨its, rv, p, hz⟩ := I.tuple hq
    have p' : s.heap.IsTuple a its.toArray := p
    have hhd : X.A.in1.handled = none := I.ok.hd hc
    have hn : its.toArray[i]? = none := by
      have := rv.length
      simp
      omega
    obtain ⟨f0, f1, f2, f3, f4, f5⟩ := hf k (List.mem_cons_of_mem _ List.mem_cons_self)
    exact wpAny_pyNext_enum_endD (EnT.draws_end hhd k a its.toArray i hn) he ⟨rfl, hit, p'⟩ fun h1 eb => ⟨rfl, I.turned (t' := s.toks) (fun b o hb q => eb b o hb q) f0 f1 f3 f4 f5⟩
  self := fun A i s Q E st h => let ⟨⟨_, he⟩, _⟩ := st; wpAny_pyIter_enum he h
section
variable {X : Cx} {K : PySem.W.Frag} {e : Expr} {te : E3} {p pos tpos : Pos} {elts : List Expr} {kk : Nat}
theorem pi_enT {ta : TA} (hg : Gl X "enumerate") (hm : X.mg "enumerate" = none) (ha : PA X [e] ta) (hs : starEach [e] X.env = [(false, eval e X.env)] := by rfl) :
    PI X (.Tuple elts kk tpos) (.Call (.Name "enumerate" p) [e] [] pos) (fun σ H R => ta σ H fun vs H1 => ∃ a xs, vs = [.ref a] ∧ SqT X.K H1 a xs ∧ R (IteT X.K a) H1) := by
  refine ⟨fun pins s σ H R I h => ?_⟩
  refine Call_ (ld_blt I hg hm boot_enumerate (PyProof.Rows.callWith_type1 (thn (ha.run pos pins s σ H _ I h) fun us s1 ⟨vs, H1, J, r1, q1⟩ => ?_) hs rfl))
  obtain ⟨a, xs, rfl, hq, q⟩ := q1
  obtain ⟨u, rfl, ru⟩ := vals1 r1
  obtain rfl : u = Value.ref a := ru
  obtain ⟨its, rv, p', hz⟩ := J.tuple hq
  refine EnT.call_tup (show s1.heap.IsTuple a its.toArray from p') fun h1 he hit hk => wpAny_pyIter_enum he ?_
  have J2 : Inv X pins σ H1 { s1 with heap := h1 } := J.kept (t' := s1.toks) hk
  refine ⟨s1.heap.objs.size + 1, [s1.heap.objs.size + 1, s1.heap.objs.size], _, _, H1, rfl, J2, turn_enT a (s1.heap.objs.size + 1) s1.heap.objs.size, ⟨⟨.none, he⟩, hit, Nat.succ_ne_self _⟩, fun b hb => ?_, q⟩
  have hle : s1.heap.objs.size ≤ b := by
    rcases List.mem_cons.mp hb with z | z
    · exact z ▸ Nat.le_succ _
    · exact Nat.le_of_eq (List.mem_singleton.mp z).symm
  exact J.fpOk hle (J.hok.fresh hle)
def enumT (xs : List T) : List T := xs.mapIdx fun i x => .tup [.int (i : Nat), x]
def iEnT (tl : A3) : I3 := fun ss M R => tl ss M fun ts M1 => match ts with
  | [.tup xs] => R ⟨enumT xs, fun _ => True⟩ M1
  | _ => False
theorem di_enumT {tl : A3} (hg : Gl X "enumerate") (hm : X.mg "enumerate" = none) (ha : DA X [e] tl) (hs : starEach [e] X.env = [(false, eval e X.env)] := by rfl) :
    DI X (.Tuple elts kk tpos) (.Call (.Name "enumerate" p) [e] [] pos) (iEnT tl) := by
  refine pi_weak (pi_enT hg hm ha hs) ?_
  rintro σ H R ⟨F, O, M, ss, R3, w, sl, q, k⟩
  refine ⟨F, O, M, ss, _, w, sl, q, ?_⟩
  intro vs H1 F1 M1 ts x1 w1 r1 q1
  split at q1
  · rename_i xs
    cases r1 with
    | cons rx rn =>
    cases rn
    cases rx with
    | tup hx px =>
    refine ⟨_, _, rfl, w1.ex.sqT hx, k _ H1 F1 M1 _ x1 w1 ?_ q1⟩
    intro F' O' H' M' x w2 _ i
    have hx' := w2.ex.sqT (x.sqT hx)
    have hlen : (enumT xs).length = xs.length := List.length_mapIdx ..
    refine ⟨fun hl => ⟨_, hx', by rw [px.length, ← hlen]; exact hl⟩, fun t' e => ?_⟩
    have e' : (xs.mapIdx fun i x => T.tup [.int (i : Nat), x])[i]? = some t' := e
    rw [List.getElem?_mapIdx] at e'
    obtain ⟨t, e1, e2⟩ := Option.map_eq_some_iff.mp e'
    subst e2
    obtain ⟨u, e3, r3⟩ := px.get e1
    refine ⟨⟨_, u, hx', e3⟩, ?_⟩
    rintro y H'' ⟨b, v, rfl, hb, rfl, f⟩
    have e4 := Option.some.inj ((f _ hx').symm.trans e3)
    subst e4
    have x3 : Ex F' (upd F' b (.tup [.int (i : Nat), v])) := .upd (w2.fF hb)
    exact ⟨_, x3, w2.newF hb _, .tup (.of upd_same) (.cons (.int _) (.cons ((r3.mono x).mono x3) .nil))⟩
  · exact q1.elim
end
end L3

set_option maxHeartbeats 1000000
/-! L3N: conditions and questions as trees: places, parts, what is drawn of them. -/
namespace L3
open PySem PySem.Spec PyProof.Rows L2
/-! ### places -/
def partAt : T → List Nat → Option T
  | t, [] => some t
  | .tup xs, i :: r => (match xs[i]? with | some x => partAt x r | none => none)
  | _, _ :: _ => none
def withPart : T → List Nat → T → T
  | _, [], p => p
  | .tup xs, i :: r, p => .tup (xs.take i ++ withPart (xs.getD i .non) r p :: xs.drop (i + 1))
  | t, _ :: _, _ => t
theorem partAt_nil (t : T) : partAt t [] = some t := by cases t <;> rfl
theorem withPart_nil (t p : T) : withPart t [] p = p := by cases t <;> rfl
theorem partAt_cons {t p : T} {i : Nat} {r : List Nat} (h : partAt t (i :: r) = some p) : ∃ xs x, t = .tup xs ∧ xs[i]? = some x ∧ partAt x r = some p := by
  cases t with
  | tup xs =>
    rw [partAt] at h
    split at h
    · rename_i x e
      exact ⟨xs, x, rfl, e, h⟩
    · cases h
  | _ => cases h
theorem partAt_tup {xs : List T} {x : T} {i : Nat} {r : List Nat} (h : xs[i]? = some x) : partAt (.tup xs) (i :: r) = partAt x r := by
  rw [partAt, h]
theorem withPart_tup {xs : List T} {x p : T} {i : Nat} {r : List Nat} (h : xs[i]? = some x) : withPart (.tup xs) (i :: r) p = .tup (xs.take i ++ withPart x r p :: xs.drop (i + 1)) := by
  rw [withPart, List.getD_eq_getElem?_getD, h]
  rfl
theorem spot_at {α : Type} {xs : List α} {i : Nat} {x y : α} (h : xs[i]? = some x) : (xs.take i ++ y :: xs.drop (i + 1))[i]? = some y := by
  obtain ⟨hi, _⟩ := List.getElem?_eq_some_iff.mp h
  rw [List.getElem?_append_right (by rw [List.length_take]; omega), List.length_take, Nat.min_eq_left (by omega), Nat.sub_self]
  rfl
theorem spot_take {α : Type} {xs : List α} {i : Nat} {x y : α} (h : xs[i]? = some x) : (xs.take i ++ y :: xs.drop (i + 1)).take i = xs.take i := by
  obtain ⟨hi, _⟩ := List.getElem?_eq_some_iff.mp h
  rw [List.take_append_of_le_length (by rw [List.length_take]; omega), List.take_take, Nat.min_self]
theorem spot_drop {α : Type} {xs : List α} {i : Nat} {x y : α} (h : xs[i]? = some x) : (xs.take i ++ y :: xs.drop (i + 1)).drop (i + 1) = xs.drop (i + 1) := by
  obtain ⟨hi, _⟩ := List.getElem?_eq_some_iff.mp h
  rw [List.drop_append, List.length_take, Nat.min_eq_left (by omega), List.drop_of_length_le (by rw [List.length_take]; omega)]
  rw [show i + 1 - i = 1 by omega]
  rfl
theorem spot_self {α : Type} {xs : List α} {i : Nat} {x : α} (h : xs[i]? = some x) : xs.take i ++ x :: xs.drop (i + 1) = xs := by
  obtain ⟨hi, e⟩ := List.getElem?_eq_some_iff.mp h
  subst e
  rw [List.getElem_cons_drop, List.take_append_drop]
theorem partAt_app : ∀ {l r : List Nat} {t c : T}, partAt t l = some c → partAt t (l ++ r) = partAt c r
  | [], r, t, c, h => by
    rw [partAt_nil] at h
    cases h
    rfl
  | i :: l, r, t, c, h => by
    obtain ⟨xs, x, rfl, e, h2⟩ := partAt_cons h
    rw [List.cons_append, partAt_tup e]
    exact partAt_app h2
theorem withPart_app : ∀ {l r : List Nat} {t c q : T}, partAt t l = some c → withPart t (l ++ r) q = withPart t l (withPart c r q)
  | [], r, t, c, q, h => by
    rw [partAt_nil] at h
    cases h
    rw [List.nil_append, withPart_nil]
  | i :: l, r, t, c, q, h => by
    obtain ⟨xs, x, rfl, e, h2⟩ := partAt_cons h
    rw [List.cons_append, withPart_tup e, withPart_tup e, withPart_app h2]
theorem partAt_with : ∀ {l : List Nat} {t c q : T}, partAt t l = some c → partAt (withPart t l q) l = some q
  | [], t, c, q, _ => by rw [withPart_nil, partAt_nil]
  | i :: l, t, c, q, h => by
    obtain ⟨xs, x, rfl, e, h2⟩ := partAt_cons h
    rw [withPart_tup e, partAt_tup (spot_at e)]
    exact partAt_with h2
theorem with_with : ∀ {l : List Nat} {t c p q : T}, partAt t l = some c → withPart (withPart t l p) l q = withPart t l q
  | [], t, c, p, q, _ => by rw [withPart_nil, withPart_nil]
  | i :: l, t, c, p, q, h => by
    obtain ⟨xs, x, rfl, e, h2⟩ := partAt_cons h
    rw [withPart_tup e, withPart_tup (spot_at e), spot_take e, spot_drop e, with_with h2, withPart_tup e]
theorem with_self : ∀ {l : List Nat} {t c : T}, partAt t l = some c → withPart t l c = t
  | [], t, c, h => by
    rw [partAt_nil] at h
    cases h
    rw [withPart_nil]
  | i :: l, t, c, h => by
    obtain ⟨xs, x, rfl, e, h2⟩ := partAt_cons h
    rw [withPart_tup e, with_self h2, spot_self e]
/-- a place, as a tuple of ints -/
def plc (l : List Nat) : T := .tup (l.map fun i => .int (i : Nat))

/-! ### parts -/
def Nm (z : Str) : Prop := z.length ≤ 8 ∧ Low z
theorem nm_of {z : Str} (h : (decide (z.length ≤ 8) && z.cps.toList.all fun c => decide (c < 0x110000)) = true) : Nm z := by
  rw [Bool.and_eq_true, decide_eq_true_eq] at h
  exact ⟨h.1, low_of h.2⟩
def FlatV (t : T) : Prop := t = .non ∨ (∃ i : Int, t = .int i ∧ i.natAbs < 10 ^ 60) ∨ ∃ z, t = .str z ∧ Nm z
theorem FlatV.fine {t : T} (h : FlatV t) : Fine t 82 0 := by
  rcases h with rfl | ⟨i, rfl, hi⟩ | ⟨z, rfl, hz⟩
  · exact fine_non.mono (by decide) (Nat.le_refl _)
  · exact (fine_int hi).mono (by decide) (Nat.le_refl _)
  · exact (fine_str hz.2).mono (by have := hz.1; omega) (Nat.le_refl _)
theorem FlatV.str {z : Str} (h : Nm z) : FlatV (.str z) := Or.inr (Or.inr ⟨z, rfl, h⟩)
theorem FlatV.int {i : Int} (h : i.natAbs < 10 ^ 60) : FlatV (.int i) := Or.inr (Or.inl ⟨i, rfl, h⟩)
abbrev prT (p : Str × Str) : T := .tup [.str p.1, .str p.2]
/-- pairs of names -/
def OwnT (k : Nat) (t : T) : Prop := ∃ l : List (Str × Str), t = .tup (l.map prT) ∧ l.length ≤ k ∧ ∀ p ∈ l, Nm p.1 ∧ Nm p.2
inductive Part : Nat → T → Prop
  | col {n : Nat} {a b : Str} : Nm a → Nm b → Part n (.tup [.str "column", .str a, .str b])
  | val {n : Nat} {v : T} : FlatV v → Part n (.tup [.str "value", v])
  | plus {n : Nat} {w : Str} {x v : T} : (w = "plus" ∨ w = "is") → Part n x → FlatV v → Part (n + 1) (.tup [.str w, x, v])
  | not {n : Nat} {x : T} : Part n x → Part (n + 1) (.tup [.str "not", x])
  | two {n : Nat} {w : Str} {x y : T} : (w = "less" ∨ w = "most" ∨ w = "same" ∨ w = "and" ∨ w = "or") → Part n x → Part n y → Part (n + 1) (.tup [.str w, x, y])
  | exists {n : Nat} {o x : T} : OwnT 2 o → Part n x → Part (n + 1) (.tup [.str "exists", .tup [o, x]])
  | only {n : Nat} {w : Str} {o x y : T} : (w = "only" ∨ w = "first") → OwnT 2 o → Part n x → Part n y → Part (n + 1) (.tup [.str w, .tup [o, x], y])
theorem Part.succ {n : Nat} {t : T} (h : Part n t) : Part (n + 1) t := by
  induction h with
  | col a b => exact .col a b
  | val v => exact .val v
  | plus a _ c ih => exact .plus a ih c
  | not _ ih => exact .not ih
  | two a _ _ i1 i2 => exact .two a i1 i2
  | «exists» a _ ih => exact .exists a ih
  | only a b _ _ i1 i2 => exact .only a b i1 i2
theorem Part.mono {n m : Nat} {t : T} (h : Part n t) (l : n ≤ m) : Part m t := by
  induction l with
  | refl => exact h
  | step _ ih => exact ih.succ
def fz : Nat → Nat
  | 0 => 400
  | n + 1 => 2 * fz n + 1000
theorem fine3 {a b c : T} {n k : Nat} (h1 : Fine a n k) (h2 : Fine b n k) (h3 : Fine c n k) : Fine (.tup [a, b, c]) (3 * n + 9) (k + 1) :=
  (fine_tup (xs := [a, b, c]) (n := n) (k := k) fun x hx => by
    simp only [List.mem_cons, List.not_mem_nil, or_false] at hx
    rcases hx with rfl | rfl | rfl <;> assumption).mono (by show 3 * (n + 2) + 3 ≤ _; omega) (Nat.le_refl _)
inductive FA (k : Nat) : List T → List Nat → Prop
  | nil : FA k [] []
  | cons {x : T} {n : Nat} {xs : List T} {ns : List Nat} : Fine x n k → FA k xs ns → FA k (x :: xs) (n :: ns)
/-- shown lengths add up -/
theorem fine_sum {k : Nat} : ∀ {xs : List T} {ns : List Nat}, FA k xs ns → Fine (.tup xs) (ns.sum + 2 * xs.length + 3) (k + 1) := by
  intro xs ns h
  have key : ∃ ds, T.pys xs = some ds ∧ PyData.showableAll ds = true ∧ ((PyData.shownAll ds).map (·.length)).sum ≤ ns.sum ∧ (PyData.shownAll ds).length = xs.length ∧ PyData.depthAll ds ≤ k := by
    induction h with
    | nil => exact ⟨[], rfl, rfl, by rw [PyData.shownAll]; exact Nat.zero_le _, by rw [PyData.shownAll]; rfl, by rw [PyData.depthAll]; exact Nat.zero_le _⟩
    | cons hx _ ih =>
      obtain ⟨d, e, s, l, p⟩ := hx
      obtain ⟨ds, e', s', l', q', p'⟩ := ih
      refine ⟨d :: ds, by rw [T.pys, e, e'], by rw [PyData.showableAll, s, s']; rfl, ?_, ?_, ?_⟩
      · rw [PyData.shownAll, List.map_cons, List.sum_cons, List.sum_cons]
        omega
      · rw [PyData.shownAll, List.length_cons, List.length_cons, q']
      · rw [PyData.depthAll]
        omega
  obtain ⟨ds, e, s, l, q, p⟩ := key
  refine ⟨.tuple ds, by rw [T.py, e]; rfl, by rw [PyData.showable]; exact s, ?_, by rw [PyData.depth]; omega⟩
  rw [PyData.shown]
  have := tupleText_len_le (PyData.shownAll ds)
  rw [q] at this
  omega
theorem fine_word {w : Str} (h : Nm w) (k : Nat) : Fine (.str w) 82 k := (FlatV.str h).fine.mono (Nat.le_refl _) (Nat.zero_le _)
theorem OwnT.fine {k : Nat} {t : T} (h : OwnT k t) : Fine t (180 * k + 3) 2 := by
  obtain ⟨l, rfl, hl, hn⟩ := h
  refine (fine_tup (n := 171) (k := 1) fun x hx => ?_).mono (by rw [List.length_map]; have := Nat.mul_le_mul_right 173 hl; omega) (Nat.le_refl _)
  obtain ⟨p, hp, rfl⟩ := List.mem_map.mp hx
  obtain ⟨h1, h2⟩ := hn p hp
  exact (fine_sum (.cons (fine_word h1 0) (.cons (fine_word h2 0) .nil))).mono (by simp) (Nat.le_refl _)
theorem Part.fine {n : Nat} {t : T} (h : Part n t) : Fine t (fz n) (2 * n + 3) := by
  have wd : ∀ {w : Str} {k : Nat}, (decide (w.length ≤ 8) && w.cps.toList.all fun c => decide (c < 0x110000)) = true → Fine (.str w) 82 k := fun h => fine_word (nm_of h) _
  have f0 : ∀ n, 400 ≤ fz n := fun n => by
    induction n with
    | zero => exact Nat.le_refl _
    | succ n ih => rw [fz]; omega
  induction h with
  | @col n a b ha hb => exact (fine_sum (.cons (wd (by decide +kernel)) (.cons (fine_word ha 0) (.cons (fine_word hb 0) .nil)))).mono (by have := f0 n; simp; omega) (by omega)
  | @val n v hv => exact (fine_sum (.cons (wd (by decide +kernel)) (.cons hv.fine .nil))).mono (by have := f0 n; simp; omega) (by omega)
  | @plus n w x v hw _ hv ih =>
    have h1 : Fine (.str w) 82 (2 * n + 3) := by rcases hw with rfl | rfl <;> exact wd (by decide +kernel)
    exact (fine_sum (.cons h1 (.cons ih (.cons (hv.fine.mono (Nat.le_refl _) (Nat.zero_le _)) .nil)))).mono (by rw [fz]; simp; omega) (by omega)
  | @not n x _ ih => exact (fine_sum (.cons (wd (by decide +kernel)) (.cons ih .nil))).mono (by rw [fz]; simp; omega) (by omega)
  | @two n w x y hw _ _ i1 i2 =>
    have h1 : Fine (.str w) 82 (2 * n + 3) := by rcases hw with rfl | rfl | rfl | rfl | rfl <;> exact wd (by decide +kernel)
    exact (fine_sum (.cons h1 (.cons i1 (.cons i2 .nil)))).mono (by rw [fz]; simp; omega) (by omega)
  | @«exists» n o x ho _ ih =>
    have h2 : Fine (.tup [o, x]) (363 + fz n + 7) (2 * n + 4) := (fine_sum (.cons (ho.fine.mono (Nat.le_refl _) (by omega)) (.cons ih .nil))).mono (by simp <;> omega) (Nat.le_refl _)
    exact (fine_sum (.cons (wd (by decide +kernel)) (.cons h2 .nil))).mono (by rw [fz]; simp; omega) (by omega)
  | @only n w o x y hw ho _ _ i1 i2 =>
    have h1 : Fine (.str w) 82 (2 * n + 4) := by rcases hw with rfl | rfl <;> exact wd (by decide +kernel)
    have h2 : Fine (.tup [o, x]) (363 + fz n + 7) (2 * n + 4) := (fine_sum (.cons (ho.fine.mono (Nat.le_refl _) (by omega)) (.cons i1 .nil))).mono (by simp <;> omega) (Nat.le_refl _)
    exact (fine_sum (.cons h1 (.cons h2 (.cons (i2.mono (Nat.le_refl _) (by omega)) .nil)))).mono (by rw [fz]; simp; omega) (by omega)

/-- c stands in p at l, and another part may stand there -/
structure Hole (G : T → Prop) (p : T) (l : List Nat) (m : Nat) (c : T) : Prop where
  at_ : partAt p l = some c
  part : Part m c
  fill : ∀ q, Part m q → G (withPart p l q)
theorem Hole.trans {G : T → Prop} {p c d : T} {l r : List Nat} {m k : Nat} (a : Hole G p l m c) (b : Hole (Part m) c r k d) : Hole G p (l ++ r) k d :=
  ⟨(partAt_app a.at_).trans b.at_, b.part, fun q hq => by rw [withPart_app a.at_]; exact a.fill _ (b.fill q hq)⟩
theorem Hole.root {n : Nat} {p : T} (h : Part n p) : Hole (Part n) p [] n p := ⟨partAt_nil p, h, fun q hq => by rw [withPart_nil]; exact hq⟩
/-- a place and what stands there -/
def enc (x : List Nat × T) : T := .tup [plc x.1, x.2]
/-! ### questions -/
structure Q5 (n : Nat) (t : T) : Prop where
  ex : ∃ refs wh hs ord lim, t = .tup [refs, wh, .tup hs, ord, lim] ∧ OwnT 4 refs ∧ (wh = .non ∨ Part n wh) ∧ hs.length ≤ 4 ∧ (∀ h ∈ hs, Part n h) ∧ (∃ os, ord = .tup os ∧ os.length ≤ 3 ∧ ∀ o ∈ os, Part 0 o) ∧ FlatV lim
theorem Q5.fine {n : Nat} {t : T} (h : Q5 n t) : Fine t (6 * fz n + 5000) (2 * n + 6) := by
  obtain ⟨refs, wh, hs, ord, lim, rfl, h1, h2, h3, h4, ⟨os, rfl, h5, h6⟩, h7⟩ := h.ex
  have f2 : Fine wh (fz n + 4) (2 * n + 5) := by
    rcases h2 with rfl | h2
    · exact fine_non.mono (by omega) (Nat.zero_le _)
    · exact h2.fine.mono (by omega) (by omega)
  have f3 : Fine (.tup hs) (4 * fz n + 11) (2 * n + 5) := (fine_tup (n := fz n) (k := 2 * n + 3) fun x hx => (h4 x hx).fine).mono (by have := Nat.mul_le_mul_right (fz n + 2) h3; omega) (by omega)
  have f4 : Fine (.tup os) 1300 (2 * n + 5) := (fine_tup (n := fz 0) (k := 3) fun x hx => (h6 x hx).fine).mono (by have e : fz 0 = 400 := rfl; rw [e]; omega) (by omega)
  exact (fine_sum (.cons (h1.fine.mono (Nat.le_refl _) (by omega)) (.cons f2 (.cons f3 (.cons f4 (.cons (h7.fine.mono (Nat.le_refl _) (Nat.zero_le _)) .nil)))))).mono (by simp; omega) (by omega)
end L3

set_option maxHeartbeats 1000000
/-! L3O: the world that questions are drawn over; what the functions that draw them promise. -/
namespace L3
open PySem PySem.Spec PyProof.Rows L2
theorem strs_of {P : Str → Prop} : ∀ {ys : List T}, (∀ y ∈ ys, ∃ z, y = .str z ∧ P z) → ∃ al : List Str, ys = al.map T.str ∧ ∀ a ∈ al, P a
  | [], _ => ⟨[], rfl, fun _ h => nomatch h⟩
  | y :: r, h => by
    obtain ⟨z, rfl, hz⟩ := h y List.mem_cons_self
    obtain ⟨al, rfl, ha⟩ := strs_of fun x hx => h x (List.mem_cons_of_mem _ hx)
    refine ⟨z :: al, rfl, fun a hm => ?_⟩
    rcases List.mem_cons.mp hm with rfl | hm
    · exact hz
    · exact ha a hm
abbrev KVs := List (Key × T)
/-- the table has columns -/
def HasC (kvs : KVs) (nm : Str) : Prop := ∃ cols : List Str, getT kvs (.inr nm) = some (.lst (cols.map T.str)) ∧ 0 < cols.length ∧ cols.length ≤ 20 ∧ ∀ c ∈ cols, Nm c
/-- a table's row of the schema -/
def TabT (t : T) (nm : Str) : Prop := Nm nm ∧ ∃ cs : List (Str × T), ∃ a b, t = .tup [.str nm, .tup (cs.map fun p => .tup [.str p.1, p.2]), a, b] ∧ 0 < cs.length ∧ cs.length ≤ 20 ∧ ∀ p ∈ cs, Nm p.1
structure Gen (dk c wd cd : Addr) (S : List T) (kvs : KVs) (n : Nat) (M : Mp) : Prop where
  deck : DeckAt dk c M n
  world : M wd = some (.dct [(.inr "tables", .tup S), (.inr "columns", .raw (.ref cd))])
  cols : M cd = some (.dct kvs)
  w1 : wd ≠ dk
  w2 : wd ≠ c
  c1 : cd ≠ dk
  c2 : cd ≠ c
  s0 : 0 < S.length
  s1 : S.length ≤ 20
  has : ∀ t ∈ S, ∃ nm, TabT t nm ∧ HasC kvs nm
theorem Gen.fr {dk c wd cd : Addr} {S : List T} {kvs : KVs} {n m : Nat} {M M' : Mp} (g : Gen dk c wd cd S kvs n M) (d : DeckAt dk c M' m) (f : Fr2 dk c M M') : Gen dk c wd cd S kvs m M' :=
  { g with deck := d, world := (f wd g.w1 g.w2).trans g.world, cols := (f cd g.c1 g.c2).trans g.cols }
theorem Gen.le {dk c wd cd : Addr} {S : List T} {kvs : KVs} {n m : Nat} {M : Mp} (g : Gen dk c wd cd S kvs n M) (h : n ≤ m) : Gen dk c wd cd S kvs m M := { g with deck := g.deck.le h }
theorem gdraw {dk c wd cd : Addr} {S : List T} {kvs : KVs} {n : Nat} {m : Int} {M : Mp} {Q : QE} (g : Gen dk c wd cd S kvs n M) (hn : n < 2 ^ 59) (h0 : 0 < m) (h1 : m < 2 ^ 60)
    (k : ∀ M' r, Gen dk c wd cd S kvs (n + 1) M' → Fr2 dk c M M' → 0 ≤ r → r < m → Q (.int r) M') : spDraw [.raw (.ref dk), .int m] M Q := ⟨dk, c, n, m, rfl, g.deck, by omega, h0, h1, fun M' r d f a b => k M' r (g.fr d f) f a b⟩
theorem gpick {dk c wd cd : Addr} {S : List T} {kvs : KVs} {n : Nat} {x : T} {M : Mp} {Q : QE} (g : Gen dk c wd cd S kvs n M) (hn : n < 2 ^ 59) (h0 : 0 < (itemsOf x).length) (h1 : (itemsOf x).length ≤ 100000)
    (k : ∀ M' t, Gen dk c wd cd S kvs (n + 1) M' → Fr2 dk c M M' → t ∈ itemsOf x → Q t M') : spPick [.raw (.ref dk), x] M Q := ⟨dk, c, n, x, rfl, g.deck, by omega, h0, sz h1, fun M' t d f a => k M' t (g.fr d f) f a⟩
/-- pairs of names, the second of which is a table -/
def RefT (kvs : KVs) (k : Nat) (t : T) : Prop := ∃ l : List (Str × Str), t = .tup (l.map prT) ∧ 0 < l.length ∧ l.length ≤ k ∧ ∀ p ∈ l, Nm p.1 ∧ Nm p.2 ∧ HasC kvs p.2
theorem RefT.own {kvs : KVs} {k : Nat} {t : T} (h : RefT kvs k t) : OwnT k t :=
  let ⟨l, e, _, h2, h3⟩ := h; ⟨l, e, h2, fun p hp => ⟨(h3 p hp).1, (h3 p hp).2.1⟩⟩
theorem RefT.app {kvs : KVs} {k j : Nat} {t u : List T} (h : RefT kvs k (.tup t)) (h' : RefT kvs j (.tup u)) : RefT kvs (k + j) (.tup (t ++ u)) := by
  obtain ⟨l, e, a, b, d⟩ := h
  obtain ⟨m, e', a', b', d'⟩ := h'
  cases e
  cases e'
  refine ⟨l ++ m, by rw [List.map_append], by rw [List.length_append]; omega, by rw [List.length_append]; omega, fun p hp => ?_⟩
  rcases List.mem_append.mp hp with h | h
  · exact d p h
  · exact d' p h
theorem RefT.mono {kvs : KVs} {k j : Nat} {t : T} (h : RefT kvs k t) (l : k ≤ j) : RefT kvs j t :=
  let ⟨m, e, a, b, d⟩ := h; ⟨m, e, a, by omega, d⟩
/-! what the functions promise; K is a cost in draws -/
def spCol : Sp3 := fun ts M Q => ∃ dk c wd cd S kvs n refs, ts = [.raw (.ref dk), .raw (.ref wd), refs] ∧ Gen dk c wd cd S kvs n M ∧ n < 2 ^ 58 + 1000 ∧ RefT kvs 40 refs ∧
  ∀ M' a b, Gen dk c wd cd S kvs (n + 2) M' → Fr2 dk c M M' → Nm a → Nm b → Q (.tup [.str "column", .str a, .str b]) M'
def spAny : Sp3 := fun ts M Q => ∃ dk c wd cd S kvs n, ∃ ks : List Str, ts = [.raw (.ref dk), .tup (ks.map T.str)] ∧ Gen dk c wd cd S kvs n M ∧ n < 2 ^ 58 + 1000 ∧ 0 < ks.length ∧ ks.length ≤ 10 ∧
  ∀ M' v, Gen dk c wd cd S kvs (n + 2) M' → Fr2 dk c M M' → FlatV v → Q v M'
/-- terms at most d - 1 deep; 0: none -/
def spTermAt : Nat → Sp3
  | 0 => spNo
  | d + 1 => fun ts M Q => ∃ dk c wd cd S kvs n refs i, ts = [.raw (.ref dk), .raw (.ref wd), refs, .int i] ∧ 0 ≤ i ∧ i ≤ (d : Int) ∧ Gen dk c wd cd S kvs n M ∧ n + (4 * d + 4) < 2 ^ 58 + 950 ∧ d ≤ 10 ∧ RefT kvs 40 refs ∧
    ∀ M' t, Gen dk c wd cd S kvs (n + (4 * d + 4)) M' → Fr2 dk c M M' → Part d t → Q t M'
def spLeaf (d : Nat) : Sp3 := fun ts M Q => ∃ dk c wd cd S kvs n refs, ∃ i : Int, ts = [.raw (.ref dk), .raw (.ref wd), refs, .int i] ∧ i = (d : Int) ∧ Gen dk c wd cd S kvs n M ∧ n < 2 ^ 58 + 500 ∧ RefT kvs 40 refs ∧
  ∀ M' t, Gen dk c wd cd S kvs (n + (8 * d + 12)) M' → Fr2 dk c M M' → Part (d + 1) t → Q t M'
def spInner : Sp3 := fun ts M Q => ∃ dk c wd cd S kvs n refs, ∃ al : List Str, ts = [.raw (.ref dk), .raw (.ref wd), refs, .lst (al.map T.str)] ∧ Gen dk c wd cd S kvs n M ∧ n < 2 ^ 58 + 300 ∧ RefT kvs 10 refs ∧ 0 < al.length ∧ al.length ≤ 10 ∧ (∀ a ∈ al, Nm a) ∧
  ∀ M' o t, Gen dk c wd cd S kvs (n + 50) M' → Fr2 dk c M M' → RefT kvs 2 o → Part 3 t → Q (.tup [o, t]) M'
/-- the pool of names at pl -/
def Pool (pl : Addr) (k : Nat) (M : Mp) : Prop := ∃ al : List Str, M pl = some (.lst (al.map T.str)) ∧ al.length ≤ 30 ∧ k ≤ al.length ∧ ∀ a ∈ al, Nm a
/-- nothing but the deck and the pool has changed -/
def Fr3 (dk c pl : Addr) (M M' : Mp) : Prop := ∀ a, a ≠ dk → a ≠ c → a ≠ pl → M' a = M a
theorem Fr3.of2 {dk c pl : Addr} {M M' : Mp} (f : Fr2 dk c M M') : Fr3 dk c pl M M' := fun a h1 h2 _ => f a h1 h2
theorem Fr3.trans {dk c pl : Addr} {M M' M'' : Mp} (a : Fr3 dk c pl M M') (b : Fr3 dk c pl M' M'') : Fr3 dk c pl M M'' := fun x h1 h2 h3 => (b x h1 h2 h3).trans (a x h1 h2 h3)
theorem Pool.fr {dk c pl : Addr} {k : Nat} {M M' : Mp} (h : Pool pl k M) (f : Fr2 dk c M M') (a : pl ≠ dk) (b : pl ≠ c) : Pool pl k M' :=
  let ⟨al, e, r⟩ := h; ⟨al, (f pl a b).trans e, r⟩
def ccd : Nat → Nat
  | 0 => 200
  | d + 1 => 2 * ccd d + 200
/-- conditions at most d - 1 deep; 0: none -/
def spCondAt : Nat → Sp3
  | 0 => spNo
  | d + 1 => fun ts M Q => ∃ dk c wd cd S kvs n refs i pl, ts = [.raw (.ref dk), .raw (.ref wd), refs, .raw (.ref pl), .int i] ∧ 0 ≤ i ∧ i ≤ (d : Int) ∧ Gen dk c wd cd S kvs n M ∧ n + ccd d ≤ 2 ^ 58 ∧ RefT kvs 8 refs ∧
    Pool pl 0 M ∧ pl ≠ dk ∧ pl ≠ c ∧ pl ≠ wd ∧ pl ≠ cd ∧
    ∀ M' t, Gen dk c wd cd S kvs (n + ccd d) M' → Fr3 dk c pl M M' → Pool pl 0 M' → Part (d + 5) t → Q t M'
theorem Gen.pop {dk c wd cd pl : Addr} {S : List T} {kvs : KVs} {n : Nat} {M : Mp} {o : MO} (g : Gen dk c wd cd S kvs n M) (h1 : pl ≠ dk) (h2 : pl ≠ c) (h3 : pl ≠ wd) (h4 : pl ≠ cd) : Gen dk c wd cd S kvs n (mset M pl o) :=
  { g with
    deck := ⟨g.deck.ne, let ⟨ns, t, k, a, b, d, e, f⟩ := g.deck.at_; ⟨ns, t, k, (mset_ne h1.symm).trans a, (mset_ne h2.symm).trans b, d, e, f⟩⟩
    world := (mset_ne h3.symm).trans g.world
    cols := (mset_ne h4.symm).trans g.cols }
def spDrawn : Sp3 := fun ts M Q => ∃ dk c wd cd S kvs n, ∃ al : List Str, ∃ i : Int, ts = [.raw (.ref dk), .raw (.ref wd), .lst (al.map T.str), .int i] ∧ 0 < i ∧ i ≤ 4 ∧ i ≤ al.length ∧ al.length ≤ 20 ∧ (∀ a ∈ al, Nm a) ∧ Gen dk c wd cd S kvs n M ∧ n + 2000 ≤ 2 ^ 58 ∧
  ∀ M' refs wh hs ord lim, Gen dk c wd cd S kvs (n + 2000) M' → RefT kvs 4 refs → (wh = .non ∨ Part 7 wh) → (0 < hs.length ∧ hs.length ≤ 2) → (∀ h ∈ hs, Part 1 h) → (∃ os, ord = .tup os ∧ os.length ≤ 2 ∧ ∀ o ∈ os, Part 0 o) → FlatV lim →
    Q (.tup [refs, wh, .tup hs, ord, lim]) M'
end L3
namespace L3
open PySem PySem.Spec PyProof.Rows L2
theorem st_tabcol : ¬ (("tables" : Str) = "columns") := by decide +kernel
theorem w_cols {a b : T} : getT [(.inr "tables", a), (.inr "columns", b)] (.inr "columns") = some b := (getT_miss (inr_ne st_tabcol)).trans getT_hit
theorem w_tabs {a b : T} : getT [(.inr "tables", a), (.inr "columns", b)] (.inr "tables") = some a := getT_hit
end L3
namespace L3
open PySem PySem.Spec PyProof.Rows L2
theorem maps_of {α : Type} {f : α → T} {P : α → Prop} : ∀ {ys : List T}, (∀ y ∈ ys, ∃ a, y = f a ∧ P a) → ∃ l : List α, ys = l.map f ∧ ∀ a ∈ l, P a
  | [], _ => ⟨[], rfl, fun _ h => nomatch h⟩
  | y :: r, h => by
    obtain ⟨z, rfl, hz⟩ := h y List.mem_cons_self
    obtain ⟨al, rfl, ha⟩ := maps_of fun x hx => h x (List.mem_cons_of_mem _ hx)
    refine ⟨z :: al, rfl, fun a hm => ?_⟩
    rcases List.mem_cons.mp hm with rfl | hm
    · exact hz
    · exact ha a hm
theorem ups_at {j n : Nat} {t : T} (h : (ups 0 n)[j]? = some t) : j < n ∧ t = .int j := by
  unfold ups at h
  rw [List.getElem?_map] at h
  obtain ⟨a, h1, rfl⟩ := Option.map_eq_some_iff.mp h
  obtain ⟨h2, h3⟩ := List.getElem?_eq_some_iff.mp h1
  rw [List.getElem_range] at h3
  subst h3
  rw [List.length_range] at h2
  exact ⟨h2, by simp⟩
end L3
namespace L3
theorem ccd_ge (d : Nat) : 200 ≤ ccd d := by
  induction d with
  | zero => exact Nat.le_refl _
  | succ d ih => rw [ccd]; omega
end L3
namespace L3
open PySem PySem.Spec PyProof.Rows L2
theorem lastS_get (l : List Str) (x : Str) : ((l ++ [x]).map T.str)[(l ++ [x]).length - 1]? = some (.str x) := by
  rw [List.map_append, List.length_append]
  simp
theorem lastS_drop (l : List Str) (x : Str) : ((l ++ [x]).map T.str).dropLast = l.map T.str := by
  rw [List.map_append]
  simp
theorem last_split {α : Type} {l : List α} (h : 0 < l.length) : ∃ k x, l = k ++ [x] := by
  rcases List.eq_nil_or_concat l with rfl | ⟨k, x, e⟩
  · exact absurd h (Nat.lt_irrefl 0)
  · exact ⟨k, x, by rw [e, List.concat_eq_append]⟩
end L3
namespace L3
open PySem PySem.Spec PyProof.Rows L2
theorem term2 {dk c wd cd : Addr} {S : List T} {kvs : KVs} {n : Nat} {refs : T} {M : Mp} {Q : QE} (g : Gen dk c wd cd S kvs n M) (hn : n < 2 ^ 58 + 900) (r : RefT kvs 40 refs)
    (k : ∀ M' t, Gen dk c wd cd S kvs (n + 8) M' → Fr2 dk c M M' → Part 1 t → Q t M') : spTermAt 2 [.raw (.ref dk), .raw (.ref wd), refs, .int 1] M Q :=
  ⟨dk, c, wd, cd, S, kvs, n, refs, 1, rfl, by decide, by decide, g, by show n + 8 < _; omega, by decide, r, k⟩
end L3

set_option maxHeartbeats 1000000
/-! L3P: tuples of texts can be compared. -/
namespace L3
open PySem PySem.Spec PyProof.Rows L2
def Shk (k : Nat) (t : T) : Prop := ∃ d, t.py = some d ∧ d.canLay0 = true ∧ d.depth ≤ k
theorem Shk.sh {k : Nat} {t : T} (h : Shk k t) (hk : k ≤ 20) : ∃ d, t.py = some d ∧ SeqAt.shaped d = true := by
  obtain ⟨d, e, a, b⟩ := h
  refine ⟨d, e, ?_⟩
  unfold SeqAt.shaped
  rw [a, Bool.true_and]
  exact decide_eq_true (by omega)
theorem shk_str {z : Str} (h : Low z) (k : Nat) : Shk k (.str z) := ⟨.str z, rfl, by rw [PyData.canLay0]; exact low_ok h, Nat.zero_le _⟩
theorem shk_all {k : Nat} : ∀ {xs : List T}, (∀ x ∈ xs, Shk k x) → ∃ ds, T.pys xs = some ds ∧ PyData.canLayAll0 ds = true ∧ PyData.depthAll ds ≤ k
  | [], _ => ⟨[], rfl, by rw [PyData.canLayAll0], by rw [PyData.depthAll]; exact Nat.zero_le _⟩
  | x :: xs, h => by
    obtain ⟨d, e, a, b⟩ := h x List.mem_cons_self
    obtain ⟨ds, e', a', b'⟩ := shk_all fun y hy => h y (List.mem_cons_of_mem _ hy)
    exact ⟨d :: ds, by rw [T.pys, e, e'], by rw [PyData.canLayAll0, a, a']; rfl, by rw [PyData.depthAll]; omega⟩
theorem shk_tup {k : Nat} {xs : List T} (h : ∀ x ∈ xs, Shk k x) : Shk (k + 1) (.tup xs) := by
  obtain ⟨ds, e, a, b⟩ := shk_all h
  exact ⟨.tuple ds, by rw [T.py, e]; rfl, by rw [PyData.canLay0]; exact a, by rw [PyData.depth]; omega⟩
theorem eqT_some {k : Nat} {x y : T} (hx : Shk k x) (hy : Shk k y) (hk : k ≤ 20) : (eqT x y).isSome = true := by
  obtain ⟨d, e1, s1⟩ := hx.sh hk
  obtain ⟨e, e2, s2⟩ := hy.sh hk
  unfold eqT
  rw [e1, e2]
  dsimp only
  rw [s1, s2]
  rfl
/-- x, y of one kind: compared somehow -/
def Cm (n k : Nat) (x y : T) : Prop := Shk k x ∧ Shk k y ∧ (ltN n x y).isSome = true
inductive CmL (n k : Nat) : List T → List T → Prop
  | nilL {ys : List T} : CmL n k [] ys
  | nilR {xs : List T} : CmL n k xs []
  | cons {x y : T} {xs ys : List T} : Cm n k x y → CmL n k xs ys → CmL n k (x :: xs) (y :: ys)
theorem ltL_some {n k : Nat} (hk : k ≤ 20) : ∀ {xs ys : List T}, CmL n k xs ys → (ltL (ltN n) xs ys).isSome = true
  | [], [], _ => by rw [ltL]; rfl
  | [], _ :: _, _ => by rw [ltL]; rfl
  | _ :: _, [], _ => by rw [ltL]; rfl
  | x :: xs, y :: ys, .cons h r => by
    obtain ⟨b, hb⟩ := Option.isSome_iff_exists.mp (eqT_some h.1 h.2.1 hk)
    obtain ⟨c, hc⟩ := Option.isSome_iff_exists.mp (ltL_some hk r)
    rw [ltL, hb, hc]
    cases b with
    | true => rfl
    | false => exact h.2.2
theorem cm_str {n k : Nat} {a b : Str} (ha : Low a) (hb : Low b) : Cm n k (.str a) (.str b) := ⟨shk_str ha k, shk_str hb k, by cases n <;> rfl⟩
theorem cm_tup {n k : Nat} (hk : k ≤ 20) {xs ys : List T} (hx : ∀ x ∈ xs, Shk k x) (hy : ∀ y ∈ ys, Shk k y) (h : CmL n k xs ys) : Cm (n + 1) (k + 1) (.tup xs) (.tup ys) :=
  ⟨shk_tup hx, shk_tup hy, ltL_some hk h⟩
theorem cmL_all {n k : Nat} {P : T → Prop} (h : ∀ x y, P x → P y → Cm n k x y) : ∀ {xs ys : List T}, (∀ x ∈ xs, P x) → (∀ y ∈ ys, P y) → CmL n k xs ys
  | [], _, _, _ => .nilL
  | _ :: _, [], _, _ => .nilR
  | x :: xs, y :: ys, hx, hy => .cons (h x y (hx x List.mem_cons_self) (hy y List.mem_cons_self)) (cmL_all h (fun z hz => hx z (List.mem_cons_of_mem _ hz)) fun z hz => hy z (List.mem_cons_of_mem _ hz))
theorem Shk.mono {k j : Nat} {t : T} (h : Shk k t) (l : k ≤ j) : Shk j t := let ⟨d, e, a, b⟩ := h; ⟨d, e, a, by omega⟩
theorem Cm.up {n k : Nat} {x y : T} (h : Cm n k x y) {k' : Nat} (l : k ≤ k') : Cm n k' x y := ⟨h.1.mono l, h.2.1.mono l, h.2.2⟩
/-- a tuple of texts -/
def TS (t : T) : Prop := ∃ bs : List Str, t = .tup (bs.map T.str) ∧ ∀ b ∈ bs, Low b
theorem cm_ts {n : Nat} {x y : T} (hx : TS x) (hy : TS y) : Cm (n + 1) 1 x y := by
  obtain ⟨as, rfl, ha⟩ := hx
  obtain ⟨bs, rfl, hb⟩ := hy
  have sh : ∀ {cs : List Str}, (∀ c ∈ cs, Low c) → ∀ x ∈ cs.map T.str, ∃ z, x = .str z ∧ Low z := fun h x hx => by
    obtain ⟨z, hz, rfl⟩ := List.mem_map.mp hx
    exact ⟨z, rfl, h z hz⟩
  have s0 : ∀ {cs : List Str}, (∀ c ∈ cs, Low c) → ∀ x ∈ cs.map T.str, Shk 0 x := fun h x hx => by
    obtain ⟨z, rfl, l⟩ := sh h x hx
    exact shk_str l 0
  exact cm_tup (by decide) (s0 ha) (s0 hb) (cmL_all (P := fun x => ∃ z, x = .str z ∧ Low z) (fun x y hx hy => by
    obtain ⟨a, rfl, l⟩ := hx
    obtain ⟨b, rfl, m⟩ := hy
    exact cm_str l m) (sh ha) (sh hb))
/-- a name and a tuple of texts -/
def ColT (t : T) : Prop := ∃ (a : Str) (s : T), t = .tup [.str a, s] ∧ Nm a ∧ TS s
theorem cm_col {n : Nat} {x y : T} (hx : ColT x) (hy : ColT y) : Cm (n + 2) 2 x y := by
  obtain ⟨a, s, rfl, na, hs⟩ := hx
  obtain ⟨b, u, rfl, nb, hu⟩ := hy
  have c1 : Cm (n + 1) 1 s u := cm_ts hs hu
  refine cm_tup (by decide) ?_ ?_ (.cons (cm_str na.2 nb.2) (.cons c1 .nilL))
  · intro x hx
    simp only [List.mem_cons, List.not_mem_nil, or_false] at hx
    rcases hx with rfl | rfl
    · exact shk_str na.2 1
    · exact c1.1
  · intro x hx
    simp only [List.mem_cons, List.not_mem_nil, or_false] at hx
    rcases hx with rfl | rfl
    · exact shk_str nb.2 1
    · exact c1.2.1
/-- a row of the schema -/
def TabS (t : T) : Prop := ∃ (nm : Str) (cs : List T) (a b : T), t = .tup [.str nm, .tup cs, a, b] ∧ Nm nm ∧ 0 < cs.length ∧ cs.length ≤ 20 ∧ (∀ x ∈ cs, ColT x) ∧ TS a ∧ TS b
theorem TabS.tab {t : T} (h : TabS t) : ∃ nm, TabT t nm := by
  obtain ⟨nm, cs, a, b, rfl, h1, h2, h3, h4, _⟩ := h
  obtain ⟨l, rfl, hl⟩ := maps_of (f := fun p : Str × T => T.tup [.str p.1, p.2]) (P := fun p => Nm p.1) (ys := cs) fun x hx => by
    obtain ⟨a, s, e, na, _⟩ := h4 x hx
    exact ⟨(a, s), e, na⟩
  rw [List.length_map] at h2 h3
  exact ⟨nm, h1, l, a, b, rfl, h2, h3, hl⟩
theorem cm_tab {n : Nat} {x y : T} (hx : TabS x) (hy : TabS y) : Cm (n + 4) 4 x y := by
  obtain ⟨a, cs, k, i, rfl, na, _, _, hc, hk, hi⟩ := hx
  obtain ⟨b, ds, l, j, rfl, nb, _, _, hd, hl, hj⟩ := hy
  have c2 : Cm (n + 3) 3 (.tup cs) (.tup ds) := cm_tup (by decide) (fun x hx => (cm_col (n := n) (hc x hx) (hc x hx)).1) (fun x hx => (cm_col (n := n) (hd x hx) (hd x hx)).1) (cmL_all (P := ColT) (fun x y hx hy => cm_col hx hy) hc hd)
  have c3 : Cm (n + 3) 3 k l := (cm_ts hk hl).up (by decide)
  have c4 : Cm (n + 3) 3 i j := (cm_ts hi hj).up (by decide)
  refine cm_tup (by decide) ?_ ?_ (.cons (cm_str na.2 nb.2) (.cons c2 (.cons c3 (.cons c4 .nilL))))
  · intro x hx
    simp only [List.mem_cons, List.not_mem_nil, or_false] at hx
    rcases hx with rfl | rfl | rfl | rfl
    · exact shk_str na.2 3
    · exact c2.1
    · exact c3.1
    · exact c4.1
  · intro x hx
    simp only [List.mem_cons, List.not_mem_nil, or_false] at hx
    rcases hx with rfl | rfl | rfl | rfl
    · exact shk_str nb.2 3
    · exact c2.2.1
    · exact c3.2.1
    · exact c4.2.1
theorem cmp_tabs {xs : List T} (h : ∀ x ∈ xs, TabS x) : cmpAll 12 xs := by
  intro x hx
  refine ⟨?_, fun y hy => (cm_tab (n := 9) (h x hx) (h y hy)).2.2⟩
  obtain ⟨nm, cs, a, b, rfl, _⟩ := h x hx
  rfl
def spSchema : Sp3 := fun ts M Q => ∃ dk c n, ∃ al : List Str, ∃ many : Int, ts = [.raw (.ref dk), .lst (al.map T.str), .int many] ∧ DeckAt dk c M n ∧ n < 2 ^ 58 + 500 ∧ 12 ≤ al.length ∧ al.length ≤ 30 ∧ (∀ a ∈ al, Nm a) ∧ 0 < many ∧ many ≤ 4 ∧
  ∀ M' S, DeckAt dk c M' (n + 100) → (∀ t ∈ S, TabS t) → S.length = many.toNat → Q (.tup S) M'
end L3
namespace L3
open PySem PySem.Spec PyProof.Rows L2
section
variable {ok : Mp → Prop} {P : Pat} {tt : T3} {te : E3} {vs : List Nat} {ss0 : SS} {Q : List T → Mp → Prop}
/-- a test that changes things, an element that does not -/
theorem compL_invT (Iv : Nat → Mp → Prop) (Pd : T → Prop) (hok : ∀ i M, Iv i M → ok M) : ∀ {xs acc : List T} {M : Mp} (i : Nat), Iv i M →
    (∀ j t M, xs[j]? = some t → Iv (i + j) M → ∃ ss2, P.set t (wipe3 ss0 vs) = some ss2 ∧ ∀ R : Bool → Mp → Prop, (∀ b M3, Iv (i + j + 1) M3 → R b M3) → (tt ss2 M R ∧ ∀ (M3 : Mp) (R' : QE), (∀ y, Pd y → R' y M3) → te ss2 M3 R')) →
    acc.length + xs.length ≤ sizeLine → (∀ ys M', ys.length ≤ xs.length → (∀ y ∈ ys, Pd y) → Iv (i + xs.length) M' → Q (acc ++ ys) M') → compL ok P tt te vs ss0 Q xs acc M
  | [], acc, M, i, h0, _, _, q => ⟨hok i M h0, by simpa using q [] M (Nat.le_refl _) (fun _ h => (nomatch h)) h0⟩
  | t :: xs, acc, M, i, h0, h, hz, q => by
    obtain ⟨ss2, e, h1⟩ := h 0 t M rfl h0
    have rec_ : ∀ {acc : List T} {M : Mp}, Iv (i + 1) M → acc.length + xs.length ≤ sizeLine → (∀ ys M', ys.length ≤ xs.length → (∀ y ∈ ys, Pd y) → Iv (i + 1 + xs.length) M' → Q (acc ++ ys) M') → compL ok P tt te vs ss0 Q xs acc M := fun h4 hz' q' =>
      compL_invT Iv Pd hok (i + 1) h4 (fun j u M5 hu h5 => by
        have h6 := h (j + 1) u M5 hu (by rw [show i + (j + 1) = i + 1 + j by omega]; exact h5)
        rw [show i + (j + 1) + 1 = i + 1 + j + 1 by omega] at h6
        exact h6) hz' q'
    refine ⟨hok i M h0, ?_⟩
    rw [e]
    rw [List.length_cons] at hz
    have eq : i + (t :: xs).length = i + 1 + xs.length := by rw [List.length_cons]; omega
    rw [eq] at q
    have two := (h1 (fun _ _ => True) fun _ _ _ => trivial).2
    refine (h1 _ fun b M3 h4 => ?_).1
    cases b with
    | true =>
      refine two _ _ fun y hy => ⟨by omega, rec_ h4 (by rw [List.length_append, List.length_singleton]; omega) fun ys M' hl hp hI => ?_⟩
      rw [List.append_assoc]
      refine q (y :: ys) M' (by rw [List.length_cons, List.length_cons]; omega) (fun z hz => ?_) hI
      rcases List.mem_cons.mp hz with rfl | hz
      · exact hy
      · exact hp z hz
    | false => exact rec_ h4 (by omega) fun ys M' hl hp hI => q ys M' (by rw [List.length_cons]; omega) hp hI
end
theorem cut_mem {α : Type} {xs : List α} {lo hi : Option Int} {x : α} (h : x ∈ cutT xs lo hi) : x ∈ xs := List.mem_of_mem_drop (List.mem_of_mem_take h)
theorem cut_mid {α : Type} {xs : List α} {a b : Nat} (h : a < b) (h2 : a < xs.length) : 0 < (cutT xs (some (a : Int)) (some (b : Int))).length ∧ (cutT xs (some (a : Int)) (some (b : Int))).length ≤ b - a := by
  unfold cutT
  rw [show HT.sIx xs.length 0 (some (a : Int)) = min a xs.length from HT.sIx_nat xs.length 0 a, show HT.sIx xs.length xs.length (some (b : Int)) = min b xs.length from HT.sIx_nat xs.length xs.length b, List.length_take, List.length_drop]
  omega
end L3
namespace L3
open PySem PySem.Spec PyProof.Rows L2
theorem draw_fr {dk c : Addr} {n : Nat} {m : Int} {M : Mp} {Q : QE} (hD : DeckAt dk c M n) (hn : n < 2 ^ 59) (h0 : 0 < m) (h1 : m < 2 ^ 60) (k : ∀ M' r, DeckAt dk c M' (n + 1) → Fr2 dk c M M' → 0 ≤ r → r < m → Q (.int r) M') :
    spDraw [.raw (.ref dk), .int m] M Q := ⟨dk, c, n, m, rfl, hD, by omega, h0, h1, k⟩
theorem pick_fr {dk c : Addr} {n : Nat} {x : T} {M : Mp} {Q : QE} (hD : DeckAt dk c M n) (hn : n < 2 ^ 59) (h0 : 0 < (itemsOf x).length) (h1 : (itemsOf x).length ≤ 100000) (k : ∀ M' t, DeckAt dk c M' (n + 1) → Fr2 dk c M M' → t ∈ itemsOf x → Q t M') :
    spPick [.raw (.ref dk), x] M Q := ⟨dk, c, n, x, rfl, hD, by omega, h0, sz h1, k⟩
theorem ts_of (bs : List Str) (h : (bs.all fun z => z.cps.toList.all fun c => decide (c < 0x110000)) = true) : TS (.tup (bs.map T.str)) :=
  ⟨bs, rfl, fun b hb => low_of (List.all_eq_true.mp h b hb)⟩
end L3
namespace L3
open PySem PySem.Spec PyProof.Rows L2
theorem atN {α : Type} {xs : List α} {i : Nat} {x : α} (h : xs[i]? = some x) : atI xs (i : Int) = some x := by
  obtain ⟨hi, _⟩ := List.getElem?_eq_some_iff.mp h
  unfold atI ixN
  rw [if_pos (by omega), if_pos (by omega), Option.bind_some]
  simpa using h
theorem shaped_tup_ints (l : List Nat) : SeqAt.shaped (.tuple (l.map fun i => PyData.int (i : Nat))) = true := by
  rw [shaped_tl]
  refine shaped_flats fun x hx => ?_
  obtain ⟨i, _, rfl⟩ := List.mem_map.mp hx
  exact ⟨by rw [PyData.canLay0], rfl⟩
theorem plc_py (l : List Nat) : (T.tup (l.map fun i => .int (i : Nat))).py = some (.tuple (l.map fun i => PyData.int (i : Nat))) := by
  rw [T.py, pys_map (fun i : Nat => T.int (i : Nat)) (fun i => PyData.int (i : Nat)) (fun _ => rfl)]
  rfl
theorem tup_eq_nil {Q : QE} {M : Mp} : oEqB false (.tup []) (.tup []) Q M = Q (.bl true) M := by
  have e := plc_py []
  unfold oEqB look
  dsimp only [scalT]
  rw [List.map_nil] at e
  rw [e]
  have e2 : PyData.eqv (.tuple []) (.tuple []) = true := by rw [PyData.eqv, PyData.eqvAll]
  simp only [List.map_nil, if_neg Bool.false_ne_true, e2, shaped_tup_ints []]
  have e3 := shaped_tup_ints []
  rw [List.map_nil] at e3
  simp [e3]
theorem tup_ne_nil {i : Nat} {r : List Nat} {Q : QE} {M : Mp} : oEqB false (.tup (.int (i : Nat) :: r.map fun i => .int (i : Nat))) (.tup []) Q M = Q (.bl false) M := by
  have e := plc_py (i :: r)
  have e0 := plc_py []
  rw [List.map_nil] at e0
  rw [List.map_cons] at e
  have s1 := shaped_tup_ints (i :: r)
  have s0 := shaped_tup_ints []
  unfold oEqB look
  dsimp only [scalT]
  rw [e, e0]
  have e2 : PyData.eqv (.tuple ((i :: r).map fun i => PyData.int (i : Nat))) (.tuple []) = false := by rw [List.map_cons, PyData.eqv, PyData.eqvAll]
  rw [List.map_cons] at s1 e2
  simp only [List.map_nil] at s0 ⊢
  simp [s1, s0, e2]
end L3

set_option maxHeartbeats 1000000
/-! L3Q: words among words (printed by wip/words.py); parts below parts. -/
namespace L3
open PySem PySem.Spec PyProof.Rows L2
theorem wi_column_0 : inT (.str "column") [.str "column", .str "value"] = true := by decide +kernel
theorem wi_column_1 : inT (.str "column") [.str "plus", .str "is", .str "not"] = false := by decide +kernel
theorem wi_column_2 : inT (.str "column") [.str "only", .str "first"] = false := by decide +kernel
theorem wi_column_3 : inT (.str "column") [.str "and", .str "or"] = false := by decide +kernel
theorem wi_column_4 : inT (.str "column") [.str "less", .str "most", .str "same", .str "is", .str "exists"] = false := by decide +kernel
theorem wi_column_5 : inT (.str "column") [.str "exists", .str "only", .str "first"] = false := by decide +kernel
theorem wi_column_6 : inT (.str "column") [.str "less", .str "most", .str "same"] = false := by decide +kernel
theorem wi_column_7 : inT (.str "column") [.str "not", .str "and", .str "or"] = false := by decide +kernel
theorem we_column_exists : decide (("column" : Str) = "exists") = false := by decide +kernel
theorem we_column_not : decide (("column" : Str) = "not") = false := by decide +kernel
theorem we_column_and : decide (("column" : Str) = "and") = false := by decide +kernel
theorem we_column_or : decide (("column" : Str) = "or") = false := by decide +kernel
theorem wi_value_0 : inT (.str "value") [.str "column", .str "value"] = true := by decide +kernel
theorem wi_value_1 : inT (.str "value") [.str "plus", .str "is", .str "not"] = false := by decide +kernel
theorem wi_value_2 : inT (.str "value") [.str "only", .str "first"] = false := by decide +kernel
theorem wi_value_3 : inT (.str "value") [.str "and", .str "or"] = false := by decide +kernel
theorem wi_value_4 : inT (.str "value") [.str "less", .str "most", .str "same", .str "is", .str "exists"] = false := by decide +kernel
theorem wi_value_5 : inT (.str "value") [.str "exists", .str "only", .str "first"] = false := by decide +kernel
theorem wi_value_6 : inT (.str "value") [.str "less", .str "most", .str "same"] = false := by decide +kernel
theorem wi_value_7 : inT (.str "value") [.str "not", .str "and", .str "or"] = false := by decide +kernel
theorem we_value_exists : decide (("value" : Str) = "exists") = false := by decide +kernel
theorem we_value_not : decide (("value" : Str) = "not") = false := by decide +kernel
theorem we_value_and : decide (("value" : Str) = "and") = false := by decide +kernel
theorem we_value_or : decide (("value" : Str) = "or") = false := by decide +kernel
theorem wi_plus_0 : inT (.str "plus") [.str "column", .str "value"] = false := by decide +kernel
theorem wi_plus_1 : inT (.str "plus") [.str "plus", .str "is", .str "not"] = true := by decide +kernel
theorem wi_plus_2 : inT (.str "plus") [.str "only", .str "first"] = false := by decide +kernel
theorem wi_plus_3 : inT (.str "plus") [.str "and", .str "or"] = false := by decide +kernel
theorem wi_plus_4 : inT (.str "plus") [.str "less", .str "most", .str "same", .str "is", .str "exists"] = false := by decide +kernel
theorem wi_plus_5 : inT (.str "plus") [.str "exists", .str "only", .str "first"] = false := by decide +kernel
theorem wi_plus_6 : inT (.str "plus") [.str "less", .str "most", .str "same"] = false := by decide +kernel
theorem wi_plus_7 : inT (.str "plus") [.str "not", .str "and", .str "or"] = false := by decide +kernel
theorem we_plus_exists : decide (("plus" : Str) = "exists") = false := by decide +kernel
theorem we_plus_not : decide (("plus" : Str) = "not") = false := by decide +kernel
theorem we_plus_and : decide (("plus" : Str) = "and") = false := by decide +kernel
theorem we_plus_or : decide (("plus" : Str) = "or") = false := by decide +kernel
theorem wi_is_0 : inT (.str "is") [.str "column", .str "value"] = false := by decide +kernel
theorem wi_is_1 : inT (.str "is") [.str "plus", .str "is", .str "not"] = true := by decide +kernel
theorem wi_is_2 : inT (.str "is") [.str "only", .str "first"] = false := by decide +kernel
theorem wi_is_3 : inT (.str "is") [.str "and", .str "or"] = false := by decide +kernel
theorem wi_is_4 : inT (.str "is") [.str "less", .str "most", .str "same", .str "is", .str "exists"] = true := by decide +kernel
theorem wi_is_5 : inT (.str "is") [.str "exists", .str "only", .str "first"] = false := by decide +kernel
theorem wi_is_6 : inT (.str "is") [.str "less", .str "most", .str "same"] = false := by decide +kernel
theorem wi_is_7 : inT (.str "is") [.str "not", .str "and", .str "or"] = false := by decide +kernel
theorem we_is_exists : decide (("is" : Str) = "exists") = false := by decide +kernel
theorem we_is_not : decide (("is" : Str) = "not") = false := by decide +kernel
theorem we_is_and : decide (("is" : Str) = "and") = false := by decide +kernel
theorem we_is_or : decide (("is" : Str) = "or") = false := by decide +kernel
theorem wi_not_0 : inT (.str "not") [.str "column", .str "value"] = false := by decide +kernel
theorem wi_not_1 : inT (.str "not") [.str "plus", .str "is", .str "not"] = true := by decide +kernel
theorem wi_not_2 : inT (.str "not") [.str "only", .str "first"] = false := by decide +kernel
theorem wi_not_3 : inT (.str "not") [.str "and", .str "or"] = false := by decide +kernel
theorem wi_not_4 : inT (.str "not") [.str "less", .str "most", .str "same", .str "is", .str "exists"] = false := by decide +kernel
theorem wi_not_5 : inT (.str "not") [.str "exists", .str "only", .str "first"] = false := by decide +kernel
theorem wi_not_6 : inT (.str "not") [.str "less", .str "most", .str "same"] = false := by decide +kernel
theorem wi_not_7 : inT (.str "not") [.str "not", .str "and", .str "or"] = true := by decide +kernel
theorem we_not_exists : decide (("not" : Str) = "exists") = false := by decide +kernel
theorem we_not_not : decide (("not" : Str) = "not") = true := by decide +kernel
theorem we_not_and : decide (("not" : Str) = "and") = false := by decide +kernel
theorem we_not_or : decide (("not" : Str) = "or") = false := by decide +kernel
theorem wi_less_0 : inT (.str "less") [.str "column", .str "value"] = false := by decide +kernel
theorem wi_less_1 : inT (.str "less") [.str "plus", .str "is", .str "not"] = false := by decide +kernel
theorem wi_less_2 : inT (.str "less") [.str "only", .str "first"] = false := by decide +kernel
theorem wi_less_3 : inT (.str "less") [.str "and", .str "or"] = false := by decide +kernel
theorem wi_less_4 : inT (.str "less") [.str "less", .str "most", .str "same", .str "is", .str "exists"] = true := by decide +kernel
theorem wi_less_5 : inT (.str "less") [.str "exists", .str "only", .str "first"] = false := by decide +kernel
theorem wi_less_6 : inT (.str "less") [.str "less", .str "most", .str "same"] = true := by decide +kernel
theorem wi_less_7 : inT (.str "less") [.str "not", .str "and", .str "or"] = false := by decide +kernel
theorem we_less_exists : decide (("less" : Str) = "exists") = false := by decide +kernel
theorem we_less_not : decide (("less" : Str) = "not") = false := by decide +kernel
theorem we_less_and : decide (("less" : Str) = "and") = false := by decide +kernel
theorem we_less_or : decide (("less" : Str) = "or") = false := by decide +kernel
theorem wi_most_0 : inT (.str "most") [.str "column", .str "value"] = false := by decide +kernel
theorem wi_most_1 : inT (.str "most") [.str "plus", .str "is", .str "not"] = false := by decide +kernel
theorem wi_most_2 : inT (.str "most") [.str "only", .str "first"] = false := by decide +kernel
theorem wi_most_3 : inT (.str "most") [.str "and", .str "or"] = false := by decide +kernel
theorem wi_most_4 : inT (.str "most") [.str "less", .str "most", .str "same", .str "is", .str "exists"] = true := by decide +kernel
theorem wi_most_5 : inT (.str "most") [.str "exists", .str "only", .str "first"] = false := by decide +kernel
theorem wi_most_6 : inT (.str "most") [.str "less", .str "most", .str "same"] = true := by decide +kernel
theorem wi_most_7 : inT (.str "most") [.str "not", .str "and", .str "or"] = false := by decide +kernel
theorem we_most_exists : decide (("most" : Str) = "exists") = false := by decide +kernel
theorem we_most_not : decide (("most" : Str) = "not") = false := by decide +kernel
theorem we_most_and : decide (("most" : Str) = "and") = false := by decide +kernel
theorem we_most_or : decide (("most" : Str) = "or") = false := by decide +kernel
theorem wi_same_0 : inT (.str "same") [.str "column", .str "value"] = false := by decide +kernel
theorem wi_same_1 : inT (.str "same") [.str "plus", .str "is", .str "not"] = false := by decide +kernel
theorem wi_same_2 : inT (.str "same") [.str "only", .str "first"] = false := by decide +kernel
theorem wi_same_3 : inT (.str "same") [.str "and", .str "or"] = false := by decide +kernel
theorem wi_same_4 : inT (.str "same") [.str "less", .str "most", .str "same", .str "is", .str "exists"] = true := by decide +kernel
theorem wi_same_5 : inT (.str "same") [.str "exists", .str "only", .str "first"] = false := by decide +kernel
theorem wi_same_6 : inT (.str "same") [.str "less", .str "most", .str "same"] = true := by decide +kernel
theorem wi_same_7 : inT (.str "same") [.str "not", .str "and", .str "or"] = false := by decide +kernel
theorem we_same_exists : decide (("same" : Str) = "exists") = false := by decide +kernel
theorem we_same_not : decide (("same" : Str) = "not") = false := by decide +kernel
theorem we_same_and : decide (("same" : Str) = "and") = false := by decide +kernel
theorem we_same_or : decide (("same" : Str) = "or") = false := by decide +kernel
theorem wi_and_0 : inT (.str "and") [.str "column", .str "value"] = false := by decide +kernel
theorem wi_and_1 : inT (.str "and") [.str "plus", .str "is", .str "not"] = false := by decide +kernel
theorem wi_and_2 : inT (.str "and") [.str "only", .str "first"] = false := by decide +kernel
theorem wi_and_3 : inT (.str "and") [.str "and", .str "or"] = true := by decide +kernel
theorem wi_and_4 : inT (.str "and") [.str "less", .str "most", .str "same", .str "is", .str "exists"] = false := by decide +kernel
theorem wi_and_5 : inT (.str "and") [.str "exists", .str "only", .str "first"] = false := by decide +kernel
theorem wi_and_6 : inT (.str "and") [.str "less", .str "most", .str "same"] = false := by decide +kernel
theorem wi_and_7 : inT (.str "and") [.str "not", .str "and", .str "or"] = true := by decide +kernel
theorem we_and_exists : decide (("and" : Str) = "exists") = false := by decide +kernel
theorem we_and_not : decide (("and" : Str) = "not") = false := by decide +kernel
theorem we_and_and : decide (("and" : Str) = "and") = true := by decide +kernel
theorem we_and_or : decide (("and" : Str) = "or") = false := by decide +kernel
theorem wi_or_0 : inT (.str "or") [.str "column", .str "value"] = false := by decide +kernel
theorem wi_or_1 : inT (.str "or") [.str "plus", .str "is", .str "not"] = false := by decide +kernel
theorem wi_or_2 : inT (.str "or") [.str "only", .str "first"] = false := by decide +kernel
theorem wi_or_3 : inT (.str "or") [.str "and", .str "or"] = true := by decide +kernel
theorem wi_or_4 : inT (.str "or") [.str "less", .str "most", .str "same", .str "is", .str "exists"] = false := by decide +kernel
theorem wi_or_5 : inT (.str "or") [.str "exists", .str "only", .str "first"] = false := by decide +kernel
theorem wi_or_6 : inT (.str "or") [.str "less", .str "most", .str "same"] = false := by decide +kernel
theorem wi_or_7 : inT (.str "or") [.str "not", .str "and", .str "or"] = true := by decide +kernel
theorem we_or_exists : decide (("or" : Str) = "exists") = false := by decide +kernel
theorem we_or_not : decide (("or" : Str) = "not") = false := by decide +kernel
theorem we_or_and : decide (("or" : Str) = "and") = false := by decide +kernel
theorem we_or_or : decide (("or" : Str) = "or") = true := by decide +kernel
theorem wi_exists_0 : inT (.str "exists") [.str "column", .str "value"] = false := by decide +kernel
theorem wi_exists_1 : inT (.str "exists") [.str "plus", .str "is", .str "not"] = false := by decide +kernel
theorem wi_exists_2 : inT (.str "exists") [.str "only", .str "first"] = false := by decide +kernel
theorem wi_exists_3 : inT (.str "exists") [.str "and", .str "or"] = false := by decide +kernel
theorem wi_exists_4 : inT (.str "exists") [.str "less", .str "most", .str "same", .str "is", .str "exists"] = true := by decide +kernel
theorem wi_exists_5 : inT (.str "exists") [.str "exists", .str "only", .str "first"] = true := by decide +kernel
theorem wi_exists_6 : inT (.str "exists") [.str "less", .str "most", .str "same"] = false := by decide +kernel
theorem wi_exists_7 : inT (.str "exists") [.str "not", .str "and", .str "or"] = false := by decide +kernel
theorem we_exists_exists : decide (("exists" : Str) = "exists") = true := by decide +kernel
theorem we_exists_not : decide (("exists" : Str) = "not") = false := by decide +kernel
theorem we_exists_and : decide (("exists" : Str) = "and") = false := by decide +kernel
theorem we_exists_or : decide (("exists" : Str) = "or") = false := by decide +kernel
theorem wi_only_0 : inT (.str "only") [.str "column", .str "value"] = false := by decide +kernel
theorem wi_only_1 : inT (.str "only") [.str "plus", .str "is", .str "not"] = false := by decide +kernel
theorem wi_only_2 : inT (.str "only") [.str "only", .str "first"] = true := by decide +kernel
theorem wi_only_3 : inT (.str "only") [.str "and", .str "or"] = false := by decide +kernel
theorem wi_only_4 : inT (.str "only") [.str "less", .str "most", .str "same", .str "is", .str "exists"] = false := by decide +kernel
theorem wi_only_5 : inT (.str "only") [.str "exists", .str "only", .str "first"] = true := by decide +kernel
theorem wi_only_6 : inT (.str "only") [.str "less", .str "most", .str "same"] = false := by decide +kernel
theorem wi_only_7 : inT (.str "only") [.str "not", .str "and", .str "or"] = false := by decide +kernel
theorem we_only_exists : decide (("only" : Str) = "exists") = false := by decide +kernel
theorem we_only_not : decide (("only" : Str) = "not") = false := by decide +kernel
theorem we_only_and : decide (("only" : Str) = "and") = false := by decide +kernel
theorem we_only_or : decide (("only" : Str) = "or") = false := by decide +kernel
theorem wi_first_0 : inT (.str "first") [.str "column", .str "value"] = false := by decide +kernel
theorem wi_first_1 : inT (.str "first") [.str "plus", .str "is", .str "not"] = false := by decide +kernel
theorem wi_first_2 : inT (.str "first") [.str "only", .str "first"] = true := by decide +kernel
theorem wi_first_3 : inT (.str "first") [.str "and", .str "or"] = false := by decide +kernel
theorem wi_first_4 : inT (.str "first") [.str "less", .str "most", .str "same", .str "is", .str "exists"] = false := by decide +kernel
theorem wi_first_5 : inT (.str "first") [.str "exists", .str "only", .str "first"] = true := by decide +kernel
theorem wi_first_6 : inT (.str "first") [.str "less", .str "most", .str "same"] = false := by decide +kernel
theorem wi_first_7 : inT (.str "first") [.str "not", .str "and", .str "or"] = false := by decide +kernel
theorem we_first_exists : decide (("first" : Str) = "exists") = false := by decide +kernel
theorem we_first_not : decide (("first" : Str) = "not") = false := by decide +kernel
theorem we_first_and : decide (("first" : Str) = "and") = false := by decide +kernel
theorem we_first_or : decide (("first" : Str) = "or") = false := by decide +kernel
end L3

namespace L3
open PySem PySem.Spec PyProof.Rows L2
section
variable {n : Nat} {w : Str} {x y v o q : T}
theorem hole_plus (hw : w = "plus" ∨ w = "is") (hx : Part n x) (hv : FlatV v) : Hole (Part (n + 1)) (.tup [.str w, x, v]) [1] n x :=
  ⟨by rw [partAt_tup (x := x) rfl, partAt_nil], hx, fun q hq => by rw [withPart_tup (x := x) rfl, withPart_nil]; exact .plus hw hq hv⟩
theorem hole_not (hx : Part n x) : Hole (Part (n + 1)) (.tup [.str "not", x]) [1] n x :=
  ⟨by rw [partAt_tup (x := x) rfl, partAt_nil], hx, fun q hq => by rw [withPart_tup (x := x) rfl, withPart_nil]; exact .not hq⟩
theorem hole_two1 (hw : w = "less" ∨ w = "most" ∨ w = "same" ∨ w = "and" ∨ w = "or") (hx : Part n x) (hy : Part n y) : Hole (Part (n + 1)) (.tup [.str w, x, y]) [1] n x :=
  ⟨by rw [partAt_tup (x := x) rfl, partAt_nil], hx, fun q hq => by rw [withPart_tup (x := x) rfl, withPart_nil]; exact .two hw hq hy⟩
theorem hole_two2 (hw : w = "less" ∨ w = "most" ∨ w = "same" ∨ w = "and" ∨ w = "or") (hx : Part n x) (hy : Part n y) : Hole (Part (n + 1)) (.tup [.str w, x, y]) [2] n y :=
  ⟨by rw [partAt_tup (x := y) rfl, partAt_nil], hy, fun q hq => by rw [withPart_tup (x := y) rfl, withPart_nil]; exact .two hw hx hq⟩
theorem hole_ex (ho : OwnT 2 o) (hx : Part n x) : Hole (Part (n + 1)) (.tup [.str "exists", .tup [o, x]]) [1, 1] n x :=
  ⟨by rw [partAt_tup (x := .tup [o, x]) rfl, partAt_tup (x := x) rfl, partAt_nil], hx, fun q hq => by rw [withPart_tup (x := .tup [o, x]) rfl, withPart_tup (x := x) rfl, withPart_nil]; exact .exists ho hq⟩
theorem hole_on1 (hw : w = "only" ∨ w = "first") (ho : OwnT 2 o) (hx : Part n x) (hy : Part n y) : Hole (Part (n + 1)) (.tup [.str w, .tup [o, x], y]) [1, 1] n x :=
  ⟨by rw [partAt_tup (x := .tup [o, x]) rfl, partAt_tup (x := x) rfl, partAt_nil], hx, fun q hq => by rw [withPart_tup (x := .tup [o, x]) rfl, withPart_tup (x := x) rfl, withPart_nil]; exact .only hw ho hq hy⟩
theorem hole_on2 (hw : w = "only" ∨ w = "first") (ho : OwnT 2 o) (hx : Part n x) (hy : Part n y) : Hole (Part (n + 1)) (.tup [.str w, .tup [o, x], y]) [2] n y :=
  ⟨by rw [partAt_tup (x := y) rfl, partAt_nil], hy, fun q hq => by rw [withPart_tup (x := y) rfl, withPart_nil]; exact .only hw ho hx hq⟩
end
def spBelow : Sp3 := fun ts M Q => ∃ n p, ts = [p] ∧ Part n p ∧ ∀ ws : List (List Nat × T), ws.length ≤ 2 → (∀ x ∈ ws, ∃ m, n = m + 1 ∧ x.1.length ≤ 2 ∧ Hole (Part n) p x.1 m x.2) → Q (.lst (ws.map enc)) M
def cntP : Nat → Nat
  | 0 => 1
  | n + 1 => 2 * cntP n + 1
/-- parts less than so deep -/
def spAllAt : Nat → Sp3
  | 0 => spNo
  | n + 1 => fun ts M Q => ∃ p l, ts = [p, plc l] ∧ n ≤ 12 ∧ l.length + 2 * n ≤ 60 ∧ Part n p ∧ ∀ ws : List (List Nat × T), ws.length ≤ cntP n → (∀ x ∈ ws, ∃ r m, x.1 = l ++ r ∧ r.length ≤ 2 * n ∧ Hole (Part n) p r m x.2) → Q (.lst (ws.map enc)) M
def spEvery (n : Nat) : Sp3 := fun ts M Q => ∃ t, ts = [t] ∧ Q5 n t ∧ ∀ ws : List (List Nat × T), ws.length ≤ 5 * cntP n → (∀ x ∈ ws, ∃ m, x.1.length ≤ 2 * n + 2 ∧ Hole (Q5 n) t x.1 m x.2) → Q (.lst (ws.map enc)) M
theorem cnt_le {n m : Nat} (h : n ≤ m) : cntP n ≤ cntP m := by
  induction h with
  | refl => exact Nat.le_refl _
  | step _ ih => rw [cntP]; omega
theorem cnt12 {n : Nat} (h : n ≤ 12) : cntP n ≤ 8191 := Nat.le_trans (cnt_le h) (by decide)
theorem Q5.hole1 {n : Nat} {a wh b c d : T} (h : Q5 n (.tup [a, wh, b, c, d])) (p : Part n wh) : Hole (Q5 n) (.tup [a, wh, b, c, d]) [1] n wh :=
  ⟨by rw [partAt_tup (x := wh) rfl, partAt_nil], p, fun q hq => by
    rw [withPart_tup (x := wh) rfl, withPart_nil]
    obtain ⟨refs, w', hs, ord, lim, e, h1, h2, h3, h4, h5, h6⟩ := h.ex
    cases e
    exact ⟨_, _, _, _, _, rfl, h1, Or.inr hq, h3, h4, h5, h6⟩⟩
theorem Q5.hole2 {n k : Nat} {a wh c d x : T} {hs : List T} (h : Q5 n (.tup [a, wh, .tup hs, c, d])) (e : hs[k]? = some x) : Hole (Q5 n) (.tup [a, wh, .tup hs, c, d]) [2, k] n x := by
  obtain ⟨refs, w', hs', ord, lim, e', h1, h2, h3, h4, h5, h6⟩ := h.ex
  cases e'
  refine ⟨by rw [partAt_tup (x := .tup hs) rfl, partAt_tup e, partAt_nil], h4 x (List.mem_of_getElem? e), fun q hq => ?_⟩
  rw [withPart_tup (x := .tup hs) rfl, withPart_tup e, withPart_nil]
  obtain ⟨hi, _⟩ := List.getElem?_eq_some_iff.mp e
  refine ⟨_, _, _, _, _, rfl, h1, h2, by simp; omega, fun y hy => ?_, h5, h6⟩
  rcases List.mem_append.mp hy with hy | hy
  · exact h4 y (List.mem_of_mem_take hy)
  · rcases List.mem_cons.mp hy with rfl | hy
    · exact hq
    · exact h4 y (List.mem_of_mem_drop hy)
end L3
namespace L3
open PySem PySem.Spec PyProof.Rows L2
theorem Part.head {n : Nat} {p : T} (h : Part n p) : ∃ w a r, p = .tup (.str w :: a :: r) := by
  cases h <;> exact ⟨_, _, _, rfl⟩
theorem cut_mid_len {α : Type} {xs : List α} {a b : Nat} (h : a ≤ b) (h2 : b ≤ xs.length) : (cutT xs (some (a : Int)) (some (b : Int))).length = b - a := by
  unfold cutT
  rw [show HT.sIx xs.length 0 (some (a : Int)) = min a xs.length from HT.sIx_nat xs.length 0 a, show HT.sIx xs.length xs.length (some (b : Int)) = min b xs.length from HT.sIx_nat xs.length xs.length b, List.length_take, List.length_drop]
  omega
def spDeeper : Sp3 := fun ts M Q => ∃ dk c wd cd S kvs n refs wh hs ord lim, ∃ al : List Str, ts = [.raw (.ref dk), .raw (.ref wd), .tup [refs, wh, .tup hs, ord, lim], .lst (al.map T.str)] ∧ Gen dk c wd cd S kvs n M ∧ n + 200 ≤ 2 ^ 58 ∧
  RefT kvs 4 refs ∧ (wh = .non ∨ Part 7 wh) ∧ (0 < hs.length ∧ hs.length ≤ 2) ∧ (∀ h ∈ hs, Part 1 h) ∧ (∃ os, ord = .tup os ∧ os.length ≤ 2 ∧ ∀ o ∈ os, Part 0 o) ∧ FlatV lim ∧ 0 < al.length ∧ al.length ≤ 20 ∧ (∀ a ∈ al, Nm a) ∧
  ∀ M' t, Gen dk c wd cd S kvs (n + 120) M' → Q5 8 t → Q t M'
end L3
namespace L3
section
variable {a b c d e : T}
theorem c25 : cutT [a, b, c, d, e] none (some 2) = [a, b] := cut_to 2
theorem c35 : cutT [a, b, c, d, e] (some 3) none = [d, e] := cut_from 3
theorem c51 : cutT [a, b, c, d, e] none (some 1) = [a] := cut_to 1
theorem c52 : cutT [a, b, c, d, e] (some 2) none = [c, d, e] := cut_from 2
end
end L3
namespace L3
open PySem PySem.Spec PyProof.Rows L2
theorem getT_put {k j : Key} {v : T} : ∀ {kvs : KVs}, getT (putT kvs k v) j = if k = j then some v else getT kvs j := by
  intro kvs
  unfold putT
  split
  · rename_i h
    induction kvs with
    | nil => cases h
    | cons x r ih =>
      obtain ⟨a, b⟩ := x
      rw [List.map_cons]
      by_cases ha : a = k
      · subst ha
        by_cases hj : a = j
        · subst hj
          simp [getT]
        · have hr : ∀ r : KVs, getT (r.map fun kv => if kv.1 = a then (kv.1, v) else kv) j = getT r j := by
            intro r
            induction r with
            | nil => rfl
            | cons y s ih2 =>
              rw [List.map_cons]
              by_cases hy : y.1 = a
              · rw [if_pos hy, getT_miss (by rw [hy]; exact hj), ih2]
                exact (getT_miss (t := y.2) (by rw [hy]; exact hj)).symm
              · rw [if_neg hy]
                obtain ⟨y1, y2⟩ := y
                by_cases hz : y1 = j
                · subst hz
                  rw [getT_hit, getT_hit]
                · rw [getT_miss hz, getT_miss hz, ih2]
          simp only [if_true]
          rw [getT_miss hj, hr, if_neg hj, getT_miss hj]
      · have h2 : (r.any fun kv => decide (kv.1 = k)) = true := by
          rw [List.any_cons] at h
          simpa [ha] using h
        rw [if_neg ha]
        by_cases hz : a = j
        · subst hz
          rw [getT_hit, getT_hit, if_neg (fun e => ha e.symm)]
        · rw [getT_miss hz, getT_miss hz, ih h2]
  · rename_i h
    by_cases hj : k = j
    · subst hj
      rw [if_pos rfl]
      induction kvs with
      | nil => exact getT_hit
      | cons x r ih =>
        obtain ⟨a, b⟩ := x
        have ha : ¬ a = k := fun e => h (by simp [e])
        rw [List.cons_append, getT_miss ha]
        exact ih fun e => h (by rw [List.any_cons, e, Bool.or_true])
    · rw [if_neg hj]
      clear h
      induction kvs with
      | nil => exact getT_miss hj
      | cons x r ih =>
        obtain ⟨a, b⟩ := x
        rw [List.cons_append]
        by_cases hz : a = j
        · subst hz
          rw [getT_hit, getT_hit]
        · rw [getT_miss hz, getT_miss hz, ih]
theorem putT_len {k : Key} {v : T} {kvs : KVs} : (putT kvs k v).length ≤ kvs.length + 1 := by
  unfold putT
  split
  · rw [List.length_map]
    exact Nat.le_succ _
  · rw [List.length_append, List.length_singleton]
    exact Nat.le_refl _
theorem HasC.put {kvs : KVs} {nm x : Str} (h : HasC kvs x) {cols : List Str} (c0 : 0 < cols.length) (c1 : cols.length ≤ 20) (cN : ∀ c ∈ cols, Nm c) : HasC (putT kvs (.inr nm) (.lst (cols.map T.str))) x := by
  by_cases e : (Sum.inr nm : Key) = .inr x
  · exact ⟨cols, by rw [getT_put, if_pos e], c0, c1, cN⟩
  · obtain ⟨d, h1, h2⟩ := h
    exact ⟨d, by rw [getT_put, if_neg e]; exact h1, h2⟩
theorem HasC.new {kvs : KVs} {nm : Str} {cols : List Str} (c0 : 0 < cols.length) (c1 : cols.length ≤ 20) (cN : ∀ c ∈ cols, Nm c) : HasC (putT kvs (.inr nm) (.lst (cols.map T.str))) nm :=
  ⟨cols, by rw [getT_put, if_pos rfl], c0, c1, cN⟩
theorem w_merge {a b : T} : mergeT [] [(.inr "tables", a), (.inr "columns", b)] = [(.inr "tables", a), (.inr "columns", b)] := by
  unfold mergeT putT
  simp [st_tabcol]
/-- no tuple in a question is long -/
theorem take_mem_succ {α : Type} {xs : List α} {j : Nat} {x t : α} (e : xs[j]? = some x) (h : t ∈ xs.take (j + 1)) : t ∈ xs.take j ∨ t = x := by
  rw [List.take_succ, e] at h
  rcases List.mem_append.mp h with h | h
  · exact Or.inl h
  · exact Or.inr (by simpa using h)
end L3
namespace L3
open PySem PySem.Spec PyProof.Rows L2
def Small (t : T) : Prop := ∀ r x, partAt t r = some (.tup x) → x.length ≤ 100
theorem small_str (z : Str) : Small (.str z) := fun r x h => by cases r <;> cases h
theorem small_flat {t : T} (h : FlatV t) : Small t := by
  rcases h with rfl | ⟨i, rfl, _⟩ | ⟨z, rfl, _⟩ <;> exact fun r x h => by cases r <;> cases h
theorem small_tup {xs : List T} (hl : xs.length ≤ 100) (h : ∀ y ∈ xs, Small y) : Small (.tup xs) := by
  intro r x e
  cases r with
  | nil =>
    rw [partAt_nil] at e
    cases e
    exact hl
  | cons i r =>
    obtain ⟨ys, y, e1, e2, e3⟩ := partAt_cons e
    cases e1
    exact h y (List.mem_of_getElem? e2) r x e3
theorem small2 {a b : T} (ha : Small a) (hb : Small b) : Small (.tup [a, b]) := small_tup (by simp) fun y hy => by
  simp only [List.mem_cons, List.not_mem_nil, or_false] at hy
  rcases hy with rfl | rfl <;> assumption
theorem small3 {a b c : T} (ha : Small a) (hb : Small b) (hc : Small c) : Small (.tup [a, b, c]) := small_tup (by simp) fun y hy => by
  simp only [List.mem_cons, List.not_mem_nil, or_false] at hy
  rcases hy with rfl | rfl | rfl <;> assumption
theorem OwnT.small {k : Nat} {t : T} (h : OwnT k t) (hk : k ≤ 100) : Small t := by
  obtain ⟨l, rfl, hl, _⟩ := h
  refine small_tup (by rw [List.length_map]; omega) fun y hy => ?_
  obtain ⟨p, _, rfl⟩ := List.mem_map.mp hy
  exact small2 (small_str _) (small_str _)
theorem Part.small {n : Nat} {t : T} (h : Part n t) : Small t := by
  induction h with
  | col a b => exact small3 (small_str _) (small_str _) (small_str _)
  | val v => exact small2 (small_str _) (small_flat v)
  | plus a _ c ih => exact small3 (small_str _) ih (small_flat c)
  | not _ ih => exact small2 (small_str _) ih
  | two a _ _ i1 i2 => exact small3 (small_str _) i1 i2
  | «exists» a _ ih => exact small2 (small_str _) (small2 (a.small (by decide)) ih)
  | only a b _ _ i1 i2 => exact small3 (small_str _) (small2 (b.small (by decide)) i1) i2
theorem Q5.small {n : Nat} {t : T} (h : Q5 n t) : Small t := by
  obtain ⟨refs, wh, hs, ord, lim, rfl, h1, h2, h3, h4, ⟨os, rfl, h5, h6⟩, h7⟩ := h.ex
  refine small_tup (by simp) fun y hy => ?_
  simp only [List.mem_cons, List.not_mem_nil, or_false] at hy
  rcases hy with rfl | rfl | rfl | rfl | rfl
  · exact h1.small (by decide)
  · rcases h2 with rfl | h2
    · exact small_flat (Or.inl rfl)
    · exact h2.small
  · exact small_tup (by omega) fun z hz => (h4 z hz).small
  · exact small_tup (by omega) fun z hz => (h6 z hz).small
  · exact small_flat h7
theorem Q5.rep {t : T} {Q : QE} {M : Mp} (h : Q5 8 t) (q : Q (.str (shT t)) M) : fRepr [t] Q M := by
  obtain ⟨_, _, _, _, _, e, _⟩ := h.ex
  exact h.fine.rep (by decide) (by decide) (by rw [e]; rfl) q
end L3

set_option maxHeartbeats 1000000
/-! L3R: while loops, list.extend. -/
namespace L3
open PySem PySem.Spec PyProof.Rows L2
/-- at most so many turns -/
def whileL (tt : T3) (tb : S3) (D : Ends3) : Nat → SS → Mp → Prop
  | 0 => fun _ _ => False
  | n + 1 => fun ss M => tt ss M fun b M1 => match b with
    | true => tb { D with nx := whileL tt tb D n, ct := whileL tt tb D n, bk := D.nx } ss M1
    | false => D.nx ss M1
def sWhile (tt : T3) (tb : S3) : S3 := fun D ss M => ∃ n, whileL tt tb D n ss M
section
variable {X : Cx} {K : PySem.W.Frag} {c e o : Expr} {te : E3} {tl : A3} {tt : T3} {tb : S3} {pos : Pos}
theorem ds_while {body : List Stmt} (hp : PassesOwn (model X.prog X.w) X.A X.env X.xe) (hc : DT X c tt) (hb : DSs X body tb) : DS X (.While c body [] pos) (sWhile tt tb) := by
  refine ps_weak (ps_while hp hc hb) ?_
  rintro D σ H ⟨F, O, M, ss, D3, w, sl, ⟨n, q⟩, k⟩
  refine ⟨fun m σ' H' => ∃ F' M' ss', Ex F F' ∧ Wd X.K F' O H' M' ∧ SlR X.K F' σ' ss' ∧ whileL tt tb D3 m ss' M', ⟨n, F, M, ss, .refl, w, sl, q⟩, ?_⟩
  rintro m σ' H' ⟨F', M', ss', x, w', sl', q'⟩
  cases m with
  | zero => exact q'.elim
  | succ m =>
    refine ⟨F', O, M', ss', _, w', sl', q', ?_⟩
    intro d H1 F1 M1 x1 w1 q1
    cases d with
    | true =>
      rw [if_pos rfl]
      refine ⟨fun σ2 H2 => ∃ F2 M2 ss2, Ex F F2 ∧ Wd X.K F2 O H2 M2 ∧ SlR X.K F2 σ2 ss2 ∧ whileL tt tb D3 m ss2 M2, fun σ2 H2 h => ⟨m, Nat.lt_succ_self m, h⟩, F1, O, M1, ss', _, w1, sl'.mono x1, q1, ?_⟩
      have kk := k.mono (x.trans x1)
      have nxt : LkS X.K F1 O (whileL tt tb D3 m) fun σ2 H2 => ∃ F2 M2 ss2, Ex F F2 ∧ Wd X.K F2 O H2 M2 ∧ SlR X.K F2 σ2 ss2 ∧ whileL tt tb D3 m ss2 M2 :=
        fun σ3 H3 F3 M3 ss3 x4 w4 sl4 q4 => ⟨F3, M3, ss3, x.trans (x1.trans x4), w4, sl4, q4⟩
      exact ⟨nxt, kk.rt, kk.nx, nxt⟩
    | false =>
      rw [if_neg Bool.false_ne_true]
      exact k.nx σ' H1 F1 M1 ss' (x.trans x1) w1 (sl'.mono x1) q1
/-- a loop by a measure -/
theorem whileL_of {D : Ends3} (Pv : Nat → SS → Mp → Prop) (hs : ∀ n ss M, Pv n ss M → ∀ N : SS → Mp → Prop, (∀ m ss' M', m < n → Pv m ss' M' → N ss' M') →
    tt ss M fun b M1 => match b with
      | true => tb { D with nx := N, ct := N, bk := D.nx } ss M1
      | false => D.nx ss M1) : ∀ (f n : Nat) {ss : SS} {M : Mp}, n < f → Pv n ss M → whileL tt tb D f ss M
  | 0, n, _, _, h, _ => absurd h (Nat.not_lt_zero n)
  | f + 1, n, ss, M, h, p => hs n ss M p _ fun m ss' M' hm hp => whileL_of Pv hs f m (by omega) hp
/-- xs.extend(ys), ys a list -/
def mExtend (x : T) (ts : List T) (Q : QE) (M : Mp) : Prop := match x, ts with
  | .raw (.ref a), [.lst ys] => (match M a with
    | some (.lst xs) => xs.length + ys.length ≤ sizeLine ∧ Q .non (mset M a (.lst (xs ++ ys)))
    | _ => False)
  | _, _ => False
theorem md_extend : MtD K rExtend mExtend := by
  intro F O H M x t vs ts Q3 Q w rx rs q k
  unfold mExtend at q
  split at q
  · rename_i a y
    cases rx
    cases rs with
    | cons ry rn =>
    cases rn
    split at q
    · rename_i xs e1
      obtain ⟨_, _, ho, e2, ro⟩ := w.mo a _ e1
      cases ro with
      | lst rl =>
      cases ry with
      | lst hy ry =>
      exact ⟨a, _, _, _, rfl, rfl, e2, w.ex _ _ hy, by rw [rl.length, ry.length]; exact q.1, k _ _ F _ _ .refl (w.write e1 (.lst (rl.append ry))) .non q.2⟩
    · exact q.elim
  · exact q.elim
theorem d_extend {apos cpos : Pos} (ho : DE X o te) (ha : DA X [e] tl) (hbase : attributeBase o "extend" X.env (eval o X.env) = eval o X.env := by rfl)
    (hfew : ((backTo cpos (starEach [e] X.env)).all (fun x => !x.1) && (backToKw cpos (keywordEach [] X.env)).all (fun x => x.1.isSome)
      && decide (([e] : List Expr).length + ([] : List Keyword).length + (if ([] : List Keyword).isEmpty then 0 else 1) < 30)) = true := by rfl)
    (hline : (apos.endLine == cpos.line) = true := by rfl) (hs : starEach [e] X.env = (false, eval e X.env) :: starEach [] X.env := by rfl) :
    DE X (.Call (.Attribute o "extend" apos) [e] [] cpos) (dLm mExtend te tl) := d_lm PySem.F.slot_list_extend PySem.F.type_list_extend mt_extend md_extend ho ha hbase hfew hline hs rfl
end
end L3

set_option maxHeartbeats 1000000
/-! L3S: constants of the module that are tuples or dicts with text keys. -/
namespace L3
open PySem PySem.Spec PyProof.Rows L2
/-- a constant of the module, as a tree -/
def GV (mg : Str → Option Value) (K : PySem.W.Frag) (x : Str) (t : T) : Prop := ∃ u v, mg x = some u ∧ RelV v u ∧ ∀ F, Rep K F v t
/-- a value written in the heap's written part -/
def KV1 (K : PySem.W.Frag) (u : Value) (t : T) : Prop := ∃ v, RelV v u ∧ ∀ F, Rep K F v t
def KVs1 (K : PySem.W.Frag) (us : List Value) (ts : List T) : Prop := ∃ vs, Vals vs us ∧ ∀ F, Reps K F vs ts
section
variable {K : PySem.W.Frag} {mg : Str → Option Value}
theorem kv_str (z : Str) (t : Tok) : KV1 K (.str z t) (.str z) := ⟨.str z, ⟨t, rfl⟩, fun _ => .str z⟩
theorem kv_int (i : Int) (t : Tok) : KV1 K (.int i t) (.int i) := ⟨.int i, ⟨t, rfl⟩, fun _ => .int i⟩
theorem kv_none : KV1 K .none .non := ⟨.non, rfl, fun _ => .non⟩
theorem kvs_nil : KVs1 K [] [] := ⟨[], .nil, fun _ => .nil⟩
theorem kvs_cons {u : Value} {us : List Value} {t : T} {ts : List T} (a : KV1 K u t) (b : KVs1 K us ts) : KVs1 K (u :: us) (t :: ts) :=
  let ⟨v, r, h⟩ := a; let ⟨vs, rs, hs⟩ := b; ⟨v :: vs, .cons r rs, fun F => .cons (h F) (hs F)⟩
theorem kv_tup {a : Addr} {od : Option Addr} {us : List Value} {n : Nat} {sl : Array (Option Value)} {ts : List T} (l : K.lookup a = some ⟨.type "tuple", od, .seq us.toArray n, sl⟩) (hz : us.length ≤ sizeLine) (h : KVs1 K us ts) : KV1 K (.ref a) (.tup ts) := by
  obtain ⟨vs, r, hr⟩ := h
  exact ⟨.ref a, rfl, fun F => .tup (.inr ⟨_, us.toArray, n, l, rfl, rfl, by rw [List.size_toArray]; exact hz, r⟩) (hr F)⟩
theorem gv_of {x : Str} {u : Value} {t : T} (hm : mg x = some u) (h : KV1 K u t) : GV mg K x t := let ⟨v, r, q⟩ := h; ⟨u, v, hm, r, q⟩
/-- a dict of the module with text keys -/
def GD (mg : Str → Option Value) (K : PySem.W.Frag) (w : World) (x : Str) (tab : List (Str × T)) : Prop := ∃ a, mg x = some (.ref a) ∧ ∀ z t, tab.lookup z = some t → ∃ v, KDct K w a z v ∧ ∀ F, Rep K F v t
/-- the entries of such a dict -/
def KTab (K : PySem.W.Frag) (w : World) (a : Addr) (tab : List (Str × T)) : Prop := ∀ z t, tab.lookup z = some t → ∃ v, KDct K w a z v ∧ ∀ F, Rep K F v t
theorem ktab_nil {w : World} {a : Addr} : KTab K w a [] := fun _ _ h => nomatch h
theorem ktab_cons {w : World} {a : Addr} {es : Array DictEntry} {n : Nat} {z : Str} {u : Value} {t : T} {tab : List (Str × T)} (l : K.lookup a = some ⟨.type "dict", none, .dict es n, #[]⟩) (lit : PySem.W.KeysLit w.params es.toList) (e : PySem.W.nsIn K a z = some (some u)) (h : KV1 K u t) (r : KTab K w a tab) :
    KTab K w a ((z, t) :: tab) := by
  intro y s hy
  rw [List.lookup_cons] at hy
  cases hb : y == z with
  | true =>
    rw [hb] at hy
    cases hy
    obtain rfl := eq_of_beq hb
    obtain ⟨v, rv, q⟩ := h
    exact ⟨v, ⟨es, n, u, l, lit, e, rv⟩, q⟩
  | false =>
    rw [hb] at hy
    exact r y s hy
end
section
variable {X : Cx} {i : Expr} {ti : E3} {pos p : Pos}
theorem d_gv {x : Str} {t : T} (hg : Gl X x) (h : GV X.mg X.K x t) (hd : (x == ("__debug__" : Str)) = false := by decide) : DE X (.Name x pos) (dC t) := by
  obtain ⟨u, v, hm, r, q⟩ := h
  exact d_glob hg hm r q hd
/-- D[key], D a dict of the module -/
def dKGet (tab : List (Str × T)) (ti : E3) : E3 := fun ss M Q => ti ss M fun y M1 => match y with
  | .str z => (match tab.lookup z with | some t => Q t M1 | none => False)
  | _ => False
theorem d_kget {x : Str} {tab : List (Str × T)} (hg : Gl X x) (h : GD X.mg X.K X.w x tab) (hi : DE X i ti) (hs : PlainIx i) (hd : (x == ("__debug__" : Str)) = false := by decide) : DE X (.Subscript (.Name x p) i pos) (dKGet tab ti) := by
  obtain ⟨a, hm, tb⟩ := h
  have hn : DE X (.Name x p) (dC (.raw (.ref a))) := d_glob (v := .ref a) hg hm rfl (fun _ => .raw _) hd
  refine pe_weak (pe_ix ix_kdict hn hi hs) ?_
  rintro σ H Q ⟨F, O, M, ss, Q3, w, sl, q, k⟩
  refine ⟨F, O, M, ss, fun t M1 => t = .raw (.ref a) ∧ M1 = M, w, sl, ⟨rfl, rfl⟩, ?_⟩
  rintro v H1 F1 M1 t x1 w1 r1 ⟨rfl, rfl⟩
  cases r1
  refine ⟨F1, O, M1, ss, _, w1, sl.mono x1, q, ?_⟩
  intro y H2 F2 M2 u x2 w2 r2 q2
  split at q2
  · cases r2
    split at q2
    · rename_i t e
      obtain ⟨v, kd, r⟩ := tb _ _ e
      exact ⟨a, _, v, rfl, rfl, kd, fin_flat w2 (k.mono (x1.trans x2)) (r _) q2⟩
    · exact q2.elim
  · exact q2.elim
end
end L3

set_option maxHeartbeats 1000000
/-! L3T: match over texts and whole numbers. -/
namespace L3
open PySem PySem.Spec PyProof.Rows L2
/-- what a pattern says of a subject, and the subject stays as it is -/
def PMt (X : Cx) (p : Pattern) (f : V → Bool) : Prop := ∀ (pins : List (Addr × Obj)) (s : Shared) (σ : L2.St) (H : Hp) (x : V) (u : Value) (Q : Option (List (Str × Value)) → Shared → Prop), Inv X pins σ H s → RelV x u → scal x x = true → (x = .non → False) →
  (∀ b, x ≠ .byt b) → (∀ s', Inv X pins σ H s' → Q (if f x = true then some [] else none) s') → wpAny (model X.prog X.w) X.A (matchPattern p X.env u) Q X.xe s
def PMf (X : Cx) (ps : List Pattern) (f : V → Bool) : Prop := ∀ (pins : List (Addr × Obj)) (s : Shared) (σ : L2.St) (H : Hp) (x : V) (u : Value) (Q : Option (List (Str × Value)) → Shared → Prop), Inv X pins σ H s → RelV x u → scal x x = true → (x = .non → False) →
  (∀ b, x ≠ .byt b) → (∀ s', Inv X pins σ H s' → Q (if f x = true then some [] else none) s') → wpAny (model X.prog X.w) X.A (matchFirst ps X.env u) Q X.xe s
/-- equal to a text -/
def eqS (w : Str) (x : V) : Bool := decide (x = .str w)
section
variable {X : Cx} {pos p2 : Pos} {k : Nat}
theorem mt_val {w : Str} : PMt X (.MatchValue (.Constant (.str w) k p2) pos) (eqS w) := by
  intro pins s σ H x u Q I r hs hn hb q
  refine wpAny_matchPattern_Value (thn (pe_str.run pins s σ H (fun y H' => y = .str w ∧ H' = H) I ⟨rfl, rfl⟩) ?_)
  rintro v s1 ⟨y, H1, I1, ry, rfl, rfl⟩
  have sc : scal x (.str w) = true := by
    cases x with
    | byt b => exact absurd rfl (hb b)
    | _ => first | rfl | cases hs
  refine thn (op_eq pins s1 σ H1 x (.str w) u v (fun z H' => z = .bl (decide (x = .str w)) ∧ H' = H1) I1 r ry ⟨sc, rfl, rfl⟩) ?_
  rintro c s2 ⟨z, H2, I2, rz, rfl, rfl⟩
  cases rz
  refine wpAny_truthy_bool ?_
  have qq := q s2 I2
  unfold eqS at qq
  cases hd : decide (x = .str w) with
  | true =>
    rw [hd] at qq
    exact qq
  | false =>
    rw [hd] at qq
    exact qq
theorem mf_nil : PMf X [] (fun _ => false) := by
  intro pins s σ H x u Q I r hs hn hb q
  exact wpAny_matchFirst_nil (q s I)
theorem mf_cons {p : Pattern} {ps : List Pattern} {f g : V → Bool} (h : PMt X p f) (hr : PMf X ps g) : PMf X (p :: ps) (fun x => f x || g x) := by
  intro pins s σ H x u Q I r hs hn hb q
  refine wpAny_matchFirst_cons (h pins s σ H x u _ I r hs hn hb fun s1 I1 => ?_)
  cases hf : f x with
  | true =>
    rw [if_pos rfl]
    have qq : Q (if (f x || g x) = true then some [] else none) s1 := q s1 I1
    rw [hf, Bool.true_or, if_pos rfl] at qq
    exact qq
  | false =>
    rw [if_neg Bool.false_ne_true]
    refine hr pins s1 σ H x u Q I1 r hs hn hb fun s2 I2 => ?_
    have qq : Q (if (f x || g x) = true then some [] else none) s2 := q s2 I2
    rw [hf, Bool.false_or] at qq
    exact qq
theorem mt_or {ps : List Pattern} {f : V → Bool} (h : PMf X ps f) : PMt X (.MatchOr ps pos) f := by
  intro pins s σ H x u Q I r hs hn hb q
  refine wpAny_matchPattern_Or (h pins s σ H x u _ I r hs hn hb fun s1 I1 => ?_)
  have qq := q s1 I1
  cases hf : f x with
  | true =>
    rw [hf, if_pos rfl] at qq
    rw [if_pos rfl]
    have e : ∀ ns : List Str, (ns.filterMap fun n => (List.lookup n ([] : List (Str × Value))).map fun v => (n, v)) = [] := fun ns => by
      induction ns with
      | nil => rfl
      | cons a r ih => rw [List.filterMap_cons]; exact ih
    show Q (some _) s1
    rw [e]
    exact qq
  | false =>
    rw [hf, if_neg Bool.false_ne_true] at qq
    rw [if_neg Bool.false_ne_true]
    exact qq
/-- the cases of a match, without guards, none of which binds a name -/
inductive PMC (X : Cx) : List MatchCase → List ((V → Bool) × S3) → Prop
  | nil : PMC X [] []
  | cons {p : Pattern} {body : List Stmt} {r : List MatchCase} {f : V → Bool} {t : S3} {cs : List ((V → Bool) × S3)} : PMt X p f → DSs X body t → PMC X r cs → PMC X (⟨p, none, body⟩ :: r) ((f, t) :: cs)
def sCases (x : V) : List ((V → Bool) × S3) → S3
  | [] => sNext
  | (f, t) :: r => if f x = true then t else sCases x r
def sMatch (te : E3) (cs : List ((V → Bool) × S3)) : S3 := fun D ss M => te ss M fun t M1 => match t with
  | .str z => sCases (.str z) cs D ss M1
  | .int i => sCases (.int i) cs D ss M1
  | _ => False
theorem pmc_run {x : V} {u : Value} (hs : scal x x = true) (hn : x = .non → False) (hb : ∀ b, x ≠ .byt b) (r : RelV x u) : ∀ {mc : List MatchCase} {cs : List ((V → Bool) × S3)}, PMC X mc cs → ∀ (first : Bool) (pins : List (Addr × Obj)) (s : Shared) (σ : L2.St) (H : Hp) (D : Ends), Inv X pins σ H s → liftS X.K (sCases x cs) D σ H →
    wpAny (model X.prog X.w) X.A (matchCases mc X.env u first) (SP X pins D) X.xe s
  | _, _, .nil, first, pins, s, σ, H, D, I, h => by
    obtain ⟨F, O, M, ss, D3, w, sl, q, k⟩ := h
    exact wpAny_matchCases_nil ⟨σ, H, I, k.nx σ H F M ss .refl w sl q⟩
  | _, _, .cons (f := f) hp hd hr, first, pins, s, σ, H, D, I, h => by
    refine wpAny_matchCases_cons (hp pins s σ H x u _ I r hs hn hb fun s1 I1 => ?_)
    cases hf : f x with
    | true =>
      rw [if_pos rfl]
      unfold sCases at h
      rw [if_pos hf] at h
      exact wpAny_assignInOrder_none (hd.run pins s1 σ H D I1 h)
    | false =>
      rw [if_neg Bool.false_ne_true]
      unfold sCases at h
      rw [if_neg (by rw [hf]; exact Bool.false_ne_true)] at h
      exact pmc_run hs hn hb r hr false pins s1 σ H D I1 h
theorem ds_match {e : Expr} {te : E3} {mc : List MatchCase} {cs : List ((V → Bool) × S3)} (he : DE X e te) (hc : PMC X mc cs) : DS X (.Match e mc pos) (sMatch te cs) := by
  refine ⟨fun pins s σ H D I h => ?_⟩
  obtain ⟨F, O, M, ss, D3, w, sl, q, k⟩ := h
  refine wpAny_Match (thn (he.run pins s σ H (fun v H1 => ∃ F1 M1 t, Ex F F1 ∧ Wd X.K F1 O H1 M1 ∧ Rep X.K F1 v t ∧ (match t with
    | .str z => sCases (.str z) cs D3 ss M1
    | .int i => sCases (.int i) cs D3 ss M1
    | _ => False)) I ⟨F, O, M, ss, _, w, sl, q, fun v H1 F1 M1 t x1 w1 r1 q1 => ⟨F1, M1, t, x1, w1, r1, q1⟩⟩) ?_)
  rintro u s1 ⟨v, H1, I1, rv, F1, M1, t, x1, w1, r1, q1⟩
  split at q1
  · cases r1
    exact pmc_run (x := .str _) rfl (fun e => nomatch e) (fun b e => nomatch e) rv hc true pins s1 σ H1 D I1 ⟨F1, O, M1, ss, D3, w1, sl.mono x1, q1, k.mono x1⟩
  · cases r1
    exact pmc_run (x := .int _) rfl (fun e => nomatch e) (fun b e => nomatch e) rv hc true pins s1 σ H1 D I1 ⟨F1, O, M1, ss, D3, w1, sl.mono x1, q1, k.mono x1⟩
  · exact q1.elim
end
end L3

set_option maxHeartbeats 1000000
/-! L3U: name op= e on ints, enumerate of a list, zip of two lists or two tuples. -/
namespace L3
open PySem PySem.Spec PyProof.Rows L2
section
variable {X : Cx} {K : PySem.W.Frag} {e e2 : Expr} {te : E3} {tl : A3} {p pos tpos : Pos} {elts : List Expr} {kk : Nat}
/-- name op= e, ints -/
def sAugI (i : Nat) (g : Int → Int → Int) (te : E3) : S3 := fun D ss M => match ss[i]? with
  | some (some (.int x)) => te ss M fun t M1 => (match t with | .int y => D.nx (ss.set i (some (.int (g x y)))) M1 | _ => False)
  | _ => False
theorem ds_augI {i : Nat} {x : Str} {op : Operator} {g : Int → Int → Int} {pos' : Pos} (hN : X.N.Nodup) (hi : X.N[i]? = some x) (hx : Loc X.env.scope x) (he : DE X e te) (ho : PIp X op (ipI g)) (hf : X.fn x = true ∨ X.env.scope.names.lookup x = some .local := by first | exact .inl rfl | exact .inr rfl | assumption) :
    DS X (.AugAssign (.Name x pos') op e pos) (sAugI i g te) := by
  refine ps_weak (ps_aug hN hi hx he ho hf) ?_
  rintro D σ H ⟨F, O, M, ss, D3, w, sl, q, k⟩
  unfold sAugI at q
  split at q
  · rename_i y hy
    obtain ⟨v, e1, rv⟩ := sl.2 i _ hy
    cases rv
    refine ⟨.int y, e1, F, O, M, ss, _, w, sl, q, ?_⟩
    intro z H1 F1 M1 t x1 w1 r1 q1
    split at q1
    · cases r1
      refine ⟨_, _, rfl, rfl, k.nx _ H1 F1 M1 _ x1 w1 ((sl.mono x1).set (.int _) i) q1⟩
    · exact q1.elim
  · exact q.elim
/-- enumerate of a list -/
def iEnL (tl : A3) : I3 := fun ss M R => tl ss M fun ts M1 => match ts with
  | [x] => (match look x M1 with
    | .lst xs => R ⟨enumT xs, fun M' => look x M' = .lst xs⟩ M1
    | .scr xs => R ⟨enumT xs, fun M' => look x M' = .scr xs⟩ M1
    | _ => False)
  | _ => False
theorem srcE {F : Hp} {v : V} {t : T} {a : Addr} {xs : List T} (ev : v = .ref a) (r : Rep K F v t) {c : List T → T} (hc : ∀ F H v ys, Sees K F H v (c ys) → ∃ b us, v = .ref b ∧ SqL K H b us ∧ Reps K F us ys) : SrcOk K F (Ite K a) ⟨enumT xs, fun M' => look t M' = c xs⟩ := by
  intro F' O' H' M' x w ok i
  have s := (r.mono x).sees w
  rw [show look t M' = c xs from ok] at s
  obtain ⟨b, us, e1, hx, px⟩ := hc _ _ _ _ s
  subst ev
  cases e1
  have hlen : (enumT xs).length = xs.length := List.length_mapIdx ..
  refine ⟨fun hl => ⟨us, hx, by rw [px.length, ← hlen]; exact hl⟩, fun t' e => ?_⟩
  have e' : (xs.mapIdx fun i x => T.tup [.int (i : Nat), x])[i]? = some t' := e
  rw [List.getElem?_mapIdx] at e'
  obtain ⟨t0, e2, e3⟩ := Option.map_eq_some_iff.mp e'
  subst e3
  obtain ⟨u, e4, r2⟩ := px.get e2
  refine ⟨⟨us, u, hx, e4⟩, ?_⟩
  rintro y H'' ⟨q, z, rfl, hq, rfl, f⟩
  have e5 := Option.some.inj ((f us hx).symm.trans e4)
  subst e5
  have x3 : Ex F' (upd F' q (.tup [.int (i : Nat), z])) := .upd (w.fF hq)
  exact ⟨_, x3, w.newF hq _, .tup (.of upd_same) (.cons (.int _) (.cons (r2.mono x3) .nil))⟩
theorem di_enumL (hg : Gl X "enumerate") (hm : X.mg "enumerate" = none) (ha : DA X [e] tl) (hs : starEach [e] X.env = [(false, eval e X.env)] := by rfl) :
    DI X (.Tuple elts kk tpos) (.Call (.Name "enumerate" p) [e] [] pos) (iEnL tl) := by
  refine pi_weak (pi_enum hg hm ha hs) ?_
  rintro σ H R ⟨F, O, M, ss, R3, w, sl, q, k⟩
  refine ⟨F, O, M, ss, _, w, sl, q, ?_⟩
  intro vs H1 F1 M1 ts x1 w1 r1 q1
  split at q1
  · rename_i x
    cases r1 with
    | cons rx rn =>
    cases rn
    have sx := rx.sees w1
    split at q1
    · rename_i xs e1
      rw [e1] at sx
      cases sx with
      | lst hx px =>
      refine ⟨_, _, rfl, .of hx, k _ H1 F1 M1 _ x1 w1 (srcE (c := .lst) rfl rx ?_) q1⟩
      rintro F H v ys s
      cases s with
      | lst hx px => exact ⟨_, _, rfl, .of hx, px⟩
    · rename_i xs e1
      rw [e1] at sx
      cases sx with
      | scr hx px =>
      refine ⟨_, _, rfl, hx, k _ H1 F1 M1 _ x1 w1 (srcE (c := .scr) rfl rx ?_) q1⟩
      rintro F H v ys s
      cases s with
      | scr hx px => exact ⟨_, _, rfl, hx, px⟩
    · exact q1.elim
  · exact q1.elim
/-- zip of two tuples, of two lists that do not change any more -/
def zipT (xs ys : List T) : List T := List.zipWith (fun x y => T.tup [x, y]) xs ys
def iZip3 (tl : A3) : I3 := fun ss M R => tl ss M fun ts M1 => match ts with
  | [.tup xs, .tup ys] => R ⟨zipT xs ys, fun _ => True⟩ M1
  | [.lst xs, .lst ys] => R ⟨zipT xs ys, fun _ => True⟩ M1
  | _ => False
theorem zip_at {xs ys : List T} {i : Nat} {t : T} (h : (zipT xs ys)[i]? = some t) : ∃ x y, xs[i]? = some x ∧ ys[i]? = some y ∧ t = .tup [x, y] := by
  unfold zipT at h
  rw [List.getElem?_zipWith] at h
  split at h
  · rename_i x y e1 e2
    cases h
    exact ⟨x, y, e1, e2, rfl⟩
  · cases h
theorem di_zip (hg : Gl X "zip") (hm : X.mg "zip" = none) (ha : DA X [e, e2] tl) (hs : starEach [e, e2] X.env = (false, eval e X.env) :: starEach [e2] X.env := by rfl) (hpl : (backTo pos (starEach [e2] X.env)).any (·.1) = false := by rfl) :
    DI X (.Tuple elts kk tpos) (.Call (.Name "zip" p) [e, e2] [] pos) (iZip3 tl) := by
  refine pi_weak (RZ.pi_zipA hg hm ha hs hpl) ?_
  rintro σ H R ⟨F, O, M, ss, R3, w, sl, q, k⟩
  refine ⟨F, O, M, ss, _, w, sl, q, ?_⟩
  intro vs H1 F1 M1 ts x1 w1 r1 q1
  split at q1
  · rename_i xs ys
    cases r1 with
    | cons rx r1 =>
    cases r1 with
    | cons ry rn =>
    cases rn
    cases rx with
    | tup hx px =>
    cases ry with
    | tup hy py =>
    refine ⟨_, _, _, _, rfl, .inr ⟨w1.ex.sqT hx, w1.ex.sqT hy, k _ H1 F1 M1 _ x1 w1 ?_ q1⟩⟩
    intro F' O' H' M' x w2 _ i
    have hx' := w2.ex.sqT (x.sqT hx)
    have hy' := w2.ex.sqT (x.sqT hy)
    refine ⟨fun hl => ⟨_, _, hx', hy', ?_⟩, fun t' e => ?_⟩
    · have hl' : (zipT xs ys).length ≤ i := hl
      unfold zipT at hl'
      rw [List.length_zipWith] at hl'
      rw [px.length, py.length]
      omega
    · obtain ⟨t, u, e1, e2', rfl⟩ := zip_at e
      obtain ⟨a, e3, r3⟩ := px.get e1
      obtain ⟨b, e4, r4⟩ := py.get e2'
      refine ⟨⟨_, _, a, b, hx', hy', e3, e4⟩, ?_⟩
      rintro y H'' ⟨d, v, z, rfl, hd, rfl, f, g⟩
      have e5 := Option.some.inj ((f _ hx').symm.trans e3)
      have e6 := Option.some.inj ((g _ hy').symm.trans e4)
      subst e5
      subst e6
      have x3 : Ex F' (upd F' d (.tup [v, z])) := .upd (w2.fF hd)
      exact ⟨_, x3, w2.newF hd _, .tup (.of upd_same) (.cons ((r3.mono x).mono x3) (.cons ((r4.mono x).mono x3) .nil))⟩
  · rename_i xs ys
    cases r1 with
    | cons rx r1 =>
    cases r1 with
    | cons ry rn =>
    cases rn
    cases rx with
    | lst hx px =>
    cases ry with
    | lst hy py =>
    refine ⟨_, _, _, _, rfl, .inl ⟨.of (w1.ex _ _ hx), .of (w1.ex _ _ hy), k _ H1 F1 M1 _ x1 w1 ?_ q1⟩⟩
    intro F' O' H' M' x w2 _ i
    have hx' : SqL X.K H' _ _ := .of (w2.ex _ _ (x _ _ hx))
    have hy' : SqL X.K H' _ _ := .of (w2.ex _ _ (x _ _ hy))
    refine ⟨fun hl => ⟨_, _, hx', hy', ?_⟩, fun t' e => ?_⟩
    · have hl' : (zipT xs ys).length ≤ i := hl
      unfold zipT at hl'
      rw [List.length_zipWith] at hl'
      rw [px.length, py.length]
      omega
    · obtain ⟨t, u, e1, e2', rfl⟩ := zip_at e
      obtain ⟨a, e3, r3⟩ := px.get e1
      obtain ⟨b, e4, r4⟩ := py.get e2'
      refine ⟨⟨_, _, a, b, hx', hy', e3, e4⟩, ?_⟩
      rintro y H'' ⟨d, v, z, rfl, hd, rfl, f, g⟩
      have e5 := Option.some.inj ((f _ hx').symm.trans e3)
      have e6 := Option.some.inj ((g _ hy').symm.trans e4)
      subst e5
      subst e6
      have x3 : Ex F' (upd F' d (.tup [v, z])) := .upd (w2.fF hd)
      exact ⟨_, x3, w2.newF hd _, .tup (.of upd_same) (.cons ((r3.mono x).mono x3) (.cons ((r4.mono x).mono x3) .nil))⟩
  · exact q1.elim
end
end L3

set_option maxHeartbeats 1000000
/-! L3V: sets of texts: what stands in the heap, adding, sorted. -/
namespace L3
open PySem PySem.Spec PyProof.Rows L2 PySem.Froz
/-- a set of the texts l at a, in some order, that can be walked -/
def TxS (P : Program) (w : World) (h : Heap) (a : Addr) (l : List Str) : Prop := ∃ D : SD, h.get? a = some (sObj "set" D) ∧ TxOk P w D l ∧ l.Nodup ∧ L2.Ris D.2.2.place.toList ∧ (w.params.followText "set-order" = true ∨ D.2.2.led = true) ∧ ∀ e ∈ D.1.toList, ∃ z tk, e.2 = Value.str z tk
section
variable {P : Program} {w : World} {A : Around} {E : Value → Shared → Prop} {s : Shared} {a : Addr} {l : List Str}
theorem TxS.at {h h' : Heap} (t : TxS P w h a l) (k : ∀ o, h.get? a = some o → h'.get? a = some o) : TxS P w h' a l := let ⟨D, e, r⟩ := t; ⟨D, k _ e, r⟩
theorem txs_fresh {h : Heap} : TxS P w (h.push { cls := .type "set", dict := none, data := .set #[] 0 (.fresh 0 0 (!w.params.followText "set-order")) }) h.objs.size [] := by
  refine ⟨(#[], 0, .fresh 0 0 (!w.params.followText "set-order")), Heap.get?_push_size _ rfl, TxOk.nil rfl, List.nodup_nil, List.Pairwise.nil, ?_, fun e he => by simp at he⟩
  show _ ∨ (!w.params.followText "set-order") = true
  cases w.params.followText "set-order"
  · exact .inr rfl
  · exact .inl rfl
theorem tail_rise {ep : Nat} {es : Array (Int × Value)} {t : SetTable} {b : Bool} (r : L2.Ris t.place.toList) : L2.Ris (tailTx ep es t b).2.2.place.toList := by
  unfold tailTx
  split
  · exact L2.relayAll_ris t es _
  · exact r
theorem tail_led {ep : Nat} {es : Array (Int × Value)} {t : SetTable} {b : Bool} : (tailTx ep es t b).2.2.led = t.led := by
  unfold tailTx
  split
  · exact L2.relayAll_led t es _
  · rfl
theorem tail_mem {ep : Nat} {es : Array (Int × Value)} {t : SetTable} {b : Bool} {e : Int × Value} (h : e ∈ (tailTx ep es t b).1.toList) : e ∈ es.toList := by
  unfold tailTx at h
  split at h
  · exact (relayAll_perm t es _).mem_iff.mp h
  · exact h
/-- a new text is put into the set -/
theorem txs_new {k : Str} {u : Tok} {Q : Bool → Shared → Prop} (t : TxS P w s.heap a l) (hk : k ∉ l) (hb : l.length + 1 < scanBound) (q : ∀ h', Heap.SameBut a s.heap h' → TxS P w h' a (k :: l) → Q true { s with heap := h' }) :
    wpAny (model P w) A (setAddHashed a (.str k u) (hashStr w k)) Q E s := by
  obtain ⟨D, ho, F, nd, rs, ld, el⟩ := t
  refine add_x ho F hk hb (q _ (Heap.SameBut.update s.heap a _) ⟨addTx (hashStr w k) (.str k u) D, get_upd _ ho rfl, add_ok u F, List.nodup_cons.mpr ⟨hk, nd⟩, ?_, ?_, ?_⟩)
  · unfold addTx
    refine tail_rise ?_
    split <;> exact L2.layNew_ris _ _ _ _ rs
  · refine ld.imp id fun z => ?_
    unfold addTx
    rw [tail_led]
    split <;> exact (L2.layNew_led _ _ _ _).trans z
  · intro e he
    unfold addTx at he
    have h1 := (layNew_perm D.2.2 D.1 (hashStr w k) (.str k u)).mem_iff.mp (tail_mem he)
    rw [Array.toList_push] at h1
    rcases List.mem_append.mp h1 with h2 | h2
    · exact el e h2
    · rw [List.mem_singleton.mp h2]
      exact ⟨k, u, rfl⟩
/-- a text that is there already -/
theorem txs_old {k : Str} {u : Tok} {Q : Bool → Shared → Prop} (t : TxS P w s.heap a l) (hk : k ∈ l) (hb : l.length < scanBound) (q : Q false s) : wpAny (model P w) A (setAddHashed a (.str k u) (hashStr w k)) Q E s := by
  obtain ⟨⟨es, ep, tb⟩, ho, F, nd, rs, ld, el⟩ := t
  have dat : (sObj "set" (es, ep, tb)).data = .set es ep tb := rfl
  have fit : tb.fits es.size = true := F.fit
  have els : ElemsOf (strKind P w) es.toList := F.el
  have small : es.size < scanBound := Nat.lt_of_le_of_lt (Nat.le_of_eq F.sz) hb
  obtain ⟨e0, he0, hp0⟩ := (F.mem k).mp hk
  obtain ⟨j, hj⟩ : ∃ j, List.findIdx? (fun e => (strKind P w).is k e.2) es.toList = some j := by
    cases hr : List.findIdx? (fun e => (strKind P w).is k e.2) es.toList with
    | some j => exact ⟨j, rfl⟩
    | none =>
      have c := List.findIdx?_eq_none_iff.mp hr e0 he0
      rw [hp0] at c
      cases c
  unfold setAddHashed setAddHashedIn
  refine wpAny_holding (wpAny_bind (wpAny_setState_of ho dat fit ?_))
  dsimp only
  rw [byScan_of rfl small els]
  simp only [↓reduceIte]
  unfold setAddByScan
  refine wpAny_bind (wpAny_bind (wpAny_rule (wpAny_bind (wpAny_setScan_of (knd := strKind P w) (k := k) (is_str k u) ho dat fit els ?_))))
  rw [hj]
  exact wpAny_pure (wpAny_pure q)
/-- adding, whatever it is -/
theorem txs_add {k : Str} {u : Tok} {Q : Bool → Shared → Prop} (t : TxS P w s.heap a l) (hb : l.length + 1 < scanBound) (q : ∀ b h' l', Heap.SameBut a s.heap h' → TxS P w h' a l' → (∀ z, z ∈ l' ↔ z = k ∨ z ∈ l) → l'.length ≤ l.length + 1 → Q b { s with heap := h' }) :
    wpAny (model P w) A (setAddHashed a (.str k u) (hashStr w k)) Q E s := by
  by_cases hk : k ∈ l
  · exact txs_old t hk (Nat.lt_of_succ_lt hb) (q false s.heap l (Heap.SameBut.refl a s.heap) t (fun z => ⟨.inr, fun h => h.elim (fun e => e ▸ hk) id⟩) (Nat.le_succ _))
  · exact txs_new t hk hb fun h' sb t' => q true h' (k :: l) sb t' (fun z => List.mem_cons) (Nat.le_refl _)
theorem strs_vals : ∀ (vs : List Value), (∀ v ∈ vs, ∃ z tk, v = Value.str z tk) → ∃ zs : List Str, StrsAre vs zs
  | [], _ => ⟨[], .nil⟩
  | v :: r, h => by
    obtain ⟨z, tk, rfl⟩ := h v List.mem_cons_self
    obtain ⟨zs, hz⟩ := strs_vals r fun u hu => h u (List.mem_cons_of_mem _ hu)
    exact ⟨z :: zs, .cons z tk hz⟩
theorem perm_of_len {α : Type} [DecidableEq α] : ∀ {l m : List α}, l.Nodup → (∀ x ∈ l, x ∈ m) → m.length ≤ l.length → m.Perm l
  | [], m, _, _, h => by
    rw [List.length_nil] at h
    rw [List.length_eq_zero_iff.mp (Nat.le_zero.mp h)]
  | x :: r, m, nd, sub, h => by
    obtain ⟨hx, nr⟩ := List.nodup_cons.mp nd
    obtain ⟨m1, m2, rfl⟩ := List.append_of_mem (sub x List.mem_cons_self)
    have h2 : (m1 ++ m2).Perm r := perm_of_len nr (fun y hy => by
      have h3 := sub y (List.mem_cons_of_mem _ hy)
      rcases List.mem_append.mp h3 with h4 | h4
      · exact List.mem_append_left _ h4
      · rcases List.mem_cons.mp h4 with rfl | h5
        · exact absurd hy hx
        · exact List.mem_append_right _ h5) (by simp at h ⊢; omega)
    exact List.perm_middle.trans (h2.cons x)
theorem strs_mem {vs : List Value} {zs : List Str} (h : StrsAre vs zs) (z : Str) : z ∈ zs ↔ ∃ tk, Value.str z tk ∈ vs := by
  induction h with
  | nil => simp
  | cons x t _ ih =>
    rw [List.mem_cons, ih]
    constructor
    · rintro (rfl | ⟨tk, h⟩)
      · exact ⟨t, List.mem_cons_self⟩
      · exact ⟨tk, List.mem_cons_of_mem _ h⟩
    · rintro ⟨tk, h⟩
      rcases List.mem_cons.mp h with h | h
      · cases h
        exact .inl rfl
      · exact .inr ⟨tk, h⟩
/-- sorted(a) -/
theorem txs_sorted {Q : Value → Shared → Prop} (t : TxS P w s.heap a l) (hh : A.handled = none) (h64 : l.length < 1000)
    (q : ∀ s' p (out : Array Value) (c : Nat) (zs : List Str), (∀ b o, s.heap.get? b = some o → s'.heap.get? b = some o) → s'.gens = s.gens → s'.os = s.os → s.heap.objs.size ≤ p →
      s'.heap.get? p = some (seqObj "list" out c) → StrsAre out.toList zs → sortedS zs = true → zs.Perm l → zs.Nodup → Q (.ref p) s') :
    wpAny (model P w) A (call (.builtin "sorted") [.ref a]) Q E s := by
  obtain ⟨⟨es, ep, tb⟩, ho, F, nd, rs, ld, el⟩ := t
  have num : es.size = l.length := F.sz
  have small : es.size < scanBound := by unfold scanBound; omega
  refine Calls.call_function_entry kind_sorted plain_sorted entry_sorted (args_sorted1 _) ?_
  unfold Builtin.«sorted»
  refine wpAny_bind (m := checkCount "sorted" 1 1 _) (wpAny_pure ?_)
  refine wpAny_bind (L2.collect_set (A := A.in1) hh ⟨_, ho, rfl, rfl⟩ F.fit small rs ld fun s1 vs keep size gens os perm => ?_)
  have len : vs.length = l.length := by rw [perm.length_eq, List.length_map, Array.length_toList]; exact num
  have each : ∀ v ∈ vs, ∃ z tk, v = Value.str z tk := fun v hv => by
    obtain ⟨e, he, rfl⟩ := List.mem_map.mp (perm.mem_iff.mp hv)
    exact el e he
  obtain ⟨zs, hzs⟩ := strs_vals vs each
  have mem : ∀ z ∈ l, z ∈ zs := fun z hz => by
    obtain ⟨e, he, is⟩ := (F.mem z).mp hz
    obtain ⟨y, tk, ey⟩ := el e he
    rw [ey] at is
    have e2 := (strKind P w).inj (.str y tk) z y is (is_str y tk)
    subst e2
    exact (strs_mem hzs z).mpr ⟨tk, perm.mem_iff.mpr (List.mem_map.mpr ⟨e, he, ey⟩)⟩
  have pl : zs.Perm l := perm_of_len nd mem (by rw [← hzs.length, len]; exact Nat.le_refl _)
  have big : vs.length ≤ sizeLine := by rw [len, sizeLine_eq]; omega
  refine wpAny_bind (wpAny_newList ?_ big)
  have hoL : (s1.heap.push (seqObj "list" vs.toArray 0)).get? s1.heap.objs.size = some (seqObj "list" vs.toArray 0) := Heap.get?_push_size _ rfl
  refine wpAny_bind (wpAny_holding (wpAny_call_entry slot_list_sort ⟨_, hoL, rfl⟩ entry_list_sort (list_sort_treeKAny strKind_oneLt hoL hzs.keysOf (fun v₁ v₂ rest e => keyKind_strs (by rw [← e]; exact hzs)) big fun st' hp hs => ⟨_, rfl, ?_⟩) (args_list_sort _)))
  obtain ⟨ys, k1, k2, k3⟩ := sorted_out_str hzs hp hs
  obtain ⟨c, hc⟩ := sortedHeap_at (vs := vs) (out := (arrOf st').map (·.2)) hoL
  refine wpAny_pure ⟨_, rfl, q _ s1.heap.objs.size _ c ys (fun b u e => ?_) gens os size hc k1 k3 (k2.trans pl) ((k2.trans pl).nodup_iff.mpr nd)⟩
  have h1 := keep b u e
  have hlt := Heap.lt_size h1
  show (sortedHeap (s1.heap.push (seqObj "list" vs.toArray 0)) s1.heap.objs.size vs _).get? b = some u
  rw [sortedHeap_old (Nat.ne_of_lt hlt) (by rw [size_push']; exact Nat.lt_succ_of_lt hlt)]
  exact Heap.get?_push_of_some _ h1
end
end L3

set_option maxHeartbeats 2000000
/-! L3W: comprehensions that make a set of texts. -/
namespace L3
open PySem PySem.Spec PyProof.Rows L2 PySem.Froz
/-- the set of the texts l, as a tracked thing -/
def TxSO (P : Program) (w : World) (a : Addr) (l : List Str) : HO := .ext fun h => TxS P w h a l
theorem txso_ok {P : Program} {w : World} {H : Hp} {h : Heap} {a : Addr} {l : List Str} (t : TxS P w h a l) : ObjOk P w H h a (TxSO P w a l) :=
  ⟨t, let ⟨_, ho, _⟩ := t; ⟨_, ho⟩, fun _ _ p k => TxS.at p k⟩
section
variable {X : Cx}
theorem txso_get {pins : List (Addr × Obj)} {σ : L2.St} {H : Hp} {s : Shared} {a : Addr} {l : List Str} (I : Inv X pins σ H s) (ha : H a = some (TxSO X.prog X.w a l)) : TxS X.prog X.w s.heap a l := (I.hok a _ ha).1
/-- a.add(k) -/
theorem txso_add {pins : List (Addr × Obj)} {σ : L2.St} {H : Hp} {s : Shared} {E : Value → Shared → Prop} {D : Addr} {l : List Str} {k : Str} {u : Tok} {Q : Value → Shared → Prop} (I : Inv X pins σ H s) (hD : H D = some (TxSO X.prog X.w D l)) (room : l.length + 1 < scanBound)
    (q : ∀ s' l', (∀ z, z ∈ l' ↔ z = k ∨ z ∈ l) → l'.length ≤ l.length + 1 → Inv X pins σ (upd H D (TxSO X.prog X.w D l')) s' → Q .none s') : wpAny (model X.prog X.w) X.A (call (.builtin "set.add") [.ref D, .str k u]) Q E s := by
  have t := txso_get I hD
  obtain ⟨B, ho, _⟩ := id t
  refine wpAny_call_entry F.slot_set_add ⟨_, ho, rfl⟩ F.entry_set_add ?_ (F.args_set_add_2 _ _)
  unfold Builtin.«set.add» Builtin.Frozenset.oneOther
  simp only [List.isEmpty_nil, bind_assoc]
  unfold Builtin.Frozenset.addrOf setAdd
  refine wpAny_bind (wpAny_pure ?_)
  try dsimp only
  refine wpAny_bind (wpAny_pure ?_)
  try dsimp only
  refine wpAny_bind (wpAny_holding (wpAny_bind ((strKind X.prog X.w).pyHash (is_str k u) ?_)))
  refine txs_add (s := { s with toks := s.toks + 1 }) t room fun b h' l' sb new mem len => ?_
  show wpAny _ _ (ret Value.none) _ _ _
  have he : ∃ o, h'.get? D = some o := let ⟨_, e, _⟩ := new; ⟨_, e⟩
  exact wpAny_pure ⟨_, rfl, q _ l' mem len (I.write (e := D) (t' := s.toks + 1) (by rw [hD]; trivial) (.inl rfl) (fun c o hc ho => (sb.2 c hc).trans ho) he (txso_ok new))⟩
/-- sorted(a) -/
theorem cr_sortTx (hc : X.calm = true) : CallR X (.builtin "sorted") (fun vs H Q => ∃ (a : Addr) (l : List Str), vs = [V.ref a] ∧ H a = some (TxSO X.prog X.w a l) ∧ l.length < 1000 ∧ ∀ (zs : List Str) (p : Addr), sortedS zs = true → zs.Perm l → zs.Nodup → H p = none → Q (.ref p) (upd H p (.lst (zs.map V.str)))) := by
  intro pins s σ H vs us Q I r h
  obtain ⟨a, l, rfl, ha, hl, q⟩ := h
  rw [Vals.ref1 r]
  refine txs_sorted (txso_get I ha) (I.ok.hd hc) hl fun s' p out c zs keep gens os size at_ stx srt perm nd => ?_
  have hn : H p = none := I.hok.fresh size
  have len : (zs.map V.str).length ≤ sizeLine := by rw [List.length_map, perm.length_eq, sizeLine_eq]; omega
  have J : Inv X pins σ (upd H p (.lst (zs.map V.str))) { s with heap := s'.heap, gens := s'.gens, drawn := s'.drawn, toks := s'.toks } :=
    I.call (ch := []) (Un.laid keep size hn) (I.hok.laid keep size ⟨len, out.toList, c, vals_of_strs stx, at_⟩) (by rw [gens]; exact I.bare) (fun _ z => nomatch z)
  have same : s' = { s with heap := s'.heap, gens := s'.gens, drawn := s'.drawn, toks := s'.toks } := by
    cases s'
    cases os
    rfl
  rw [same]
  exact ⟨.ref p, _, J, rfl, q zs p srt perm nd hn⟩
end
end L3

set_option maxHeartbeats 2000000
/-! L3X: {e for ..} over texts. -/
namespace L3
open PySem PySem.Spec PyProof.Rows L2 PySem.Froz
def tScT (P : Program) (w : World) (wi : TI) (g : TG) (tt : TT) (te : TE) (vs : List Nat) : TE := fun σ H Q => wi σ H fun J H1 => ∀ D, H1 D = none → ∃ W : Nat → Nat → Hp → Prop, (∃ m, W 0 m (upd H1 D (TxSO P w D []))) ∧ ∀ i m H', W i m H' →
  (J.stop i H' ∧ Q (.ref D) H') ∨ (J.go i H' ∧ ∃ N : Hp → Prop, (∀ H2, N H2 → ∃ m', m' < m ∧ W (i + 1) m' H2) ∧ ∀ x H2, J.yld i H' x H2 → g x (wipe σ vs) H2 fun σ3 H3 => wipe σ3 vs = wipe σ vs ∧ tt σ3 H3 fun b H4 =>
    if b = true then te σ3 H4 fun y H5 => ∃ (z : Str) (l : List Str), y = .str z ∧ H5 D = some (TxSO P w D l) ∧ l.length + 1 < scanBound ∧ ∀ l' : List Str, (∀ x, x ∈ l' ↔ x = z ∨ x ∈ l) → l'.length ≤ l.length + 1 → N (upd H5 D (TxSO P w D l')) else N H4)
/-- behind a turn: the block stands as it did ahead of it -/
theorem blk_back {Y : Cx} {fp : List Addr} {σ8 σw : L2.St} {vs : List Nat} {H' : Hp} {s7 s' : Shared} {tn : Heap → Prop} (obj : ∀ b ∈ fp, ∃ o, s7.heap.get? b = some o) (keep : (∀ b ∈ fp, ∀ o, s7.heap.get? b = some o → s'.heap.get? b = some o) → tn s'.heap)
    (hw : wipe σ8 vs = σw) (I' : Inv Y ([] ++ pinsAt fp s7.heap) σ8 H' s') : Inv Y [] σw H' s' ∧ tn s'.heap ∧ ∀ b ∈ fp, H' b = none := by
  have pin : ∀ b ∈ fp, ∀ o, s7.heap.get? b = some o → s'.heap.get? b = some o ∧ H' b = none := fun b hb o e =>
    have z := I'.pin (b, o) (List.mem_append_right _ (List.mem_append_right _ (mem_pinsAt hb e)))
    ⟨z.1, z.2.1⟩
  refine ⟨(I'.unpinned (pins := [])).weak (by rw [← hw, wipe_length]) fun j v e => ?_, keep fun b hb o e => (pin b hb o e).1, fun b hb => ?_⟩
  · rw [← hw] at e
    exact (wipe_some e).1
  · obtain ⟨o, e⟩ := obj b hb
    exact (pin b hb o e).2
section
variable {X : Cx}
theorem pe_scT {elt tg iter : Expr} {ifs : List Expr} {scope : Scope} {own : List (Str × Nat)} {pos : Pos} {wi : TI} {g : TG} {tt : TT} {te : TE} (hc : X.calm = true) (hN : X.N.Nodup) (hi : PI X tg iter wi) (ok : BlkOk X.N X.env.scope scope own)
    (hg : ∀ (s : Shared) (H : Hp) (C : Addr) (cl : List (Str × Addr)) (fp : List Addr), PG (X.blk s H scope (compEnvC scope cl C X.env) fp) tg g) (ht : ∀ (s : Shared) (H : Hp) (C : Addr) (cl : List (Str × Addr)) (fp : List Addr), PTs (X.blk s H scope (compEnvC scope cl C X.env) fp) ifs tt)
    (he : ∀ (s : Shared) (H : Hp) (C : Addr) (cl : List (Str × Addr)) (fp : List Addr), PE (X.blk s H scope (compEnvC scope cl C X.env) fp) elt te) (hs : ∀ x, foldedSetIterable iter X.env x = pure x := by intro _; rfl) :
    PE X (.SetComp elt [⟨tg, iter, ifs, 0⟩] scope pos) (tScT X.prog X.w wi g tt te (own.map (·.2))) := by
  refine ⟨fun pins s σ H Q I h => ?_⟩
  rw [PpSet.eval_SetComp]
  have cells : ∀ y ∈ scope.names, y.2 = .free → ∃ c, X.env.cells.lookup y.1 = some c := fun y hy e =>
    (ok.free y hy e).elim (fun k => I.ok.has _ (.inl k)) fun k => I.ok.has _ (.inr k)
  refine wpAny_comprehension_free rfl hs (closure_ok cells) ok.kind (fun y hy e => by rw [ok.uniq y hy, e]) (thn (hi.run pins s σ H _ I h) fun xv s1 hx => thn hx fun itv s2 got => ?_)
  obtain ⟨it, fp, tn, J, H2, rfl, I2, T, st2, f2, q⟩ := got
  refine PpSet.newSet_ok (newEnv_comp ?_)
  have nD : H2 s2.heap.objs.size = none := I2.hok.fresh (Nat.le_refl _)
  obtain ⟨W, ⟨m0, w0⟩, turn⟩ := q _ nD
  have I3 := I2.laid (t' := s2.toks) (o := TxSO X.prog X.w s2.heap.objs.size []) (fun b o e => Heap.get?_push_of_some { cls := .type "set", dict := none, data := .set #[] 0 (.fresh 0 0 (!X.w.params.followText "set-order")) } e) (Nat.le_refl _) (txso_ok txs_fresh)
  generalize e3 : ({ s2 with heap := s2.heap.push { cls := .type "set", dict := none, data := .set #[] 0 (.fresh 0 0 (!X.w.params.followText "set-order")) } } : Shared) = s3 at I3 ⊢
  have grow : ∀ b o, s2.heap.get? b = some o → s3.heap.get? b = some o := fun b o e => by rw [← e3]; exact Heap.get?_push_of_some _ e
  have more : s2.heap.objs.size < s3.heap.objs.size := by rw [← e3]; show _ < (s2.heap.push _).objs.size; rw [Heap.size_push]; exact Nat.lt_succ_self _
  have low : ∀ b ∈ fp, b < s2.heap.objs.size := fun b hb => let ⟨_, e, _⟩ := T.obj _ _ st2 b hb; Heap.lt_size e
  generalize eD : s2.heap.objs.size = D at nD w0 turn I3 more low
  generalize eH : upd H2 D (TxSO X.prog X.w D []) = H3 at w0 I3
  have f3 : ∀ b ∈ fp, FpOk X pins H3 b ∧ b < s3.heap.objs.size := fun b hb => by
    refine ⟨⟨?_, (f2 b hb).2⟩, Nat.lt_trans (low b hb) more⟩
    rw [← eH, upd_ne (Nat.ne_of_lt (low b hb))]
    exact (f2 b hb).1
  have st3 : tn 0 s3.heap := T.keep _ _ _ st2 fun b _ o e => grow b o e
  have I4 := block_start I3 ok hN f3
  have pg := hg s3 H3 s3.heap.objs.size (cellsFrom (s3.heap.objs.size + 1) scope.names (cloFrom X.env.cells scope.names [])) fp
  have pt := ht s3 H3 s3.heap.objs.size (cellsFrom (s3.heap.objs.size + 1) scope.names (cloFrom X.env.cells scope.names [])) fp
  have pe := he s3 H3 s3.heap.objs.size (cellsFrom (s3.heap.objs.size + 1) scope.names (cloFrom X.env.cells scope.names [])) fp
  show codeAny _ _ (.compStart (.SetComp elt [⟨tg, iter, ifs, 0⟩] scope pos) 0 (.ref it) (.ref D) (compEnvC scope (cellsFrom (s3.heap.objs.size + 1) scope.names (cloFrom X.env.cells scope.names [])) s3.heap.objs.size X.env)) (compPost (model X.prog X.w) X.A X.xe none (EP X pins σ Q) (.ref D) s3.heap.objs.size) { s3 with heap := pushCells (s3.heap.push { cls := .type "dict", data := .dict #[] }) scope.names }
  generalize eC : compEnvC scope (cellsFrom (s3.heap.objs.size + 1) scope.names (cloFrom X.env.cells scope.names [])) s3.heap.objs.size X.env = cv at I4 pg pt pe ⊢
  have here : cv.locals = s3.heap.objs.size := by rw [← eC]; rfl
  generalize e4 : ({ s3 with heap := pushCells (s3.heap.push { cls := .type "dict", data := .dict #[] }) scope.names } : Shared) = s4 at I4 ⊢
  have st4 : tn 0 s4.heap := T.keep _ _ _ st3 fun b _ o e => by rw [← e4]; exact pushCells_keeps _ _ _ _ (Heap.get?_push_of_some _ e)
  have free : ∀ {σ' : L2.St} {H' : Hp} {s' : Shared}, Inv (X.blk s3 H3 scope cv fp) [] σ' H' s' → (∀ b ∈ fp, H' b = none) → ∀ b ∈ fp, FpOk (X.blk s3 H3 scope cv fp) [] H' b := fun {σ' H' s'} I' none_ b hb =>
    ⟨none_ b hb, (I'.ok.exf b hb).1, I'.ok.exfs b hb, .inl hb, fun x c e => (I'.ok.exf b hb).2 x c e, fun p hp => absurd (show p ∈ ([] : List (Addr × Obj)) ++ [] from hp) (by simp)⟩
  have loop : codeAny (model X.prog X.w) X.A (.compLoop (.SetComp elt [⟨tg, iter, ifs, 0⟩] scope pos) 0 (.ref it) (.ref D) cv) (compPost (model X.prog X.w) X.A X.xe none (EP X pins σ Q) (.ref D) s3.heap.objs.size) s4 := by
    refine PpSet.compLoopS_any (fun n s' => ∃ i H', Inv (X.blk s3 H3 scope cv fp) [] (wipe σ (own.map (·.2))) H' s' ∧ tn i s'.heap ∧ (∀ b ∈ fp, H' b = none) ∧ W i n H') ?_ m0 ⟨0, H3, I4, st4, fun b hb => (f3 b hb).1.1, w0⟩
    rintro n s5 ⟨i, H5, I5, st5, n5, w5⟩
    rcases turn i n H5 w5 with ⟨over, done⟩ | ⟨go, N, next, step⟩
    · refine thnF (T.done (X.blk s3 H3 scope cv fp) rfl rfl rfl hc i [] s5 _ H5 (fun _ _ => False) I5 (free I5 n5) st5 over) fun r s6 ⟨hr, I6⟩ => ?_
      subst hr
      have I7 : Inv X pins σ H5 s6 := I3.call' (ch := fp) I6.os I6.base I6.hok I6.bare fun b hb => ⟨(f3 b hb).1.2.2.2.1, (f3 b hb).1.2.1, (f3 b hb).1.2.2.2.2.1, (f3 b hb).1.2.2.2.2.2⟩
      have nC : H5 s3.heap.objs.size = none := here ▸ I6.free
      obtain ⟨m, ns, _⟩ := I6.loc
      have ns' : s6.heap.Ns s3.heap.objs.size m := here ▸ ns
      obtain ⟨_, f1, f2', f3', f4', f5'⟩ := I3.fpOk (Nat.le_refl s3.heap.objs.size) (I3.hok.fresh (Nat.le_refl _))
      exact ⟨m, ns', fun h'' sb => ⟨.ref D, H5, I7.turned (t' := s6.toks) (fun b o hb e => (sb.2 b hb).trans e) nC f1 f3' f4' f5', rfl, done⟩⟩
    · refine thnF (T.item (X.blk s3 H3 scope cv fp) rfl rfl rfl hc i [] s5 _ H5 (fun _ _ => False) I5 (free I5 n5) st5 go) fun r s6 ⟨u, hr, h6⟩ => ?_
      subst hr
      refine thnF h6 fun _ s7 ⟨x, H7, I7, r7, y7, st7, n7⟩ => ?_
      refine thnF (pg.run _ s7 _ H7 x u _ (I7.pinned (free I7 n7) (T.obj _ _ st7)) r7 (step x H7 y7)) fun _ s8 ⟨σ8, H8, I8, hw8, q8⟩ => ?_
      refine thnF (pt.run _ s8 σ8 H8 _ I8 q8) fun b s9 ⟨H9, I9, q9⟩ => ?_
      have fin : ∀ {s' : Shared} {H' : Hp}, Inv (X.blk s3 H3 scope cv fp) ([] ++ pinsAt fp s7.heap) σ8 H' s' → N H' → ∃ m, m < n ∧ ∃ i H', Inv (X.blk s3 H3 scope cv fp) [] (wipe σ (own.map (·.2))) H' s' ∧ tn i s'.heap ∧ (∀ b ∈ fp, H' b = none) ∧ W i m H' := fun {s' H'} I' nx => by
        obtain ⟨m', less, w'⟩ := next H' nx
        obtain ⟨J', t', z'⟩ := blk_back (tn := tn (i + 1)) (fun b hb => let ⟨o, e, _⟩ := T.obj _ _ st7 b hb; ⟨o, e⟩) (fun kp => T.keep _ _ _ st7 kp) hw8 I'
        exact ⟨m', less, i + 1, H', J', t', z', w'⟩
      cases b with
      | false =>
        simp only [Bool.false_eq_true, if_false] at q9 ⊢
        exact fin I9 q9
      | true =>
        simp only [if_true] at q9 ⊢
        refine thnF (pe.run _ s9 σ8 H9 _ I9 q9) fun v s10 ⟨yv, H10, I10, r10, z, l, ey, there, room, put⟩ => ?_
        subst ey
        obtain ⟨tk, rfl⟩ := r10
        exact txso_add (X := X.blk s3 H3 scope cv fp) I10 there room fun s11 l' mem len I11 => fin I11 (put l' mem len)
  exact PpSet.codeAny_compStart_set loop (T.self X.A 0 _ _ _ st4 loop)
end
end L3

set_option maxHeartbeats 2000000
/-! L3Y: sorted({e for ..}) over texts. -/
namespace L3
open PySem PySem.Spec PyProof.Rows L2
/-- an element that is a text -/
def dStrE (te : E3) : E3 := fun ss M Q => te ss M fun t M1 => (∃ z, t = .str z) ∧ Q t M1
/-- what sorted gives of a set of the texts bs -/
def finSet (acc : List T) (Q : QE) (M : Mp) : Prop := ∃ bs : List Str, acc = bs.map T.str ∧ ∀ zs : List Str, sortedS zs = true → zs.Nodup → (∀ z, z ∈ zs ↔ z ∈ bs) → Q (.lst (zs.map T.str)) M
def dSortC (w3 : I3) (P : Pat) (tt : T3) (te : E3) (vs : List Nat) : E3 := fun ss M Q => w3 ss M fun S M1 => S.xs.length < 900 ∧ compL S.ok P tt (dStrE te) vs ss (fun acc M2 => finSet acc Q M2) S.xs [] M1
section
variable {X : Cx} {K : PySem.W.Frag} {w3 : I3} {P : Pat} {tt : T3} {te : E3}
theorem wipe_twice (σ : L2.St) (vs : List Nat) : wipe (wipe σ vs) vs = wipe σ vs := by
  have aux : ∀ us : List Nat, (∀ i ∈ us, i ∈ vs) → wipe (wipe σ us) vs = wipe σ vs := by
    intro us
    induction us with
    | nil => intro _; rfl
    | cons u us ih =>
      intro h
      show wipe ((wipe σ us).set u none) vs = wipe σ vs
      rw [wipe_set (h u List.mem_cons_self)]
      exact ih fun j hj => h j (List.mem_cons_of_mem _ hj)
  exact aux vs fun _ h => h
theorem lift_sortC {Pr : Program} {wo : World} {vs : List Nat} (hP : ∀ i ∈ P.ixs, i ∈ vs) {σ : L2.St} {H : Hp} {Q : VK} (h : liftE K (dSortC w3 P tt te vs) σ H Q) :
    tScT Pr wo (liftI K w3) (P.gV K) (liftT K tt) (liftE K te) vs σ H fun x H1 => ∃ (a : Addr) (l : List Str), [x] = [V.ref a] ∧ H1 a = some (TxSO Pr wo a l) ∧ l.length < 1000 ∧ ∀ (zs : List Str) (p : Addr), sortedS zs = true → zs.Perm l → zs.Nodup → H1 p = none → Q (.ref p) (upd H1 p (.lst (zs.map V.str))) := by
  obtain ⟨F, O, M, ss, Q3, w, sl, q, k⟩ := h
  refine ⟨F, O, M, ss, _, w, sl, q, ?_⟩
  rintro J H1 F1 M1 S x1 w1 so ⟨few, q1⟩ D hD
  have hO := w1.fO hD
  refine ⟨fun i m H' => m = S.xs.length - i ∧ i ≤ S.xs.length ∧ ∃ F' M' l acc, Ex F1 F' ∧ Wd K F' (upd O D (TxSO Pr wo D l)) H' M' ∧ l.length ≤ i ∧ (∀ z : Str, z ∈ l ↔ T.str z ∈ acc) ∧
    compL S.ok P tt (dStrE te) vs ss (fun acc M2 => finSet acc Q3 M2) (S.xs.drop i) acc M', ⟨S.xs.length, rfl, Nat.zero_le _, F1, M1, [], [], .refl, w1.keepO hD, Nat.le_refl _, fun z => by simp, q1⟩, ?_⟩
  rintro i m H' ⟨rfl, hi, F', M', l, acc, x2, w2, ll, lm, q2⟩
  by_cases hl : i < S.xs.length
  · rw [List.drop_eq_getElem_cons hl] at q2
    obtain ⟨ok, q2⟩ := q2
    obtain ⟨_, hgo⟩ := so F' _ H' M' x2 w2 ok i
    obtain ⟨go, hy⟩ := hgo _ (List.getElem?_eq_getElem hl)
    refine .inr ⟨go, fun H' => ∃ F' M' l acc, Ex F1 F' ∧ Wd K F' (upd O D (TxSO Pr wo D l)) H' M' ∧ l.length ≤ i + 1 ∧ (∀ z : Str, z ∈ l ↔ T.str z ∈ acc) ∧ compL S.ok P tt (dStrE te) vs ss (fun acc M2 => finSet acc Q3 M2) (S.xs.drop (i + 1)) acc M', ?_, ?_⟩
    · rintro H'' hN
      exact ⟨S.xs.length - (i + 1), by omega, rfl, hl, hN⟩
    · intro x H'' y
      obtain ⟨F'', x3, w3', r3⟩ := hy x H'' y
      split at q2
      · rename_i ss2 e
        refine Pat.run w3' (ws := vs) r3 ((sl.mono (x1.trans (x2.trans x3))).wipe vs) e fun σ2 sl3 hw => ?_
        refine ⟨(hw hP).trans (wipe_twice σ vs), F'', _, M', ss2, _, w3', sl3, q2, ?_⟩
        intro b H3 F3 M3 x4 w4 q4
        cases b with
        | true =>
          rw [if_pos rfl]
          refine ⟨F3, _, M3, ss2, _, w4, sl3.mono x4, q4, ?_⟩
          rintro v H4 F4 M4 t x5 w5 r5 ⟨⟨z, rfl⟩, q5⟩
          cases r5
          refine ⟨z, l, rfl, (w5.oth D _ upd_same).1, by unfold scanBound; omega, fun l' mem len => ?_⟩
          refine ⟨F4, M4, l', acc ++ [.str z], x2.trans (x3.trans (x4.trans x5)), w5.turnO, by omega, fun y => ?_, q5.2⟩
          rw [mem, List.mem_append, List.mem_singleton, lm]
          constructor
          · rintro (rfl | h)
            · exact .inr rfl
            · exact .inl h
          · rintro (h | h)
            · exact .inr h
            · cases h
              exact .inl rfl
        | false =>
          rw [if_neg Bool.false_ne_true]
          exact ⟨F3, M3, l, acc, x2.trans (x3.trans x4), w4, by omega, lm, q4⟩
      · exact q2.elim
  · rw [List.drop_of_length_le (by omega)] at q2
    obtain ⟨ok, bs, rfl, q2⟩ := q2
    obtain ⟨hst, _⟩ := so F' _ H' M' x2 w2 ok i
    refine .inl ⟨hst (by omega), D, l, rfl, (w2.oth D _ upd_same).1, by omega, fun zs p srt perm nd hp => ?_⟩
    have hz := q2 zs srt nd fun z => by rw [perm.mem_iff, lm]; simp
    have w4 := w2.freeO hO
    exact fin_new w4 (k.mono (x1.trans (x2.trans (Ex.upd (w2.oth D _ upd_same).2)))) (fun F2 p x e => .lst e (Reps.of_strs zs)) hz p hp
theorem d_sortC {elt tg iter : Expr} {ifs : List Expr} {scope : Scope} {p pos pos' : Pos} (own : List (Str × Nat)) (hc : X.calm = true) (hN : X.N.Nodup) (hG : Gl X "sorted") (hm : X.mg "sorted" = none) (hi : DI X tg iter w3) (ok : blkC X.N X.env.scope scope own = true)
    (hg : ∀ (s : Shared) (H : Hp) (C : Addr) (cl : List (Str × Addr)) (fp : List Addr), DG (X.blk s H scope (compEnvC scope cl C X.env) fp) tg P)
    (ht : ∀ (s : Shared) (H : Hp) (C : Addr) (cl : List (Str × Addr)) (fp : List Addr), DTs (X.blk s H scope (compEnvC scope cl C X.env) fp) ifs tt)
    (he : ∀ (s : Shared) (H : Hp) (C : Addr) (cl : List (Str × Addr)) (fp : List Addr), DE (X.blk s H scope (compEnvC scope cl C X.env) fp) elt te)
    (hP : ∀ i ∈ P.ixs, i ∈ own.map (·.2) := by decide) (hs : ∀ x, foldedSetIterable iter X.env x = pure x := by intro _; rfl)
    (hst : starEach [.SetComp elt [⟨tg, iter, ifs, 0⟩] scope pos'] X.env = (false, eval (.SetComp elt [⟨tg, iter, ifs, 0⟩] scope pos') X.env) :: starEach [] X.env := by rfl) :
    DE X (.Call (.Name "sorted" p) [.SetComp elt [⟨tg, iter, ifs, 0⟩] scope pos'] [] pos) (dSortC w3 P tt te (own.map (·.2))) :=
  pe_weak (pe_callB (cr_sortTx hc) hG hm (by decide +kernel) (pa_cons (pe_scT hc hN hi (blkOk_by ok) hg ht he hs) pa_nil hst) (he := hst)) fun _ _ _ h => lift_sortC hP h
end
end L3

set_option maxHeartbeats 1000000
/-! L3Z: results that are left to the caller for good; parts below parts, all of them, leaves, as functions. -/
namespace L3
open PySem PySem.Spec PyProof.Rows L2
def SubM (M0 M : Mp) : Prop := ∀ a m, M0 a = some m → M a = some m
theorem SubM.refl {M : Mp} : SubM M M := fun _ _ h => h
theorem SubM.trans {A B C : Mp} (h : SubM A B) (k : SubM B C) : SubM A C := fun a m e => k a m (h a m e)
theorem SubM.mset {M0 M : Mp} {p : Addr} {o : MO} (h : SubM M0 M) (n : M0 p = none) : SubM M0 (L3.mset M p o) := fun a m e => by
  rw [mset_ne (show a ≠ p from fun z => by rw [z, n] at e; cases e)]
  exact h a m e
theorem SubM.new {M : Mp} {p : Addr} {o : MO} (n : M p = none) : SubM M (L3.mset M p o) := SubM.refl.mset n
theorem Wd.less {K : PySem.W.Frag} {F O H : Hp} {M M0 : Mp} (w : Wd K F O H M) (h : SubM M0 M) : Wd K F O H M0 := ⟨w.sub, w.oth, fun a m e => w.mo a m (h a m e)⟩
/-- what is wanted of a result whose list or dict is left to the caller for good -/
inductive Fz (Q : QE) : QE
  | same {t : T} {M M0 : Mp} : SubM M0 M → Q t M0 → Fz Q t M
  | lst {p : Addr} {xs : List T} {M M0 : Mp} : M p = some (.lst xs) → SubM M0 M → M0 p = none → Q (.lst xs) M0 → Fz Q (.raw (.ref p)) M
  | dct {p : Addr} {kvs : List (Key × T)} {M M0 : Mp} : M p = some (.dct kvs) → SubM M0 M → M0 p = none → Q (.dic kvs) M0 → Fz Q (.raw (.ref p)) M
theorem lkv_fz {K : PySem.W.Frag} {F O : Hp} {Q3 : QE} {Q : VK} (h : LkV K F O Q3 Q) : LkV K F O (Fz Q3) Q := by
  intro v H' F' M' t x w r q
  cases q with
  | same s q => exact h v H' F' _ t x (w.less s) r q
  | @lst p xs _ M0 e s n q =>
    cases r
    obtain ⟨f0, _, o, e2, ro⟩ := w.mo p _ e
    cases ro with
    | lst rl =>
    have w2 := (w.freeze e e2).less (M0 := M0) fun a m ea => by
      unfold mdel
      rw [if_neg (fun z => by rw [z, n] at ea; cases ea)]
      exact s a m ea
    exact h _ H' _ _ _ (x.trans (.upd f0)) w2 (.lst upd_same (rl.mono (.upd f0))) q
  | @dct p kvs _ M0 e s n q =>
    cases r
    obtain ⟨f0, _, o, e2, ro⟩ := w.mo p _ e
    cases ro with
    | dct rl =>
    have w2 := (w.freeze e e2).less (M0 := M0) fun a m ea => by
      unfold mdel
      rw [if_neg (fun z => by rw [z, n] at ea; cases ea)]
      exact s a m ea
    exact h _ H' _ _ _ (x.trans (.upd f0)) w2 (.dic upd_same (rl.mono (.upd f0))) q
/-- okD, the result left to the caller -/
theorem okF {P : Program} {w : World} {K : PySem.W.Frag} {mg : Str → Option Value} {base : Heap} {x qual : Str} {st : Stmt} {f : Addr}
    {fd : FuncData} {N ps : List Str} {k : Nat} {sp : Sp3} (F : Fun K x qual st f fd) (S : FnScope N ps (defScope st))
    (len : ∀ ts M Q, sp ts M Q → ts.length = ps.length)
    (hbody : ∀ (cdv : Value) (A : Around) (outer : List Env) (s : Shared) (H : Hp) (E : XK),
      Room k (A.deeper (envOfC qual (defScope st) s.heap.objs.size f cdv)) → (A.deeper (envOfC qual (defScope st) s.heap.objs.size f cdv)).guards = some [] →
      ∃ t : S3, DSs (cxOf CX0 P w K mg base N qual (defScope st) f cdv A outer s H E).nox (defBody st) t ∧
        ∀ (ts : List T) (M : Mp) (Q : QE), sp ts M Q → t { nx := fun _ M' => Fz Q .non M', rt := Fz Q } (start3 N ts) M) :
    FnD P w K mg base (k + 1) f fd ps sp := by
  have h : FnD P w K mg base (k + 1) f fd ps (fun ts M Q' => ∃ Q, sp ts M Q ∧ Q' = Fz Q) := by
    refine okD F S ?_ fun cdv A outer s H E hr hg => ?_
    · rintro ts M Q ⟨Q0, h, _⟩
      exact len ts M Q0 h
    · obtain ⟨t, ht, hq⟩ := hbody cdv A outer s H E hr hg
      refine ⟨t, ht, ?_⟩
      rintro ts M Q ⟨Q0, h, rfl⟩
      exact hq ts M Q0 h
  refine FnG.imp h ?_
  rintro vs H Q E ⟨F, O, M, ts, Q3, w, r, h, lk⟩
  exact ⟨F, O, M, ts, Fz Q3, w, r, ⟨Q3, h, rfl⟩, lkv_fz lk⟩

theorem flatMap_congr {α β : Type} {f g : α → List β} : ∀ {xs : List α}, (∀ x ∈ xs, f x = g x) → xs.flatMap f = xs.flatMap g
  | [], _ => rfl
  | x :: xs, h => by rw [List.flatMap_cons, List.flatMap_cons, h x List.mem_cons_self, flatMap_congr fun y hy => h y (List.mem_cons_of_mem _ hy)]
/-! ### parts below a part -/
/-- the parts straight below a part, with their places in it -/
def kids : T → List (List Nat × T)
  | .tup [.str w, x] => if w = "not" then [([1], x)] else if w = "exists" then (match x with | .tup [_, y] => [([1, 1], y)] | _ => []) else []
  | .tup [.str w, x, y] => if w = "plus" ∨ w = "is" then [([1], x)] else if w = "only" ∨ w = "first" then (match x with | .tup [_, c] => [([1, 1], c), ([2], y)] | _ => []) else if w = "column" then [] else [([1], x), ([2], y)]
  | _ => []
section
variable {n : Nat} {p x y v o : T} {w a b : Str}
theorem kids_col : kids (.tup [.str "column", x, y]) = [] := by unfold kids; dsimp only; rw [if_neg (by decide), if_neg (by decide), if_pos rfl]
theorem kids_val : kids (.tup [.str "value", v]) = [] := by unfold kids; dsimp only; rw [if_neg (by decide), if_neg (by decide)]
theorem kids_not : kids (.tup [.str "not", x]) = [([1], x)] := by unfold kids; dsimp only; rw [if_pos rfl]
theorem kids_exists : kids (.tup [.str "exists", .tup [o, x]]) = [([1, 1], x)] := by unfold kids; dsimp only; rw [if_neg (by decide), if_pos rfl]
theorem kids_plus (h : w = "plus" ∨ w = "is") : kids (.tup [.str w, x, y]) = [([1], x)] := by unfold kids; dsimp only; rw [if_pos h]
theorem kids_only (h : w = "only" ∨ w = "first") : kids (.tup [.str w, .tup [o, x], y]) = [([1, 1], x), ([2], y)] := by
  unfold kids; dsimp only; rw [if_neg (by rcases h with rfl | rfl <;> decide), if_pos h]
theorem kids_two (h : w = "less" ∨ w = "most" ∨ w = "same" ∨ w = "and" ∨ w = "or") : kids (.tup [.str w, x, y]) = [([1], x), ([2], y)] := by
  unfold kids; dsimp only; rw [if_neg (by rcases h with rfl | rfl | rfl | rfl | rfl <;> decide), if_neg (by rcases h with rfl | rfl | rfl | rfl | rfl <;> decide), if_neg (by rcases h with rfl | rfl | rfl | rfl | rfl <;> decide)]
/-- what holds of the parts below -/
structure KidsOk (n : Nat) (p : T) : Prop where
  few : (kids p).length ≤ 2
  each : ∀ x ∈ kids p, ∃ m, n = m + 1 ∧ x.1.length ≤ 2 ∧ x.1 ≠ [] ∧ Hole (Part n) p x.1 m x.2
  apart : ∀ x ∈ kids p, ∀ y ∈ kids p, ∀ r s, x.1 ++ r = y.1 ++ s → x = y
theorem Part.kidsOk (h : Part n p) : KidsOk n p := by
  have one : ∀ {n : Nat} {p z : T} {l : List Nat}, kids p = [(l, z)] → l.length ≤ 2 → l ≠ [] → Hole (Part (n + 1)) p l n z → KidsOk (n + 1) p := by
    intro n p z l e h1 h2 h3
    refine ⟨by rw [e]; exact Nat.le_succ _, fun x hx => ?_, fun x hx y hy _ _ _ => ?_⟩
    · rw [e, List.mem_singleton] at hx
      subst hx
      exact ⟨n, rfl, h1, h2, h3⟩
    · rw [e, List.mem_singleton] at hx hy
      rw [hx, hy]
  have two : ∀ {n : Nat} {p y z : T} {l : List Nat}, kids p = [(l, y), ([2], z)] → l.length ≤ 2 → l.head? = some 1 → Hole (Part (n + 1)) p l n y → Hole (Part (n + 1)) p [2] n z → KidsOk (n + 1) p := by
    intro n p u z l e h1 h2 h3 h4
    have hl : l ≠ [] := fun e => by rw [e] at h2; cases h2
    refine ⟨by rw [e]; exact Nat.le_refl _, fun x hx => ?_, fun x hx y hy r s q => ?_⟩
    · rw [e] at hx
      simp only [List.mem_cons, List.not_mem_nil, or_false] at hx
      rcases hx with rfl | rfl
      · exact ⟨n, rfl, h1, hl, h3⟩
      · exact ⟨n, rfl, Nat.le_succ _, by simp, h4⟩
    · rw [e] at hx hy
      simp only [List.mem_cons, List.not_mem_nil, or_false] at hx hy
      obtain ⟨i, l', rfl⟩ : ∃ i l', l = i :: l' := by
        cases l with
        | nil => exact absurd rfl hl
        | cons i l' => exact ⟨i, l', rfl⟩
      cases h2
      rcases hx with rfl | rfl <;> rcases hy with rfl | rfl
      · rfl
      · cases q
      · cases q
      · rfl
  have none_ : ∀ {n : Nat} {p : T}, kids p = [] → KidsOk n p := by
    intro n p e
    refine ⟨by rw [e]; exact Nat.zero_le _, fun x hx => ?_, fun x hx => ?_⟩ <;> (rw [e] at hx; cases hx)
  cases h with
  | col ha hb => exact none_ kids_col
  | val hv => exact none_ kids_val
  | plus hw hx hv => exact one (kids_plus hw) (by decide) (by simp) (hole_plus hw hx hv)
  | not hx => exact one kids_not (by decide) (by simp) (hole_not hx)
  | two hw hx hy => exact two (kids_two hw) (by decide) rfl (hole_two1 hw hx hy) (hole_two2 hw hx hy)
  | «exists» ho hx => exact one kids_exists (by decide) (by simp) (hole_ex ho hx)
  | only hw ho hx hy => exact two (kids_only hw) (by decide) rfl (hole_on1 hw ho hx hy) (hole_on2 hw ho hx hy)
/-- a part and all below it, with their places behind l -/
def allP : Nat → List Nat → T → List (List Nat × T)
  | 0, l, t => [(l, t)]
  | n + 1, l, t => (l, t) :: (kids t).flatMap fun x => allP n (l ++ x.1) x.2
theorem allP_step : ∀ {n : Nat} {p : T}, Part n p → ∀ l, allP n l p = (l, p) :: (kids p).flatMap fun x => allP n (l ++ x.1) x.2 := by
  have mono : ∀ {n : Nat} {p : T}, Part n p → ∀ l, allP (n + 1) l p = allP n l p := by
    intro n
    induction n with
    | zero =>
      intro p h l
      have e : kids p = [] := by
        cases hk : kids p with
        | nil => rfl
        | cons x r =>
          obtain ⟨m, e, _⟩ := h.kidsOk.each x (by rw [hk]; exact List.mem_cons_self)
          cases e
      rw [allP, allP, e]
      rfl
    | succ n ih =>
      intro p h l
      rw [allP, allP]
      congr 1
      refine flatMap_congr fun x hx => ?_
      obtain ⟨m, e, _, _, hh⟩ := h.kidsOk.each x hx
      cases e
      exact ih hh.part _
  intro n p h l
  rw [← mono h l, allP]
theorem allP_len {n : Nat} : ∀ {p : T}, Part n p → ∀ l, (allP n l p).length ≤ cntP n := by
  induction n with
  | zero => intro p h l; rw [allP]; exact Nat.le_refl _
  | succ n ih =>
    intro p h l
    have k := h.kidsOk
    have f1 : ∀ x ∈ kids p, (allP n (l ++ x.1) x.2).length ≤ cntP n := fun x hx => by
      obtain ⟨m, e, _, _, hh⟩ := k.each x hx
      cases e
      exact ih hh.part _
    rw [allP, List.length_cons, cntP]
    have hf := k.few
    generalize kids p = ks at hf f1
    match ks, hf, f1 with
    | [], _, _ => simp
    | [x], _, f1 => have := f1 x List.mem_cons_self; simp; omega
    | [x, y], _, f1 =>
      have h1 := f1 x List.mem_cons_self
      have h2 := f1 y (by simp)
      simp
      omega
theorem allP_pos {n : Nat} {l : List Nat} {p : T} : 0 < (allP n l p).length := by cases n <;> rw [allP] <;> simp
theorem allP_shift : ∀ {n : Nat} {p : T} (l : List Nat), allP n l p = (allP n [] p).map fun x => (l ++ x.1, x.2) := by
  intro n
  induction n with
  | zero => intro p l; rw [allP, allP]; simp
  | succ n ih =>
    intro p l
    rw [allP, allP, List.map_cons, List.append_nil]
    congr 1
    rw [List.map_flatMap]
    refine flatMap_congr fun x _ => ?_
    rw [ih (l ++ x.1), ih ([] ++ x.1), List.map_map]
    refine List.map_congr_left fun y _ => ?_
    show (l ++ x.1 ++ y.1, y.2) = (l ++ ([] ++ x.1 ++ y.1), y.2)
    rw [List.nil_append, List.append_assoc]
theorem allP_at {n : Nat} : ∀ {p : T}, Part n p → ∀ {l : List Nat} {x : List Nat × T}, x ∈ allP n l p → ∃ r m, x.1 = l ++ r ∧ r.length ≤ 2 * n ∧ Hole (Part n) p r m x.2 := by
  induction n with
  | zero =>
    intro p h l x hx
    rw [allP, List.mem_singleton] at hx
    subst hx
    exact ⟨[], 0, by simp, Nat.le_refl _, Hole.root h⟩
  | succ n ih =>
    intro p h l x hx
    rw [allP, List.mem_cons] at hx
    rcases hx with rfl | hx
    · exact ⟨[], _, by simp, Nat.zero_le _, Hole.root h⟩
    · obtain ⟨y, hy, hx⟩ := List.mem_flatMap.mp hx
      obtain ⟨m, e, h1, _, hh⟩ := h.kidsOk.each y hy
      cases e
      obtain ⟨r, k, e1, e2, h2⟩ := ih hh.part hx
      exact ⟨y.1 ++ r, k, by rw [e1, List.append_assoc], by rw [List.length_append]; omega, hh.trans h2⟩
/-! ### leaves -/
def joinW : T → Bool
  | .tup (.str w :: _) => decide (w = "not") || decide (w = "and") || decide (w = "or")
  | _ => false
/-- the leaves of a condition, with their places behind l -/
def lvP : Nat → List Nat → T → List (List Nat × T)
  | 0, l, t => [(l, t)]
  | n + 1, l, t => if joinW t then (kids t).flatMap fun x => lvP n (l ++ x.1) x.2 else [(l, t)]
theorem join_kids {n : Nat} (h : Part n p) (j : joinW p = true) : ∃ m, n = m + 1 := by
  cases h with
  | col _ _ => exact absurd j (by simp only [joinW]; decide)
  | val _ => exact absurd j (by simp only [joinW]; decide)
  | plus => exact ⟨_, rfl⟩
  | not => exact ⟨_, rfl⟩
  | two => exact ⟨_, rfl⟩
  | «exists» => exact ⟨_, rfl⟩
  | only => exact ⟨_, rfl⟩
theorem lvP_step : ∀ {n : Nat} {p : T}, Part n p → ∀ l, lvP n l p = if joinW p then (kids p).flatMap fun x => lvP n (l ++ x.1) x.2 else [(l, p)] := by
  have mono : ∀ {n : Nat} {p : T}, Part n p → ∀ l, lvP (n + 1) l p = lvP n l p := by
    intro n
    induction n with
    | zero =>
      intro p h l
      have e : joinW p = false := by
        cases hj : joinW p with
        | false => rfl
        | true =>
          obtain ⟨m, e⟩ := join_kids h hj
          cases e
      rw [lvP, lvP, e]
      rfl
    | succ n ih =>
      intro p h l
      rw [lvP, lvP]
      by_cases hj : joinW p = true
      · rw [if_pos hj, if_pos hj]
        refine flatMap_congr fun x hx => ?_
        obtain ⟨m, e, _, _, hh⟩ := h.kidsOk.each x hx
        cases e
        exact ih hh.part _
      · rw [if_neg hj, if_neg hj]
  intro n p h l
  rw [← mono h l, lvP]
theorem lvP_len {n : Nat} : ∀ {p : T}, Part n p → ∀ l, (lvP n l p).length ≤ cntP n := by
  induction n with
  | zero => intro p h l; rw [lvP]; exact Nat.le_refl _
  | succ n ih =>
    intro p h l
    have k := h.kidsOk
    have f1 : ∀ x ∈ kids p, (lvP n (l ++ x.1) x.2).length ≤ cntP n := fun x hx => by
      obtain ⟨m, e, _, _, hh⟩ := k.each x hx
      cases e
      exact ih hh.part _
    rw [lvP, cntP]
    split
    · have hf := k.few
      generalize kids p = ks at hf f1
      match ks, hf, f1 with
      | [], _, _ => simp
      | [x], _, f1 => have := f1 x List.mem_cons_self; simp; omega
      | [x, y], _, f1 =>
        have h1 := f1 x List.mem_cons_self
        have h2 := f1 y (by simp)
        simp
        omega
    · simp
theorem allP_mono {n m : Nat} (h : Part m p) (l : m ≤ n) : ∀ q, allP n q p = allP m q p := by
  induction l with
  | refl => exact fun _ => rfl
  | step l ih =>
    intro q
    rw [← ih q, allP, ← allP_step (h.mono l) q]
theorem lvP_mono {n m : Nat} (h : Part m p) (l : m ≤ n) : ∀ q, lvP n q p = lvP m q p := by
  induction l with
  | refl => exact fun _ => rfl
  | step l ih =>
    intro q
    rw [← ih q, lvP, ← lvP_step (h.mono l) q]
/-- what stands at and below a leaf -/
theorem lvP_all {n : Nat} : ∀ {p : T}, Part n p → ∀ {l : List Nat} {y : List Nat × T}, y ∈ lvP n l p → ∃ r m, y.1 = l ++ r ∧ r.length ≤ 2 * n ∧ m ≤ n ∧ Hole (Part n) p r m y.2 ∧
    ∀ x, (x ∈ allP n l p ∧ y.1 <+: x.1) ↔ x ∈ allP m y.1 y.2 := by
  have base : ∀ {n : Nat} {p : T} {l : List Nat}, Part n p → ∀ x, (x ∈ allP n l p ∧ l <+: x.1) ↔ x ∈ allP n l p := fun h x =>
    ⟨fun q => q.1, fun q => ⟨q, by obtain ⟨r, _, e, _⟩ := allP_at h q; exact ⟨r, e.symm⟩⟩⟩
  induction n with
  | zero =>
    intro p h l y hy
    rw [lvP, List.mem_singleton] at hy
    subst hy
    exact ⟨[], 0, by simp, Nat.le_refl _, Nat.le_refl _, Hole.root h, base h⟩
  | succ n ih =>
    intro p h l y hy
    rw [lvP] at hy
    split at hy
    · obtain ⟨z, hz, hy⟩ := List.mem_flatMap.mp hy
      obtain ⟨m, e, h1, h0, hh⟩ := h.kidsOk.each z hz
      cases e
      obtain ⟨r, k, e1, e2, hk, h2, h3⟩ := ih hh.part hy
      refine ⟨z.1 ++ r, k, by rw [e1, List.append_assoc], by rw [List.length_append]; omega, by omega, hh.trans h2, fun x => ?_⟩
      rw [← h3, allP, List.mem_cons, List.mem_flatMap]
      constructor
      · rintro ⟨rfl | ⟨z', hz', hx⟩, hp⟩
        · obtain ⟨s, e⟩ := hp
          rw [e1] at e
          have := congrArg List.length e
          simp only [List.length_append] at this
          exact absurd (List.length_eq_zero_iff.mp (by omega : z.1.length = 0)) h0
        · obtain ⟨m', e', _, _, hh'⟩ := h.kidsOk.each z' hz'
          cases e'
          obtain ⟨r', _, e4, _⟩ := allP_at hh'.part hx
          obtain ⟨s, e⟩ := hp
          have : z.1 ++ (r ++ s) = z'.1 ++ r' := by
            rw [e1, e4] at e
            simpa [List.append_assoc] using e
          obtain rfl := h.kidsOk.apart z hz z' hz' _ _ this
          exact ⟨hx, ⟨s, e⟩⟩
      · rintro ⟨hx, hp⟩
        exact ⟨Or.inr ⟨z, hz, hx⟩, hp⟩
    · rw [List.mem_singleton] at hy
      subst hy
      exact ⟨[], _, by simp, Nat.zero_le _, Nat.le_refl _, Hole.root h, base h⟩
end
end L3

set_option maxHeartbeats 1000000
/-! L3ZA: equality of trees that can be compared, pure comprehensions over mapped lists. -/
namespace L3
open PySem PySem.Spec PyProof.Rows L2
theorem shk_non (k : Nat) : Shk k .non := ⟨.none, rfl, by rw [PyData.canLay0], Nat.zero_le _⟩
theorem shk_int (i : Int) (k : Nat) : Shk k (.int i) := ⟨.int i, rfl, by rw [PyData.canLay0], Nat.zero_le _⟩
theorem shk_bl (b : Bool) (k : Nat) : Shk k (.bl b) := ⟨.bool b, rfl, by rw [PyData.canLay0], Nat.zero_le _⟩
theorem shk_lst {k : Nat} {xs : List T} (h : ∀ x ∈ xs, Shk k x) : Shk (k + 1) (.lst xs) := by
  obtain ⟨ds, e, a, b⟩ := shk_all h
  exact ⟨.list ds, by rw [T.py, e]; rfl, by rw [PyData.canLay0]; exact a, by rw [PyData.depth]; omega⟩
theorem Shk.shaped {k : Nat} {t : T} (h : Shk k t) (hk : k ≤ 64) : ∃ d, t.py = some d ∧ SeqAt.shaped d = true := by
  obtain ⟨d, e, a, b⟩ := h
  refine ⟨d, e, ?_⟩
  unfold SeqAt.shaped
  rw [a, Bool.true_and]
  exact decide_eq_true (by omega)
theorem FlatV.shk {t : T} (h : FlatV t) (k : Nat) : Shk k t := by
  rcases h with rfl | ⟨i, rfl, _⟩ | ⟨z, rfl, hz⟩
  · exact shk_non k
  · exact shk_int i k
  · exact shk_str hz.2 k
theorem shk2 {a b : T} {k : Nat} (ha : Shk k a) (hb : Shk k b) : Shk (k + 1) (.tup [a, b]) := shk_tup fun x hx => by
  simp only [List.mem_cons, List.not_mem_nil, or_false] at hx
  rcases hx with rfl | rfl <;> assumption
theorem shk3 {a b c : T} {k : Nat} (ha : Shk k a) (hb : Shk k b) (hc : Shk k c) : Shk (k + 1) (.tup [a, b, c]) := shk_tup fun x hx => by
  simp only [List.mem_cons, List.not_mem_nil, or_false] at hx
  rcases hx with rfl | rfl | rfl <;> assumption
theorem OwnT.shk {k : Nat} {t : T} (h : OwnT k t) : Shk 2 t := by
  obtain ⟨l, rfl, _, hn⟩ := h
  refine shk_tup fun x hx => ?_
  obtain ⟨p, hp, rfl⟩ := List.mem_map.mp hx
  exact shk2 (shk_str (hn p hp).1.2 0) (shk_str (hn p hp).2.2 0)
theorem Part.shk {n : Nat} {t : T} (h : Part n t) : Shk (2 * n + 3) t := by
  have wd : ∀ {w : Str} {k : Nat}, (decide (w.length ≤ 8) && w.cps.toList.all fun c => decide (c < 0x110000)) = true → Shk k (.str w) := fun h => shk_str (nm_of h).2 _
  induction h with
  | @col n a b ha hb => exact (shk3 (wd (by decide +kernel)) (shk_str ha.2 0) (shk_str hb.2 0)).mono (by omega)
  | @val n v hv => exact (shk2 (wd (by decide +kernel)) (hv.shk 0)).mono (by omega)
  | @plus n w x v hw _ hv ih =>
    have h1 : Shk (2 * n + 3) (.str w) := by rcases hw with rfl | rfl <;> exact wd (by decide +kernel)
    exact (shk3 h1 ih (hv.shk _)).mono (by omega)
  | @not n x _ ih => exact (shk2 (wd (by decide +kernel)) ih).mono (by omega)
  | @two n w x y hw _ _ i1 i2 =>
    have h1 : Shk (2 * n + 3) (.str w) := by rcases hw with rfl | rfl | rfl | rfl | rfl <;> exact wd (by decide +kernel)
    exact (shk3 h1 i1 i2).mono (by omega)
  | @«exists» n o x ho _ ih => exact (shk2 (wd (by decide +kernel)) (shk2 (ho.shk.mono (show 2 ≤ 2 * n + 3 by omega)) ih)).mono (by omega)
  | @only n w o x y hw ho _ _ i1 i2 =>
    have h1 : Shk (2 * n + 4) (.str w) := by rcases hw with rfl | rfl <;> exact wd (by decide +kernel)
    exact (shk3 h1 (shk2 (ho.shk.mono (show 2 ≤ 2 * n + 3 by omega)) i1) (i2.mono (by omega))).mono (by omega)
theorem plc_shk (l : List Nat) (k : Nat) : Shk (k + 1) (plc l) := shk_tup fun x hx => by
  obtain ⟨i, _, rfl⟩ := List.mem_map.mp hx
  exact shk_int _ k
theorem enc_shk {x : List Nat × T} {n : Nat} (h : Part n x.2) : Shk (2 * n + 4) (enc x) := shk2 ((plc_shk x.1 0).mono (by omega)) h.shk
/-- a list and the empty one -/
theorem eq_nil {neg : Bool} {x : T} {xs : List T} {Q : QE} {M : Mp} (e : look x M = .lst xs) (h : ∀ t ∈ xs, Shk 63 t) (q : Q (.bl (if neg then !decide (xs = []) else decide (xs = []))) M) : oEqB neg x (.lst []) Q M := by
  have s0 : scalT x (.lst []) = none := by cases x <;> rfl
  obtain ⟨ds, e1, e2, e3⟩ := shk_all h
  obtain ⟨d, e4, e5⟩ := (shk_lst h).shaped (Nat.le_refl _)
  unfold oEqB
  rw [s0, e]
  rw [T.py, e1] at e4
  cases e4
  dsimp only
  rw [T.py, e1]
  refine ⟨e5, shaped_nil, ?_⟩
  rw [eqv_empty]
  have : decide (ds = []) = decide (xs = []) := by
    refine decide_eq_decide.mpr ?_
    cases xs with
    | nil => rw [T.pys] at e1; cases e1; simp
    | cons y ys =>
      rw [T.pys] at e1
      split at e1
      · cases e1
        exact Iff.intro (fun z => nomatch z) (fun z => nomatch z)
      · cases e1
  rw [this]
  exact q
theorem eqv_ints : ∀ l r : List Nat, PyData.eqvAll (l.map fun i => PyData.int (i : Nat)) (r.map fun i => PyData.int (i : Nat)) = decide (l = r)
  | [], [] => by rw [List.map_nil, PyData.eqvAll]; rfl
  | [], _ :: _ => by rw [List.map_nil, List.map_cons, PyData.eqvAll]; rfl
  | _ :: _, [] => by rw [List.map_nil, List.map_cons, PyData.eqvAll]; rfl
  | i :: l, j :: r => by
    rw [List.map_cons, List.map_cons, PyData.eqvAll, eqv_ints l r, PyData.eqv]
    simp only [List.cons.injEq]
    by_cases h : i = j
    · subst h; simp
    · simp only [h, false_and, decide_false]
      rw [beq_eq_false_iff_ne.mpr (show ((i : Int) ≠ (j : Int)) from fun z => h (Int.ofNat.inj z)), Bool.false_and]
/-- two places -/
theorem eq_plc {neg : Bool} {l r : List Nat} {Q : QE} {M : Mp} (q : Q (.bl (if neg then !decide (l = r) else decide (l = r))) M) : oEqB neg (plc l) (plc r) Q M := by
  unfold oEqB plc look
  dsimp only [scalT]
  rw [plc_py, plc_py]
  refine ⟨shaped_tup_ints l, shaped_tup_ints r, ?_⟩
  rw [PyData.eqv, eqv_ints]
  exact q
section
variable {neg : Bool} {Q : QE} {M : Mp} {a b : Str} {i j : Int} {c d : Bool}
theorem eqb_ss : oEqB neg (.str a) (.str b) Q M = Q (.bl (if neg then !decide (a = b) else decide (a = b))) M := rfl
theorem eqb_ii : oEqB neg (.int i) (.int j) Q M = Q (.bl (if neg then !decide (i = j) else decide (i = j))) M := rfl
theorem eqb_bb : oEqB neg (.bl c) (.bl d) Q M = Q (.bl (if neg then !decide (c = d) else decide (c = d))) M := rfl
theorem eqb_nn : oEqB neg .non .non Q M = Q (.bl (if neg then !true else true)) M := rfl
theorem eqb_ni : oEqB neg .non (.int i) Q M = Q (.bl (if neg then !false else false)) M := rfl
theorem eqb_in : oEqB neg (.int i) .non Q M = Q (.bl (if neg then !false else false)) M := rfl
theorem eqb_ns : oEqB neg .non (.str a) Q M = Q (.bl (if neg then !false else false)) M := rfl
theorem eqb_sn : oEqB neg (.str a) .non Q M = Q (.bl (if neg then !false else false)) M := rfl
theorem eqb_is : oEqB neg (.int i) (.str a) Q M = Q (.bl (if neg then !false else false)) M := rfl
theorem eqb_si : oEqB neg (.str a) (.int i) Q M = Q (.bl (if neg then !false else false)) M := rfl
end
theorem look_lst {M : Mp} {a : Addr} {xs : List T} (h : M a = some (.lst xs)) : look (.raw (.ref a)) M = .lst xs := by unfold look; dsimp only; rw [h]
theorem eq_nilM {neg : Bool} {a : Addr} {xs : List T} {Q : QE} {M : Mp} (e : M a = some (.lst xs)) (h : ∀ t ∈ xs, Shk 63 t) (q : Q (.bl (if neg then !decide (xs = []) else decide (xs = []))) M) : oEqB neg (.raw (.ref a)) (.lst []) Q M := eq_nil (look_lst e) h q
section
variable {ok : Mp → Prop} {P : Pat} {tt : T3} {te : E3} {vs : List Nat} {ss0 : SS} {Q : List T → Mp → Prop} {α : Type} {g f : α → T} {keep : α → Bool} {M : Mp}
/-- elements that change nothing, over a mapped list -/
theorem compL_mapA (hok : ok M) : ∀ {xs : List α} {acc : List T}, (∀ a ∈ xs, ∃ ss2, P.set (g a) (wipe3 ss0 vs) = some ss2 ∧ ∀ (R : Bool → Mp → Prop) (R2 : QE), (R (keep a) M → tt ss2 M R) ∧ (keep a = true → R2 (f a) M → te ss2 M R2)) →
    acc.length + xs.length ≤ sizeLine → Q (acc ++ (xs.filter keep).map f) M → compL ok P tt te vs ss0 Q (xs.map g) acc M
  | [], acc, _, _, q => ⟨hok, by simpa using q⟩
  | t :: xs, acc, h, hz, q => by
    obtain ⟨ss2, e, h1⟩ := h t List.mem_cons_self
    refine ⟨hok, ?_⟩
    rw [e]
    rw [List.length_cons] at hz
    cases hk : keep t with
    | true =>
      refine (h1 _ fun _ _ => True).1 ?_
      rw [hk]
      refine (h1 (fun _ _ => True) _).2 hk ⟨by omega, compL_mapA hok (fun u hu => h u (List.mem_cons_of_mem _ hu)) (by rw [List.length_append, List.length_singleton]; omega) ?_⟩
      rw [List.filter_cons_of_pos hk, List.map_cons] at q
      rw [List.append_assoc]
      exact q
    | false =>
      refine (h1 _ fun _ _ => True).1 ?_
      rw [hk]
      refine compL_mapA hok (fun u hu => h u (List.mem_cons_of_mem _ hu)) (by omega) ?_
      rw [List.filter_cons_of_neg (by rw [hk]; decide)] at q
      exact q
theorem compL_allA (hok : ok M) {xs : List α} (h : ∀ a ∈ xs, ∃ ss2, P.set (g a) (wipe3 ss0 vs) = some ss2 ∧ ∀ R : QE, R (f a) M → te ss2 M R) (hz : xs.length ≤ sizeLine) (q : Q (xs.map f) M) : compL ok P dYes te vs ss0 Q (xs.map g) [] M := by
  refine compL_mapA (keep := fun _ => true) hok (fun a ha => ?_) (by simpa using hz) (by rw [List.filter_eq_self.mpr fun _ _ => rfl, List.nil_append]; exact q)
  obtain ⟨ss2, e, h1⟩ := h a ha
  exact ⟨ss2, e, fun R R2 => ⟨fun r => r, fun _ r => h1 R2 r⟩⟩
end
theorem join_in {w : Str} {r : List T} : inT (.str w) [.str "not", .str "and", .str "or"] = joinW (.tup (.str w :: r)) := by
  have e : ∀ a b : Str, eqF (.str a) (.str b) = decide (b = a) := fun a b => by
    show decide (a = b) = decide (b = a)
    exact decide_eq_decide.mpr eq_comm
  unfold inT joinW
  simp only [List.any_cons, List.any_nil, Bool.or_false, e, Bool.or_assoc]
theorem last_map {α β : Type} (f : α → β) (l : List α) (x : α) : ((l ++ [x]).map f)[((l ++ [x]).map f).length - 1]? = some (f x) := by
  rw [List.map_append]
  simp
theorem drop_map {α β : Type} (f : α → β) (l : List α) (x : α) : ((l ++ [x]).map f).dropLast = l.map f := by
  rw [List.map_append]
  simp
end L3

set_option maxHeartbeats 1000000
/-! L3ZB: sorted texts are one list. -/
namespace L3
open PySem PySem.Spec PyProof.Rows L2
abbrev cpl (z : Str) : List Nat := z.cps.toList
theorem cpl_inj {a b : Str} (h : cpl a = cpl b) : a = b := by
  cases a; cases b
  have : _ = _ := Array.toList_inj.mp h
  subst this
  rfl
theorem rising_pw : ∀ (p : Str) (l : List Str), risingS p l = true → (p :: l).Pairwise fun a b => cpl a ≤ cpl b
  | p, [], _ => List.pairwise_singleton _ _
  | p, x :: r, h => by
    have h' : (!Spec.ltCps x.cps.toList p.cps.toList && risingS x r) = true := h
    rw [Bool.and_eq_true] at h'
    have h1 : cpl p ≤ cpl x := by
      have := h'.1
      rw [ltCps_eq, Bool.not_eq_true', decide_eq_false_iff_not] at this
      exact List.not_lt.mp this
    have h2 := rising_pw x r h'.2
    refine List.pairwise_cons.mpr ⟨fun y hy => ?_, h2⟩
    rcases List.mem_cons.mp hy with rfl | hy
    · exact h1
    · exact List.le_trans h1 ((List.pairwise_cons.mp h2).1 y hy)
theorem sorted_pw {l : List Str} (h : sortedS l = true) : l.Pairwise fun a b => cpl a ≤ cpl b := by
  cases l with
  | nil => exact List.Pairwise.nil
  | cons x r => exact rising_pw x r h
theorem strict_of {l : List Str} (h : sortedS l = true) (n : l.Nodup) : l.Pairwise fun a b => cpl a < cpl b := by
  have h2 := sorted_pw h
  refine (List.Pairwise.and h2 n).imp fun {a b} q => ?_
  rcases Classical.em (cpl a < cpl b) with h | h
  · exact h
  · exact absurd (cpl_inj (List.le_antisymm q.1 (List.not_lt.mp h))) q.2
theorem strict_one : ∀ {zs ys : List Str}, zs.Pairwise (fun a b => cpl a < cpl b) → ys.Pairwise (fun a b => cpl a < cpl b) → (∀ z, z ∈ zs ↔ z ∈ ys) → zs = ys
  | [], [], _, _, _ => rfl
  | [], y :: ys, _, _, h => absurd ((h y).mpr List.mem_cons_self) (by simp)
  | z :: zs, [], _, _, h => absurd ((h z).mp List.mem_cons_self) (by simp)
  | z :: zs, y :: ys, hz, hy, h => by
    obtain ⟨z1, z2⟩ := List.pairwise_cons.mp hz
    obtain ⟨y1, y2⟩ := List.pairwise_cons.mp hy
    have e : z = y := by
      rcases List.mem_cons.mp ((h z).mp List.mem_cons_self) with e | e
      · exact e
      · rcases List.mem_cons.mp ((h y).mpr List.mem_cons_self) with e' | e'
        · exact e'.symm
        · exact absurd (List.lt_trans (z1 y e') (y1 z e)) (List.lt_irrefl _)
    subst e
    congr 1
    refine strict_one z2 y2 fun x => ⟨fun hx => ?_, fun hx => ?_⟩
    · rcases List.mem_cons.mp ((h x).mp (List.mem_cons_of_mem _ hx)) with rfl | q
      · exact absurd (z1 x hx) (List.lt_irrefl _)
      · exact q
    · rcases List.mem_cons.mp ((h x).mpr (List.mem_cons_of_mem _ hx)) with rfl | q
      · exact absurd (y1 x hx) (List.lt_irrefl _)
      · exact q
/-- two sorted lists without doubles, of the same texts -/
theorem sorted_one {zs ys : List Str} (hz : sortedS zs = true) (nz : zs.Nodup) (hy : sortedS ys = true) (ny : ys.Nodup) (h : ∀ z, z ∈ zs ↔ z ∈ ys) : zs = ys :=
  strict_one (strict_of hz nz) (strict_of hy ny) h
theorem sorted_filter {zs ys : List Str} {p : Str → Bool} (hz : sortedS zs = true) (nz : zs.Nodup) (hy : sortedS ys = true) (ny : ys.Nodup) (h : ∀ z, z ∈ zs ↔ z ∈ ys ∧ p z = true) : zs = ys.filter p :=
  strict_one (strict_of hz nz) ((strict_of hy ny).filter p) fun z => by rw [h, List.mem_filter]

theorem ups0 (n : Nat) : ups 0 n = (List.range n).map fun i => T.int (i : Nat) := by
  unfold ups
  refine List.map_congr_left fun i _ => ?_
  rw [Int.zero_add]
/-! ### the columns in a part -/
def colP : T → Option (Str × Str)
  | .tup [.str w, .str a, .str b] => if w = "column" then some (a, b) else none
  | _ => none
def colsOf (n : Nat) (p : T) : List (Str × Str) := (allP n [] p).filterMap fun x => colP x.2
theorem colP_col {a b : Str} : colP (.tup [.str "column", .str a, .str b]) = some (a, b) := by unfold colP; dsimp only; rw [if_pos rfl]
theorem colP_head {w : Str} {r : List T} (h : w ≠ "column") : colP (.tup (.str w :: r)) = none := by
  unfold colP
  split
  · rename_i e
    cases e
    rw [if_neg h]
  · rfl
/-- a column, or something else -/
theorem Part.colOr {n : Nat} {p : T} (h : Part n p) : (∃ a b, p = .tup [.str "column", .str a, .str b] ∧ Nm a ∧ Nm b) ∨ ∃ w a r, p = .tup (.str w :: a :: r) ∧ w ≠ "column" := by
  cases h with
  | col ha hb => exact .inl ⟨_, _, rfl, ha, hb⟩
  | val hv => exact .inr ⟨_, _, _, rfl, by decide⟩
  | plus hw _ _ => exact .inr ⟨_, _, _, rfl, by rcases hw with rfl | rfl <;> decide⟩
  | not _ => exact .inr ⟨_, _, _, rfl, by decide⟩
  | two hw _ _ => exact .inr ⟨_, _, _, rfl, by rcases hw with rfl | rfl | rfl | rfl | rfl <;> decide⟩
  | «exists» _ _ => exact .inr ⟨_, _, _, rfl, by decide⟩
  | only hw _ _ _ => exact .inr ⟨_, _, _, rfl, by rcases hw with rfl | rfl <;> decide⟩
def optT {β : Type} (g : β → T) : Option β → T
  | some b => g b
  | none => .non
theorem filter_some {α β : Type} {g : β → T} {f : α → Option β} : ∀ xs : List α, ((xs.filter fun x => (f x).isSome).map fun x => optT g (f x)) = (xs.filterMap f).map g
  | [] => rfl
  | x :: xs => by
    cases h : f x with
    | none => rw [List.filter_cons_of_neg (by rw [h]; exact Bool.false_ne_true), List.filterMap_cons_none h, filter_some xs]
    | some b => rw [List.filter_cons_of_pos (by rw [h]; rfl), List.filterMap_cons_some h, List.map_cons, List.map_cons, filter_some xs, h]; rfl
theorem flat_strs {α : Type} {f : α → Str} (xs : List α) : (xs.map fun a => T.str (f a)).all flatT = true := by
  rw [List.all_map, List.all_eq_true]
  exact fun _ _ => rfl
theorem inT_strs {α : Type} {f : α → Str} {z : Str} {xs : List α} : inT (.str z) (xs.map fun a => T.str (f a)) = true ↔ z ∈ xs.map f := by
  unfold inT
  rw [List.any_map, List.any_eq_true, List.mem_map]
  have e : ∀ a b : Str, (eqF (.str a) (.str b) = true) ↔ a = b := fun a b => by show (a == b) = true ↔ _; exact beq_iff_eq
  exact ⟨fun ⟨a, h1, h2⟩ => ⟨a, h1, (e _ _).mp h2⟩, fun ⟨a, h1, h2⟩ => ⟨a, h1, (e _ _).mpr h2⟩⟩
theorem c31 {a b c : T} : cutT [a, b, c] (some 1) none = [b, c] := cut_from 1
end L3

set_option maxHeartbeats 1000000
/-! L3ZC: comprehensions by what stands so far; drawn names, all different. -/
namespace L3
open PySem PySem.Spec PyProof.Rows L2
section
variable {ok : Mp → Prop} {P : Pat} {tt : T3} {te : E3} {vs : List Nat} {ss0 : SS} {Q : List T → Mp → Prop}
/-- an invariant of the items so far -/
theorem compL_acc (Iv : Nat → List T → Mp → Prop) (hok : ∀ i acc M, Iv i acc M → ok M) : ∀ {xs acc : List T} {M : Mp} (i : Nat), Iv i acc M →
    (∀ j t acc M, xs[j]? = some t → Iv (i + j) acc M → ∃ ss2, P.set t (wipe3 ss0 vs) = some ss2 ∧ ∀ R : QE, (∀ y M4, Iv (i + j + 1) (acc ++ [y]) M4 → R y M4) → te ss2 M R) →
    acc.length + xs.length ≤ sizeLine → (∀ ys M', Iv (i + xs.length) ys M' → Q ys M') → compL ok P dYes te vs ss0 Q xs acc M
  | [], acc, M, i, h0, _, _, q => ⟨hok i acc M h0, q acc M h0⟩
  | t :: xs, acc, M, i, h0, h, hz, q => by
    obtain ⟨ss2, e, h1⟩ := h 0 t acc M rfl h0
    refine ⟨hok i acc M h0, ?_⟩
    rw [e]
    show te ss2 M _
    rw [List.length_cons] at hz
    refine h1 _ fun y M4 h4 => ⟨by omega, compL_acc Iv hok (i + 1) h4 (fun j u acc5 M5 hu h5 => ?_) (by rw [List.length_append, List.length_singleton]; omega) fun ys M' hI => ?_⟩
    · have h6 := h (j + 1) u acc5 M5 hu (by rw [show i + (j + 1) = i + 1 + j by omega]; exact h5)
      rw [show i + (j + 1) + 1 = i + 1 + j + 1 by omega] at h6
      exact h6
    · exact q ys M' (by rw [List.length_cons, show i + (xs.length + 1) = i + 1 + xs.length by omega]; exact hI)
end
theorem plc_fine {l : List Nat} (h : ∀ i ∈ l, i < 10 ^ 60) : Fine (plc l) (63 * l.length + 3) 1 := by
  refine (fine_tup (n := 61) (k := 0) fun x hx => ?_).mono (by rw [List.length_map]; omega) (Nat.le_refl _)
  obtain ⟨i, hi, rfl⟩ := List.mem_map.mp hx
  exact fine_int (by have := h i hi; omega)
theorem look_tup {xs : List T} {M : Mp} : look (.tup xs) M = .tup xs := rfl
/-- repr of a shown tree -/
theorem rep_of {t : T} {n k : Nat} {Q : QE} {M : Mp} (h : Fine t n k) (a : n ≤ 16000000) (b : k ≤ 60) (d : look t M = t) (q : Q (.str (shT t)) M) : fRepr [t] Q M := by
  obtain ⟨p, e, s⟩ := h.shows a b
  unfold fRepr
  dsimp only
  rw [d, e]
  refine ⟨s, ?_⟩
  unfold shT at q
  rw [e] at q
  exact q
/-- what follows an expression that gives t -/
theorem cut_k {te : E3} {ss : SS} {M : Mp} {K : QE} (t : T) (M' : Mp) (h : ∀ K : QE, K t M' → te ss M K) (k : K t M') : te ss M K := h K k
/-- no item is kept -/
theorem compL_none {ok : Mp → Prop} {P : Pat} {tt : T3} {te : E3} {vs : List Nat} {ss0 : SS} {Q : List T → Mp → Prop} {M : Mp} (hok : ok M) : ∀ {xs acc : List T}, (∀ (j : Nat) t, xs[j]? = some t → ∃ ss2, P.set t (wipe3 ss0 vs) = some ss2 ∧ ∀ R : Bool → Mp → Prop, R false M → tt ss2 M R) →
    Q acc M → compL ok P tt te vs ss0 Q xs acc M
  | [], acc, _, q => ⟨hok, q⟩
  | t :: xs, acc, h, q => by
    obtain ⟨ss2, e, h1⟩ := h 0 t rfl
    refine ⟨hok, ?_⟩
    rw [e]
    exact h1 _ (compL_none hok (fun j u hu => h (j + 1) u hu) q)
theorem allP_part {n : Nat} : ∀ {p : T}, Part n p → ∀ {l : List Nat} {x : List Nat × T}, x ∈ allP n l p → ∃ m, m ≤ n ∧ Part m x.2 := by
  induction n with
  | zero =>
    intro p h l x hx
    rw [allP, List.mem_singleton] at hx
    subst hx
    exact ⟨0, Nat.le_refl _, h⟩
  | succ n ih =>
    intro p h l x hx
    rw [allP, List.mem_cons] at hx
    rcases hx with rfl | hx
    · exact ⟨_, Nat.le_refl _, h⟩
    · obtain ⟨y, hy, hx⟩ := List.mem_flatMap.mp hx
      obtain ⟨m, e, h1, _, hh⟩ := h.kidsOk.each y hy
      cases e
      obtain ⟨m, h1, h2⟩ := ih hh.part hx
      exact ⟨m, by omega, h2⟩
theorem place_small : ∀ {l : List Nat} {t c : T}, partAt t l = some c → Small t → ∀ i ∈ l, i < 100
  | [], _, _, _, _, i, hi => nomatch hi
  | j :: l, t, c, h, s, i, hi => by
    obtain ⟨xs, x, rfl, e, h2⟩ := partAt_cons h
    have h3 := s [] xs (partAt_nil _)
    obtain ⟨h4, _⟩ := List.getElem?_eq_some_iff.mp e
    rcases List.mem_cons.mp hi with rfl | hi
    · omega
    · exact place_small h2 (fun r y hy => s (j :: r) y (by rw [partAt_tup e]; exact hy)) i hi
theorem fz_le {n m : Nat} (h : n ≤ m) : fz n ≤ fz m := by
  induction h with
  | refl => exact Nat.le_refl _
  | step _ ih => rw [fz]; omega
theorem inner_fine {n : Nat} {o x : T} (ho : OwnT 2 o) (hx : Part n x) : Fine (.tup [o, x]) (370 + fz n) (2 * n + 4) :=
  (fine_sum (.cons (ho.fine.mono (Nat.le_refl _) (by omega)) (.cons hx.fine .nil))).mono (by simp <;> omega) (Nat.le_refl _)
theorem colP_eq {t : T} {a b : Str} (h : colP t = some (a, b)) : t = .tup [.str "column", .str a, .str b] := by
  unfold colP at h
  split at h
  · split at h
    · rename_i e
      subst e
      cases h
      rfl
    · cases h
  · cases h
theorem filter_nil {α β : Type} {f : α → β} {p : α → Bool} (xs : List α) : decide ((xs.filter p).map f = []) = !xs.any p := by
  cases h : xs.any p with
  | true =>
    obtain ⟨x, hx, hp⟩ := List.any_eq_true.mp h
    refine decide_eq_false fun e => ?_
    have := List.mem_filter.mpr ⟨hx, hp⟩
    rw [List.map_eq_nil_iff.mp e] at this
    cases this
  | false =>
    refine decide_eq_true ?_
    rw [List.filter_eq_nil_iff.mpr fun x hx hp => by rw [List.any_eq_false] at h; exact h x hx hp]
    rfl
theorem comp_go {w3 : I3} {P : Pat} {tt : T3} {te : E3} {vs : List Nat} {fin : List T → QE → Mp → Prop} {ss : SS} {M : Mp} {Q : QE} (h : w3 ss M fun S M1 => compL S.ok P tt te vs ss (fun acc M2 => fin acc Q M2) S.xs [] M1) : dComp w3 P tt te vs fin ss M Q := h
/-- the x-th of 17 names -/
def namesW : List Str := ["less", "is", "plus", "from", "in", "only", "where", "not", "first", "nothing", "exists", "or", "t", "tell", "limit", "and", "order"]
def namesW2 : List Str := ["less", "is", "plus", "from", "in", "only", "where", "not", "first", "value", "exists", "same", "t", "tell", "limit", "and", "order"]
def namesL : List Str := ["a", "b", "c", "d", "e", "f", "g", "h", "i", "j", "k", "l", "m", "n", "o", "p", "q"]
theorem let17 : ∀ i : Fin 17, atI ("abcdefghijklmnopq" : Str).cps.toList ((i.val : Nat) : Int) = some (97 + i.val) ∧ (⟨#[97 + i.val]⟩ : Str) = namesL.getD i.val "" := by decide +kernel
theorem nodup_17 {W : List Str} (hl : W.length = 17) (hd : W.Nodup) {r : Int} (r0 : 0 ≤ r) {k : Nat} (hk : k ≤ 17) : ((List.range k).map fun i : Nat => W.getD ((r + 5 * (i : Int)) % 17).toNat "").Nodup := by
  refine List.pairwise_map.mpr ((List.pairwise_lt_range (n := k)).imp_of_mem fun {a b} ha hb q e => ?_)
  rw [List.mem_range] at ha hb
  have h1 : ((r + 5 * (a : Int)) % 17).toNat < W.length := by omega
  have h2 : ((r + 5 * (b : Int)) % 17).toNat < W.length := by omega
  rw [List.getD_eq_getElem?_getD, List.getD_eq_getElem?_getD, List.getElem?_eq_getElem h1, List.getElem?_eq_getElem h2] at e
  have e2 : ((r + 5 * (a : Int)) % 17).toNat = ((r + 5 * (b : Int)) % 17).toNat := (List.getElem_inj hd).mp e
  omega
end L3

set_option maxHeartbeats 1000000
/-! L3ZD: set(list of texts), sorted of it. -/
namespace L3
open PySem PySem.Spec PyProof.Rows L2 PySem.Froz
section
variable {prog : Program} {w : World} {A : Around} {R : Result → Shared → Prop} {I : Addr} {fp wr : List Addr} {G : Array GenState → Array GenState → Prop} {n : Nat} {P : Nat → Value → Prop} {St : Nat → Shared → Prop}
/-- the texts of xs are put into the set at S, one by one -/
theorem loopTx (W : WalksS prog w A.in1 I fp wr G n P St) (S : Addr) (hSf : S ∉ fp) (xs : List Str) (hsz : xs.length = n) (few : n < 1000)
    (hval : ∀ i v, P i v → ∃ t, v = .str (xs.getD i Str.empty) t) :
    ∀ (k i : Nat) (s : Shared) (ys : List Str), n - i = k → i ≤ n → St i s → TxS prog w s.heap S ys → (∀ z, z ∈ ys ↔ z ∈ xs.take i) → ys.length ≤ i →
      (∀ s' ys, Moved (S :: wr) G s s' → TxS prog w s'.heap S ys → (∀ z, z ∈ ys ↔ z ∈ xs) → ys.length ≤ n → R (.ok (.ret .none)) s') →
      codeAny (model prog w) A (.builtin "set.update.loop" ⟨[.ref S, .ref I], []⟩) R s := by
  have hSw : S ∉ wr := fun h => hSf (W.sub _ h)
  have hsub : ∀ b ∈ wr, b ∈ S :: wr := fun b hb => List.mem_cons_of_mem _ hb
  intro k
  induction k with
  | zero =>
    intro i s ys hk hi hst hS hm0 hl0 hR
    have hin : i = n := by omega
    subst hin
    refine codeAny_builtin PyProof.Rows.F.entry_set_update_loop ?_
    rw [Around.under_plainId PyProof.Rows.F.plain_set_update_loop _]
    show wpAny _ A.in1 (pyNext (.ref I) >>= _) _ _ s
    refine wpAny_bind (W.done s _ _ hst fun s' hm => ?_)
    show wpAny _ A.in1 (ret Value.none) _ _ s'
    rw [List.take_of_length_le (by omega)] at hm0
    exact wpAny_pure (hR s' ys (hm.mono hsub) (hS.at fun o e => hm.heap S o hSw e) hm0 hl0)
  | succ k ih =>
    intro i s ys hk hi hst hS hm0 hl0 hR
    have hlt : i < n := by omega
    refine codeAny_builtin PyProof.Rows.F.entry_set_update_loop ?_
    rw [Around.under_plainId PyProof.Rows.F.plain_set_update_loop _]
    show wpAny _ A.in1 (pyNext (.ref I) >>= _) _ _ s
    refine wpAny_bind (W.item i s _ _ hlt hst fun v s' hP hst' hm => ?_)
    obtain ⟨t, rfl⟩ := hval i v hP
    have hS' : TxS prog w s'.heap S ys := hS.at fun o e => hm.heap S o hSw e
    show wpAny _ A.in1 (holding [Value.str (xs.getD i Str.empty) t] (setAdd S (.str (xs.getD i Str.empty) t)) >>= _) _ _ s'
    refine wpAny_bind (wpAny_holding ?_)
    unfold setAdd
    refine wpAny_holding ?_
    refine wpAny_bind ((PySem.strKind prog w).pyHash (k := xs.getD i Str.empty) (strKind_is _ _ _ _) ?_)
    refine txs_add (s := { s' with toks := s'.toks + 1 }) hS' (by unfold scanBound; omega) fun b h' zs hsb hS2 mem len => ?_
    have hx : xs[i]? = some (xs.getD i Str.empty) := by
      rw [List.getD_eq_getElem?_getD, List.getElem?_eq_getElem (by omega)]
      rfl
    refine wpAny_pure ⟨plainId_quiet PyProof.Rows.F.plain_set_update_loop _, ih (i + 1) _ zs (by omega) hlt (W.frame _ s' _ _ hst' (Nat.le_succ _) fun b hb o e => ?_) hS2 (fun z => ?_) (by omega) fun s'' us hm'' hS'' => ?_⟩
    · rw [hsb.2 b (fun h : b = S => hSf (by rw [← h]; exact hb))]; exact e
    · rw [mem, hm0, List.take_succ, hx]
      simp only [Option.toList_some, List.mem_append, List.mem_singleton]
      exact or_comm
    · refine hR s'' us (Moved.trans W.gtrans ((hm.mono hsub).then_heap (Nat.le_succ _) fun b o hb e => ?_) hm'') hS''
      rw [hsb.2 b (fun h : b = S => hb (by rw [h]; exact List.mem_cons_self))]; exact e
end
section
variable {prog : Program} {w : World} {A : Around} {E : Value → Shared → Prop} {s : Shared}
set_option maxHeartbeats 3200000 in
theorem call_setTx {l : Addr} {items : Array Value} {xs : List Str} {Q : Value → Shared → Prop}
    (hh : A.handled = none) (hl : s.heap.IsList l items) (hi : StrsAre items.toList xs) (few : xs.length < 1000)
    (h : ∀ (h' : Heap) (tk : Nat) (ys : List Str), TxS prog w h' s.heap.objs.size ys → (∀ z, z ∈ ys ↔ z ∈ xs) → ys.length ≤ xs.length →
      (∀ b o, b < s.heap.objs.size → s.heap.get? b = some o → h'.get? b = some o) → Q (.ref s.heap.objs.size) { s with heap := h', toks := tk }) :
    wpAny (model prog w) A (call (.type "set") [.ref l]) Q E s := by
  obtain ⟨c, tl, hmro⟩ := PySem.F.called_set.mro
  have hmade := PySem.F.called_set.made
  have hsub := PySem.F.called_set.sub
  refine wpAny_call (codeAny_of_tree ?_)
  show wpAny _ _ (callAny (.type "set") _) _ _ _
  refine wpAny_pure ⟨Code.quiet_builtin _ (by decide +kernel), codeAny_builtin PySem.F.entry_type_call ?_⟩
  rw [Around.under_plain (weight_type_call_type "set" [.ref l] []) rfl]
  have h1 := PySem.F.called_set.notType
  have h2 := PySem.F.called_set.canCreate
  have hct := PySem.F.typeCall_set_1 (.ref l)
  repeat (any_goals (first | assumption | wp_step))
  refine codeAny_mono (L2.code_set_led1 (.ref l) (E := E) (Q₁ := fun obj s₁ => obj = .ref s.heap.objs.size ∧ s₁ = { s with heap := s.heap.push { cls := .type "set", dict := none, data := .set #[] 0 (.fresh 0 0 (!w.params.followText "set-order")) } }) ⟨rfl, rfl⟩) fun r s₁ hr => ?_
  cases r with
  | error e => exact hr
  | ok fl =>
    cases fl with
    | ret obj =>
      obtain ⟨rfl, rfl⟩ := hr
      have hS : (s.heap.push { cls := .type "set", dict := none, data := .set #[] 0 (.fresh 0 0 (!w.params.followText "set-order")) }).get? s.heap.objs.size = some { cls := .type "set", dict := none, data := .set #[] 0 (.fresh 0 0 (!w.params.followText "set-order")) } := Heap.get?_push_size _ rfl
      have hT : Shared.TypeIs { s with heap := s.heap.push { cls := .type "set", dict := none, data := .set #[] 0 (.fresh 0 0 (!w.params.followText "set-order")) } } (.ref s.heap.objs.size) "set" := ⟨_, hS, rfl⟩
      have hli := PySem.F.called_set.init.lookup
      have hbi := PySem.F.called_set.init.bind (.ref s.heap.objs.size)
      repeat (any_goals (first | assumption | wp_step))
      refine codeAny_mono (codeAny_call_builtin (R := wants (fun r s₂ => r = .none ∧ ∃ h' tk ys, s₂ = { s with heap := h', toks := tk } ∧
          TxS prog w h' s.heap.objs.size ys ∧ (∀ z, z ∈ ys ↔ z ∈ xs) ∧ ys.length ≤ xs.length ∧
          (∀ b o, b < s.heap.objs.size → s.heap.get? b = some o → h'.get? b = some o)) E) PySem.F.called_set.init.plain PySem.F.entry_set_init (check_set_init_1 hT ?_)) fun r₂ s₂ hr₂ => ?_
      · obtain ⟨ol, hol, hcl, nl, hdl⟩ := hl
        obtain ⟨ocls, odict, odata, oslots⟩ := ol
        simp only at hcl hdl
        subst hcl; subst hdl
        have hol' : (s.heap.push { cls := .type "set", dict := none, data := .set #[] 0 (.fresh 0 0 (!w.params.followText "set-order")) }).get? l = some { cls := .type "list", dict := odict, data := .seq items nl, slots := oslots } := Heap.get?_push_of_some _ hol
        have hsls := PySem.F.sub_list_set
        have hslf := PySem.F.sub_list_frozenset
        have hne : (Value.type "list" == Value.type "dict") = false := by decide
        have hl1 : (s.heap.push { cls := .type "set", dict := none, data := .set #[] 0 (.fresh 0 0 (!w.params.followText "set-order")) }).IsList l items := ⟨_, hol', rfl, nl, rfl⟩
        unfold Builtin.«set.__init__» noKeywords Builtin.Frozenset.updateFrom
        generalize hPI : pyIter = PI
        wp_walk
        subst hPI
        refine wpAny_pyIter_list hl1 ?_
        refine wpAny_bind (wpAny_runValue ?_)
        have hlS : l < s.heap.objs.size := Heap.lt_size hol
        have hh3 : A.in1.in1.in1.handled = none := by simp [hh]
        have hneI : l ≠ (s.heap.push { cls := .type "set", dict := none, data := .set #[] 0 (.fresh 0 0 (!w.params.followText "set-order")) }).objs.size := by
          rw [Heap.size_push]; exact Nat.ne_of_lt (Nat.lt_succ_of_lt hlS)
        have hSf : s.heap.objs.size ∉ [(s.heap.push { cls := .type "set", dict := none, data := .set #[] 0 (.fresh 0 0 (!w.params.followText "set-order")) }).objs.size, l] := by
          rw [Heap.size_push]; simp only [List.mem_cons, List.mem_singleton, List.not_mem_nil, or_false, not_or]
          exact ⟨Nat.ne_of_lt (Nat.lt_succ_self _), Nat.ne_of_gt hlS⟩
        have hsz : xs.length = items.size := by rw [← StrsAre.len_eq hi, Array.length_toList]
        have hval : ∀ (i : Nat) (v : Value), items[i]? = some v → ∃ t, v = .str (xs.getD i Str.empty) t := fun i v hv => SS.strs_at hi i v (by rw [Array.getElem?_toList]; exact hv)
        refine loopTx ((Walks.list hh3 _ l hneI items).toS) s.heap.objs.size
          hSf xs hsz (by rw [← hsz]; exact few) hval (items.size - 0) 0 _ [] (by omega) (Nat.zero_le _)
          ⟨⟨_, Heap.get?_push_size _ rfl, rfl, rfl⟩, (hl1.push _)⟩ ?hS0 (fun z => by simp) (Nat.le_refl _) ?hR
        case hS0 => exact (txs_fresh (P := prog) (w := w) (h := s.heap)).at fun o e => Heap.get?_push_of_some _ e
        case hR =>
          intro s' ys hm hS' hmem hlen
          obtain ⟨h', g', d', tk', os'⟩ := s'
          have eg : g' = s.gens := hm.gens
          have ed : d' = s.drawn := hm.drawn
          have eo : os' = s.os := hm.os
          subst eg; subst ed; subst eo
          show wpAny _ _ _ _ _ _
          refine wpAny_pure ?_
          show wpAny _ _ (ret Value.none) _ _ _
          refine wpAny_pure ⟨rfl, h', tk', ys, rfl, hS', hmem, by rw [hsz]; exact hlen, fun b o hb e => ?_⟩
          have hb1 : b ≠ s.heap.objs.size := Nat.ne_of_lt hb
          have hb2 : b ≠ (s.heap.push { cls := .type "set", dict := none, data := .set #[] 0 (.fresh 0 0 (!w.params.followText "set-order")) }).objs.size := by
            rw [Heap.size_push]; exact Nat.ne_of_lt (Nat.lt_succ_of_lt hb)
          exact hm.heap b o (by simp only [List.mem_cons, List.mem_singleton, List.not_mem_nil, or_false, not_or]; exact ⟨hb1, hb2⟩) (Heap.get?_push_of_some _ (Heap.get?_push_of_some _ e))
      · cases r₂ with
        | error e => exact hr₂
        | ok fl₂ =>
          cases fl₂ with
          | ret r =>
            obtain ⟨rfl, h', tk, ys, rfl, hS', h3, h4, hk'⟩ := hr₂
            repeat (any_goals (first | assumption | wp_step))
            exact h _ _ ys hS' h3 h4 hk'
          | _ => exact hr₂.elim
    | _ => exact hr.elim
end
section
variable {X : Cx}
def rSetTx (X : Cx) : List V → Hp → VK → Prop := fun vs H Q => ∃ (a : Addr) (xs : List Str), vs = [V.ref a] ∧ SqL X.K H a (xs.map V.str) ∧ xs.length < 900 ∧
  ∀ D ys, H D = none → (∀ z, z ∈ ys ↔ z ∈ xs) → ys.length ≤ xs.length → Q (.ref D) (upd H D (TxSO X.prog X.w D ys))
/-- set(xs), xs a list of texts -/
theorem cr_setTx (hc : X.calm = true) : CallR X (.type "set") (rSetTx X) := by
  intro pins s σ H vs us Q I r h
  obtain ⟨a, xs, rfl, ha, hl, q⟩ := h
  rw [Vals.ref1 r]
  obtain ⟨its, ri, pl, hz⟩ := I.list ha
  refine call_setTx (I.ok.hd hc) pl.isList (by simpa using strsAre_of ri) (by omega) fun h' tk ys tx mem len keep => ?_
  have nD : H s.heap.objs.size = none := I.hok.fresh (Nat.le_refl _)
  have size : s.heap.objs.size ≤ s.heap.objs.size := Nat.le_refl _
  exact ⟨.ref s.heap.objs.size, _, I.laid (t' := tk) (o := TxSO X.prog X.w s.heap.objs.size ys) (fun b o e => keep b o (Heap.lt_size e) e) (Nat.le_refl _) (txso_ok tx), rfl, q _ ys nD mem len⟩
/-- sorted(set(xs)) of a list of texts -/
def dSortSet (te : E3) : E3 := fun ss M Q => te ss M fun t M1 => match look t M1 with
  | .lst xs => (match strsT xs with
    | some bs => bs.length < 900 ∧ ∀ zs : List Str, sortedS zs = true → zs.Nodup → (∀ z, z ∈ zs ↔ z ∈ bs) → Q (.lst (zs.map T.str)) M1
    | none => False)
  | _ => False
theorem d_sortSet {e : Expr} {te : E3} {p p2 pos pos2 : Pos} (hc : X.calm = true) (hG : Gl X "sorted") (hm : X.mg "sorted" = none) (hG2 : Gl X "set") (hm2 : X.mg "set" = none) (he : DE X e te)
    (h1 : starEach [e] X.env = (false, eval e X.env) :: starEach [] X.env := by rfl)
    (h2 : starEach [.Call (.Name "set" p2) [e] [] pos2] X.env = (false, eval (.Call (.Name "set" p2) [e] [] pos2) X.env) :: starEach [] X.env := by rfl) :
    DE X (.Call (.Name "sorted" p) [.Call (.Name "set" p2) [e] [] pos2] [] pos) (dSortSet te) := by
  refine pe_weak (pe_callB (cr_sortTx hc) hG hm (by decide +kernel) (pa_cons (pe_callTy (cr_setTx hc) hG2 hm2 (by decide +kernel) (pa_cons he pa_nil h1) (he := h1)) pa_nil h2) (he := h2)) ?_
  rintro σ H Q ⟨F, O, M, ss, Q3, w, sl, q, k⟩
  refine ⟨F, O, M, ss, _, w, sl, q, ?_⟩
  intro v H1 F1 M1 t x1 w1 r1 q1
  have sx := r1.sees w1
  split at q1
  · rename_i xs e1
    rw [e1] at sx
    cases sx with
    | lst hx px =>
    split at q1
    · rename_i bs e2
      have e3 := strs_eq e2
      subst e3
      have e4 := px.strs
      subst e4
      obtain ⟨few, q1⟩ := q1
      refine ⟨_, bs, rfl, .of hx, few, fun D ys hD mem len => ?_⟩
      refine ⟨D, ys, rfl, upd_same, by omega, fun zs p srt perm nd hp => ?_⟩
      have hO := w1.fO hD
      have w2 := w1.keepO (o := TxSO X.prog X.w D ys) hD
      have w3 := w2.freeO hO
      have hz := q1 zs srt nd fun z => by rw [perm.mem_iff, mem]
      exact fin_new w3 (k.mono (x1.trans (Ex.upd (w1.fF hD)))) (fun F2 p x e => .lst e (Reps.of_strs zs)) hz p hp
    · exact q1.elim
  · exact q1.elim
end
end L3

set_option maxHeartbeats 1000000
/-! L3ZE: defs with a star parameter, comprehensions with two fors, list.count, list.extend of a tuple. -/
namespace L3
open PySem PySem.Spec PyProof.Rows L2 StX
/-! ### def f(*xs) -/
/-- a def of one star parameter keeps its promise (over the arguments themselves) -/
def FnV (P : Program) (w : World) (K : PySem.W.Frag) (mg : Str → Option Value) (base : Heap) (k : Nat) (f : Addr) (sp : Sp3) : Prop :=
  ∀ (A : Around) (outer : List Env) (s : Shared) (H : Hp) (us : List Value) (vs : List V) (Q : VK) (E : XK), Room k A → A.guards = some [] → Env0 P w K mg base A outer s H → Vals vs us → liftSp K sp vs H Q E →
    codeAny (model P w) A (.call (.ref f) ⟨us, []⟩) (CR CX0 outer P w H s Q E) s
theorem okV {P : Program} {w : World} {K : PySem.W.Frag} {mg : Str → Option Value} {base : Heap} {x qual pv : Str} {st : Stmt} {f : Addr} {fd : FuncData} {N : List Str} {k : Nat} {sp : Sp3} (F : Fun K x qual st f fd) (S : FnScope N [pv] (defScope st))
    (hb : ∀ (kV doc pm : Value) (an : Option Addr) (cdv ct : Value) (us : List Value), bindArgs (PySem.W.fnOf x qual (defArgs st) (defBody st) (defScope st) .none kV doc pm an cdv ct) ⟨us, []⟩ = (newTuple us >>= fun t => pure [(pv, t)])) (hl : ∀ ts M Q, sp ts M Q → ts.length ≤ sizeLine)
    (hbody : ∀ (cdv : Value) (A : Around) (outer : List Env) (s : Shared) (H : Hp) (E : XK),
      Room k (A.deeper (envOfC qual (defScope st) s.heap.objs.size f cdv)) → (A.deeper (envOfC qual (defScope st) s.heap.objs.size f cdv)).guards = some [] →
      ∃ t : S3, DSs (cxOf CX0 P w K mg base N qual (defScope st) f cdv A outer s H E).nox (defBody st) t ∧
        ∀ (ts : List T) (M : Mp) (Q : QE), sp ts M Q → t { nx := fun _ M' => Fz Q .non M', rt := Fz Q } (start3 N [.tup ts]) M) : FnV P w K mg base (k + 1) f sp := by
  obtain ⟨oc, od, kV, doc, pm, an, cdv, ct, osl, rfl, lk, hcd⟩ := F.ex
  intro A outer s H us vs Q E hr hgd e0 r hsp
  obtain ⟨F0, O, M, ts, Q3, w0, rr, h, lkv⟩ := hsp
  have hn : H s.heap.objs.size = Option.none := e0.hok.fresh (Nat.le_refl _)
  have hz : vs.length ≤ sizeLine := rr.length ▸ hl ts M Q3 h
  have hl2 : us.length ≤ sizeLine := by rw [← r.length]; exact hz
  refine run_bnd lk hcd S hr e0 (G := fun xs H2 => ∃ p, H p = Option.none ∧ xs = [V.ref p] ∧ H2 = upd H p (.tup vs)) (fun A' Ex Q' h => ?_) fun s2 H2 xs ⟨p, hp, ex, eH⟩ hr' => ?_
  · rw [hb _ _ _ _ _ _ us]
    refine wpAny_bind (wpAny_newTuple (wpAny_pure ?_) hl2)
    have new : ObjOk P w (upd H s.heap.objs.size (.tup vs)) (s.heap.push ({ cls := .type "tuple", data := .seq us.toArray } : Obj)) s.heap.objs.size (.tup vs) := ⟨hz, us, r, ⟨_, Heap.get?_push_size _ rfl, rfl, _, rfl⟩⟩
    have un := un_laid (fs := frs outer) (s := s) (o := ({ cls := .type "tuple", data := .seq us.toArray } : Obj)) (u := .tup vs) hn
    have z := h _ _ [V.ref s.heap.objs.size] [Value.ref s.heap.objs.size] (env0_laid e0 new) un rfl (fun _ _ (z : False) => z) (.cons rfl .nil) rfl ⟨_, hn, rfl, rfl⟩
    exact z
  · subst ex eH
    obtain ⟨t, ht, hq⟩ := hbody cdv A outer s2 (upd H p (.tup vs)) E hr' hgd
    have x2 : Ex F0 (upd F0 p (.tup vs)) := .upd (w0.fF hp)
    have lk2 := (lkv_fz lkv).mono x2
    refine ⟨_, ht.nox, upd F0 p (.tup vs), O, M, start3 N [.tup ts], _, w0.newF hp _, slr_start (.cons (.tup (.of upd_same) (rr.mono x2)) .nil), hq ts M Q3 h, ?_, lk2, ?_, ?_⟩
    · intro σ' H' F' M' ss' x' w' sl' q'
      exact lk2 _ H' F' M' _ x' w' .non q'
    · intro _ _ _ _ _ _ _ _ q
      exact q
    · intro _ _ _ _ _ _ _ _ q
      exact q
def dFnV (sp : Sp3) (tl : A3) : E3 := fun ss M Q => tl ss M fun ts M1 => sp ts M1 Q
section
variable {X : Cx} {k : Nat} {f : Addr} {sp : Sp3} {tl : A3} {e : Expr} {es : List Expr} {x : Str} {p pos : Pos}
theorem d_fnV (F : FnV X.prog X.w X.K X.mg X.base k f sp) (hr : Room k X.A) (hgd : X.A.guards = some []) (hg : Gl X x) (hm : X.mg x = some (.ref f)) (hk : PySem.W.keepIn X.K (.ref f) = true) (ha : DA X (e :: es) tl)
    (hdb : (x == ("__debug__" : Str)) = false := by decide) (he : starEach (e :: es) X.env = (false, eval e X.env) :: starEach es X.env := by rfl)
    (hpl : ((backTo pos (starEach (e :: es) X.env)).any (·.1) || (backToKw pos (keywordEach [] X.env)).any (·.1.isNone)) = false := by rfl) : DE X (.Call (.Name x p) (e :: es) [] pos) (dFnV sp tl) := by
  constructor
  intro pins s σ H Q I h
  obtain ⟨F0, O, M, ss, Q3, w, sl, q, k'⟩ := h
  refine wpAny_Call_Name_kw (ld_glob I hg hm ?_ hdb)
  refine PySem.W.callWith_KW (h₀ := X.base) I.ok.mod.kin hk rfl (thn (ha.run pos pins s σ H (fun vs H1 => ∃ F1 M1 ts, Ex F0 F1 ∧ Wd X.K F1 O H1 M1 ∧ Reps X.K F1 vs ts ∧ sp ts M1 Q3) I ⟨F0, O, M, ss, _, w, sl, q, fun vs H1 F1 M1 ts x1 w1 r1 q1 => ⟨F1, M1, ts, x1, w1, r1, q1⟩⟩) ?_) hpl he
  rintro us s1 ⟨vs, H1, I1, r, F1, M1, ts, x1, w1, r1, q1⟩
  refine thn (pk_nil.run pos pins s1 σ H1 (fun vs H2 => vs = [] ∧ H2 = H1) I1 ⟨rfl, rfl⟩) ?_
  rintro ws s2 ⟨zs, H2, I2, rz, rfl, rfl⟩
  cases rz
  refine ⟨I2.kIn, ?_⟩
  refine wpAny_call (codeAny_mono (F X.A X.stack s2 H2 us vs Q (fun _ _ _ => False) hr hgd I2.env0 r ⟨F1, O, M1, ts, Q3, w1, r1, q1, k'.mono x1⟩) ?_)
  intro r s' hq
  match r, hq with
  | .error e, hq => exact hq.elim
  | .ok (.ret u), hq => exact I2.after hq
  | .ok .next, hq => exact hq.elim
  | .ok .brk, hq => exact hq.elim
  | .ok .cont, hq => exact hq.elim
end

/-! ### [e for a in xs if .. for b in ys if ..] -/
def compL2 (ok : Mp → Prop) (P : Pat) (tt : T3) (w1 : I3) (P1 : Pat) (tt1 : T3) (te : E3) (vs vs1 : List Nat) (ss0 : SS) (Q : List T → Mp → Prop) : List T → List T → Mp → Prop
  | [], acc, M => ok M ∧ Q acc M
  | t :: r, acc, M => ok M ∧ match P.set t (wipe3 ss0 vs) with
    | some ss2 => tt ss2 M fun b M3 => match b with
      | true => w1 ss2 M3 fun S1 M4 => compL S1.ok P1 tt1 te vs1 ss2 (fun acc M5 => compL2 ok P tt w1 P1 tt1 te vs vs1 ss0 Q r acc M5) S1.xs acc M4
      | false => compL2 ok P tt w1 P1 tt1 te vs vs1 ss0 Q r acc M3
    | none => False
def dComp2 (w3 : I3) (P : Pat) (tt : T3) (w1 : I3) (P1 : Pat) (tt1 : T3) (te : E3) (vs vs1 : List Nat) (fin : List T → QE → Mp → Prop) : E3 := fun ss M Q => w3 ss M fun S M1 => compL2 S.ok P tt w1 P1 tt1 te vs vs1 ss (fun acc M2 => fin acc Q M2) S.xs [] M1
section
variable {X : Cx} {K : PySem.W.Frag} {elt tg iter tg1 iter1 : Expr} {ifs ifs1 : List Expr} {scope : Scope} {own : List (Str × Nat)} {pos : Pos} {w3 w1 : I3} {P P1 : Pat} {tt tt1 : T3} {te : E3} {fin : List T → QE → Mp → Prop}
theorem wipe_idem (σ : L2.St) (vs : List Nat) : wipe (wipe σ vs) vs = wipe σ vs := by
  have aux : ∀ us : List Nat, (∀ i ∈ us, i ∈ vs) → wipe (wipe σ us) vs = wipe σ vs := by
    intro us
    induction us with
    | nil => intro _; rfl
    | cons u us ih =>
      intro h
      show wipe ((wipe σ us).set u none) vs = wipe σ vs
      rw [wipe_set (h u List.mem_cons_self)]
      exact ih fun j hj => h j (List.mem_cons_of_mem _ hj)
  exact aux vs fun _ h => h
theorem lift_comp2 {vs vs1 : List Nat} (hf : FinOk K fin) (hP : ∀ i ∈ P.ixs, i ∈ vs) (hP1 : ∀ i ∈ P1.ixs, i ∈ vs1) : ∀ σ H Q, liftE K (dComp2 w3 P tt w1 P1 tt1 te vs vs1 fin) σ H Q →
    tLc2 (liftI K w3) (P.gV K) (liftT K tt) (liftI K w1) (P1.gV K) (liftT K tt1) (liftE K te) vs vs1 σ H Q := by
  rintro σ H Q ⟨F, O, M, ss, Q3, w, sl, q, k⟩
  refine ⟨F, O, M, ss, _, w, sl, q, ?_⟩
  intro J H1 F1 M1 S x1 wd1 so q1
  intro D hD
  have hO := wd1.fO hD
  refine ⟨fun i m H' => m = S.xs.length - i ∧ i ≤ S.xs.length ∧ ∃ F' M' us acc, Ex F1 F' ∧ Wd K F' (upd O D (.lst us)) H' M' ∧ Reps K F' us acc ∧
    compL2 S.ok P tt w1 P1 tt1 te vs vs1 ss (fun acc M2 => fin acc Q3 M2) (S.xs.drop i) acc M', ⟨S.xs.length, rfl, Nat.zero_le _, F1, M1, [], [], .refl, wd1.keepO hD, .nil, q1⟩, ?_⟩
  rintro i m H' ⟨rfl, hi, F', M', us, acc, x2, w2, ra, q2⟩
  by_cases hl : i < S.xs.length
  · rw [List.drop_eq_getElem_cons hl] at q2
    obtain ⟨ok, q2⟩ := q2
    obtain ⟨_, hgo⟩ := so F' _ H' M' x2 w2 ok i
    obtain ⟨go, hy⟩ := hgo _ (List.getElem?_eq_getElem hl)
    refine .inr ⟨go, fun H' => ∃ F' M' us acc, Ex F1 F' ∧ Wd K F' (upd O D (.lst us)) H' M' ∧ Reps K F' us acc ∧ compL2 S.ok P tt w1 P1 tt1 te vs vs1 ss (fun acc M2 => fin acc Q3 M2) (S.xs.drop (i + 1)) acc M', ?_, ?_⟩
    · rintro H'' hN
      exact ⟨S.xs.length - (i + 1), by omega, rfl, hl, hN⟩
    · intro x H'' y
      obtain ⟨F'', x3, w3', r3⟩ := hy x H'' y
      split at q2
      · rename_i ss2 e
        refine Pat.run w3' (ws := vs) r3 ((sl.mono (x1.trans (x2.trans x3))).wipe vs) e fun σ2 sl3 hw => ?_
        refine ⟨(hw hP).trans (wipe_idem σ vs), F'', _, M', ss2, _, w3', sl3, q2, ?_⟩
        intro b H3 F3 M3 x4 w4 q4
        cases b with
        | false =>
          rw [if_neg Bool.false_ne_true]
          exact ⟨F3, M3, us, acc, x2.trans (x3.trans x4), w4, ra.mono (x3.trans x4), q4⟩
        | true =>
          rw [if_pos rfl]
          refine ⟨F3, _, M3, ss2, _, w4, sl3.mono x4, q4, ?_⟩
          intro J1 H4 F4 M4 S1 x5 w5 so1 q5
          refine ⟨fun j k H' => k = S1.xs.length - j ∧ j ≤ S1.xs.length ∧ ∃ F' M' us acc, Ex F4 F' ∧ Wd K F' (upd O D (.lst us)) H' M' ∧ Reps K F' us acc ∧
            compL S1.ok P1 tt1 te vs1 ss2 (fun acc M5 => compL2 S.ok P tt w1 P1 tt1 te vs vs1 ss (fun acc M2 => fin acc Q3 M2) (S.xs.drop (i + 1)) acc M5) (S1.xs.drop j) acc M', ⟨S1.xs.length, rfl, Nat.zero_le _, F4, M4, us, acc, .refl, w5, ra.mono (x3.trans (x4.trans x5)), q5⟩, ?_⟩
          rintro j kk H5 ⟨rfl, hj, F5, M5, us5, acc5, y2, v2, ra5, p2⟩
          by_cases hl1 : j < S1.xs.length
          · rw [List.drop_eq_getElem_cons hl1] at p2
            obtain ⟨ok1, p2⟩ := p2
            obtain ⟨_, hgo1⟩ := so1 F5 _ H5 M5 y2 v2 ok1 j
            obtain ⟨go1, hy1⟩ := hgo1 _ (List.getElem?_eq_getElem hl1)
            refine .inr ⟨go1, fun H' => ∃ F' M' us acc, Ex F4 F' ∧ Wd K F' (upd O D (.lst us)) H' M' ∧ Reps K F' us acc ∧
              compL S1.ok P1 tt1 te vs1 ss2 (fun acc M5 => compL2 S.ok P tt w1 P1 tt1 te vs vs1 ss (fun acc M2 => fin acc Q3 M2) (S.xs.drop (i + 1)) acc M5) (S1.xs.drop (j + 1)) acc M', ?_, ?_⟩
            · rintro H6 hN
              exact ⟨S1.xs.length - (j + 1), by omega, rfl, hl1, hN⟩
            · intro x' H6 y'
              obtain ⟨F6, y3, v3, r6⟩ := hy1 x' H6 y'
              split at p2
              · rename_i ss3 e3
                refine Pat.run v3 (ws := vs1) r6 ((sl3.mono (x4.trans (x5.trans (y2.trans y3)))).wipe vs1) e3 fun σ3 sl6 hw1 => ?_
                refine ⟨(hw1 hP1).trans (wipe_idem σ2 vs1), F6, _, M5, ss3, _, v3, sl6, p2, ?_⟩
                intro b H7 F7 M7 y4 v4 p4
                cases b with
                | true =>
                  rw [if_pos rfl]
                  refine ⟨F7, _, M7, ss3, _, v4, sl6.mono y4, p4, ?_⟩
                  intro v H8 F8 M8 t y5 v5 r8 p5
                  refine ⟨us5, (v5.oth D _ upd_same).1, ra5.length ▸ p5.1, F8, M8, us5 ++ [v], acc5 ++ [t], y2.trans (y3.trans (y4.trans y5)), v5.turnO, ?_, p5.2⟩
                  exact (ra5.mono (y3.trans (y4.trans y5))).append (.cons r8 .nil)
                | false =>
                  rw [if_neg Bool.false_ne_true]
                  exact ⟨F7, M7, us5, acc5, y2.trans (y3.trans y4), v4, ra5.mono (y3.trans y4), p4⟩
              · exact p2.elim
          · have e0 : S1.xs.drop j = [] := List.drop_of_length_le (by omega)
            rw [e0] at p2
            obtain ⟨ok1, p2⟩ := p2
            obtain ⟨hst1, _⟩ := so1 F5 _ H5 M5 y2 v2 ok1 j
            exact .inl ⟨hst1 (by omega), F5, M5, us5, acc5, x2.trans (x3.trans (x4.trans (x5.trans y2))), v2, ra5, p2⟩
      · exact q2.elim
  · rw [List.drop_of_length_le (by omega)] at q2
    obtain ⟨ok, q2⟩ := q2
    obtain ⟨hst, _⟩ := so F' _ H' M' x2 w2 ok i
    exact .inl ⟨hst (by omega), hf F' O H' M' D us acc Q3 Q w2 hO ra q2 (k.mono (x1.trans x2))⟩
theorem d_comp2 (own : List (Str × Nat)) (vs1 : List Nat) (hf : FinOk X.K fin) (hc : X.calm = true) (hN : X.N.Nodup) (hi : DI X tg iter w3) (ok : blkC X.N X.env.scope scope own = true)
    (hg : ∀ (s : Shared) (H : Hp) (C : Addr) (cl : List (Str × Addr)) (fp : List Addr), DG (X.blk s H scope (compEnvC scope cl C X.env) fp) tg P)
    (ht : ∀ (s : Shared) (H : Hp) (C : Addr) (cl : List (Str × Addr)) (fp : List Addr), DTs (X.blk s H scope (compEnvC scope cl C X.env) fp) ifs tt)
    (hi1 : ∀ (s : Shared) (H : Hp) (C : Addr) (cl : List (Str × Addr)) (fp : List Addr), DI (X.blk s H scope (compEnvC scope cl C X.env) fp) tg1 iter1 w1)
    (hg1 : ∀ (s : Shared) (H : Hp) (C : Addr) (cl : List (Str × Addr)) (fp : List Addr), DG (X.blk s H scope (compEnvC scope cl C X.env) fp) tg1 P1)
    (ht1 : ∀ (s : Shared) (H : Hp) (C : Addr) (cl : List (Str × Addr)) (fp : List Addr), DTs (X.blk s H scope (compEnvC scope cl C X.env) fp) ifs1 tt1)
    (he : ∀ (s : Shared) (H : Hp) (C : Addr) (cl : List (Str × Addr)) (fp : List Addr), DE (X.blk s H scope (compEnvC scope cl C X.env) fp) elt te)
    (hP : ∀ i ∈ P.ixs, i ∈ own.map (·.2) := by decide) (hP1 : ∀ i ∈ P1.ixs, i ∈ vs1 := by decide) (hv : ∀ i ∈ vs1, i ∈ own.map (·.2) := by decide)
    (hs : ∀ x, foldedSetIterable iter X.env x = pure x := by intro _; rfl) (hs1 : ∀ env x, foldedSetIterable iter1 env x = pure x := by intro _ _; rfl) :
    DE X (.ListComp elt [⟨tg, iter, ifs, 0⟩, ⟨tg1, iter1, ifs1, 0⟩] scope pos) (dComp2 w3 P tt w1 P1 tt1 te (own.map (·.2)) vs1 fin) :=
  pe_weak (pe_lc2 hc hN hi (blkOk_by ok) hv hg ht hi1 hg1 ht1 he hs hs1) (lift_comp2 hf hP hP1)
/-- name = [.. for .. for ..] on one line -/
theorem ds_setComp2 (i : Nat) {y : Str} {py spos : Pos} (own : List (Str × Nat)) (vs1 : List Nat) (hf : FinOk X.K fin) (hc : X.calm = true) (hN : X.N.Nodup) (hy : X.N[i]? = some y) (hyl : X.env.scope.names.lookup y = some .local)
    (hsw : swapsWith (.ListComp elt [⟨tg, iter, ifs, 0⟩, ⟨tg1, iter1, ifs1, 0⟩] scope pos) (some (.Name y py)) spos.line X.env = pure true) (hi : DI X tg iter w3) (ok : blkC X.N X.env.scope scope own = true)
    (hg : ∀ (s : Shared) (H : Hp) (C : Addr) (cl : List (Str × Addr)) (fp : List Addr), DG (X.blk s H scope (compEnvC scope cl C X.env) fp) tg P)
    (ht : ∀ (s : Shared) (H : Hp) (C : Addr) (cl : List (Str × Addr)) (fp : List Addr), DTs (X.blk s H scope (compEnvC scope cl C X.env) fp) ifs tt)
    (hi1 : ∀ (s : Shared) (H : Hp) (C : Addr) (cl : List (Str × Addr)) (fp : List Addr), DI (X.blk s H scope (compEnvC scope cl C X.env) fp) tg1 iter1 w1)
    (hg1 : ∀ (s : Shared) (H : Hp) (C : Addr) (cl : List (Str × Addr)) (fp : List Addr), DG (X.blk s H scope (compEnvC scope cl C X.env) fp) tg1 P1)
    (ht1 : ∀ (s : Shared) (H : Hp) (C : Addr) (cl : List (Str × Addr)) (fp : List Addr), DTs (X.blk s H scope (compEnvC scope cl C X.env) fp) ifs1 tt1)
    (he : ∀ (s : Shared) (H : Hp) (C : Addr) (cl : List (Str × Addr)) (fp : List Addr), DE (X.blk s H scope (compEnvC scope cl C X.env) fp) elt te)
    (hP : ∀ i ∈ P.ixs, i ∈ own.map (·.2) := by decide) (hP1 : ∀ i ∈ P1.ixs, i ∈ vs1 := by decide) (hv : ∀ i ∈ vs1, i ∈ own.map (·.2) := by decide)
    (hs : ∀ x, foldedSetIterable iter X.env x = pure x := by intro _; rfl) (hs1 : ∀ env x, foldedSetIterable iter1 env x = pure x := by intro _ _; rfl) :
    DS X (.Assign [.Name y py] (.ListComp elt [⟨tg, iter, ifs, 0⟩, ⟨tg1, iter1, ifs1, 0⟩] scope pos) spos) (sSet (.nm i) (dComp2 w3 P tt w1 P1 tt1 te (own.map (·.2)) vs1 fin)) := by
  refine ps_weak (ps_setLc2 (g := P.gV X.K) (tt := liftT X.K tt) (wi1 := liftI X.K w1) (g1 := P1.gV X.K) (tt1 := liftT X.K tt1) (te := liftE X.K te) hc hN hy hyl hsw hi (blkOk_by ok) hv hg ht hi1 hg1 ht1 he hs hs1) ?_
  intro D σ H h
  obtain ⟨F, O, M, ss, D3, w, sl, q, k⟩ := h
  refine lift_comp2 hf hP hP1 σ H _ ⟨F, O, M, ss, fun t M1 => D3.nx (ss.set i (some t)) M1, w, sl, q, ?_⟩
  intro v H1 F1 M1 t x1 w1 r1 q1
  exact k.nx _ H1 F1 M1 _ x1 w1 ((sl.mono x1).set r1 i) q1
end

/-! ### list.count, list.extend -/
section
variable {X : Cx} {K : PySem.W.Frag} {o e : Expr} {te : E3} {tl : A3}
theorem cnt_eqU {x : V} : ∀ {xs : List V} {us : List Value}, Vals xs us → xs.all flatV = true → us.countP (eqU x) = xs.countP fun y => eqV y x
  | _, _, .nil, _ => rfl
  | y :: xs, u :: us, .cons r t, f => by
    rw [List.all_cons, Bool.and_eq_true] at f
    rw [List.countP_cons, List.countP_cons, eqU_of r f.1, cnt_eqU t f.2]
def rCnt (K : PySem.W.Frag) : V → List V → Hp → VK → Prop := fun x xs H Q => ∃ (p : Addr) (ys : List V) (y : V), x = .ref p ∧ xs = [y] ∧ SqL K H p ys ∧ flatV y = true ∧ ys.all flatV = true ∧ Q (.int (ys.countP fun z => eqV z y : Nat)) H
theorem mt_cnt : MtR X "list.count" (rCnt X.K) := by
  intro pins s σ H x xs v us Q I rx rxs h
  obtain ⟨p, ys, y, rfl, rfl, hs, fy, fys, q⟩ := h
  cases rx
  obtain ⟨u, rfl, ru⟩ := rxs.one
  obtain ⟨its, rv, ⟨⟨cls, dd, data, sl⟩, n, ho, hc, hdn, hd⟩, hlen⟩ := I.list hs
  simp only at hc hd
  subst hc hd
  refine call_meets PySem.F.slot_list_count ⟨_, ho, rfl⟩ PySem.F.entry_list_count (PySem.F.args_list_count_2 _ _)
    (SeqAt.list_countAt p its.toArray n dd sl u (eqU y)) ⟨ho, fun z hz => mem_eqAt ru fy rv fys z (by simpa using hz), ?_⟩
  have ec : its.toArray.toList.countP (eqU y) = ys.countP fun z => eqV z y := cnt_eqU rv fys
  refine ⟨.int (ys.countP fun z => eqV z y : Nat), H, I.tok _, ⟨s.toks, ?_⟩, q⟩
  show Value.int ((its.toArray.toList.countP (eqU y) : Nat) : Int) s.toks = _
  rw [ec]
def mCount (x : T) (ts : List T) (Q : QE) (M : Mp) : Prop := match look x M, ts with
  | .lst xs, [y] => flatT y = true ∧ xs.all flatT = true ∧ Q (.int (xs.countP fun z => eqF z y : Nat)) M
  | _, _ => False
theorem cnt_ok {F : Hp} {x : V} {t : T} (r : Rep K F x t) (h : flatT t = true) : ∀ {vs : List V} {ts : List T}, Reps K F vs ts → ts.all flatT = true → vs.all flatV = true ∧ (vs.countP fun z => eqV z x) = ts.countP fun z => eqF z t
  | _, _, .nil, _ => ⟨rfl, rfl⟩
  | _, _, .cons q rs, e => by
    rw [List.all_cons, Bool.and_eq_true] at e
    obtain ⟨h1, h2⟩ := cnt_ok r h rs e.2
    refine ⟨by rw [List.all_cons, flatT_ok (F := F) (O := F) (H := F) (M := fun _ => none) q e.1, h1]; rfl, ?_⟩
    rw [List.countP_cons, List.countP_cons, h2, eqF_ok q r e.1 h]
theorem md_count : MtD K (rCnt K) mCount := by
  intro F O H M x t vs ts Q3 Q w rx rs q k
  unfold mCount at q
  split at q
  · rename_i xs y e1
    have sx := rx.sees w
    rw [e1] at sx
    cases sx with
    | lst hx px =>
    cases rs with
    | cons ry rn =>
    cases rn
    obtain ⟨f1, f2, q⟩ := q
    obtain ⟨f3, f4⟩ := cnt_ok ry f1 px f2
    exact ⟨_, _, _, rfl, rfl, .of hx, flatT_ok (F := F) (O := O) (H := H) (M := M) ry f1, f3, by rw [f4]; exact fin_flat w k (.int _) q⟩
  · exact q.elim
theorem d_count {apos cpos : Pos} (ho : DE X o te) (ha : DA X [e] tl) (hbase : attributeBase o "count" X.env (eval o X.env) = eval o X.env := by rfl)
    (hfew : ((backTo cpos (starEach [e] X.env)).all (fun x => !x.1) && (backToKw cpos (keywordEach [] X.env)).all (fun x => x.1.isSome)
      && decide (([e] : List Expr).length + ([] : List Keyword).length + (if ([] : List Keyword).isEmpty then 0 else 1) < 30)) = true := by rfl)
    (hline : (apos.endLine == cpos.line) = true := by rfl) (hs : starEach [e] X.env = (false, eval e X.env) :: starEach [] X.env := by rfl) :
    DE X (.Call (.Attribute o "count" apos) [e] [] cpos) (dLm mCount te tl) := d_lm PySem.F.slot_list_count PySem.F.type_list_count mt_cnt md_count ho ha hbase hfew hline hs rfl
/-- list.extend(l, t) of a tuple, whatever else its object holds -/
theorem ext_list_tup (l : Addr) (items : Array Value) (n : Nat) (b : Addr) (items2 : Array Value) (n2 : Nat) (dd : Option Addr) (sl : Array (Option Value)) (hs0 : ¬(!items.isEmpty && Builtin.List.listTooLong (items.size + items2.size)) = true) (hs1 : items.size ≤ sizeLine) (hs2 : items.size + items2.size ≤ sizeLine + 1) :
    Meets (Builtin.«list.extend» ⟨[.ref l, .ref b], []⟩) (fun _ R s => s.heap.get? l = some { cls := .type "list", dict := none, data := .seq items n, slots := #[] } ∧ s.heap.get? b = some { cls := .type "tuple", dict := dd, data := .seq items2 n2, slots := sl } ∧
      R (.ok (.ret Value.none)) { s with heap := s.heap.update l (Obj.mapSeq fun x => x ++ items2), toks := s.toks }) :=
  .of_wp fun prog w A R s h => by
    obtain ⟨hp, g, d, tk, os⟩ := s; obtain ⟨hl, hb, h⟩ := h; have f1 := PySem.F.sub_tuple_tuple; have f3 := PySem.F.sub_list_list; have f4 := PySem.F.sub_tuple_list; have f5 := PySem.F.sub_list_tuple
    have hz' : (items ++ items2).size ≤ sizeLine + 1 := by rw [Array.size_append]; exact hs2
    wp_walk using (wpAny_updateSeq hl rfl (hz := hs1) (_hz' := hz')), wpAny_loadPart' hl, wpAny_loadPart' hb; exact ⟨_, rfl, h⟩
/-- xs.extend(ys), ys a list or a tuple -/
def rExtT (K : PySem.W.Frag) : V → List V → Hp → VK → Prop := fun x vs H Q => ∃ l b xs zs, x = .ref l ∧ vs = [.ref b] ∧ H l = some (.lst xs) ∧ SqT K H b zs ∧ xs.length + zs.length ≤ sizeLine ∧ Q .non (upd H l (.lst (xs ++ zs)))
theorem mt_extT : MtR X "list.extend" (rExtT X.K) := by
  intro pins s σ H x vs v us Q I rx rv h
  obtain ⟨l, b, xs, zs, rfl, rfl, hH, hB, hz, q⟩ := h
  cases rx
  obtain ⟨u, rfl, ru⟩ := rv.one
  cases ru
  obtain ⟨z, its, n, r, hl, e⟩ := I.lstM hH
  obtain ⟨its2, r2, ⟨⟨cls, dd, data, sl⟩, e2, hc, n2, hd⟩, hz2⟩ := I.tuple hB
  simp only at hc hd
  subst hc hd
  have hsz : its.toArray.size + its2.toArray.size ≤ sizeLine := by rw [List.size_toArray, List.size_toArray, ← r.length, ← r2.length]; exact hz
  have hlong : ¬ (!its.toArray.isEmpty && Builtin.List.listTooLong (its.toArray.size + its2.toArray.size)) = true := by
    rw [notLongL hsz, Bool.and_false]
    exact Bool.false_ne_true
  refine call_meets PySem.F.slot_list_extend ⟨_, e, rfl⟩ PySem.F.entry_list_extend (PySem.F.args_list_extend_2 _ _)
    (ext_list_tup l its.toArray n b its2.toArray n2 dd sl hlong (by omega) (by omega)) ⟨e, e2, ?_⟩
  refine ⟨.non, _, I.lset (its' := its ++ its2) hH e (by simp) (r.append r2) ?_, rfl, q⟩
  rw [List.length_append]
  omega
def mExt (x : T) (ts : List T) (Q : QE) (M : Mp) : Prop := match x, ts with
  | .raw (.ref a), [y] => (match M a, seqOf (look y M) with
    | some (.lst xs), some ys => (match look y M with | .scr _ => False | _ => xs.length + ys.length ≤ sizeLine ∧ Q .non (mset M a (.lst (xs ++ ys))))
    | _, _ => False)
  | _, _ => False
theorem md_ext : MtD K (fun x xs H Q => rExtend x xs H Q ∨ rExtT K x xs H Q) mExt := by
  intro F O H M x t vs ts Q3 Q w rx rs q k
  unfold mExt at q
  split at q
  · rename_i a y
    cases rx
    cases rs with
    | cons ry rn =>
    cases rn
    have sy := ry.sees w
    split at q
    · rename_i xs ys e1 e3
      obtain ⟨_, _, ho, e2, ro⟩ := w.mo a _ e1
      cases ro with
      | lst rl =>
      cases hs : look y M with
      | lst zs =>
        rw [hs] at sy e3 q
        cases e3
        cases sy with
        | lst hy ry => exact .inl ⟨a, _, _, _, rfl, rfl, e2, hy, by rw [rl.length, ry.length]; exact q.1, k _ _ F _ _ .refl (w.write e1 (.lst (rl.append ry))) .non q.2⟩
      | tup zs =>
        rw [hs] at sy e3 q
        cases e3
        cases sy with
        | tup hy ry => exact .inr ⟨a, _, _, _, rfl, rfl, e2, w.ex.sqT hy, by rw [rl.length, ry.length]; exact q.1, k _ _ F _ _ .refl (w.write e1 (.lst (rl.append ry))) .non q.2⟩
      | scr zs =>
        rw [hs] at q
        exact q.elim
      | _ => rw [hs] at e3; cases e3
    · exact q.elim
  · exact q.elim
theorem MtR.or {id : String} {r r' : V → List V → Hp → VK → Prop} (a : MtR X id r) (b : MtR X id r') : MtR X id (fun x xs H Q => r x xs H Q ∨ r' x xs H Q) :=
  fun pins s σ H x xs v us Q I rx rv h => h.elim (a pins s σ H x xs v us Q I rx rv) (b pins s σ H x xs v us Q I rx rv)
theorem d_ext {apos cpos : Pos} (ho : DE X o te) (ha : DA X [e] tl) (hbase : attributeBase o "extend" X.env (eval o X.env) = eval o X.env := by rfl)
    (hfew : ((backTo cpos (starEach [e] X.env)).all (fun x => !x.1) && (backToKw cpos (keywordEach [] X.env)).all (fun x => x.1.isSome)
      && decide (([e] : List Expr).length + ([] : List Keyword).length + (if ([] : List Keyword).isEmpty then 0 else 1) < 30)) = true := by rfl)
    (hline : (apos.endLine == cpos.line) = true := by rfl) (hs : starEach [e] X.env = (false, eval e X.env) :: starEach [] X.env := by rfl) :
    DE X (.Call (.Attribute o "extend" apos) [e] [] cpos) (dLm mExt te tl) := d_lm PySem.F.slot_list_extend PySem.F.type_list_extend (MtR.or mt_extend mt_extT) md_ext ho ha hbase hfew hline hs rfl
end
end L3

set_option maxHeartbeats 1000000
/-! L3ZF: inner questions in parts, their tables, shapes. -/
namespace L3
open PySem PySem.Spec PyProof.Rows L2
def allT (n : Nat) (p : T) : List T := (allP n [] p).map (·.2)
theorem allT_of {n : Nat} {p : T} (l : List Nat) : (allP n l p).map (·.2) = allT n p := by
  rw [allT, allP_shift l, List.map_map]
  rfl
theorem allT_step {n : Nat} {p : T} (h : Part n p) : allT n p = p :: (kids p).flatMap fun y => allT n y.2 := by
  rw [allT, allP_step h, List.map_cons, List.map_flatMap]
  congr 1
  exact flatMap_congr fun x _ => allT_of _
theorem allT_mono {n m : Nat} {p : T} (h : Part m p) (l : m ≤ n) : allT n p = allT m p := by rw [allT, allT, allP_mono h l]
theorem allT_len {n : Nat} {p : T} (h : Part n p) : (allT n p).length ≤ cntP n := by rw [allT, List.length_map]; exact allP_len h []
theorem allT_pos {n : Nat} {p : T} : 0 < (allT n p).length := by rw [allT, List.length_map]; exact allP_pos
def isIn : T → Bool
  | .tup (.str w :: _) => decide (w = "exists") || (decide (w = "only") || decide (w = "first"))
  | _ => false
/-- the inner questions in a part -/
def inn (n : Nat) (p : T) : List T := (allT n p).filter isIn
theorem inn_step {n : Nat} {p : T} (h : Part n p) : inn n p = (if isIn p then [p] else []) ++ (kids p).flatMap fun y => inn n y.2 := by
  rw [inn, allT_step h, List.filter_cons]
  have e : ((kids p).flatMap fun y => allT n y.2).filter isIn = (kids p).flatMap fun y => inn n y.2 := by
    rw [List.filter_flatMap]
    rfl
  rw [e]
  split <;> rfl
theorem inn_mono {n m : Nat} {p : T} (h : Part m p) (l : m ≤ n) : inn n p = inn m p := by rw [inn, inn, allT_mono h l]
theorem inn_len {n : Nat} {p : T} (h : Part n p) : (inn n p).length ≤ cntP n := Nat.le_trans (List.length_filter_le _ _) (allT_len h)
section
variable {n : Nat} {p x y v o : T} {w a b : Str}
theorem in_word {r : List T} (h : w ≠ "exists") (h1 : w ≠ "only") (h2 : w ≠ "first") : isIn (.tup (.str w :: r)) = false := by
  simp only [isIn, decide_eq_false h, decide_eq_false h1, decide_eq_false h2, Bool.or_self]
theorem inn_col : inn n (.tup [.str "column", .str a, .str b]) = [] := by
  cases n with
  | zero => rw [inn, allT, allP]; exact List.filter_cons_of_neg (by rw [in_word (by decide) (by decide) (by decide)]; decide)
  | succ n =>
    rw [inn, allT, allP, kids_col]
    exact List.filter_cons_of_neg (by rw [in_word (by decide) (by decide) (by decide)]; decide)
theorem inn_val : inn n (.tup [.str "value", v]) = [] := by
  cases n with
  | zero => rw [inn, allT, allP]; exact List.filter_cons_of_neg (by rw [in_word (by decide) (by decide) (by decide)]; decide)
  | succ n =>
    rw [inn, allT, allP, kids_val]
    exact List.filter_cons_of_neg (by rw [in_word (by decide) (by decide) (by decide)]; decide)
theorem inn_plus (hw : w = "plus" ∨ w = "is") (hx : Part n x) (hv : FlatV v) : inn (n + 1) (.tup [.str w, x, v]) = inn n x := by
  rw [inn_step (.plus hw hx hv), kids_plus hw, in_word (by rcases hw with rfl | rfl <;> decide) (by rcases hw with rfl | rfl <;> decide) (by rcases hw with rfl | rfl <;> decide)]
  simp only [Bool.false_eq_true, if_false, List.nil_append, List.flatMap_cons, List.flatMap_nil, List.append_nil]
  exact inn_mono hx (Nat.le_succ n)
theorem inn_not (hx : Part n x) : inn (n + 1) (.tup [.str "not", x]) = inn n x := by
  rw [inn_step (.not hx), kids_not, in_word (by decide) (by decide) (by decide)]
  simp only [Bool.false_eq_true, if_false, List.nil_append, List.flatMap_cons, List.flatMap_nil, List.append_nil]
  exact inn_mono hx (Nat.le_succ n)
theorem inn_two (hw : w = "less" ∨ w = "most" ∨ w = "same" ∨ w = "and" ∨ w = "or") (hx : Part n x) (hy : Part n y) : inn (n + 1) (.tup [.str w, x, y]) = inn n x ++ inn n y := by
  rw [inn_step (.two hw hx hy), kids_two hw, in_word (by rcases hw with rfl | rfl | rfl | rfl | rfl <;> decide) (by rcases hw with rfl | rfl | rfl | rfl | rfl <;> decide) (by rcases hw with rfl | rfl | rfl | rfl | rfl <;> decide)]
  simp only [Bool.false_eq_true, if_false, List.nil_append, List.flatMap_cons, List.flatMap_nil, List.append_nil]
  rw [inn_mono hx (Nat.le_succ n), inn_mono hy (Nat.le_succ n)]
theorem inn_exists (ho : OwnT 2 o) (hx : Part n x) : inn (n + 1) (.tup [.str "exists", .tup [o, x]]) = .tup [.str "exists", .tup [o, x]] :: inn n x := by
  rw [inn_step (.exists ho hx), kids_exists, if_pos (show isIn (.tup [.str "exists", .tup [o, x]]) = true from rfl)]
  simp only [List.flatMap_cons, List.flatMap_nil, List.append_nil]
  rw [inn_mono hx (Nat.le_succ n)]
  rfl
theorem inn_only (hw : w = "only" ∨ w = "first") (ho : OwnT 2 o) (hx : Part n x) (hy : Part n y) : inn (n + 1) (.tup [.str w, .tup [o, x], y]) = .tup [.str w, .tup [o, x], y] :: (inn n x ++ inn n y) := by
  rw [inn_step (.only hw ho hx hy), kids_only hw, if_pos (by rcases hw with rfl | rfl <;> rfl)]
  simp only [List.flatMap_cons, List.flatMap_nil, List.append_nil]
  rw [inn_mono hx (Nat.le_succ n), inn_mono hy (Nat.le_succ n)]
  rfl
end
/-- parts whose inner questions hold no inner questions -/
inductive LP : Nat → T → Prop
  | col {n : Nat} {a b : Str} : Nm a → Nm b → LP n (.tup [.str "column", .str a, .str b])
  | val {n : Nat} {v : T} : FlatV v → LP n (.tup [.str "value", v])
  | plus {n : Nat} {w : Str} {x v : T} : (w = "plus" ∨ w = "is") → LP n x → FlatV v → LP (n + 1) (.tup [.str w, x, v])
  | not {n : Nat} {x : T} : LP n x → LP (n + 1) (.tup [.str "not", x])
  | two {n : Nat} {w : Str} {x y : T} : (w = "less" ∨ w = "most" ∨ w = "same" ∨ w = "and" ∨ w = "or") → LP n x → LP n y → LP (n + 1) (.tup [.str w, x, y])
  | exists {n : Nat} {o x : T} : OwnT 2 o → Part n x → inn n x = [] → LP (n + 1) (.tup [.str "exists", .tup [o, x]])
  | only {n : Nat} {w : Str} {o x y : T} : (w = "only" ∨ w = "first") → OwnT 2 o → Part n x → Part n y → inn n x = [] → inn n y = [] → LP (n + 1) (.tup [.str w, .tup [o, x], y])
theorem LP.part {n : Nat} {t : T} (h : LP n t) : Part n t := by
  induction h with
  | col a b => exact .col a b
  | val v => exact .val v
  | plus a _ c ih => exact .plus a ih c
  | not _ ih => exact .not ih
  | two a _ _ i1 i2 => exact .two a i1 i2
  | «exists» a b _ => exact .exists a b
  | only a b c d _ _ => exact .only a b c d
theorem LP.succ {n : Nat} {t : T} (h : LP n t) : LP (n + 1) t := by
  induction h with
  | col a b => exact .col a b
  | val v => exact .val v
  | plus a _ c ih => exact .plus a ih c
  | not _ ih => exact .not ih
  | two a _ _ i1 i2 => exact .two a i1 i2
  | «exists» a b c => exact .exists a b.succ ((inn_mono b (Nat.le_succ _)).trans c)
  | only a b c d e f => exact .only a b c.succ d.succ ((inn_mono c (Nat.le_succ _)).trans e) ((inn_mono d (Nat.le_succ _)).trans f)
theorem LP.mono {n m : Nat} {t : T} (h : LP n t) (l : n ≤ m) : LP m t := by
  induction l with
  | refl => exact h
  | step _ ih => exact ih.succ
def sndS : T → Option Str
  | .tup [.str _, .str b] => some b
  | _ => none
/-- the tables of an inner question, once, or twice in only -/
def ptabs : T → List Str
  | .tup (.str w :: .tup (.tup o :: _) :: _) => let l := o.filterMap sndS
    if w = "only" then l ++ l else l
  | _ => []
theorem fm_pr (l : List (Str × Str)) : (l.map prT).filterMap sndS = l.map (·.2) := by
  induction l with
  | nil => rfl
  | cons p l ih => rw [List.map_cons, List.filterMap_cons_some (f := sndS) (a := prT p) (b := p.2) rfl, ih, List.map_cons]
theorem ptabs_of {w : Str} {l : List (Str × Str)} {x : T} {r : List T} : ptabs (.tup (.str w :: .tup [.tup (l.map prT), x] :: r)) = if w = "only" then l.map (·.2) ++ l.map (·.2) else l.map (·.2) := by
  unfold ptabs
  dsimp only
  rw [fm_pr]
/-- an inner question, its own refs -/
theorem inn_form {n : Nat} {p : T} (h : Part n p) : ∀ q ∈ inn n p, ∃ (w : Str) (l : List (Str × Str)) (x : T) (r : List T), q = .tup (.str w :: .tup [.tup (l.map prT), x] :: r) ∧ l.length ≤ 2 ∧ (w = "exists" ∨ w = "only" ∨ w = "first") := by
  intro q hq
  obtain ⟨h1, h2⟩ := List.mem_filter.mp hq
  obtain ⟨x, hx, rfl⟩ := List.mem_map.mp h1
  obtain ⟨m, _, hp⟩ := allP_part h hx
  revert h2
  generalize x.2 = xx at hp
  cases hp with
  | col a b => intro z; rw [in_word (by decide) (by decide) (by decide)] at z; cases z
  | val v => intro z; rw [in_word (by decide) (by decide) (by decide)] at z; cases z
  | plus hw _ _ => intro z; rw [in_word (by rcases hw with rfl | rfl <;> decide) (by rcases hw with rfl | rfl <;> decide) (by rcases hw with rfl | rfl <;> decide)] at z; cases z
  | not _ => intro z; rw [in_word (by decide) (by decide) (by decide)] at z; cases z
  | two hw _ _ => intro z; rw [in_word (by rcases hw with rfl | rfl | rfl | rfl | rfl <;> decide) (by rcases hw with rfl | rfl | rfl | rfl | rfl <;> decide) (by rcases hw with rfl | rfl | rfl | rfl | rfl <;> decide)] at z; cases z
  | «exists» ho hx =>
    intro _
    obtain ⟨l, rfl, hl, _⟩ := ho
    exact ⟨_, l, _, [], rfl, hl, Or.inl rfl⟩
  | only hw ho hx hy =>
    intro _
    obtain ⟨l, rfl, hl, _⟩ := ho
    exact ⟨_, l, _, [_], rfl, hl, Or.inr hw⟩
theorem nodup_len {α : Type} [DecidableEq α] : ∀ {l m : List α}, l.Nodup → (∀ x ∈ l, x ∈ m) → l.length ≤ m.length
  | [], _, _, _ => Nat.zero_le _
  | x :: l, m, nd, h => by
    obtain ⟨h1, h2⟩ := List.nodup_cons.mp nd
    have h3 := nodup_len (m := m.erase x) h2 fun y hy => (List.mem_erase_of_ne (fun e : y = x => h1 (by rw [← e]; exact hy))).mpr (h y (List.mem_cons_of_mem _ hy))
    have h4 := List.length_erase_of_mem (h x List.mem_cons_self)
    have h5 := List.length_pos_of_mem (h x List.mem_cons_self)
    rw [List.length_cons]
    omega
/-! ### shapes -/
def lst1 (outer : List Str) (z : Str) : Nat := if outer.contains z then 1 else 0
/-- how often a table may stand: from, how many -/
def rng (outer inner : List Str) (z : Str) : Nat := outer.count z + inner.count z + 1 - lst1 outer z
def stepS (outer inner : List Str) (z : Str) (ss : List (List (Str × Nat))) : List (List (Str × Nat)) := ss.flatMap fun s => (List.range (rng outer inner z)).map fun k => s ++ [(z, lst1 outer z + k)]
def shp (outer inner zs : List Str) : List (List (Str × Nat)) := zs.foldl (fun ss z => stepS outer inner z ss) [[]]
def enS (s : List (Str × Nat)) : T := .tup (s.map fun p => .tup [.str p.1, .int (p.2 : Nat)])
theorem shp_perm {outer inner inner' zs : List Str} (h : inner.Perm inner') : shp outer inner zs = shp outer inner' zs := by
  have e : ∀ z ss, stepS outer inner z ss = stepS outer inner' z ss := fun z ss => by
    unfold stepS rng
    rw [h.count_eq]
  unfold shp
  congr 1
  funext ss z
  exact e z ss
theorem flat_len {α β : Type} {f : α → List β} {k : Nat} : ∀ {xs : List α}, (∀ x ∈ xs, (f x).length = k) → (xs.flatMap f).length = xs.length * k
  | [], _ => by simp
  | x :: xs, h => by rw [List.flatMap_cons, List.length_append, h x List.mem_cons_self, flat_len fun y hy => h y (List.mem_cons_of_mem _ hy), List.length_cons, Nat.succ_mul, Nat.add_comm]
theorem stepS_len {outer inner : List Str} {z : Str} {ss : List (List (Str × Nat))} : (stepS outer inner z ss).length = ss.length * rng outer inner z :=
  flat_len fun _ _ => by rw [List.length_map, List.length_range]
theorem stepS_each {outer inner : List Str} {z : Str} {ss : List (List (Str × Nat))} {k : Nat} (h : ∀ s ∈ ss, s.length = k) : ∀ s ∈ stepS outer inner z ss, s.length = k + 1 := by
  intro s hs
  obtain ⟨u, hu, hs⟩ := List.mem_flatMap.mp hs
  obtain ⟨i, _, rfl⟩ := List.mem_map.mp hs
  rw [List.length_append, h u hu]
  rfl
theorem shp_each {outer inner zs : List Str} : ∀ s ∈ shp outer inner zs, s.length = zs.length := by
  have key : ∀ (zs : List Str) (ss : List (List (Str × Nat))) (k : Nat), (∀ s ∈ ss, s.length = k) → ∀ s ∈ zs.foldl (fun ss z => stepS outer inner z ss) ss, s.length = k + zs.length := by
    intro zs
    induction zs with
    | nil => intro ss k h s hs; exact h s hs
    | cons z zs ih =>
      intro ss k h s hs
      rw [List.foldl_cons] at hs
      rw [ih _ (k + 1) (stepS_each h) s hs, List.length_cons]
      omega
  intro s hs
  rw [key zs [[]] 0 (fun u hu => by rw [List.mem_singleton.mp hu]; rfl) s hs, Nat.zero_add]
/-- not too many: all but two tables stand just once -/
structure FewS (outer inner : List Str) : Prop where
  ex : ∃ T2 : List Str, T2.length ≤ 2 ∧ (∀ z ∈ inner, z ∈ T2) ∧ (∀ z ∈ outer, z ∉ T2 → outer.count z = 1) ∧ outer.length + inner.length ≤ 29
theorem rng_le {outer inner : List Str} (h : outer.length + inner.length ≤ 29) (z : Str) : rng outer inner z ≤ 30 := by
  have h1 := List.count_le_length (a := z) (l := outer)
  have h2 := List.count_le_length (a := z) (l := inner)
  unfold rng
  omega
theorem shp_len {outer inner : List Str} (h : FewS outer inner) {zs : List Str} (nd : zs.Nodup) (hz : ∀ z ∈ zs, z ∈ outer ∨ z ∈ inner) : (shp outer inner zs).length ≤ 900 := by
  obtain ⟨T2, t2, hi, ho, hl⟩ := h.ex
  have key : ∀ (zs : List Str) (ss : List (List (Str × Nat))), (∀ z ∈ zs, z ∈ outer ∨ z ∈ inner) → (zs.foldl (fun ss z => stepS outer inner z ss) ss).length ≤ ss.length * 30 ^ (zs.filter fun z => T2.contains z).length := by
    intro zs
    induction zs with
    | nil => intro ss _; simp
    | cons z zs ih =>
      intro ss hz
      rw [List.foldl_cons]
      refine Nat.le_trans (ih _ fun y hy => hz y (List.mem_cons_of_mem _ hy)) ?_
      rw [stepS_len]
      cases hc : T2.contains z with
      | true =>
        rw [List.filter_cons_of_pos hc, List.length_cons, Nat.pow_succ, Nat.mul_comm (30 ^ _) 30, ← Nat.mul_assoc]
        exact Nat.mul_le_mul_right _ (Nat.mul_le_mul_left _ (rng_le hl z))
      | false =>
        have nz : z ∉ T2 := fun m => by rw [List.contains_iff_mem.mpr m] at hc; cases hc
        rw [List.filter_cons_of_neg (by rw [hc]; decide)]
        have h1 : z ∈ outer := (hz z List.mem_cons_self).resolve_right fun m => nz (hi z m)
        have h2 := ho z h1 nz
        have h3 : inner.count z = 0 := List.count_eq_zero.mpr fun m => nz (hi z m)
        have h4 : rng outer inner z = 1 := by
          unfold rng lst1
          rw [h2, h3, if_pos (List.contains_iff_mem.mpr h1)]
        rw [h4, Nat.mul_one]
        exact Nat.le_refl _
  have h1 := key zs [[]] hz
  have h2 : (zs.filter fun z => T2.contains z).length ≤ 2 := by
    refine Nat.le_trans ?_ t2
    have nd2 : (zs.filter fun z => T2.contains z).Nodup := nd.filter _
    exact nodup_len nd2 fun z hm => List.contains_iff_mem.mp (List.mem_filter.mp hm).2
  have h3 : 30 ^ (zs.filter fun z => T2.contains z).length ≤ 30 ^ 2 := Nat.pow_le_pow_right (by decide) h2
  unfold shp
  simp only [List.length_cons, List.length_nil, Nat.zero_add, Nat.one_mul] at h1
  omega
end L3

set_option maxHeartbeats 1000000
/-! L3ZG: words of parts against each other (printed). -/
namespace L3
open PySem PySem.Spec PyProof.Rows L2
theorem eqS_str {a b : Str} : eqS a (.str b) = decide (b = a) := by
  unfold eqS
  exact decide_eq_decide.mpr ⟨fun h => V.str.inj h, fun h => by rw [h]⟩
theorem wx_column_column : decide (("column" : Str) = "column") = true := by decide +kernel
theorem wx_column_value : decide (("column" : Str) = "value") = false := by decide +kernel
theorem wx_column_plus : decide (("column" : Str) = "plus") = false := by decide +kernel
theorem wx_column_is : decide (("column" : Str) = "is") = false := by decide +kernel
theorem wx_column_not : decide (("column" : Str) = "not") = false := by decide +kernel
theorem wx_column_less : decide (("column" : Str) = "less") = false := by decide +kernel
theorem wx_column_most : decide (("column" : Str) = "most") = false := by decide +kernel
theorem wx_column_same : decide (("column" : Str) = "same") = false := by decide +kernel
theorem wx_column_and : decide (("column" : Str) = "and") = false := by decide +kernel
theorem wx_column_or : decide (("column" : Str) = "or") = false := by decide +kernel
theorem wx_column_exists : decide (("column" : Str) = "exists") = false := by decide +kernel
theorem wx_column_only : decide (("column" : Str) = "only") = false := by decide +kernel
theorem wx_column_first : decide (("column" : Str) = "first") = false := by decide +kernel
theorem wx_value_column : decide (("value" : Str) = "column") = false := by decide +kernel
theorem wx_value_value : decide (("value" : Str) = "value") = true := by decide +kernel
theorem wx_value_plus : decide (("value" : Str) = "plus") = false := by decide +kernel
theorem wx_value_is : decide (("value" : Str) = "is") = false := by decide +kernel
theorem wx_value_not : decide (("value" : Str) = "not") = false := by decide +kernel
theorem wx_value_less : decide (("value" : Str) = "less") = false := by decide +kernel
theorem wx_value_most : decide (("value" : Str) = "most") = false := by decide +kernel
theorem wx_value_same : decide (("value" : Str) = "same") = false := by decide +kernel
theorem wx_value_and : decide (("value" : Str) = "and") = false := by decide +kernel
theorem wx_value_or : decide (("value" : Str) = "or") = false := by decide +kernel
theorem wx_value_exists : decide (("value" : Str) = "exists") = false := by decide +kernel
theorem wx_value_only : decide (("value" : Str) = "only") = false := by decide +kernel
theorem wx_value_first : decide (("value" : Str) = "first") = false := by decide +kernel
theorem wx_plus_column : decide (("plus" : Str) = "column") = false := by decide +kernel
theorem wx_plus_value : decide (("plus" : Str) = "value") = false := by decide +kernel
theorem wx_plus_plus : decide (("plus" : Str) = "plus") = true := by decide +kernel
theorem wx_plus_is : decide (("plus" : Str) = "is") = false := by decide +kernel
theorem wx_plus_not : decide (("plus" : Str) = "not") = false := by decide +kernel
theorem wx_plus_less : decide (("plus" : Str) = "less") = false := by decide +kernel
theorem wx_plus_most : decide (("plus" : Str) = "most") = false := by decide +kernel
theorem wx_plus_same : decide (("plus" : Str) = "same") = false := by decide +kernel
theorem wx_plus_and : decide (("plus" : Str) = "and") = false := by decide +kernel
theorem wx_plus_or : decide (("plus" : Str) = "or") = false := by decide +kernel
theorem wx_plus_exists : decide (("plus" : Str) = "exists") = false := by decide +kernel
theorem wx_plus_only : decide (("plus" : Str) = "only") = false := by decide +kernel
theorem wx_plus_first : decide (("plus" : Str) = "first") = false := by decide +kernel
theorem wx_is_column : decide (("is" : Str) = "column") = false := by decide +kernel
theorem wx_is_value : decide (("is" : Str) = "value") = false := by decide +kernel
theorem wx_is_plus : decide (("is" : Str) = "plus") = false := by decide +kernel
theorem wx_is_is : decide (("is" : Str) = "is") = true := by decide +kernel
theorem wx_is_not : decide (("is" : Str) = "not") = false := by decide +kernel
theorem wx_is_less : decide (("is" : Str) = "less") = false := by decide +kernel
theorem wx_is_most : decide (("is" : Str) = "most") = false := by decide +kernel
theorem wx_is_same : decide (("is" : Str) = "same") = false := by decide +kernel
theorem wx_is_and : decide (("is" : Str) = "and") = false := by decide +kernel
theorem wx_is_or : decide (("is" : Str) = "or") = false := by decide +kernel
theorem wx_is_exists : decide (("is" : Str) = "exists") = false := by decide +kernel
theorem wx_is_only : decide (("is" : Str) = "only") = false := by decide +kernel
theorem wx_is_first : decide (("is" : Str) = "first") = false := by decide +kernel
theorem wx_not_column : decide (("not" : Str) = "column") = false := by decide +kernel
theorem wx_not_value : decide (("not" : Str) = "value") = false := by decide +kernel
theorem wx_not_plus : decide (("not" : Str) = "plus") = false := by decide +kernel
theorem wx_not_is : decide (("not" : Str) = "is") = false := by decide +kernel
theorem wx_not_not : decide (("not" : Str) = "not") = true := by decide +kernel
theorem wx_not_less : decide (("not" : Str) = "less") = false := by decide +kernel
theorem wx_not_most : decide (("not" : Str) = "most") = false := by decide +kernel
theorem wx_not_same : decide (("not" : Str) = "same") = false := by decide +kernel
theorem wx_not_and : decide (("not" : Str) = "and") = false := by decide +kernel
theorem wx_not_or : decide (("not" : Str) = "or") = false := by decide +kernel
theorem wx_not_exists : decide (("not" : Str) = "exists") = false := by decide +kernel
theorem wx_not_only : decide (("not" : Str) = "only") = false := by decide +kernel
theorem wx_not_first : decide (("not" : Str) = "first") = false := by decide +kernel
theorem wx_less_column : decide (("less" : Str) = "column") = false := by decide +kernel
theorem wx_less_value : decide (("less" : Str) = "value") = false := by decide +kernel
theorem wx_less_plus : decide (("less" : Str) = "plus") = false := by decide +kernel
theorem wx_less_is : decide (("less" : Str) = "is") = false := by decide +kernel
theorem wx_less_not : decide (("less" : Str) = "not") = false := by decide +kernel
theorem wx_less_less : decide (("less" : Str) = "less") = true := by decide +kernel
theorem wx_less_most : decide (("less" : Str) = "most") = false := by decide +kernel
theorem wx_less_same : decide (("less" : Str) = "same") = false := by decide +kernel
theorem wx_less_and : decide (("less" : Str) = "and") = false := by decide +kernel
theorem wx_less_or : decide (("less" : Str) = "or") = false := by decide +kernel
theorem wx_less_exists : decide (("less" : Str) = "exists") = false := by decide +kernel
theorem wx_less_only : decide (("less" : Str) = "only") = false := by decide +kernel
theorem wx_less_first : decide (("less" : Str) = "first") = false := by decide +kernel
theorem wx_most_column : decide (("most" : Str) = "column") = false := by decide +kernel
theorem wx_most_value : decide (("most" : Str) = "value") = false := by decide +kernel
theorem wx_most_plus : decide (("most" : Str) = "plus") = false := by decide +kernel
theorem wx_most_is : decide (("most" : Str) = "is") = false := by decide +kernel
theorem wx_most_not : decide (("most" : Str) = "not") = false := by decide +kernel
theorem wx_most_less : decide (("most" : Str) = "less") = false := by decide +kernel
theorem wx_most_most : decide (("most" : Str) = "most") = true := by decide +kernel
theorem wx_most_same : decide (("most" : Str) = "same") = false := by decide +kernel
theorem wx_most_and : decide (("most" : Str) = "and") = false := by decide +kernel
theorem wx_most_or : decide (("most" : Str) = "or") = false := by decide +kernel
theorem wx_most_exists : decide (("most" : Str) = "exists") = false := by decide +kernel
theorem wx_most_only : decide (("most" : Str) = "only") = false := by decide +kernel
theorem wx_most_first : decide (("most" : Str) = "first") = false := by decide +kernel
theorem wx_same_column : decide (("same" : Str) = "column") = false := by decide +kernel
theorem wx_same_value : decide (("same" : Str) = "value") = false := by decide +kernel
theorem wx_same_plus : decide (("same" : Str) = "plus") = false := by decide +kernel
theorem wx_same_is : decide (("same" : Str) = "is") = false := by decide +kernel
theorem wx_same_not : decide (("same" : Str) = "not") = false := by decide +kernel
theorem wx_same_less : decide (("same" : Str) = "less") = false := by decide +kernel
theorem wx_same_most : decide (("same" : Str) = "most") = false := by decide +kernel
theorem wx_same_same : decide (("same" : Str) = "same") = true := by decide +kernel
theorem wx_same_and : decide (("same" : Str) = "and") = false := by decide +kernel
theorem wx_same_or : decide (("same" : Str) = "or") = false := by decide +kernel
theorem wx_same_exists : decide (("same" : Str) = "exists") = false := by decide +kernel
theorem wx_same_only : decide (("same" : Str) = "only") = false := by decide +kernel
theorem wx_same_first : decide (("same" : Str) = "first") = false := by decide +kernel
theorem wx_and_column : decide (("and" : Str) = "column") = false := by decide +kernel
theorem wx_and_value : decide (("and" : Str) = "value") = false := by decide +kernel
theorem wx_and_plus : decide (("and" : Str) = "plus") = false := by decide +kernel
theorem wx_and_is : decide (("and" : Str) = "is") = false := by decide +kernel
theorem wx_and_not : decide (("and" : Str) = "not") = false := by decide +kernel
theorem wx_and_less : decide (("and" : Str) = "less") = false := by decide +kernel
theorem wx_and_most : decide (("and" : Str) = "most") = false := by decide +kernel
theorem wx_and_same : decide (("and" : Str) = "same") = false := by decide +kernel
theorem wx_and_and : decide (("and" : Str) = "and") = true := by decide +kernel
theorem wx_and_or : decide (("and" : Str) = "or") = false := by decide +kernel
theorem wx_and_exists : decide (("and" : Str) = "exists") = false := by decide +kernel
theorem wx_and_only : decide (("and" : Str) = "only") = false := by decide +kernel
theorem wx_and_first : decide (("and" : Str) = "first") = false := by decide +kernel
theorem wx_or_column : decide (("or" : Str) = "column") = false := by decide +kernel
theorem wx_or_value : decide (("or" : Str) = "value") = false := by decide +kernel
theorem wx_or_plus : decide (("or" : Str) = "plus") = false := by decide +kernel
theorem wx_or_is : decide (("or" : Str) = "is") = false := by decide +kernel
theorem wx_or_not : decide (("or" : Str) = "not") = false := by decide +kernel
theorem wx_or_less : decide (("or" : Str) = "less") = false := by decide +kernel
theorem wx_or_most : decide (("or" : Str) = "most") = false := by decide +kernel
theorem wx_or_same : decide (("or" : Str) = "same") = false := by decide +kernel
theorem wx_or_and : decide (("or" : Str) = "and") = false := by decide +kernel
theorem wx_or_or : decide (("or" : Str) = "or") = true := by decide +kernel
theorem wx_or_exists : decide (("or" : Str) = "exists") = false := by decide +kernel
theorem wx_or_only : decide (("or" : Str) = "only") = false := by decide +kernel
theorem wx_or_first : decide (("or" : Str) = "first") = false := by decide +kernel
theorem wx_exists_column : decide (("exists" : Str) = "column") = false := by decide +kernel
theorem wx_exists_value : decide (("exists" : Str) = "value") = false := by decide +kernel
theorem wx_exists_plus : decide (("exists" : Str) = "plus") = false := by decide +kernel
theorem wx_exists_is : decide (("exists" : Str) = "is") = false := by decide +kernel
theorem wx_exists_not : decide (("exists" : Str) = "not") = false := by decide +kernel
theorem wx_exists_less : decide (("exists" : Str) = "less") = false := by decide +kernel
theorem wx_exists_most : decide (("exists" : Str) = "most") = false := by decide +kernel
theorem wx_exists_same : decide (("exists" : Str) = "same") = false := by decide +kernel
theorem wx_exists_and : decide (("exists" : Str) = "and") = false := by decide +kernel
theorem wx_exists_or : decide (("exists" : Str) = "or") = false := by decide +kernel
theorem wx_exists_exists : decide (("exists" : Str) = "exists") = true := by decide +kernel
theorem wx_exists_only : decide (("exists" : Str) = "only") = false := by decide +kernel
theorem wx_exists_first : decide (("exists" : Str) = "first") = false := by decide +kernel
theorem wx_only_column : decide (("only" : Str) = "column") = false := by decide +kernel
theorem wx_only_value : decide (("only" : Str) = "value") = false := by decide +kernel
theorem wx_only_plus : decide (("only" : Str) = "plus") = false := by decide +kernel
theorem wx_only_is : decide (("only" : Str) = "is") = false := by decide +kernel
theorem wx_only_not : decide (("only" : Str) = "not") = false := by decide +kernel
theorem wx_only_less : decide (("only" : Str) = "less") = false := by decide +kernel
theorem wx_only_most : decide (("only" : Str) = "most") = false := by decide +kernel
theorem wx_only_same : decide (("only" : Str) = "same") = false := by decide +kernel
theorem wx_only_and : decide (("only" : Str) = "and") = false := by decide +kernel
theorem wx_only_or : decide (("only" : Str) = "or") = false := by decide +kernel
theorem wx_only_exists : decide (("only" : Str) = "exists") = false := by decide +kernel
theorem wx_only_only : decide (("only" : Str) = "only") = true := by decide +kernel
theorem wx_only_first : decide (("only" : Str) = "first") = false := by decide +kernel
theorem wx_first_column : decide (("first" : Str) = "column") = false := by decide +kernel
theorem wx_first_value : decide (("first" : Str) = "value") = false := by decide +kernel
theorem wx_first_plus : decide (("first" : Str) = "plus") = false := by decide +kernel
theorem wx_first_is : decide (("first" : Str) = "is") = false := by decide +kernel
theorem wx_first_not : decide (("first" : Str) = "not") = false := by decide +kernel
theorem wx_first_less : decide (("first" : Str) = "less") = false := by decide +kernel
theorem wx_first_most : decide (("first" : Str) = "most") = false := by decide +kernel
theorem wx_first_same : decide (("first" : Str) = "same") = false := by decide +kernel
theorem wx_first_and : decide (("first" : Str) = "and") = false := by decide +kernel
theorem wx_first_or : decide (("first" : Str) = "or") = false := by decide +kernel
theorem wx_first_exists : decide (("first" : Str) = "exists") = false := by decide +kernel
theorem wx_first_only : decide (("first" : Str) = "only") = false := by decide +kernel
theorem wx_first_first : decide (("first" : Str) = "first") = true := by decide +kernel
end L3
namespace L3
open PySem PySem.Spec PyProof.Rows L2
section
variable {ok : Mp → Prop} {P P1 : Pat} {w1 : I3} {te : E3} {vs vs1 : List Nat} {ss0 : SS} {Q : List T → Mp → Prop} {α β : Type} {g : α → T} {bs : α → List β} {g1 : α → β → T} {f : α → β → T} {M : Mp}
/-- two fors, nothing changes -/
theorem compL2_all (hok : ok M) : ∀ {xs : List α} {acc : List T}, (∀ a ∈ xs, ∃ ss2, P.set (g a) (wipe3 ss0 vs) = some ss2 ∧
      (∀ R : Src → Mp → Prop, (∀ ok1 : Mp → Prop, ok1 M → R ⟨(bs a).map (g1 a), ok1⟩ M) → w1 ss2 M R) ∧
      ∀ b ∈ bs a, ∃ ss3, P1.set (g1 a b) (wipe3 ss2 vs1) = some ss3 ∧ ∀ R : QE, R (f a b) M → te ss3 M R) →
    acc.length + (xs.flatMap bs).length ≤ sizeLine → Q (acc ++ xs.flatMap fun a => (bs a).map (f a)) M → compL2 ok P dYes w1 P1 dYes te vs vs1 ss0 Q (xs.map g) acc M
  | [], acc, _, _, q => ⟨hok, by simpa using q⟩
  | a :: xs, acc, h, hz, q => by
    obtain ⟨ss2, e, h1, h2⟩ := h a List.mem_cons_self
    refine ⟨hok, ?_⟩
    rw [e]
    show w1 ss2 M _
    rw [List.flatMap_cons, List.length_append] at hz
    refine h1 _ fun ok1 o1 => ?_
    refine compL_mapA (keep := fun _ => true) (f := f a) o1 (fun b hb => ?_) (by omega) ?_
    · obtain ⟨ss3, e3, h3⟩ := h2 b hb
      exact ⟨ss3, e3, fun R R2 => ⟨fun r => r, fun _ r => h3 R2 r⟩⟩
    · rw [List.filter_eq_self.mpr fun _ _ => rfl]
      refine compL2_all hok (fun u hu => h u (List.mem_cons_of_mem _ hu)) (by rw [List.length_append, List.length_map]; omega) ?_
      rw [List.flatMap_cons, ← List.append_assoc] at q
      exact q
end
/-- what follows a test -/
theorem cut_t {tt : T3} {ss : SS} {M : Mp} {K : Bool → Mp → Prop} (Post : Bool → Mp → Prop) (h : ∀ K : Bool → Mp → Prop, (∀ b M', Post b M' → K b M') → tt ss M K) (k : ∀ b M', Post b M' → K b M') : tt ss M K := h K k
theorem comp2_go {w3 w1 : I3} {P P1 : Pat} {tt tt1 : T3} {te : E3} {vs vs1 : List Nat} {fin : List T → QE → Mp → Prop} {ss : SS} {M : Mp} {Q : QE} (h : w3 ss M fun S M1 => compL2 S.ok P tt w1 P1 tt1 te vs vs1 ss (fun acc M2 => fin acc Q M2) S.xs [] M1) : dComp2 w3 P tt w1 P1 tt1 te vs vs1 fin ss M Q := h
theorem cnt_strs {s : Str} (bs : List Str) : ((bs.map T.str).countP fun z => eqF z (.str s)) = bs.count s := by
  rw [List.countP_map, List.count]
  refine List.countP_congr fun x _ => ?_
  show (x == s) = true ↔ (x == s) = true
  exact Iff.rfl
theorem inT_cont {z : Str} (bs : List Str) : inT (.str z) (bs.map T.str) = bs.contains z := by
  unfold inT
  rw [List.any_map]
  cases h : bs.contains z with
  | true => exact List.any_eq_true.mpr ⟨z, List.contains_iff_mem.mp h, by show (z == z) = true; exact beq_self_eq_true z⟩
  | false =>
    rw [List.any_eq_false]
    intro x hx hb
    have e : x = z := eq_of_beq (show (x == z) = true from hb)
    subst e
    rw [List.contains_iff_mem.mpr hx] at h
    cases h
theorem flat_strs' (bs : List Str) : (bs.map T.str).all flatT = true := flat_strs (f := fun x => x) bs
end L3

set_option maxHeartbeats 1000000
/-! L3ZH: a, b = list. -/
namespace L3
open PySem PySem.Spec PyProof.Rows L2
def sUnl (is : List Nat) (te : E3) : S3 := fun D ss M => te ss M fun t M1 => match look t M1 with
  | .lst ts => if ts.length = is.length then D.nx (setAll ss is ts) M1 else False
  | _ => False
section
variable {X : Cx} {e tg : Expr} {te : E3} {pos : Pos}
theorem ds_unl (is : List Nat) (he : DE X e te) (hg : PG X tg (gUnl X.K is.length (gNames is))) (hs : swapsWithSole [tg] e pos.line X.env = pure false := by rfl) (hw : swappedStores [tg] e X.env = pure none := by rfl)
    (h1 : (assignEach [tg] X.env).map (·.2) = [assign tg X.env] := by rfl) : DS X (.Assign [tg] e pos) (sUnl is te) := by
  refine ps_weak (ps_asg he hg hs hw h1) ?_
  rintro D σ H ⟨F, O, M, ss, D3, w, sl, q, k⟩
  refine ⟨F, O, M, ss, _, w, sl, q, ?_⟩
  intro v H1 F1 M1 t x1 w1 r1 q1
  have sx := r1.sees w1
  split at q1
  · rename_i ts e1
    rw [e1] at sx
    cases sx with
    | lst hx px =>
    split at q1
    · rename_i hl
      exact ⟨_, _, rfl, .of hx, px.length.trans hl, gNames_run w1 px hl (sl.mono x1) (ws := []) fun σ2 sl2 _ => k.nx σ2 H1 F1 M1 _ x1 w1 sl2 q1⟩
    · exact q1.elim
  · exact q1.elim
end
end L3

set_option maxHeartbeats 4000000
namespace K45
open PySem PySem.Spec PyProof.Rows L2 L3
def topS (i : Nat) : Stmt := PySem.Challenge.pw_failswhole_k45_shapes.main.body.getD i (.Pass ⟨0, 0, 0, 0⟩)
abbrev s_sub_parts : Stmt := topS 1
theorem sc_sub_parts : FnScope ["part"] ["part"] (defScope s_sub_parts) := ⟨rfl, rfl, rfl, by decide +kernel, rfl, by decide +kernel, by decide +kernel⟩
abbrev s_inner_parts : Stmt := topS 4
theorem sc_inner_parts : FnScope ["question", "waiting", "found", "part"] ["question"] (defScope s_inner_parts) := ⟨rfl, rfl, rfl, by decide +kernel, rfl, by decide +kernel, by decide +kernel⟩
abbrev s_inner_tables : Stmt := topS 5
theorem sc_inner_tables : FnScope ["question", "found", "part", "tables", "alias", "table"] ["question"] (defScope s_inner_tables) := ⟨rfl, rfl, rfl, by decide +kernel, rfl, by decide +kernel, by decide +kernel⟩
abbrev s_shapes_of : Stmt := topS 6
theorem sc_shapes_of : FnScope ["questions", "outer", "alias", "table", "inner", "question", "shapes", "least", "most", "shape", "count"] ["questions"] (defScope s_shapes_of) := ⟨rfl, rfl, rfl, by decide +kernel, rfl, by decide +kernel, by decide +kernel⟩
abbrev s_l_deck : Stmt := topS 8
theorem sc_l_deck : FnScope ["script", "cells", "total", "cell"] ["script"] (defScope s_l_deck) := ⟨rfl, rfl, rfl, by decide +kernel, rfl, by decide +kernel, by decide +kernel⟩
abbrev s_l_draw : Stmt := topS 9
theorem sc_l_draw : FnScope ["deck", "many", "turn", "cell", "mixed"] ["deck", "many"] (defScope s_l_draw) := ⟨rfl, rfl, rfl, by decide +kernel, rfl, by decide +kernel, by decide +kernel⟩
abbrev s_l_pick : Stmt := topS 10
theorem sc_l_pick : FnScope ["deck", "some"] ["deck", "some"] (defScope s_l_pick) := ⟨rfl, rfl, rfl, by decide +kernel, rfl, by decide +kernel, by decide +kernel⟩
abbrev s_l_names : Stmt := topS 11
theorem sc_l_names : FnScope ["deck", "many", "first", "way", "words", "k"] ["deck", "many"] (defScope s_l_names) := ⟨rfl, rfl, rfl, by decide +kernel, rfl, by decide +kernel, by decide +kernel⟩
abbrev s_l_inners : Stmt := topS 12
theorem sc_l_inners : FnScope ["part", "found", "one"] ["part"] (defScope s_l_inners) := ⟨rfl, rfl, rfl, by decide +kernel, rfl, by decide +kernel, by decide +kernel⟩
abbrev s_l_shapes : Stmt := topS 13
theorem sc_l_shapes : FnScope ["asked", "more", "outer", "inner", "alias", "table", "one", "part", "found", "shapes", "least", "longer", "shape", "many", "k"] ["asked", "more"] (defScope s_l_shapes) := ⟨rfl, rfl, rfl, by decide +kernel, rfl, by decide +kernel, by decide +kernel⟩
abbrev s_l_inner_part : Stmt := topS 14
theorem sc_l_inner_part : FnScope ["deck", "refs", "names", "tables", "own", "k", "inner", "word"] ["deck", "refs", "names", "tables"] (defScope s_l_inner_part) := ⟨rfl, rfl, rfl, by decide +kernel, rfl, by decide +kernel, by decide +kernel⟩
abbrev s_l_condition : Stmt := topS 15
theorem sc_l_condition : FnScope ["deck", "refs", "part", "found", "one", "some", "k", "leaf"] ["deck", "refs", "part"] (defScope s_l_condition) := ⟨rfl, rfl, rfl, by decide +kernel, rfl, by decide +kernel, by decide +kernel⟩
abbrev s_l_drawn : Stmt := topS 16
theorem sc_l_drawn : FnScope ["deck", "refs", "tables", "names", "where", "heard", "k", "part", "one", "order", "limit"] ["deck", "refs", "tables", "names"] (defScope s_l_drawn) := ⟨rfl, rfl, rfl, by decide +kernel, rfl, by decide +kernel, by decide +kernel⟩
abbrev s_l_pair : Stmt := topS 17
theorem sc_l_pair : FnScope ["deck", "names", "tables", "k", "count", "refs"] ["deck"] (defScope s_l_pair) := ⟨rfl, rfl, rfl, by decide +kernel, rfl, by decide +kernel, by decide +kernel⟩
abbrev s_law : Stmt := topS 18
theorem sc_law : FnScope ["script", "deck", "turn", "one", "other", "due"] ["script"] (defScope s_law) := ⟨rfl, rfl, rfl, by decide +kernel, rfl, by decide +kernel, by decide +kernel⟩
structure Fns (K : PySem.W.Frag) (mg : Str → Option Value) where
  f_sub_parts : Addr
  fd_sub_parts : FuncData
  F_sub_parts : Fun K "sub_parts" "sub_parts" s_sub_parts f_sub_parts fd_sub_parts
  g_sub_parts : mg "sub_parts" = some (.ref f_sub_parts)
  f_inner_parts : Addr
  fd_inner_parts : FuncData
  F_inner_parts : Fun K "inner_parts" "inner_parts" s_inner_parts f_inner_parts fd_inner_parts
  g_inner_parts : mg "inner_parts" = some (.ref f_inner_parts)
  f_inner_tables : Addr
  fd_inner_tables : FuncData
  F_inner_tables : Fun K "inner_tables" "inner_tables" s_inner_tables f_inner_tables fd_inner_tables
  g_inner_tables : mg "inner_tables" = some (.ref f_inner_tables)
  f_shapes_of : Addr
  fd_shapes_of : FuncData
  F_shapes_of : Fun K "shapes_of" "shapes_of" s_shapes_of f_shapes_of fd_shapes_of
  g_shapes_of : mg "shapes_of" = some (.ref f_shapes_of)
  f_l_deck : Addr
  fd_l_deck : FuncData
  F_l_deck : Fun K "_law_deck" "_law_deck" s_l_deck f_l_deck fd_l_deck
  g_l_deck : mg "_law_deck" = some (.ref f_l_deck)
  f_l_draw : Addr
  fd_l_draw : FuncData
  F_l_draw : Fun K "_law_draw" "_law_draw" s_l_draw f_l_draw fd_l_draw
  g_l_draw : mg "_law_draw" = some (.ref f_l_draw)
  f_l_pick : Addr
  fd_l_pick : FuncData
  F_l_pick : Fun K "_law_pick" "_law_pick" s_l_pick f_l_pick fd_l_pick
  g_l_pick : mg "_law_pick" = some (.ref f_l_pick)
  f_l_names : Addr
  fd_l_names : FuncData
  F_l_names : Fun K "_law_names" "_law_names" s_l_names f_l_names fd_l_names
  g_l_names : mg "_law_names" = some (.ref f_l_names)
  f_l_inners : Addr
  fd_l_inners : FuncData
  F_l_inners : Fun K "_law_inners" "_law_inners" s_l_inners f_l_inners fd_l_inners
  g_l_inners : mg "_law_inners" = some (.ref f_l_inners)
  f_l_shapes : Addr
  fd_l_shapes : FuncData
  F_l_shapes : Fun K "_law_shapes" "_law_shapes" s_l_shapes f_l_shapes fd_l_shapes
  g_l_shapes : mg "_law_shapes" = some (.ref f_l_shapes)
  f_l_inner_part : Addr
  fd_l_inner_part : FuncData
  F_l_inner_part : Fun K "_law_inner_part" "_law_inner_part" s_l_inner_part f_l_inner_part fd_l_inner_part
  g_l_inner_part : mg "_law_inner_part" = some (.ref f_l_inner_part)
  f_l_condition : Addr
  fd_l_condition : FuncData
  F_l_condition : Fun K "_law_condition" "_law_condition" s_l_condition f_l_condition fd_l_condition
  g_l_condition : mg "_law_condition" = some (.ref f_l_condition)
  f_l_drawn : Addr
  fd_l_drawn : FuncData
  F_l_drawn : Fun K "_law_drawn" "_law_drawn" s_l_drawn f_l_drawn fd_l_drawn
  g_l_drawn : mg "_law_drawn" = some (.ref f_l_drawn)
  f_l_pair : Addr
  fd_l_pair : FuncData
  F_l_pair : Fun K "_law_pair" "_law_pair" s_l_pair f_l_pair fd_l_pair
  g_l_pair : mg "_law_pair" = some (.ref f_l_pair)
  f_law : Addr
  fd_law : FuncData
  F_law : Fun K "law" "law" s_law f_law fd_law
  g_law : mg "law" = some (.ref f_law)
  m_len : mg "len" = none
  m_list : mg "list" = none
  m_tuple : mg "tuple" = none
  m_range : mg "range" = none
  m_repr : mg "repr" = none
  m_sorted : mg "sorted" = none
  m_set : mg "set" = none
  m_int : mg "int" = none
  m_isinstance : mg "isinstance" = none
  v_INNER_WORDS : GV mg K "INNER_WORDS" (.tup [.str "exists", .str "only", .str "first"])
theorem kb_l_condition_3 {K : PySem.W.Frag} {mg : Str → Option Value} (E : Fns K mg) : KB K E.fd_l_condition ["deck", "refs", "part"] [] 3 0 [0, 1, 2] [] [] [] :=
  KB.mk0 E.F_l_condition (by decide) fun _ _ _ _ _ _ us ws h1 h2 => match us, ws, h1, h2 with | [_, _, _], [], _, _ => rfl
theorem kb_l_deck_1 {K : PySem.W.Frag} {mg : Str → Option Value} (E : Fns K mg) : KB K E.fd_l_deck ["script"] [] 1 0 [0] [] [] [] :=
  KB.mk0 E.F_l_deck (by decide) fun _ _ _ _ _ _ us ws h1 h2 => match us, ws, h1, h2 with | [_], [], _, _ => rfl
theorem kb_l_draw_2 {K : PySem.W.Frag} {mg : Str → Option Value} (E : Fns K mg) : KB K E.fd_l_draw ["deck", "many"] [] 2 0 [0, 1] [] [] [] :=
  KB.mk0 E.F_l_draw (by decide) fun _ _ _ _ _ _ us ws h1 h2 => match us, ws, h1, h2 with | [_, _], [], _, _ => rfl
theorem kb_l_drawn_4 {K : PySem.W.Frag} {mg : Str → Option Value} (E : Fns K mg) : KB K E.fd_l_drawn ["deck", "refs", "tables", "names"] [] 4 0 [0, 1, 2, 3] [] [] [] :=
  KB.mk0 E.F_l_drawn (by decide) fun _ _ _ _ _ _ us ws h1 h2 => match us, ws, h1, h2 with | [_, _, _, _], [], _, _ => rfl
theorem kb_l_inner_part_4 {K : PySem.W.Frag} {mg : Str → Option Value} (E : Fns K mg) : KB K E.fd_l_inner_part ["deck", "refs", "names", "tables"] [] 4 0 [0, 1, 2, 3] [] [] [] :=
  KB.mk0 E.F_l_inner_part (by decide) fun _ _ _ _ _ _ us ws h1 h2 => match us, ws, h1, h2 with | [_, _, _, _], [], _, _ => rfl
theorem kb_l_inners_1 {K : PySem.W.Frag} {mg : Str → Option Value} (E : Fns K mg) : KB K E.fd_l_inners ["part"] [] 1 0 [0] [] [] [] :=
  KB.mk0 E.F_l_inners (by decide) fun _ _ _ _ _ _ us ws h1 h2 => match us, ws, h1, h2 with | [_], [], _, _ => rfl
theorem kb_l_names_2 {K : PySem.W.Frag} {mg : Str → Option Value} (E : Fns K mg) : KB K E.fd_l_names ["deck", "many"] [] 2 0 [0, 1] [] [] [] :=
  KB.mk0 E.F_l_names (by decide) fun _ _ _ _ _ _ us ws h1 h2 => match us, ws, h1, h2 with | [_, _], [], _, _ => rfl
theorem kb_l_pair_1 {K : PySem.W.Frag} {mg : Str → Option Value} (E : Fns K mg) : KB K E.fd_l_pair ["deck"] [] 1 0 [0] [] [] [] :=
  KB.mk0 E.F_l_pair (by decide) fun _ _ _ _ _ _ us ws h1 h2 => match us, ws, h1, h2 with | [_], [], _, _ => rfl
theorem kb_l_pick_2 {K : PySem.W.Frag} {mg : Str → Option Value} (E : Fns K mg) : KB K E.fd_l_pick ["deck", "some"] [] 2 0 [0, 1] [] [] [] :=
  KB.mk0 E.F_l_pick (by decide) fun _ _ _ _ _ _ us ws h1 h2 => match us, ws, h1, h2 with | [_, _], [], _, _ => rfl
theorem kb_l_shapes_2 {K : PySem.W.Frag} {mg : Str → Option Value} (E : Fns K mg) : KB K E.fd_l_shapes ["asked", "more"] [] 2 0 [0, 1] [] [] [] :=
  KB.mk0 E.F_l_shapes (by decide) fun _ _ _ _ _ _ us ws h1 h2 => match us, ws, h1, h2 with | [_, _], [], _, _ => rfl
theorem kb_inner_parts_1 {K : PySem.W.Frag} {mg : Str → Option Value} (E : Fns K mg) : KB K E.fd_inner_parts ["question"] [] 1 0 [0] [] [] [] :=
  KB.mk0 E.F_inner_parts (by decide) fun _ _ _ _ _ _ us ws h1 h2 => match us, ws, h1, h2 with | [_], [], _, _ => rfl
theorem kb_inner_tables_1 {K : PySem.W.Frag} {mg : Str → Option Value} (E : Fns K mg) : KB K E.fd_inner_tables ["question"] [] 1 0 [0] [] [] [] :=
  KB.mk0 E.F_inner_tables (by decide) fun _ _ _ _ _ _ us ws h1 h2 => match us, ws, h1, h2 with | [_], [], _, _ => rfl
theorem kb_sub_parts_1 {K : PySem.W.Frag} {mg : Str → Option Value} (E : Fns K mg) : KB K E.fd_sub_parts ["part"] [] 1 0 [0] [] [] [] :=
  KB.mk0 E.F_sub_parts (by decide) fun _ _ _ _ _ _ us ws h1 h2 => match us, ws, h1, h2 with | [_], [], _, _ => rfl
def spSub : Sp3 := fun ts M Q => ∃ n p, ts = [p] ∧ Part n p ∧ Q (.tup ((kids p).map (·.2))) M
def isNo : T → Bool
  | .non => true | _ => false
def wps (wh : T) (hs : List T) : List T := hs ++ if isNo wh then [] else [wh]
def qInn (n : Nat) (wh : T) (hs : List T) : List T := (wps wh hs).flatMap (inn n)
def qTab (n : Nat) (wh : T) (hs : List T) : List Str := (qInn n wh hs).flatMap ptabs
def spInnP : Sp3 := fun ts M Q => ∃ n refs wh hs ord lim, ts = [.tup [refs, wh, .tup hs, ord, lim]] ∧ Q5 n (.tup [refs, wh, .tup hs, ord, lim]) ∧ n ≤ 10 ∧ ∀ fs : List T, fs.Perm (qInn n wh hs) → Q (.lst fs) M
def spInnT : Sp3 := fun ts M Q => ∃ n refs wh hs ord lim, ts = [.tup [refs, wh, .tup hs, ord, lim]] ∧ Q5 n (.tup [refs, wh, .tup hs, ord, lim]) ∧ n ≤ 10 ∧ ∀ bs : List Str, bs.Perm (qTab n wh hs) → Q (.lst (bs.map T.str)) M
/-- a question with its parts -/
structure Qn where
  rl : List (Str × Str)
  wh : T
  hs : List T
  ord : T
  lim : T
def Qn.t (q : Qn) : T := .tup [.tup (q.rl.map prT), q.wh, .tup q.hs, q.ord, q.lim]
def qTabs (n : Nat) (qs : List Qn) : List Str := qs.flatMap fun q => qTab n q.wh q.hs
/-- the shapes of questions -/
def ShapesOf (outer inner : List Str) (t : T) : Prop := ∃ zs inn' : List Str, sortedS zs = true ∧ zs.Nodup ∧ (∀ z, z ∈ zs ↔ z ∈ outer ∨ z ∈ inn') ∧ inn'.Perm inner ∧ t = .tup ((shp outer inn' zs).map enS)
def spShapes : Sp3 := fun ts M Q => ∃ n, ∃ (q : Qn) (qs : List Qn), ts = (q :: qs).map Qn.t ∧ qs.length ≤ 5 ∧ n ≤ 10 ∧ (∀ x ∈ q :: qs, Q5 n x.t) ∧ FewS (q.rl.map (·.2)) (qTabs n (q :: qs)) ∧ ∀ t, ShapesOf (q.rl.map (·.2)) (qTabs n (q :: qs)) t → Q t M
def spLInnAt : Nat → Sp3
  | 0 => spNo
  | n + 1 => fun ts M Q => ∃ p, ts = [p] ∧ LP n p ∧ n ≤ 10 ∧ Q (.lst (inn n p)) M
def spLShapes (n : Nat) : Sp3 := fun ts M Q => ∃ (q : Qn) (qs : List Qn), ts = [q.t, .lst (qs.map Qn.t)] ∧ qs.length ≤ 5 ∧ (∀ x ∈ q :: qs, Q5 n x.t ∧ ∀ p ∈ wps x.wh x.hs, LP n p) ∧ FewS (q.rl.map (·.2)) (qTabs n (q :: qs)) ∧ ∀ t, ShapesOf (q.rl.map (·.2)) (qTabs n (q :: qs)) t → Q t M
def lps (wh : T) (hs : List T) : List T := (if isNo wh then [] else [wh]) ++ hs
def lTab (n : Nat) (q : Qn) : List Str := ((lps q.wh q.hs).flatMap (inn n)).flatMap ptabs
theorem lTab_perm (n : Nat) (q : Qn) : (lTab n q).Perm (qTab n q.wh q.hs) := by
  unfold lTab qTab qInn lps wps
  exact (List.Perm.flatMap_right (inn n) List.perm_append_comm).flatMap_right ptabs
theorem lTabs_perm (n : Nat) (qs : List Qn) : (qs.flatMap (lTab n)).Perm (qTabs n qs) := by
  unfold qTabs
  induction qs with
  | nil => exact List.Perm.refl _
  | cons q qs ih =>
    rw [List.flatMap_cons, List.flatMap_cons]
    exact (lTab_perm n q).append ih
theorem shapes_one {o i i' : List Str} {t t' : T} (h : ShapesOf o i t) (h' : ShapesOf o i' t') (p : i.Perm i') : t = t' := by
  obtain ⟨zs, a, h1, h2, h3, h4, rfl⟩ := h
  obtain ⟨zs', a', h1', h2', h3', h4', rfl⟩ := h'
  have pa : a.Perm a' := h4.trans (p.trans h4'.symm)
  have e : zs = zs' := sorted_one h1 h2 h1' h2' fun z => by rw [h3, h3', pa.mem_iff]
  rw [e, shp_perm pa]
theorem shp_mem {outer inner : List Str} (hl : outer.length + inner.length ≤ 29) {zs : List Str} : ∀ s ∈ shp outer inner zs, ∀ p ∈ s, p.1 ∈ zs ∧ p.2 ≤ 40 := by
  have key : ∀ (ys : List Str) (ss : List (List (Str × Nat))), (∀ y ∈ ys, y ∈ zs) → (∀ s ∈ ss, ∀ p ∈ s, p.1 ∈ zs ∧ p.2 ≤ 40) → ∀ s ∈ ys.foldl (fun ss z => stepS outer inner z ss) ss, ∀ p ∈ s, p.1 ∈ zs ∧ p.2 ≤ 40 := by
    intro ys
    induction ys with
    | nil => intro ss _ h; exact h
    | cons y ys ih =>
      intro ss hy h
      rw [List.foldl_cons]
      refine ih _ (fun z hz => hy z (List.mem_cons_of_mem _ hz)) fun s hs p hp => ?_
      obtain ⟨u, hu, hs⟩ := List.mem_flatMap.mp hs
      obtain ⟨k, hk, rfl⟩ := List.mem_map.mp hs
      rw [List.mem_range] at hk
      rcases List.mem_append.mp hp with hp | hp
      · exact h u hu p hp
      · rw [List.mem_singleton.mp hp]
        have h1 := rng_le hl y
        have h2 : lst1 outer y ≤ 1 := by unfold lst1; split <;> decide
        exact ⟨hy y List.mem_cons_self, by show lst1 outer y + k ≤ 40; omega⟩
  exact key zs [[]] (fun _ h => h) fun s hs p hp => by rw [List.mem_singleton.mp hs] at hp; cases hp
theorem ShapesOf.fine {o i : List Str} {t : T} (h : ShapesOf o i t) (f : FewS o i) (hn : ∀ z, z ∈ o ∨ z ∈ i → Nm z) : Fine t 5000000 3 := by
  obtain ⟨zs, a, h1, h2, h3, h4, rfl⟩ := h
  obtain ⟨T2, t2, q1, q2, q3⟩ := f.ex
  have fa : FewS o a := ⟨T2, t2, fun z hz => q1 z (h4.mem_iff.mp hz), q2, by rw [h4.length_eq]; exact q3⟩
  have hl : o.length + a.length ≤ 29 := by rw [h4.length_eq]; exact q3
  have sl := shp_len fa h2 fun z hz => (h3 z).mp hz
  have zl : zs.length ≤ 29 := by
    have := nodup_len (m := o ++ a) h2 fun z hz => List.mem_append.mpr ((h3 z).mp hz)
    rw [List.length_append] at this
    omega
  refine (fine_tup (n := 5000) (k := 2) fun x hx => ?_).mono (by rw [List.length_map]; omega) (Nat.le_refl _)
  obtain ⟨s, hs, rfl⟩ := List.mem_map.mp hx
  have le := shp_each s hs
  refine (fine_tup (n := 160) (k := 1) fun y hy => ?_).mono (by rw [List.length_map]; omega) (Nat.le_refl _)
  obtain ⟨p, hp, rfl⟩ := List.mem_map.mp hy
  obtain ⟨m1, m2⟩ := shp_mem hl s hs p hp
  have nz : Nm p.1 := hn _ (((h3 _).mp m1).imp id fun h => h4.mem_iff.mp h)
  exact (fine_sum (.cons (fine_word nz 0) (.cons (fine_int (i := (p.2 : Nat)) (Nat.lt_of_le_of_lt (show p.2 ≤ 40 from m2) (by decide))) .nil))).mono (by simp) (Nat.le_refl _)
/-! the questions that are drawn -/
def IP (tb : List Str) (p : T) : Prop := ∃ (l : List (Str × Str)) (x : T), 0 < l.length ∧ l.length ≤ 2 ∧ (∀ q ∈ l, Nm q.1 ∧ Nm q.2 ∧ q.2 ∈ tb) ∧ Part 1 x ∧ inn 1 x = [] ∧
  (p = .tup [.str "exists", .tup [.tup (l.map prT), x]] ∨ ∃ (w : Str) (y : T), (w = "only" ∨ w = "first") ∧ Part 1 y ∧ inn 1 y = [] ∧ p = .tup [.str w, .tup [.tup (l.map prT), x], y])
theorem IP.own {l : List (Str × Str)} {tb : List Str} (h : l.length ≤ 2) (k : ∀ q ∈ l, Nm q.1 ∧ Nm q.2 ∧ q.2 ∈ tb) : OwnT 2 (.tup (l.map prT)) := ⟨l, rfl, h, fun p hp => ⟨(k p hp).1, (k p hp).2.1⟩⟩
theorem IP.lp {tb : List Str} {p : T} (h : IP tb p) : LP 2 p := by
  obtain ⟨l, x, h0, h1, h2, h3, h4, rfl | ⟨w, y, hw, h5, h6, rfl⟩⟩ := h
  · exact .exists (IP.own h1 h2) h3 h4
  · exact .only hw (IP.own h1 h2) h3 h5 h4 h6
theorem IP.inn {tb : List Str} {p : T} (h : IP tb p) : inn 2 p = [p] := by
  obtain ⟨l, x, h0, h1, h2, h3, h4, rfl | ⟨w, y, hw, h5, h6, rfl⟩⟩ := h
  · rw [inn_exists (IP.own h1 h2) h3, h4]
  · rw [inn_only hw (IP.own h1 h2) h3 h5, h4, h6]
    rfl
theorem IP.tabs {tb : List Str} {p : T} (h : IP tb p) : (ptabs p).length ≤ 4 ∧ ∀ z ∈ ptabs p, Nm z ∧ z ∈ tb := by
  obtain ⟨l, x, h0, h1, h2, h3, h4, h5⟩ := h
  obtain ⟨w, r, rfl⟩ : ∃ (w : Str) (r : List T), p = .tup (.str w :: .tup [.tup (l.map prT), x] :: r) := by
    rcases h5 with rfl | ⟨w, y, _, _, _, rfl⟩
    · exact ⟨_, [], rfl⟩
    · exact ⟨_, [y], rfl⟩
  rw [ptabs_of]
  have mem : ∀ z ∈ l.map (·.2), Nm z ∧ z ∈ tb := fun z hz => by
    obtain ⟨q, hq, rfl⟩ := List.mem_map.mp hz
    exact (h2 q hq).2
  split
  · refine ⟨by rw [List.length_append, List.length_map]; omega, fun z hz => ?_⟩
    rcases List.mem_append.mp hz with h | h <;> exact mem z h
  · exact ⟨by rw [List.length_map]; omega, mem⟩
def HdI (x : T) : Prop := ∃ (w : Str) (r : List T), x = .tup (.str w :: r) ∧ (w = "only" ∨ w = "first" ∨ w = "plus")
def Hd (t : T) : Prop := ∀ (w : Str) (a b : T), t = .tup [.str w, a, b] → (w = "less" ∨ w = "most" ∨ w = "same") → HdI a ∨ HdI b
def spNamesM : Sp3 := fun ts M Q => ∃ dk c n, ∃ many : Int, ts = [.raw (.ref dk), .int many] ∧ DeckAt dk c M n ∧ n < 2 ^ 58 + 1000 ∧ 0 ≤ many ∧ many ≤ 17 ∧
  ∀ M' p (al : List Str), DeckAt dk c M' (n + 2) → Fr2 dk c M M' → M' p = none → al.length = many.toNat → (∀ a ∈ al, Nm a) → al.Nodup → Q (.raw (.ref p)) (mset M' p (.lst (al.map T.str)))
def spIPart : Sp3 := fun ts M Q => ∃ dk c pl n k, ∃ rl : List (Str × Str), ∃ tb : List Str, ts = [.raw (.ref dk), .tup (rl.map prT), .raw (.ref pl), .lst (tb.map T.str)] ∧ DeckAt dk c M n ∧ n < 2 ^ 58 + 500 ∧ pl ≠ dk ∧ pl ≠ c ∧ Pool pl (k + 2) M ∧ 0 < rl.length ∧ rl.length ≤ 4 ∧ (∀ q ∈ rl, Nm q.1) ∧ 0 < tb.length ∧ tb.length ≤ 20 ∧ (∀ z ∈ tb, Nm z) ∧
  ∀ M' p, DeckAt dk c M' (n + 6) → Fr3 dk c pl M M' → Pool pl k M' → IP tb p → Q p M'
def spCond : Sp3 := fun ts M Q => ∃ dk c n part, ∃ rl : List (Str × Str), ∃ tb : List Str, ts = [.raw (.ref dk), .tup (rl.map prT), part] ∧ DeckAt dk c M n ∧ n < 2 ^ 58 + 500 ∧ 0 < rl.length ∧ (∀ q ∈ rl, Nm q.1) ∧ (part = .non ∨ IP tb part) ∧
  ∀ M' t, DeckAt dk c M' (n + 6) → Fr2 dk c M M' → LP 6 t → (part = .non → inn 6 t = []) → (IP tb part → inn 6 t = [part] ∧ Hd t) → Q t M'
/-- a drawn question -/
structure DQ (tb : List Str) (q : Qn) : Prop where
  q5 : Q5 8 q.t
  lp : ∀ p ∈ wps q.wh q.hs, LP 8 p
  few : (qInn 8 q.wh q.hs).length ≤ 2
  ips : ∀ p ∈ qInn 8 q.wh q.hs, IP tb p
def spDrawnQ : Sp3 := fun ts M Q => ∃ dk c pl n, ∃ rl : List (Str × Str), ∃ tb : List Str, ts = [.raw (.ref dk), .tup (rl.map prT), .lst (tb.map T.str), .raw (.ref pl)] ∧ DeckAt dk c M n ∧ n < 2 ^ 58 + 400 ∧ pl ≠ dk ∧ pl ≠ c ∧ Pool pl 4 M ∧ 0 < rl.length ∧ rl.length ≤ 4 ∧ (∀ q ∈ rl, Nm q.1 ∧ Nm q.2) ∧ 0 < tb.length ∧ tb.length ≤ 20 ∧ (∀ z ∈ tb, Nm z) ∧
  ∀ M' q, DeckAt dk c M' (n + 40) → Fr3 dk c pl M M' → q.rl = rl → DQ tb q → Q q.t M'
/-- a pair of questions -/
structure PairOk (a b : Qn) : Prop where
  rl : a.rl = b.rl
  few : a.rl.length ≤ 4
  nm : ∀ q ∈ a.rl, Nm q.2
  ex : ∃ T2 tb : List Str, T2.length ≤ 2 ∧ (∀ z ∈ tb, z ∈ T2) ∧ (∀ z ∈ a.rl.map (·.2), z ∉ T2 → (a.rl.map (·.2)).count z = 1) ∧ DQ tb a ∧ DQ tb b
def spPair : Sp3 := fun ts M Q => ∃ dk c n, ts = [.raw (.ref dk)] ∧ DeckAt dk c M n ∧ n + 1000 < 2 ^ 58 ∧ ∀ M' a b, DeckAt dk c M' (n + 200) → PairOk a b → Q (.lst [a.t, b.t]) M'
theorem DQ.tabs {tb : List Str} {q : Qn} (h : DQ tb q) : (qTab 8 q.wh q.hs).length ≤ 8 ∧ ∀ z ∈ qTab 8 q.wh q.hs, Nm z ∧ z ∈ tb := by
  have h1 := h.few
  have h2 := h.ips
  unfold qTab
  generalize qInn 8 q.wh q.hs = l at h1 h2
  refine ⟨?_, fun z hz => ?_⟩
  · match l, h1, h2 with
    | [], _, _ => exact Nat.zero_le _
    | [x], _, h2 => have := (h2 x (by simp)).tabs.1; simp; omega
    | [x, y], _, h2 =>
      have := (h2 x (by simp)).tabs.1
      have := (h2 y (by simp)).tabs.1
      simp
      omega
  · obtain ⟨p, hp, hz⟩ := List.mem_flatMap.mp hz
    exact (h2 p hp).tabs.2 z hz
theorem PairOk.few_of {a b : Qn} (h : PairOk a b) {qs : List Qn} (hq : ∀ q ∈ qs, q = a ∨ q = b) (hl : qs.length ≤ 3) : FewS (a.rl.map (·.2)) (qTabs 8 qs) ∧ ∀ z, z ∈ a.rl.map (·.2) ∨ z ∈ qTabs 8 qs → Nm z := by
  obtain ⟨T2, tb, t2, h1, h2, da, db⟩ := h.ex
  have each : ∀ q ∈ qs, (qTab 8 q.wh q.hs).length ≤ 8 ∧ ∀ z ∈ qTab 8 q.wh q.hs, Nm z ∧ z ∈ tb := fun q hm => by
    rcases hq q hm with rfl | rfl
    · exact da.tabs
    · exact db.tabs
  have len : ∀ l : List Qn, (∀ q ∈ l, q ∈ qs) → (qTabs 8 l).length ≤ l.length * 8 := by
    intro l
    induction l with
    | nil => intro _; exact Nat.zero_le _
    | cons x l ih =>
      intro hm
      have h3 := (each x (hm x List.mem_cons_self)).1
      have h4 := ih fun y hy => hm y (List.mem_cons_of_mem _ hy)
      unfold qTabs at h4 ⊢
      rw [List.flatMap_cons, List.length_append, List.length_cons]
      omega
  have l1 := len qs fun _ h => h
  have l2 := h.few
  refine ⟨⟨T2, t2, fun z hz => ?_, h2, by rw [List.length_map]; omega⟩, fun z hz => ?_⟩
  · obtain ⟨q, hm, hz⟩ := List.mem_flatMap.mp hz
    exact h1 z ((each q hm).2 z hz).2
  · rcases hz with hz | hz
    · obtain ⟨p, hp, rfl⟩ := List.mem_map.mp hz
      exact h.nm p hp
    · obtain ⟨q, hm, hz⟩ := List.mem_flatMap.mp hz
      exact ((each q hm).2 z hz).1
def spLaw : Sp3 := fun ts M Q => ∃ ns : List Int, ts = [.scr (ns.map T.int)] ∧ ns.length ≤ 63 ∧ (∀ a, M a = none) ∧ ∀ M', Q (.bl true) M'
theorem lp_two {m : Nat} {w : Str} {a b : T} (h : LP m (.tup [.str w, a, b])) (hw : w = "less" ∨ w = "most" ∨ w = "same") : ∃ k, m = k + 1 ∧ LP k a ∧ LP k b := by
  cases h with
  | col _ _ => rcases hw with h | h | h <;> exact absurd h (by decide)
  | plus h _ _ => rcases hw with rfl | rfl | rfl <;> rcases h with h | h <;> exact absurd h (by decide)
  | two _ ha hb => exact ⟨_, rfl, ha, hb⟩
  | only h _ _ _ _ _ => rcases hw with rfl | rfl | rfl <;> rcases h with h | h <;> exact absurd h (by decide)
def headP (t : T) : Bool := match t with
  | .tup (.str w :: _) => inT (.str w) [.str "only", .str "first", .str "plus"]
  | _ => false
theorem headP_of {t : T} (h : HdI t) : headP t = true := by
  have e : inT (.str "only") [.str "only", .str "first", .str "plus"] = true ∧ inT (.str "first") [.str "only", .str "first", .str "plus"] = true ∧ inT (.str "plus") [.str "only", .str "first", .str "plus"] = true := by decide +kernel
  obtain ⟨w, r, rfl, rfl | rfl | rfl⟩ := h
  · exact e.1
  · exact e.2.1
  · exact e.2.2
def bsel : Bool → T → List T
  | true, x => [x]
  | false, _ => []

variable {P : Program} {w : World} {K : PySem.W.Frag} {mg : Str → Option Value} {base : Heap}
section
local macro_rules | `(tactic| simp only [EV, $ls,*]) => `(tactic| simp only [EV1, sSeq, sPar, sPut, sIf, sSet, sDrop, sRet, sRetN, sNext, dOp2, dOp1, dVar, dC, dB, dTup, dLst, dLstM, dNil, dCons, dSl, doNone, doSome, dCall, dLm, $ls,*])
local macro_rules | `(tactic| simp only [EV1, $ls,*]) => `(tactic| simp only [EV2, dLm0, dSm, dAnd, dOr, dNot, dAndV, dOrV, dIf, dChain, dFn, dFn0, dYes, dDisp, dDispM, dPairs, keysT, dNewD, dNewDM, oAdd, oSub, oMul, oFdiv, oMod, oPow, $ls,*])
local macro_rules | `(tactic| simp only [EV2, $ls,*]) => `(tactic| simp only [EV3, oInt2, oNeg, oIx, oSl, oRev, oRevM, oLt, oLe, oGt, oGe, oOrd, oIsN, L3.isNon, oNotB, oDGet, oDIn, oIn, oInS, mAppend, mPop, mJoin, isL, isS, fLen, $ls,*])
local macro_rules | `(tactic| simp only [EV3, $ls,*]) => `(tactic| simp only [EV4, fIsi, fAbs, fList, fListM, fTuple, fInt, fRepr, fBls, seqOf, tyT, look, keyT, Pat.set, start3, pick, List.getElem?_cons_zero, List.getElem?_cons_succ, List.set_cons_zero, List.set_cons_succ, List.map_cons, List.map_nil, List.length_cons, List.length_nil, List.nil_append, $ls,*])
local macro_rules | `(tactic| simp only [EV4, $ls,*]) => `(tactic| simp only [EV5, List.cons_append, List.replicate_succ, List.replicate_zero, Nat.reduceSub, Nat.reduceAdd, flatOf, kit_NoneType_str, kit_bool_str, kit_int_str, kit_str_str, kit_tuple_str, kit_list_str, kit_dict_str, kit_NoneType_int, kit_bool_int, kit_int_int, kit_str_int, kit_tuple_int, kit_list_int, kit_dict_int, kit_NoneType_bool, kit_bool_bool, kit_int_bool, kit_str_bool, $ls,*])
local macro_rules | `(tactic| simp only [EV5, $ls,*]) => `(tactic| simp only [EV6, kit_tuple_bool, kit_list_bool, kit_dict_bool, kit_NoneType_tuple, kit_bool_tuple, kit_int_tuple, kit_str_tuple, kit_tuple_tuple, kit_list_tuple, kit_dict_tuple, kit_NoneType_list, kit_bool_list, kit_int_list, kit_str_list, kit_tuple_list, kit_list_list, kit_dict_list, kit_NoneType_dict, kit_bool_dict, kit_int_dict, kit_str_dict, kit_tuple_dict, kit_list_dict, kit_dict_dict, $ls,*])
local macro_rules | `(tactic| simp only [EV6, $ls,*]) => `(tactic| simp only [EV7, Bool.false_eq_true, if_false, if_true, reduceIte, true_and, sz_0, sz_1, sz_2, sz_3, sz_4, sz_5, sz_6, sz_7, sz_8, sz_9, sz_10, sz_11, sz_12, sz_13, sz_14, sz_15, sz_16, sz_17, sz_18, $ls,*])
local macro_rules | `(tactic| simp only [EV7, $ls,*]) => `(tactic| simp only [EV8, sz_19, sz_20, sz_21, sz_22, sz_23, sz_24, sz_25, sz_26, sz_27, sz_28, sz_29, sz_30, sz_31, sz_32, sz_33, sz_34, sz_35, sz_36, sz_37, sz_38, sz_39, sz_40, sz_41, sz_42, $ls,*])
local macro_rules | `(tactic| simp only [EV8, $ls,*]) => `(tactic| simp only [EV9, sz_43, sz_44, sz_45, sz_46, sz_47, atI_c0, atI_c1, atI_c2, atI_c3, atI_c4, List.append_nil, List.filterMap_cons, List.filterMap_nil, and_self, dStar, mSplit, fSortS, fSortT, L3.setAll, mExtend, dKGet, eqb_ss, eqb_ii, eqb_bb, $ls,*])
local macro_rules | `(tactic| simp only [EV9, $ls,*]) => `(tactic| simp only [EV10, eqb_nn, eqb_ni, eqb_in, eqb_ns, eqb_sn, eqb_is, eqb_si, Bool.not_true, Bool.not_false, flatT, List.all_cons, List.all_nil, Bool.and_self, sMatch, sCases, eqS_str, decide_true, Bool.or_false, Bool.or_true, Bool.true_or, Bool.or_self, wx_column_column, wx_column_value, wx_column_plus, $ls,*])
local macro_rules | `(tactic| simp only [EV10, $ls,*]) => `(tactic| simp only [EV11, wx_column_is, wx_column_not, wx_column_less, wx_column_most, wx_column_same, wx_column_and, wx_column_or, wx_column_exists, wx_column_only, wx_column_first, wx_value_column, wx_value_value, wx_value_plus, wx_value_is, wx_value_not, wx_value_less, wx_value_most, wx_value_same, wx_value_and, wx_value_or, wx_value_exists, wx_value_only, wx_value_first, wx_plus_column, $ls,*])
local macro_rules | `(tactic| simp only [EV11, $ls,*]) => `(tactic| simp only [EV12, wx_plus_value, wx_plus_plus, wx_plus_is, wx_plus_not, wx_plus_less, wx_plus_most, wx_plus_same, wx_plus_and, wx_plus_or, wx_plus_exists, wx_plus_only, wx_plus_first, wx_is_column, wx_is_value, wx_is_plus, wx_is_is, wx_is_not, wx_is_less, wx_is_most, wx_is_same, wx_is_and, wx_is_or, wx_is_exists, wx_is_only, $ls,*])
local macro_rules | `(tactic| simp only [EV12, $ls,*]) => `(tactic| simp only [EV13, wx_is_first, wx_not_column, wx_not_value, wx_not_plus, wx_not_is, wx_not_not, wx_not_less, wx_not_most, wx_not_same, wx_not_and, wx_not_or, wx_not_exists, wx_not_only, wx_not_first, wx_less_column, wx_less_value, wx_less_plus, wx_less_is, wx_less_not, wx_less_less, wx_less_most, wx_less_same, wx_less_and, wx_less_or, $ls,*])
local macro_rules | `(tactic| simp only [EV13, $ls,*]) => `(tactic| simp only [EV14, wx_less_exists, wx_less_only, wx_less_first, wx_most_column, wx_most_value, wx_most_plus, wx_most_is, wx_most_not, wx_most_less, wx_most_most, wx_most_same, wx_most_and, wx_most_or, wx_most_exists, wx_most_only, wx_most_first, wx_same_column, wx_same_value, wx_same_plus, wx_same_is, wx_same_not, wx_same_less, wx_same_most, wx_same_same, $ls,*])
local macro_rules | `(tactic| simp only [EV14, $ls,*]) => `(tactic| simp only [EV15, wx_same_and, wx_same_or, wx_same_exists, wx_same_only, wx_same_first, wx_and_column, wx_and_value, wx_and_plus, wx_and_is, wx_and_not, wx_and_less, wx_and_most, wx_and_same, wx_and_and, wx_and_or, wx_and_exists, wx_and_only, wx_and_first, wx_or_column, wx_or_value, wx_or_plus, wx_or_is, wx_or_not, wx_or_less, $ls,*])
local macro_rules | `(tactic| simp only [EV15, $ls,*]) => `(tactic| simp only [EV16, wx_or_most, wx_or_same, wx_or_and, wx_or_or, wx_or_exists, wx_or_only, wx_or_first, wx_exists_column, wx_exists_value, wx_exists_plus, wx_exists_is, wx_exists_not, wx_exists_less, wx_exists_most, wx_exists_same, wx_exists_and, wx_exists_or, wx_exists_exists, wx_exists_only, wx_exists_first, wx_only_column, wx_only_value, wx_only_plus, wx_only_is, $ls,*])
local macro_rules | `(tactic| simp only [EV16, $ls,*]) => `(tactic| simp only [EV17, wx_only_not, wx_only_less, wx_only_most, wx_only_same, wx_only_and, wx_only_or, wx_only_exists, wx_only_only, wx_only_first, wx_first_column, wx_first_value, wx_first_plus, wx_first_is, wx_first_not, wx_first_less, wx_first_most, wx_first_same, wx_first_and, wx_first_or, wx_first_exists, wx_first_only, wx_first_first, mExt, mCount, $ls,*])
local macro_rules | `(tactic| simp only [EV17, $ls,*]) => `(tactic| simp only [dFnV, dSortSet, $ls,*])
theorem ok_sub_parts (E : Fns K mg) : FnD P w K mg base 1 E.f_sub_parts E.fd_sub_parts ["part"] spSub := by
  have nd := sc_sub_parts.nd
  refine okD E.F_sub_parts sc_sub_parts ?len fun cdv A outer s H X hr hgd => ⟨_, (dss_cons (ds_match (d_ix (d_var 0) d_int (fun _ _ => rfl)) (.cons (mt_or (mf_cons mt_val (mf_cons mt_val mf_nil))) (dss_one (ds_ret (d_tup da_nil)))
  (.cons (mt_or (mf_cons mt_val (mf_cons mt_val (mf_cons mt_val mf_nil)))) (dss_one (ds_ret (d_tup (da_cons (d_ix (d_var 0) d_int (fun _ _ => rfl)) da_nil))))
  (.cons mt_val (dss_one (ds_ret (d_tup (da_cons (d_ix (d_ix (d_var 0) d_int (fun _ _ => rfl)) d_int (fun _ _ => rfl)) da_nil))))
  (.cons (mt_or (mf_cons mt_val (mf_cons mt_val mf_nil))) (dss_one (ds_ret (d_tup (da_cons (d_ix (d_ix (d_var 0) d_int (fun _ _ => rfl)) d_int (fun _ _ => rfl)) (da_cons (d_ix (d_var 0) d_int (fun _ _ => rfl)) da_nil)))))
  .nil)))))
  (dss_one (ds_ret (d_slice (d_var 0) (do_some d_int) do_none)))), ?_⟩
  case len =>
    rintro ts M Q ⟨n, p, rfl, _⟩
    rfl
  · rintro ts M Q ⟨n, p, rfl, hp, q⟩
    cases hp with
    | col ha hb =>
      rw [kids_col] at q
      simp only [EV, dC]
      exact q
    | val hv =>
      rw [kids_val] at q
      simp only [EV, dC]
      exact q
    | @plus n w x v hw hx hv =>
      rw [kids_plus hw] at q
      rcases hw with rfl | rfl <;> simp only [EV, dC] <;> exact q
    | @not n x hx =>
      rw [kids_not] at q
      simp only [EV, dC]
      exact q
    | @two n w x y hw hx hy =>
      rw [kids_two hw] at q
      have e : cutT [T.str w, x, y] (some 1) none = [x, y] := cut_from 1
      rcases hw with rfl | rfl | rfl | rfl | rfl <;> simp only [EV, e] <;> exact q
    | @«exists» n o x ho hx =>
      rw [kids_exists] at q
      simp only [EV, dC]
      exact q
    | @only n w o x y hw ho hx hy =>
      rw [kids_only hw] at q
      rcases hw with rfl | rfl <;> simp only [EV, dC] <;> exact q

end
section
local macro_rules | `(tactic| simp only [EV, $ls,*]) => `(tactic| simp only [EV1, sSeq, sPar, sPut, sIf, sSet, sDrop, sRet, sRetN, sNext, dOp2, dOp1, dVar, dC, dB, dTup, dLst, dLstM, dNil, dCons, dSl, doNone, doSome, dCall, dLm, $ls,*])
local macro_rules | `(tactic| simp only [EV1, $ls,*]) => `(tactic| simp only [EV2, dLm0, dSm, dAnd, dOr, dNot, dAndV, dOrV, dIf, dChain, dFn, dFn0, dYes, dDisp, dDispM, dPairs, keysT, dNewD, dNewDM, oAdd, oSub, oMul, oFdiv, oMod, oPow, $ls,*])
local macro_rules | `(tactic| simp only [EV2, $ls,*]) => `(tactic| simp only [EV3, oInt2, oNeg, oIx, oSl, oRev, oRevM, oLt, oLe, oGt, oGe, oOrd, oIsN, L3.isNon, oNotB, oDGet, oDIn, oIn, oInS, mAppend, mPop, mJoin, isL, isS, fLen, $ls,*])
local macro_rules | `(tactic| simp only [EV3, $ls,*]) => `(tactic| simp only [EV4, fIsi, fAbs, fList, fListM, fTuple, fInt, fRepr, fBls, seqOf, tyT, look, keyT, Pat.set, start3, pick, List.getElem?_cons_zero, List.getElem?_cons_succ, List.set_cons_zero, List.set_cons_succ, List.map_cons, List.map_nil, List.length_cons, List.length_nil, List.nil_append, $ls,*])
local macro_rules | `(tactic| simp only [EV4, $ls,*]) => `(tactic| simp only [EV5, List.cons_append, List.replicate_succ, List.replicate_zero, Nat.reduceSub, Nat.reduceAdd, flatOf, kit_NoneType_str, kit_bool_str, kit_int_str, kit_str_str, kit_tuple_str, kit_list_str, kit_dict_str, kit_NoneType_int, kit_bool_int, kit_int_int, kit_str_int, kit_tuple_int, kit_list_int, kit_dict_int, kit_NoneType_bool, kit_bool_bool, kit_int_bool, kit_str_bool, $ls,*])
local macro_rules | `(tactic| simp only [EV5, $ls,*]) => `(tactic| simp only [EV6, kit_tuple_bool, kit_list_bool, kit_dict_bool, kit_NoneType_tuple, kit_bool_tuple, kit_int_tuple, kit_str_tuple, kit_tuple_tuple, kit_list_tuple, kit_dict_tuple, kit_NoneType_list, kit_bool_list, kit_int_list, kit_str_list, kit_tuple_list, kit_list_list, kit_dict_list, kit_NoneType_dict, kit_bool_dict, kit_int_dict, kit_str_dict, kit_tuple_dict, kit_list_dict, kit_dict_dict, $ls,*])
local macro_rules | `(tactic| simp only [EV6, $ls,*]) => `(tactic| simp only [EV7, Bool.false_eq_true, if_false, if_true, reduceIte, true_and, sz_0, sz_1, sz_2, sz_3, sz_4, sz_5, sz_6, sz_7, sz_8, sz_9, sz_10, sz_11, sz_12, sz_13, sz_14, sz_15, sz_16, sz_17, sz_18, $ls,*])
local macro_rules | `(tactic| simp only [EV7, $ls,*]) => `(tactic| simp only [EV8, sz_19, sz_20, sz_21, sz_22, sz_23, sz_24, sz_25, sz_26, sz_27, sz_28, sz_29, sz_30, sz_31, sz_32, sz_33, sz_34, sz_35, sz_36, sz_37, sz_38, sz_39, sz_40, sz_41, sz_42, $ls,*])
local macro_rules | `(tactic| simp only [EV8, $ls,*]) => `(tactic| simp only [EV9, sz_43, sz_44, sz_45, sz_46, sz_47, atI_c0, atI_c1, atI_c2, atI_c3, atI_c4, List.append_nil, List.filterMap_cons, List.filterMap_nil, and_self, dStar, mSplit, fSortS, fSortT, L3.setAll, mExtend, dKGet, eqb_ss, eqb_ii, eqb_bb, $ls,*])
local macro_rules | `(tactic| simp only [EV9, $ls,*]) => `(tactic| simp only [eqb_nn, eqb_ni, eqb_in, eqb_ns, eqb_sn, eqb_is, eqb_si, Bool.not_true, Bool.not_false, flatT, List.all_cons, List.all_nil, Bool.and_self, mExt, mCount, dFnV, dSortSet, sUnl, $ls,*])
theorem ok_inner_parts (E : Fns K mg) (G_sub_parts : FnD P w K mg base 1 E.f_sub_parts E.fd_sub_parts ["part"] spSub) : FnD P w K mg base 2 E.f_inner_parts E.fd_inner_parts ["question"] spInnP := by
  have nd := sc_inner_parts.nd
  refine okF E.F_inner_parts sc_inner_parts ?len fun cdv A outer s H X hr hgd => ⟨_, (dss_cons (ds_set 1 nd rfl (by first | exact Or.inl rfl | exact Or.inr rfl) (d_listM (by rfl) E.m_list (da_cons (d_ix (d_var 0) d_int (fun _ _ => rfl)) da_nil)))
  (dss_cons (ds_if (dt_notN (d_ix (d_var 0) d_int (fun _ _ => rfl)))
  (dss_one (ds_expr (d_append (d_var 1) (da_cons (d_ix (d_var 0) d_int (fun _ _ => rfl)) da_nil))))
  dss_nil)
  (dss_cons (ds_set 2 nd rfl (by first | exact Or.inl rfl | exact Or.inr rfl) (d_lstM da_nil))
  (dss_cons (ds_while PassesOwn.never (dt_ne hr.units (d_var 1) (d_lst da_nil))
  (dss_cons (ds_set 3 nd rfl (by first | exact Or.inl rfl | exact Or.inr rfl) (d_pop (d_var 1)))
  (dss_cons (ds_if (dt_in (d_ix (d_var 3) d_int (fun _ _ => rfl)) (d_gv (by rfl) E.v_INNER_WORDS) (by rfl))
  (dss_one (ds_expr (d_append (d_var 2) (da_cons (d_var 3) da_nil))))
  dss_nil)
  (dss_one (ds_expr (d_ext (d_var 1) (da_cons (d_fn G_sub_parts (hr.mono (by decide)) hgd (by rfl) E.g_sub_parts E.F_sub_parts.kp (kb_sub_parts_1 E) (da_cons (d_var 3) da_nil) dk_nil) da_nil)))))))
  (dss_one (ds_ret (d_var 2))))))), ?_⟩
  case len =>
    rintro ts M Q ⟨n, refs, wh, hs, ord, lim, rfl, _⟩
    rfl
  · rintro ts M Q ⟨n, refs, wh, hs, ord, lim, rfl, hq, hn, q⟩
    obtain ⟨refs', wh', hs', ord', lim', e, h1, h2, h3, h4, h5, h6⟩ := hq.ex
    cases e
    have c12 : cntP n ≤ 2047 := Nat.le_trans (cnt_le hn) (by decide)
    have hwl : (wps wh hs).length ≤ 5 := by
      unfold wps
      rw [List.length_append]
      split <;> simp <;> omega
    have hwp : ∀ w ∈ wps wh hs, Part n w := by
      intro w hw
      rcases List.mem_append.mp hw with h | h
      · exact h4 w h
      · split at h
        · cases h
        · rename_i hno
          rw [List.mem_singleton.mp h]
          rcases h2 with rfl | h2
          · exact absurd rfl hno
          · exact h2
    have sumle : ∀ (k : Nat) (f : T → List T) (zs : List T), (∀ z ∈ zs, (f z).length ≤ k) → (zs.flatMap f).length ≤ zs.length * k := by
      intro k f zs
      induction zs with
      | nil => intro _; simp
      | cons z zs ih =>
        intro h
        have a := h z List.mem_cons_self
        have b := ih fun y hy => h y (List.mem_cons_of_mem _ hy)
        rw [List.flatMap_cons, List.length_append, List.length_cons, Nat.succ_mul]
        omega
    have main : ∀ (p1 : Addr) (M1 : Mp), M p1 = none → M1 p1 = some (.lst (wps wh hs)) → SubM M M1 →
        ∀ p2, M1 p2 = none → sWhile (dB (dOp2 (oEqB true) (dVar 1) (dLst dNil)))
          (sSeq (sSet (Pat.nm 3) (dLm0 mPop (dVar 1)))
            (sSeq (sIf (dB (dOp2 (oIn false) (dOp2 oIx (dVar 3) (dC (.int 0))) (dC (.tup [.str "exists", .str "only", .str "first"])))) (sDrop (dLm mAppend (dVar 2) (dCons (dVar 3) dNil))) sNext)
              (sDrop (dLm mExt (dVar 1) (dCons (dFn spSub 1 0 [0] [] (dCons (dVar 3) dNil) dNil) dNil)))))
          { nx := sRet (dVar 2) { nx := fun _ M' => Fz Q .non M', rt := Fz Q }, rt := Fz Q } [some (.tup [refs, wh, .tup hs, ord, lim]), some (.raw (.ref p1)), some (.raw (.ref p2)), none] (mset M1 p2 (.lst [])) := by
      intro p1 M1 hp1 hm1 hs1 p2 hp2
      have p12 : p1 ≠ p2 := fun z => by rw [z, hp2] at hm1; cases hm1
      have hp2M : M p2 = none := by
        cases e : M p2 with
        | none => rfl
        | some o => rw [hs1 p2 o e] at hp2; cases hp2
      refine ⟨_, whileL_of (fun k ss M' => ∃ (fs ws : List T) (a : Option T), ss = [some (.tup [refs, wh, .tup hs, ord, lim]), some (.raw (.ref p1)), some (.raw (.ref p2)), a] ∧ M' p2 = some (.lst fs) ∧ M' p1 = some (.lst ws) ∧ SubM M M' ∧
        (∀ w ∈ ws, Part n w) ∧ (fs ++ ws.flatMap (inn n)).Perm (qInn n wh hs) ∧ k = (ws.flatMap (allT n)).length ∧ k ≤ 5 * cntP n) ?_ _ _ (Nat.lt_succ_self _)
        ⟨[], wps wh hs, none, rfl, mset_same, (mset_ne p12).trans hm1, hs1.mset hp2M, hwp, List.Perm.refl _, rfl, Nat.le_trans (sumle (cntP n) (allT n) _ fun z hz => allT_len (hwp z hz)) (Nat.mul_le_mul_right _ hwl)⟩⟩
      rintro k ss M' ⟨fs, ws, a, rfl, h1', h2', hsM, hw, hf, rfl, hk⟩ N hN
      have hfl : fs.length ≤ 5 * 2047 := by
        have h7 := hf.length_eq
        rw [List.length_append] at h7
        have h8 := sumle (cntP n) (inn n) (wps wh hs) fun z hz => inn_len (hwp z hz)
        have h9 : (qInn n wh hs).length ≤ 5 * cntP n := Nat.le_trans h8 (Nat.mul_le_mul_right _ hwl)
        omega
      simp only [EV, dC]
      refine eq_nilM h2' (fun t ht => (hw t ht).shk.mono (by omega)) ?_
      rcases List.eq_nil_or_concat ws with rfl | ⟨vs, x, rfl⟩
      · simp only [EV, decide_true, Bool.not_true]
        refine .lst h1' hsM hp2M (q fs ?_)
        simpa using hf
      · rw [List.concat_eq_append] at h2' hw hf hk hN
        rw [List.concat_eq_append]
        have hx : Part n x := hw x (by simp)
        have ne : decide (vs ++ [x] = []) = false := decide_eq_false (by simp)
        have e1 : (vs ++ [x])[(vs ++ [x]).length - 1]? = some x := by simp
        have e2 : (vs ++ [x]).dropLast = vs := by simp
        have ko := hx.kidsOk
        have kf : (kids x).length ≤ 2 := ko.few
        have hvl : ∀ us : List T, us.length ≤ (us.flatMap (allT n)).length := fun us => by
          induction us with
          | nil => exact Nat.le_refl _
          | cons z us ih => rw [List.flatMap_cons, List.length_append, List.length_cons]; have := allT_pos (n := n) (p := z); omega
        have hv := hvl (vs ++ [x])
        have st := allT_step hx
        have sn := inn_step hx
        have hk2 := hk
        rw [List.flatMap_append, List.flatMap_cons, List.flatMap_nil, List.append_nil] at hf
        rw [List.flatMap_append, List.flatMap_cons, List.flatMap_nil, List.append_nil, List.length_append, st, List.length_cons] at hk2
        simp only [List.length_append, List.length_cons, List.length_nil] at hv
        have el : ((kids x).map (·.2)).flatMap (allT n) = (kids x).flatMap fun y => allT n y.2 := List.flatMap_map ..
        have ei : ((kids x).map (·.2)).flatMap (inn n) = (kids x).flatMap fun y => inn n y.2 := List.flatMap_map ..
        have fin : ∀ (fs' : List T) (M2 : Mp), M2 p2 = some (.lst fs') → M2 p1 = some (.lst (vs ++ (kids x).map (·.2))) → SubM M M2 → (fs' ++ (vs.flatMap (inn n) ++ (kids x).flatMap fun y => inn n y.2)).Perm (qInn n wh hs) →
            N [some (.tup [refs, wh, .tup hs, ord, lim]), some (.raw (.ref p1)), some (.raw (.ref p2)), some x] M2 := fun fs' M2 i1 i2 i3 i4 => by
          refine hN _ _ _ ?_ ⟨fs', vs ++ (kids x).map (·.2), some x, rfl, i1, i2, i3, fun w hw' => ?_, ?_, rfl, ?_⟩
          · rw [List.flatMap_append, el, List.length_append, List.flatMap_append, List.flatMap_cons, List.flatMap_nil, List.append_nil, List.length_append, st, List.length_cons]
            omega
          · rcases List.mem_append.mp hw' with h | h
            · exact hw w (List.mem_append_left _ h)
            · obtain ⟨y, hy, rfl⟩ := List.mem_map.mp h
              obtain ⟨m, e, _, _, hh⟩ := ko.each y hy
              exact hh.part.mono (by omega)
          · rw [List.flatMap_append, ei]
            exact i4
          · rw [List.flatMap_append, el, List.length_append]
            omega
        obtain ⟨xw, xa, xr, rfl⟩ := hx.head
        simp only [EV, ne, h1', h2', e1, e2, mset_ne p12, mset_ne p12.symm, Bool.not_false]
        have ein : inT (.str xw) [.str "exists", .str "only", .str "first"] = isIn (.tup (.str xw :: xa :: xr)) := by
          have e : ∀ a b : Str, eqF (.str a) (.str b) = decide (b = a) := fun a b => by
            show decide (a = b) = decide (b = a)
            exact decide_eq_decide.mpr eq_comm
          unfold inT isIn
          simp only [List.any_cons, List.any_nil, Bool.or_false, e]
        rw [ein]
        cases hj : isIn (.tup (.str xw :: xa :: xr)) with
        | true =>
          rw [hj, if_pos rfl] at sn
          simp only [EV, mset_ne p12, mset_ne p12.symm, mset_same, h1']
          refine ⟨sz' (by omega), n, _, rfl, hx, ?_⟩
          simp only [EV, mset_ne p12, mset_ne p12.symm, mset_same]
          refine ⟨sz (by rw [List.length_map]; omega), fin (fs ++ [.tup (.str xw :: xa :: xr)]) _ ?_ mset_same ?_ ?_⟩
          · rw [mset_ne p12.symm, mset_same]
          · exact ((hsM.mset hp1).mset hp2M).mset hp1
          · rw [sn] at hf
            refine List.Perm.trans ?_ hf
            rw [List.append_assoc]
            refine List.Perm.append_left _ ?_
            have pm : ([T.tup (.str xw :: xa :: xr)] ++ vs.flatMap (inn n)).Perm (vs.flatMap (inn n) ++ [T.tup (.str xw :: xa :: xr)]) := List.perm_append_comm
            rw [← List.append_assoc, ← List.append_assoc]
            exact pm.append_right _
        | false =>
          rw [hj] at sn
          simp only [Bool.false_eq_true, if_false, List.nil_append] at sn
          simp only [EV, mset_same]
          refine ⟨n, _, rfl, hx, ?_⟩
          simp only [EV, mset_ne p12, mset_ne p12.symm, mset_same]
          refine ⟨sz (by rw [List.length_map]; omega), fin fs _ ?_ mset_same ?_ ?_⟩
          · rw [mset_ne p12.symm, mset_ne p12.symm]
            exact h1'
          · exact (hsM.mset hp1).mset hp1
          · rw [sn] at hf
            exact hf
    simp only [sSeq, sPar, sPut, sIf, sSet, sDrop, sRet, sRetN, sNext, dOp2, dOp1, dVar, dC, dB, dTup, dLst, dLstM, dNil, dCons, dSl, doNone, doSome, dCall, dLm, dLm0, dSm, dAnd, dOr, dNot, dAndV, dOrV, dIf, dChain, dFn, dFn0, dYes, dDisp, dDispM, dPairs, keysT, dNewD, dNewDM,
 oAdd, oSub, oMul, oFdiv, oMod, oPow, oInt2, oNeg, oIx, oSl, oRev, oRevM, oLt, oLe, oGt, oGe, oOrd, oIsN, oNotB, oDGet, oDIn, oIn, oInS, mAppend, mPop, mJoin, isL, isS, fLen, fIsi, fAbs, fList, fListM, fTuple, fInt, fRepr, fBls, seqOf, tyT,
 look, keyT, Pat.set, start3, pick, List.getElem?_cons_zero, List.getElem?_cons_succ, List.set_cons_zero, List.set_cons_succ, List.map_cons, List.map_nil, List.length_cons, List.length_nil, List.nil_append, List.cons_append, List.replicate_succ, List.replicate_zero, Nat.reduceSub, Nat.reduceAdd, flatOf, kit_NoneType_str, kit_bool_str, kit_int_str, kit_str_str, kit_tuple_str, kit_list_str, kit_dict_str, kit_NoneType_int, kit_bool_int, kit_int_int, kit_str_int, kit_tuple_int, kit_list_int, kit_dict_int, kit_NoneType_bool, kit_bool_bool, kit_int_bool, kit_str_bool, kit_tuple_bool, kit_list_bool, kit_dict_bool, kit_NoneType_tuple, kit_bool_tuple, kit_int_tuple, kit_str_tuple, kit_tuple_tuple, kit_list_tuple, kit_dict_tuple, kit_NoneType_list, kit_bool_list, kit_int_list, kit_str_list, kit_tuple_list, kit_list_list, kit_dict_list, kit_NoneType_dict, kit_bool_dict, kit_int_dict, kit_str_dict, kit_tuple_dict, kit_list_dict, kit_dict_dict, Bool.false_eq_true, if_false, if_true, reduceIte, true_and, sz_0, sz_1, sz_2, sz_3, sz_4, sz_5, sz_6, sz_7, sz_8, sz_9, sz_10, sz_11, sz_12, sz_13, sz_14, sz_15, sz_16, sz_17, sz_18, sz_19, sz_20, sz_21, sz_22, sz_23, sz_24, sz_25, sz_26, sz_27, sz_28, sz_29, sz_30, sz_31, sz_32, sz_33, sz_34, sz_35, sz_36, sz_37, sz_38, sz_39, sz_40, sz_41, sz_42, sz_43, sz_44, sz_45, sz_46, sz_47, atI_c0, atI_c1, atI_c2, atI_c3, atI_c4, List.append_nil, List.filterMap_cons, List.filterMap_nil, and_self, dStar, mSplit, fSortS, fSortT, L3.setAll, mExtend, dKGet, dB, oIn, seqOf, eqb_ss, eqb_ii, eqb_bb, eqb_nn, eqb_ni, eqb_in, eqb_ns, eqb_sn, eqb_is, eqb_si, Bool.not_true, Bool.not_false, flatT, List.all_cons, List.all_nil, Bool.and_self, mExt, mCount, dFnV, dSortSet, sUnl]
    intro p1 hp1
    rcases h2 with rfl | h2
    · simp only [EV, dC]
      exact main p1 _ hp1 (by rw [mset_same]; unfold wps; rw [if_pos (show isNo .non = true from rfl), List.append_nil]) (SubM.new hp1)
    · have nn : L3.isNon wh = some false := by cases h2 <;> rfl
      have no : isNo wh = false := by cases h2 <;> rfl
      simp only [nn, mset_same, sSeq, sPar, sPut, sIf, sSet, sDrop, sRet, sRetN, sNext, dOp2, dOp1, dVar, dC, dB, dTup, dLst, dLstM, dNil, dCons, dSl, doNone, doSome, dCall, dLm, dLm0, dSm, dAnd, dOr, dNot, dAndV, dOrV, dIf, dChain, dFn, dFn0, dYes, dDisp, dDispM, dPairs, keysT, dNewD, dNewDM,
 oAdd, oSub, oMul, oFdiv, oMod, oPow, oInt2, oNeg, oIx, oSl, oRev, oRevM, oLt, oLe, oGt, oGe, oOrd, oIsN, oNotB, oDGet, oDIn, oIn, oInS, mAppend, mPop, mJoin, isL, isS, fLen, fIsi, fAbs, fList, fListM, fTuple, fInt, fRepr, fBls, seqOf, tyT,
 look, keyT, Pat.set, start3, pick, List.getElem?_cons_zero, List.getElem?_cons_succ, List.set_cons_zero, List.set_cons_succ, List.map_cons, List.map_nil, List.length_cons, List.length_nil, List.nil_append, List.cons_append, List.replicate_succ, List.replicate_zero, Nat.reduceSub, Nat.reduceAdd, flatOf, kit_NoneType_str, kit_bool_str, kit_int_str, kit_str_str, kit_tuple_str, kit_list_str, kit_dict_str, kit_NoneType_int, kit_bool_int, kit_int_int, kit_str_int, kit_tuple_int, kit_list_int, kit_dict_int, kit_NoneType_bool, kit_bool_bool, kit_int_bool, kit_str_bool, kit_tuple_bool, kit_list_bool, kit_dict_bool, kit_NoneType_tuple, kit_bool_tuple, kit_int_tuple, kit_str_tuple, kit_tuple_tuple, kit_list_tuple, kit_dict_tuple, kit_NoneType_list, kit_bool_list, kit_int_list, kit_str_list, kit_tuple_list, kit_list_list, kit_dict_list, kit_NoneType_dict, kit_bool_dict, kit_int_dict, kit_str_dict, kit_tuple_dict, kit_list_dict, kit_dict_dict, Bool.false_eq_true, if_false, if_true, reduceIte, true_and, sz_0, sz_1, sz_2, sz_3, sz_4, sz_5, sz_6, sz_7, sz_8, sz_9, sz_10, sz_11, sz_12, sz_13, sz_14, sz_15, sz_16, sz_17, sz_18, sz_19, sz_20, sz_21, sz_22, sz_23, sz_24, sz_25, sz_26, sz_27, sz_28, sz_29, sz_30, sz_31, sz_32, sz_33, sz_34, sz_35, sz_36, sz_37, sz_38, sz_39, sz_40, sz_41, sz_42, sz_43, sz_44, sz_45, sz_46, sz_47, atI_c0, atI_c1, atI_c2, atI_c3, atI_c4, List.append_nil, List.filterMap_cons, List.filterMap_nil, and_self, dStar, mSplit, fSortS, fSortT, L3.setAll, mExtend, dKGet, dB, oIn, seqOf, eqb_ss, eqb_ii, eqb_bb, eqb_nn, eqb_ni, eqb_in, eqb_ns, eqb_sn, eqb_is, eqb_si, Bool.not_true, Bool.not_false, flatT, List.all_cons, List.all_nil, Bool.and_self, mExt, mCount, dFnV, dSortSet, sUnl]
      refine ⟨sz' (by omega), ?_⟩
      exact main p1 _ hp1 (by rw [mset_same]; unfold wps; rw [no, if_neg Bool.false_ne_true]) ((SubM.new hp1).mset hp1)

theorem ok_inner_tables (E : Fns K mg) (G_inner_parts : FnD P w K mg base 2 E.f_inner_parts E.fd_inner_parts ["question"] spInnP) : FnD P w K mg base 3 E.f_inner_tables E.fd_inner_tables ["question"] spInnT := by
  have nd := sc_inner_tables.nd
  refine okF E.F_inner_tables sc_inner_tables ?len fun cdv A outer s H X hr hgd => ⟨_, (dss_cons (ds_set 1 nd rfl (by first | exact Or.inl rfl | exact Or.inr rfl) (d_lstM da_nil))
  (dss_cons (ds_for PassesOwn.never rfl (di_list (d_fn G_inner_parts (hr.mono (by decide)) hgd (by rfl) E.g_inner_parts E.F_inner_parts.kp (kb_inner_parts_1 E) (da_cons (d_var 0) da_nil) dk_nil)) (dg_nm 2 nd rfl (by first | exact Or.inl rfl | exact Or.inr rfl))
  (dss_cons (ds_setComp 3 [("alias", 4), ("table", 5)] fin_L rfl nd rfl rfl (sw_true rfl rfl rfl (by decide +kernel)) (di_tup (d_ix (d_ix (d_var 2) d_int (fun _ _ => rfl)) d_int (fun _ _ => rfl))) (by kernel_rfl)
  (fun _ _ _ _ _ => (dg_tp [4, 5] rfl (pgs_cons (pg_name (i := 4) nd rfl (by first | exact Or.inl rfl | exact Or.inr rfl)) (pgs_cons (pg_name (i := 5) nd rfl (by first | exact Or.inl rfl | exact Or.inr rfl)) pgs_nil)))) (fun _ _ _ _ _ => dts_nil) (fun _ _ _ _ _ => (d_var 5)))
  (dss_one (ds_expr (d_ext (d_var 1) (da_cons (d_ifExp (dt_eq hr.units (d_ix (d_var 2) d_int (fun _ _ => rfl)) d_str) (d_add (d_var 3) (d_var 3)) (d_var 3)) da_nil))))))
  (dss_one (ds_ret (d_var 1))))), ?_⟩
  case len =>
    rintro ts M Q ⟨n, refs, wh, hs, ord, lim, rfl, _⟩
    rfl
  · rintro ts M Q ⟨n, refs, wh, hs, ord, lim, rfl, hq, hn, q⟩
    obtain ⟨refs', wh', hs', ord', lim', e, h1, h2, h3, h4, h5, h6⟩ := hq.ex
    cases e
    have c12 : cntP n ≤ 2047 := Nat.le_trans (cnt_le hn) (by decide)
    have hwl : (wps wh hs).length ≤ 5 := by
      unfold wps
      rw [List.length_append]
      split <;> simp <;> omega
    have hwp : ∀ w ∈ wps wh hs, Part n w := by
      intro w hw
      rcases List.mem_append.mp hw with h | h
      · exact h4 w h
      · split at h
        · cases h
        · rename_i hno
          rw [List.mem_singleton.mp h]
          rcases h2 with rfl | h2
          · exact absurd rfl hno
          · exact h2
    have sumle : ∀ (k : Nat) (f : T → List T) (zs : List T), (∀ z ∈ zs, (f z).length ≤ k) → (zs.flatMap f).length ≤ zs.length * k := by
      intro k f zs
      induction zs with
      | nil => intro _; simp
      | cons z zs ih =>
        intro h
        have a := h z List.mem_cons_self
        have b := ih fun y hy => h y (List.mem_cons_of_mem _ hy)
        rw [List.flatMap_cons, List.length_append, List.length_cons, Nat.succ_mul]
        omega
    simp only [EV, sFor, iL]
    intro p1 hp1
    refine ⟨n, refs, wh, hs, ord, lim, rfl, hq, hn, fun fs hfs => ?_⟩
    have hfl : fs.length ≤ 5 * 2047 := by
      rw [hfs.length_eq]
      have h8 := sumle (cntP n) (inn n) (wps wh hs) fun z hz => inn_len (hwp z hz)
      have h9 : (qInn n wh hs).length ≤ 5 * cntP n := Nat.le_trans h8 (Nat.mul_le_mul_right _ hwl)
      omega
    have form : ∀ p ∈ fs, ∃ (w : Str) (l : List (Str × Str)) (x : T) (r : List T), p = .tup (.str w :: .tup [.tup (l.map prT), x] :: r) ∧ l.length ≤ 2 ∧ (w = "exists" ∨ w = "only" ∨ w = "first") := by
      intro p hp
      obtain ⟨z, hz, hp2⟩ := List.mem_flatMap.mp (hfs.mem_iff.mp hp)
      exact inn_form (hwp z hz) p hp2
    have pl : ∀ p ∈ fs, (ptabs p).length ≤ 4 := by
      intro p hp
      obtain ⟨w, l, x, r, rfl, hl, _⟩ := form p hp
      rw [ptabs_of]
      split <;> simp <;> omega
    have tl : ∀ k, ((fs.take k).flatMap ptabs).length ≤ fs.length * 4 := by
      intro k
      have : ∀ zs : List T, (∀ z ∈ zs, z ∈ fs) → (zs.flatMap ptabs).length ≤ zs.length * 4 := by
        intro zs
        induction zs with
        | nil => intro _; simp
        | cons z zs ih =>
          intro h
          have a := pl z (h z List.mem_cons_self)
          have b := ih fun y hy => h y (List.mem_cons_of_mem _ hy)
          rw [List.flatMap_cons, List.length_append, List.length_cons]
          omega
      have h7 := this (fs.take k) fun z hz => List.mem_of_mem_take hz
      rw [List.length_take] at h7
      omega
    simp only [EV, dC]
    refine forL_inv (fun j ss M' => SubM M M' ∧ M' p1 = some (.lst (((fs.take j).flatMap ptabs).map T.str)) ∧ ∃ a b c d, ss = [some (.tup [refs, wh, .tup hs, ord, lim]), some (.raw (.ref p1)), a, b, c, d]) (fun _ _ _ _ => by trivial) 0 ⟨SubM.new hp1, mset_same, none, none, none, none, rfl⟩ ?_ ?_
    · rintro j t ss M2 hj ⟨hsM, hm, a, b, c, d, rfl⟩
      obtain ⟨w, l, x, r, rfl, hl, hw⟩ := form t (List.mem_of_getElem? hj)
      have et : fs.take (j + 1) = fs.take j ++ [.tup (.str w :: .tup [.tup (l.map prT), x] :: r)] := by rw [List.take_succ, hj]; rfl
      have t1 := tl j
      rw [Nat.zero_add] at hm
      refine ⟨_, rfl, fun N kk => ?_⟩
      simp only [EV, dC]
      refine cut_k (.lst ((l.map (·.2)).map T.str)) M2 (fun K k => ?_) ?_
      · refine comp_go ?_
        simp only [EV, iT]
        refine compL_allA (xs := l) (g := prT) (f := fun a => T.str a.2) trivial (fun a ha => ⟨_, rfl, fun R kk => ?_⟩) (sz (by omega)) (by rw [List.map_map] at k; exact k)
        simp only [EV, wipe3]
        exact kk
      have fin : ∀ (bs : List Str) (M3 : Mp) (a b c d : Option T), bs = ptabs (.tup (.str w :: .tup [.tup (l.map prT), x] :: r)) → M3 = mset M2 p1 (.lst (((fs.take j).flatMap ptabs).map T.str ++ bs.map T.str)) → N [some (.tup [refs, wh, .tup hs, ord, lim]), some (.raw (.ref p1)), a, b, c, d] M3 := by
        rintro bs M3 a b c d rfl rfl
        refine kk _ _ ⟨hsM.mset hp1, ?_, a, b, c, d, rfl⟩
        rw [mset_same, Nat.zero_add, et, List.flatMap_append, List.flatMap_cons, List.flatMap_nil, List.append_nil, List.map_append]
      have fl : (if decide (w = "only") = true then l.map (·.2) ++ l.map (·.2) else l.map (·.2)) = ptabs (.tup (.str w :: .tup [.tup (l.map prT), x] :: r)) := by
        rw [ptabs_of]
        by_cases h : w = "only"
        · rw [if_pos (decide_eq_true h), if_pos h]
        · rw [if_neg (by rw [decide_eq_false h]; decide), if_neg h]
      simp only [EV, dC]
      cases hd : decide (w = "only") with
      | true =>
        rw [hd, if_pos rfl] at fl
        simp only [EV, hm]
        refine ⟨sz (by rw [List.length_map, List.length_map]; omega), ?_⟩
        exact ⟨sz (by rw [List.length_map, List.length_append, List.length_map, List.length_map]; omega), fin (l.map (·.2) ++ l.map (·.2)) _ _ _ _ _ fl (by rw [List.map_append])⟩
      | false =>
        rw [hd, if_neg Bool.false_ne_true] at fl
        simp only [EV, hm]
        exact ⟨sz (by rw [List.length_map, List.length_map, List.length_map]; omega), fin (l.map (·.2)) _ _ _ _ _ fl rfl⟩
    · rintro ss M2 ⟨hsM, hm, a, b, c, d, rfl⟩
      rw [Nat.zero_add, List.take_length] at hm
      simp only [EV, dC]
      exact .lst hm hsM hp1 (q _ (hfs.flatMap_right ptabs))

theorem ok_shapes_of (E : Fns K mg) (G_inner_tables : FnD P w K mg base 3 E.f_inner_tables E.fd_inner_tables ["question"] spInnT) : FnV P w K mg base 4 E.f_shapes_of spShapes := by
  have nd := sc_shapes_of.nd
  refine okV E.F_shapes_of sc_shapes_of (fun _ _ _ _ _ _ us => match us with | [] => rfl | _ :: _ => rfl) ?hl fun cdv A outer s H X hr hgd => ⟨_, (dss_cons (ds_setComp 1 [("alias", 2), ("table", 3)] fin_L rfl nd rfl rfl (sw_true rfl rfl rfl (by decide +kernel)) (di_tup (d_ix (d_ix (d_var 0) d_int (fun _ _ => rfl)) d_int (fun _ _ => rfl))) (by kernel_rfl)
  (fun _ _ _ _ _ => (dg_tp [2, 3] rfl (pgs_cons (pg_name (i := 2) nd rfl (by first | exact Or.inl rfl | exact Or.inr rfl)) (pgs_cons (pg_name (i := 3) nd rfl (by first | exact Or.inl rfl | exact Or.inr rfl)) pgs_nil)))) (fun _ _ _ _ _ => dts_nil) (fun _ _ _ _ _ => (d_var 3)))
  (dss_cons (ds_set 4 nd rfl (by first | exact Or.inl rfl | exact Or.inr rfl) (d_lstM da_nil))
  (dss_cons (ds_for PassesOwn.never rfl (di_tup (d_var 0)) (dg_nm 5 nd rfl (by first | exact Or.inl rfl | exact Or.inr rfl))
  (dss_one (ds_expr (d_ext (d_var 4) (da_cons (d_fn G_inner_tables (hr.mono (by decide)) hgd (by rfl) E.g_inner_tables E.F_inner_tables.kp (kb_inner_tables_1 E) (da_cons (d_var 5) da_nil) dk_nil) da_nil)))))
  (dss_cons (ds_set 6 nd rfl (by first | exact Or.inl rfl | exact Or.inr rfl) (d_lst (da_cons (d_tup da_nil) da_nil)))
  (dss_cons (ds_for PassesOwn.never rfl (di_list (d_sortSet rfl (by rfl) E.m_sorted (by rfl) E.m_set (d_add (d_var 1) (d_var 4)))) (dg_nm 3 nd rfl (by first | exact Or.inl rfl | exact Or.inr rfl))
  (dss_cons (ds_asg (d_tup (da_cons (d_intc (by rfl) E.m_int (da_cons (d_in (d_var 3) (d_var 1) (by rfl)) da_nil)) (da_cons (d_add (d_count (d_var 1) (da_cons (d_var 3) da_nil)) (d_count (d_var 4) (da_cons (d_var 3) da_nil))) da_nil))) (dg_tp [7, 8] rfl (pgs_cons (pg_name (i := 7) nd rfl (by first | exact Or.inl rfl | exact Or.inr rfl)) (pgs_cons (pg_name (i := 8) nd rfl (by first | exact Or.inl rfl | exact Or.inr rfl)) pgs_nil))))
  (dss_one (ds_setComp2 6 [("shape", 9), ("count", 10)] [10] fin_L rfl nd rfl rfl (sw_true rfl rfl rfl (by decide +kernel)) (di_list (d_var 6)) (by kernel_rfl)
  (fun _ _ _ _ _ => (dg_nm 9 nd rfl (by first | exact Or.inl rfl | exact Or.inr rfl))) (fun _ _ _ _ _ => dts_nil) (fun _ _ _ _ _ => (di_range2 (by rfl) E.m_range (d_var 7) (d_add (d_var 8) d_int))) (fun _ _ _ _ _ => (dg_nm 10 nd rfl (by first | exact Or.inl rfl | exact Or.inr rfl))) (fun _ _ _ _ _ => dts_nil) (fun _ _ _ _ _ => (d_add (d_var 9) (d_tup (da_cons (d_tup (da_cons (d_var 3) (da_cons (d_var 10) da_nil))) da_nil))))))))
  (dss_one (ds_ret (d_tuple (by rfl) E.m_tuple (da_cons (d_var 6) da_nil))))))))), ?_⟩
  case hl =>
    rintro ts M Q ⟨n, q, qs, rfl, hl, _⟩
    exact sz (by rw [List.length_map, List.length_cons]; omega)
  · rintro ts M Q ⟨n, q0, qs, rfl, hl, hn, hq, few, q⟩
    obtain ⟨T2, t2, hi2, ho2, hl2⟩ := few.ex
    have ql : ∀ k, (qTabs n ((q0 :: qs).take k)).length ≤ 29 := by
      intro k
      have : (qTabs n ((q0 :: qs).take k)).length ≤ (qTabs n (q0 :: qs)).length := by
        conv => rhs; rw [← List.take_append_drop k (q0 :: qs)]
        unfold qTabs
        rw [List.flatMap_append, List.length_append]
        omega
      omega
    simp only [EV, sFor, iT, Qn.t, List.map_cons]
    refine cut_k (.lst ((q0.rl.map (·.2)).map T.str)) M (fun K k => ?_) ?_
    · refine comp_go ?_
      simp only [EV, iT]
      refine compL_allA (xs := q0.rl) (g := prT) (f := fun a => T.str a.2) trivial (fun a ha => ⟨_, rfl, fun R kk => ?_⟩) (sz (by rw [List.length_map] at hl2; omega)) (by rw [List.map_map] at k; exact k)
      simp only [EV, wipe3]
      exact kk
    intro p1 hp1
    refine forL_inv (xs := (q0 :: qs).map Qn.t) (fun j ss M' => SubM M M' ∧ (∃ bs : List Str, M' p1 = some (.lst (bs.map T.str)) ∧ bs.Perm (qTabs n ((q0 :: qs).take j))) ∧ ∃ x2 x3 x5 x6 x7 x8 x9 x10 : Option T, ss = [some (.tup ((q0 :: qs).map Qn.t)), some (.lst ((q0.rl.map (·.2)).map T.str)), x2, x3, some (.raw (.ref p1)), x5, x6, x7, x8, x9, x10]) (fun _ _ _ _ => by trivial) 0
      ⟨SubM.new hp1, ⟨[], mset_same, List.Perm.refl _⟩, none, none, none, none, none, none, none, none, rfl⟩ ?_ ?_
    · rintro j t ss M2 hj ⟨hsM, ⟨bs, hm, hbs⟩, x2, x3, x5, x6, x7, x8, x9, x10, rfl⟩
      rw [List.getElem?_map] at hj
      obtain ⟨y, hy, rfl⟩ := Option.map_eq_some_iff.mp hj
      have hqy := hq y (List.mem_of_getElem? hy)
      rw [Nat.zero_add] at hbs
      have et : (q0 :: qs).take (j + 1) = (q0 :: qs).take j ++ [y] := by rw [List.take_succ, hy]; rfl
      have l1 := ql (j + 1)
      rw [et] at l1
      unfold qTabs at l1
      rw [List.flatMap_append, List.flatMap_cons, List.flatMap_nil, List.append_nil, List.length_append] at l1
      refine ⟨_, rfl, fun N kk => ?_⟩
      simp only [EV, hm]
      refine ⟨n, _, _, _, _, _, rfl, hqy, hn, fun cs hcs => ?_⟩
      have b1 := hbs.length_eq
      have b2 := hcs.length_eq
      unfold qTabs at b1
      simp only [EV, hm]
      refine ⟨sz (by rw [List.length_map, List.length_map]; omega), kk _ _ ⟨hsM.mset hp1, ⟨bs ++ cs, by rw [mset_same, List.map_append], ?_⟩, _, _, _, _, _, _, _, _, rfl⟩⟩
      rw [Nat.zero_add, et]
      unfold qTabs
      rw [List.flatMap_append, List.flatMap_cons, List.flatMap_nil, List.append_nil]
      exact hbs.append hcs
    rintro ss M2 ⟨hsM, ⟨bs, hm, hbs⟩, x2, x3, x5, x6, x7, x8, x9, x10, rfl⟩
    rw [Nat.zero_add, List.length_map, List.take_length] at hbs
    have hbl := hbs.length_eq
    have fewb : FewS (q0.rl.map (·.2)) bs := ⟨T2, t2, fun z hz => hi2 z (hbs.mem_iff.mp hz), ho2, by omega⟩
    simp only [EV, sFor, iL, hm, ← List.map_append, strsT_map]
    refine ⟨sz (by simp only [List.length_map] at hl2 ⊢; omega), by rw [List.length_append]; omega, fun zs hz1 hz2 hz3 => ?_⟩
    have hzm : ∀ z ∈ zs, z ∈ q0.rl.map (·.2) ∨ z ∈ bs := fun z hz => List.mem_append.mp ((hz3 z).mp hz)
    have zl : zs.length ≤ 29 := by
      have := nodup_len hz2 fun z hz => (hz3 z).mp hz
      rw [List.length_append] at this
      omega
    refine forL_inv (xs := zs.map T.str) (fun j ss M' => M' = M2 ∧ ∃ x2 x3 x5 x7 x8 x9 x10 : Option T, ss = [some (.tup ((q0 :: qs).map Qn.t)), some (.lst ((q0.rl.map (·.2)).map T.str)), x2, x3, some (.raw (.ref p1)), x5, some (.lst ((shp (q0.rl.map (·.2)) bs (zs.take j)).map enS)), x7, x8, x9, x10]) (fun _ _ _ _ => by trivial) 0 ⟨rfl, _, _, _, _, _, _, _, rfl⟩ ?_ ?_
    · rintro j t ss M3 hj ⟨rfl, x2, x3, x5, x7, x8, x9, x10, rfl⟩
      rw [List.getElem?_map] at hj
      obtain ⟨z, hz, rfl⟩ := Option.map_eq_some_iff.mp hj
      have et : zs.take (j + 1) = zs.take j ++ [z] := by rw [List.take_succ, hz]; rfl
      have l1 := shp_len fewb (hz2.sublist (List.take_sublist (j + 1) zs)) fun y hy => hzm y (List.mem_of_mem_take hy)
      have es : shp (q0.rl.map (·.2)) bs (zs.take (j + 1)) = stepS (q0.rl.map (·.2)) bs z (shp (q0.rl.map (·.2)) bs (zs.take j)) := by
        unfold shp
        rw [et, List.foldl_append]
        rfl
      have r30 := rng_le fewb.ex.choose_spec.2.2.2 z
      rw [Nat.zero_add]
      refine ⟨_, rfl, fun N kk => ?_⟩
      simp only [EV, hm, cnt_strs, inT_cont, flat_strs']
      generalize hO : q0.rl.map (·.2) = outer at *
      have sl : (shp outer bs (zs.take j)).length ≤ 900 := shp_len fewb (hz2.sublist (List.take_sublist j zs)) fun y hy => hzm y (List.mem_of_mem_take hy)
      have el : (if outer.contains z = true then (1 : Int) else 0) = (lst1 outer z : Nat) := by unfold lst1; split <;> rfl
      have c0 : lst1 outer z ≤ outer.count z := by
        unfold lst1
        split
        · rename_i h
          exact List.count_pos_iff.mpr (List.contains_iff_mem.mp h)
        · exact Nat.zero_le _
      have er : rng outer bs z = outer.count z + bs.count z + 1 - lst1 outer z := rfl
      have lz1 : lst1 outer z ≤ 1 := by unfold lst1; split <;> decide
      rw [es, stepS_len] at l1
      rw [el]
      refine cut_k (.lst ((stepS outer bs z (shp outer bs (zs.take j))).map enS)) M3 (fun K k => ?_) ?_
      · refine comp2_go ?_
        simp only [EV, iL]
        refine compL2_all (g := enS) (xs := shp outer bs (zs.take j)) (bs := fun _ => List.range (rng outer bs z)) (g1 := fun _ (k : Nat) => .int ((lst1 outer z : Nat) + (k : Int))) (f := fun s k => enS (s ++ [(z, lst1 outer z + k)])) trivial (fun s hs => ⟨_, rfl, fun R hR => ?_, fun k hk => ⟨_, rfl, fun R r => ?_⟩⟩) (sz ?_) ?_
        · simp only [EV, iR2]
          refine ⟨⟨by omega, by omega, by omega, by omega⟩, ?_⟩
          have e3 : (((outer.count z : Nat) : Int) + ((bs.count z : Nat) : Int) + 1 - ((lst1 outer z : Nat) : Int)).toNat = rng outer bs z := by omega
          rw [e3]
          exact hR _ trivial
        · simp only [wipe3, enS, List.map_append, List.map_cons, List.map_nil] at r ⊢
          have sln : s.length ≤ 29 := by
            rw [shp_each s hs, List.length_take]
            omega
          simp only [EV, dC]
          refine ⟨sz (by rw [List.length_map]; omega), ?_⟩
          rw [Int.natCast_add] at r
          exact r
        · rw [List.length_nil, flat_len (k := rng outer bs z) fun _ _ => List.length_range]
          omega
        · rw [List.nil_append]
          have e4 : ((shp outer bs (zs.take j)).flatMap fun a => (List.range (rng outer bs z)).map fun k => enS (a ++ [(z, lst1 outer z + k)])) = (stepS outer bs z (shp outer bs (zs.take j))).map enS := by
            unfold stepS
            rw [List.map_flatMap]
            refine flatMap_congr fun s _ => ?_
            rw [List.map_map]
            rfl
          rw [e4]
          exact k
      · rw [← es]
        exact kk _ _ ⟨rfl, _, _, _, _, _, _, _, rfl⟩
    · rintro ss M3 ⟨rfl, x2, x3, x5, x7, x8, x9, x10, rfl⟩
      rw [Nat.zero_add, List.length_map, List.take_length]
      simp only [EV, dC]
      exact .same hsM (q _ ⟨zs, bs, hz1, hz2, fun z => (hz3 z).trans List.mem_append, hbs, rfl⟩)

theorem ok_l_inners (E : Fns K mg) {n : Nat} (G_l_inners : FnD P w K mg base n E.f_l_inners E.fd_l_inners ["part"] (spLInnAt n)) : FnD P w K mg base (n + 1) E.f_l_inners E.fd_l_inners ["part"] (spLInnAt (n + 1)) := by
  have nd := sc_l_inners.nd
  refine okD E.F_l_inners sc_l_inners ?len fun cdv A outer s H X hr hgd => ⟨_, (dss_cons (ds_if (dt_in (d_ix (d_var 0) d_int (fun _ _ => rfl)) (d_tup (da_cons d_str (da_cons d_str (da_cons d_str da_nil)))) (by rfl))
  (dss_one (ds_ret (d_lst (da_cons (d_var 0) da_nil))))
  dss_nil)
  (dss_cons (ds_if (dt_in (d_ix (d_var 0) d_int (fun _ _ => rfl)) (d_tup (da_cons d_str (da_cons d_str da_nil))) (by rfl))
  (dss_one (ds_ret (d_lst da_nil)))
  dss_nil)
  (dss_cons (ds_set 1 nd rfl (by first | exact Or.inl rfl | exact Or.inr rfl) (d_lst da_nil))
  (dss_cons (ds_for PassesOwn.never rfl (di_tup (d_slice (d_var 0) (do_some d_int) do_none)) (dg_nm 2 nd rfl (by first | exact Or.inl rfl | exact Or.inr rfl))
  (dss_one (ds_set 1 nd rfl (by first | exact Or.inl rfl | exact Or.inr rfl) (d_add (d_var 1) (d_ifExp (dt_val (d_isi (by rfl) E.m_isinstance (da_cons (d_var 2) (da_cons (d_bltn (v := .ty "tuple") (u := .type "tuple") (by rfl) E.m_tuple (by decide +kernel) rfl) da_nil)))) (d_fn G_l_inners (hr.mono (by omega)) hgd (by rfl) E.g_l_inners E.F_l_inners.kp (kb_l_inners_1 E) (da_cons (d_var 2) da_nil) dk_nil) (d_lst da_nil))))))
  (dss_one (ds_ret (d_var 1))))))), ?_⟩
  case len =>
    rintro ts M Q ⟨p, rfl, _⟩
    rfl
  · rintro ts M Q ⟨p, rfl, hp, hn, q⟩
    have c12 : cntP n ≤ 2047 := Nat.le_trans (cnt_le hn) (by decide)
    cases hp with
    | col ha hb =>
      rw [inn_col] at q
      simp only [sSeq, sPar, sPut, sIf, sSet, sDrop, sRet, sRetN, sNext, dOp2, dOp1, dVar, dC, dB, dTup, dLst, dLstM, dNil, dCons, dSl, doNone, doSome, dCall, dLm, dLm0, dSm, dAnd, dOr, dNot, dAndV, dOrV, dIf, dChain, dFn, dFn0, dYes, dDisp, dDispM, dPairs, keysT, dNewD, dNewDM,
 oAdd, oSub, oMul, oFdiv, oMod, oPow, oInt2, oNeg, oIx, oSl, oRev, oRevM, oLt, oLe, oGt, oGe, oOrd, oIsN, L3.isNon, oNotB, oDGet, oDIn, oIn, oInS, mAppend, mPop, mJoin, isL, isS, fLen, fIsi, fAbs, fList, fListM, fTuple, fInt, fRepr, fBls, seqOf, tyT,
 look, keyT, Pat.set, start3, pick, List.getElem?_cons_zero, List.getElem?_cons_succ, List.set_cons_zero, List.set_cons_succ, List.map_cons, List.map_nil, List.length_cons, List.length_nil, List.nil_append, List.cons_append, List.replicate_succ, List.replicate_zero, Nat.reduceSub, Nat.reduceAdd, flatOf, kit_NoneType_str, kit_bool_str, kit_int_str, kit_str_str, kit_tuple_str, kit_list_str, kit_dict_str, kit_NoneType_int, kit_bool_int, kit_int_int, kit_str_int, kit_tuple_int, kit_list_int, kit_dict_int, kit_NoneType_bool, kit_bool_bool, kit_int_bool, kit_str_bool, kit_tuple_bool, kit_list_bool, kit_dict_bool, kit_NoneType_tuple, kit_bool_tuple, kit_int_tuple, kit_str_tuple, kit_tuple_tuple, kit_list_tuple, kit_dict_tuple, kit_NoneType_list, kit_bool_list, kit_int_list, kit_str_list, kit_tuple_list, kit_list_list, kit_dict_list, kit_NoneType_dict, kit_bool_dict, kit_int_dict, kit_str_dict, kit_tuple_dict, kit_list_dict, kit_dict_dict, Bool.false_eq_true, if_false, if_true, reduceIte, true_and, sz_0, sz_1, sz_2, sz_3, sz_4, sz_5, sz_6, sz_7, sz_8, sz_9, sz_10, sz_11, sz_12, sz_13, sz_14, sz_15, sz_16, sz_17, sz_18, sz_19, sz_20, sz_21, sz_22, sz_23, sz_24, sz_25, sz_26, sz_27, sz_28, sz_29, sz_30, sz_31, sz_32, sz_33, sz_34, sz_35, sz_36, sz_37, sz_38, sz_39, sz_40, sz_41, sz_42, sz_43, sz_44, sz_45, sz_46, sz_47, atI_c0, atI_c1, atI_c2, atI_c3, atI_c4, List.append_nil, List.filterMap_cons, List.filterMap_nil, and_self, dStar, mSplit, fSortS, fSortT, L3.setAll, mExtend, dKGet, dB, oIn, seqOf, eqb_ss, eqb_ii, eqb_bb, eqb_nn, eqb_ni, eqb_in, eqb_ns, eqb_sn, eqb_is, eqb_si, Bool.not_true, Bool.not_false, flatT, List.all_cons, List.all_nil, Bool.and_self, mExt, mCount, dFnV, dSortSet, sUnl, wi_column_0, wi_column_1, wi_column_2, wi_column_3, wi_column_4, wi_column_5, wi_column_6, wi_column_7, we_column_exists, we_column_not, we_column_and, we_column_or, wi_value_0, wi_value_1, wi_value_2, wi_value_3, wi_value_4, wi_value_5, wi_value_6, wi_value_7, we_value_exists, we_value_not, we_value_and, we_value_or, wi_plus_0, wi_plus_1, wi_plus_2, wi_plus_3, wi_plus_4, wi_plus_5, wi_plus_6, wi_plus_7, we_plus_exists, we_plus_not, we_plus_and, we_plus_or, wi_is_0, wi_is_1, wi_is_2, wi_is_3, wi_is_4, wi_is_5, wi_is_6, wi_is_7, we_is_exists, we_is_not, we_is_and, we_is_or, wi_not_0, wi_not_1, wi_not_2, wi_not_3, wi_not_4, wi_not_5, wi_not_6, wi_not_7, we_not_exists, we_not_not, we_not_and, we_not_or, wi_less_0, wi_less_1, wi_less_2, wi_less_3, wi_less_4, wi_less_5, wi_less_6, wi_less_7, we_less_exists, we_less_not, we_less_and, we_less_or, wi_most_0, wi_most_1, wi_most_2, wi_most_3, wi_most_4, wi_most_5, wi_most_6, wi_most_7, we_most_exists, we_most_not, we_most_and, we_most_or, wi_same_0, wi_same_1, wi_same_2, wi_same_3, wi_same_4, wi_same_5, wi_same_6, wi_same_7, we_same_exists, we_same_not, we_same_and, we_same_or, wi_and_0, wi_and_1, wi_and_2, wi_and_3, wi_and_4, wi_and_5, wi_and_6, wi_and_7, we_and_exists, we_and_not, we_and_and, we_and_or, wi_or_0, wi_or_1, wi_or_2, wi_or_3, wi_or_4, wi_or_5, wi_or_6, wi_or_7, we_or_exists, we_or_not, we_or_and, we_or_or, wi_exists_0, wi_exists_1, wi_exists_2, wi_exists_3, wi_exists_4, wi_exists_5, wi_exists_6, wi_exists_7, we_exists_exists, we_exists_not, we_exists_and, we_exists_or, wi_only_0, wi_only_1, wi_only_2, wi_only_3, wi_only_4, wi_only_5, wi_only_6, wi_only_7, we_only_exists, we_only_not, we_only_and, we_only_or, wi_first_0, wi_first_1, wi_first_2, wi_first_3, wi_first_4, wi_first_5, wi_first_6, wi_first_7, we_first_exists, we_first_not, we_first_and, we_first_or]
      exact q
    | val hv =>
      rw [inn_val] at q
      simp only [sSeq, sPar, sPut, sIf, sSet, sDrop, sRet, sRetN, sNext, dOp2, dOp1, dVar, dC, dB, dTup, dLst, dLstM, dNil, dCons, dSl, doNone, doSome, dCall, dLm, dLm0, dSm, dAnd, dOr, dNot, dAndV, dOrV, dIf, dChain, dFn, dFn0, dYes, dDisp, dDispM, dPairs, keysT, dNewD, dNewDM,
 oAdd, oSub, oMul, oFdiv, oMod, oPow, oInt2, oNeg, oIx, oSl, oRev, oRevM, oLt, oLe, oGt, oGe, oOrd, oIsN, L3.isNon, oNotB, oDGet, oDIn, oIn, oInS, mAppend, mPop, mJoin, isL, isS, fLen, fIsi, fAbs, fList, fListM, fTuple, fInt, fRepr, fBls, seqOf, tyT,
 look, keyT, Pat.set, start3, pick, List.getElem?_cons_zero, List.getElem?_cons_succ, List.set_cons_zero, List.set_cons_succ, List.map_cons, List.map_nil, List.length_cons, List.length_nil, List.nil_append, List.cons_append, List.replicate_succ, List.replicate_zero, Nat.reduceSub, Nat.reduceAdd, flatOf, kit_NoneType_str, kit_bool_str, kit_int_str, kit_str_str, kit_tuple_str, kit_list_str, kit_dict_str, kit_NoneType_int, kit_bool_int, kit_int_int, kit_str_int, kit_tuple_int, kit_list_int, kit_dict_int, kit_NoneType_bool, kit_bool_bool, kit_int_bool, kit_str_bool, kit_tuple_bool, kit_list_bool, kit_dict_bool, kit_NoneType_tuple, kit_bool_tuple, kit_int_tuple, kit_str_tuple, kit_tuple_tuple, kit_list_tuple, kit_dict_tuple, kit_NoneType_list, kit_bool_list, kit_int_list, kit_str_list, kit_tuple_list, kit_list_list, kit_dict_list, kit_NoneType_dict, kit_bool_dict, kit_int_dict, kit_str_dict, kit_tuple_dict, kit_list_dict, kit_dict_dict, Bool.false_eq_true, if_false, if_true, reduceIte, true_and, sz_0, sz_1, sz_2, sz_3, sz_4, sz_5, sz_6, sz_7, sz_8, sz_9, sz_10, sz_11, sz_12, sz_13, sz_14, sz_15, sz_16, sz_17, sz_18, sz_19, sz_20, sz_21, sz_22, sz_23, sz_24, sz_25, sz_26, sz_27, sz_28, sz_29, sz_30, sz_31, sz_32, sz_33, sz_34, sz_35, sz_36, sz_37, sz_38, sz_39, sz_40, sz_41, sz_42, sz_43, sz_44, sz_45, sz_46, sz_47, atI_c0, atI_c1, atI_c2, atI_c3, atI_c4, List.append_nil, List.filterMap_cons, List.filterMap_nil, and_self, dStar, mSplit, fSortS, fSortT, L3.setAll, mExtend, dKGet, dB, oIn, seqOf, eqb_ss, eqb_ii, eqb_bb, eqb_nn, eqb_ni, eqb_in, eqb_ns, eqb_sn, eqb_is, eqb_si, Bool.not_true, Bool.not_false, flatT, List.all_cons, List.all_nil, Bool.and_self, mExt, mCount, dFnV, dSortSet, sUnl, wi_column_0, wi_column_1, wi_column_2, wi_column_3, wi_column_4, wi_column_5, wi_column_6, wi_column_7, we_column_exists, we_column_not, we_column_and, we_column_or, wi_value_0, wi_value_1, wi_value_2, wi_value_3, wi_value_4, wi_value_5, wi_value_6, wi_value_7, we_value_exists, we_value_not, we_value_and, we_value_or, wi_plus_0, wi_plus_1, wi_plus_2, wi_plus_3, wi_plus_4, wi_plus_5, wi_plus_6, wi_plus_7, we_plus_exists, we_plus_not, we_plus_and, we_plus_or, wi_is_0, wi_is_1, wi_is_2, wi_is_3, wi_is_4, wi_is_5, wi_is_6, wi_is_7, we_is_exists, we_is_not, we_is_and, we_is_or, wi_not_0, wi_not_1, wi_not_2, wi_not_3, wi_not_4, wi_not_5, wi_not_6, wi_not_7, we_not_exists, we_not_not, we_not_and, we_not_or, wi_less_0, wi_less_1, wi_less_2, wi_less_3, wi_less_4, wi_less_5, wi_less_6, wi_less_7, we_less_exists, we_less_not, we_less_and, we_less_or, wi_most_0, wi_most_1, wi_most_2, wi_most_3, wi_most_4, wi_most_5, wi_most_6, wi_most_7, we_most_exists, we_most_not, we_most_and, we_most_or, wi_same_0, wi_same_1, wi_same_2, wi_same_3, wi_same_4, wi_same_5, wi_same_6, wi_same_7, we_same_exists, we_same_not, we_same_and, we_same_or, wi_and_0, wi_and_1, wi_and_2, wi_and_3, wi_and_4, wi_and_5, wi_and_6, wi_and_7, we_and_exists, we_and_not, we_and_and, we_and_or, wi_or_0, wi_or_1, wi_or_2, wi_or_3, wi_or_4, wi_or_5, wi_or_6, wi_or_7, we_or_exists, we_or_not, we_or_and, we_or_or, wi_exists_0, wi_exists_1, wi_exists_2, wi_exists_3, wi_exists_4, wi_exists_5, wi_exists_6, wi_exists_7, we_exists_exists, we_exists_not, we_exists_and, we_exists_or, wi_only_0, wi_only_1, wi_only_2, wi_only_3, wi_only_4, wi_only_5, wi_only_6, wi_only_7, we_only_exists, we_only_not, we_only_and, we_only_or, wi_first_0, wi_first_1, wi_first_2, wi_first_3, wi_first_4, wi_first_5, wi_first_6, wi_first_7, we_first_exists, we_first_not, we_first_and, we_first_or]
      exact q
    | @plus n w x v hw hx hv =>
      rw [inn_plus hw hx.part hv] at q
      have hl := inn_len hx.part
      have cs : cntP (n + 1) = 2 * cntP n + 1 := rfl
      obtain ⟨xw, xa, xr, rfl⟩ := hx.part.head
      have e : cutT [T.str w, .tup (.str xw :: xa :: xr), v] (some 1) none = [.tup (.str xw :: xa :: xr), v] := cut_from 1
      have go : ∀ K : QE, K (.lst (inn n (.tup (.str xw :: xa :: xr)))) M → spLInnAt (n + 1) [.tup (.str xw :: xa :: xr)] M K := fun K k => ⟨_, rfl, hx, by omega, k⟩
      rcases hv with rfl | ⟨i, rfl, hi⟩ | ⟨z, rfl, hz⟩ <;> rcases hw with rfl | rfl <;> simp only [e, sFor, iT, forL, sSeq, sPar, sPut, sIf, sSet, sDrop, sRet, sRetN, sNext, dOp2, dOp1, dVar, dC, dB, dTup, dLst, dLstM, dNil, dCons, dSl, doNone, doSome, dCall, dLm, dLm0, dSm, dAnd, dOr, dNot, dAndV, dOrV, dIf, dChain, dFn, dFn0, dYes, dDisp, dDispM, dPairs, keysT, dNewD, dNewDM,
 oAdd, oSub, oMul, oFdiv, oMod, oPow, oInt2, oNeg, oIx, oSl, oRev, oRevM, oLt, oLe, oGt, oGe, oOrd, oIsN, L3.isNon, oNotB, oDGet, oDIn, oIn, oInS, mAppend, mPop, mJoin, isL, isS, fLen, fIsi, fAbs, fList, fListM, fTuple, fInt, fRepr, fBls, seqOf, tyT,
 look, keyT, Pat.set, start3, pick, List.getElem?_cons_zero, List.getElem?_cons_succ, List.set_cons_zero, List.set_cons_succ, List.map_cons, List.map_nil, List.length_cons, List.length_nil, List.nil_append, List.cons_append, List.replicate_succ, List.replicate_zero, Nat.reduceSub, Nat.reduceAdd, flatOf, kit_NoneType_str, kit_bool_str, kit_int_str, kit_str_str, kit_tuple_str, kit_list_str, kit_dict_str, kit_NoneType_int, kit_bool_int, kit_int_int, kit_str_int, kit_tuple_int, kit_list_int, kit_dict_int, kit_NoneType_bool, kit_bool_bool, kit_int_bool, kit_str_bool, kit_tuple_bool, kit_list_bool, kit_dict_bool, kit_NoneType_tuple, kit_bool_tuple, kit_int_tuple, kit_str_tuple, kit_tuple_tuple, kit_list_tuple, kit_dict_tuple, kit_NoneType_list, kit_bool_list, kit_int_list, kit_str_list, kit_tuple_list, kit_list_list, kit_dict_list, kit_NoneType_dict, kit_bool_dict, kit_int_dict, kit_str_dict, kit_tuple_dict, kit_list_dict, kit_dict_dict, Bool.false_eq_true, if_false, if_true, reduceIte, true_and, sz_0, sz_1, sz_2, sz_3, sz_4, sz_5, sz_6, sz_7, sz_8, sz_9, sz_10, sz_11, sz_12, sz_13, sz_14, sz_15, sz_16, sz_17, sz_18, sz_19, sz_20, sz_21, sz_22, sz_23, sz_24, sz_25, sz_26, sz_27, sz_28, sz_29, sz_30, sz_31, sz_32, sz_33, sz_34, sz_35, sz_36, sz_37, sz_38, sz_39, sz_40, sz_41, sz_42, sz_43, sz_44, sz_45, sz_46, sz_47, atI_c0, atI_c1, atI_c2, atI_c3, atI_c4, List.append_nil, List.filterMap_cons, List.filterMap_nil, and_self, dStar, mSplit, fSortS, fSortT, L3.setAll, mExtend, dKGet, dB, oIn, seqOf, eqb_ss, eqb_ii, eqb_bb, eqb_nn, eqb_ni, eqb_in, eqb_ns, eqb_sn, eqb_is, eqb_si, Bool.not_true, Bool.not_false, flatT, List.all_cons, List.all_nil, Bool.and_self, mExt, mCount, dFnV, dSortSet, sUnl, wi_column_0, wi_column_1, wi_column_2, wi_column_3, wi_column_4, wi_column_5, wi_column_6, wi_column_7, we_column_exists, we_column_not, we_column_and, we_column_or, wi_value_0, wi_value_1, wi_value_2, wi_value_3, wi_value_4, wi_value_5, wi_value_6, wi_value_7, we_value_exists, we_value_not, we_value_and, we_value_or, wi_plus_0, wi_plus_1, wi_plus_2, wi_plus_3, wi_plus_4, wi_plus_5, wi_plus_6, wi_plus_7, we_plus_exists, we_plus_not, we_plus_and, we_plus_or, wi_is_0, wi_is_1, wi_is_2, wi_is_3, wi_is_4, wi_is_5, wi_is_6, wi_is_7, we_is_exists, we_is_not, we_is_and, we_is_or, wi_not_0, wi_not_1, wi_not_2, wi_not_3, wi_not_4, wi_not_5, wi_not_6, wi_not_7, we_not_exists, we_not_not, we_not_and, we_not_or, wi_less_0, wi_less_1, wi_less_2, wi_less_3, wi_less_4, wi_less_5, wi_less_6, wi_less_7, we_less_exists, we_less_not, we_less_and, we_less_or, wi_most_0, wi_most_1, wi_most_2, wi_most_3, wi_most_4, wi_most_5, wi_most_6, wi_most_7, we_most_exists, we_most_not, we_most_and, we_most_or, wi_same_0, wi_same_1, wi_same_2, wi_same_3, wi_same_4, wi_same_5, wi_same_6, wi_same_7, we_same_exists, we_same_not, we_same_and, we_same_or, wi_and_0, wi_and_1, wi_and_2, wi_and_3, wi_and_4, wi_and_5, wi_and_6, wi_and_7, we_and_exists, we_and_not, we_and_and, we_and_or, wi_or_0, wi_or_1, wi_or_2, wi_or_3, wi_or_4, wi_or_5, wi_or_6, wi_or_7, we_or_exists, we_or_not, we_or_and, we_or_or, wi_exists_0, wi_exists_1, wi_exists_2, wi_exists_3, wi_exists_4, wi_exists_5, wi_exists_6, wi_exists_7, we_exists_exists, we_exists_not, we_exists_and, we_exists_or, wi_only_0, wi_only_1, wi_only_2, wi_only_3, wi_only_4, wi_only_5, wi_only_6, wi_only_7, we_only_exists, we_only_not, we_only_and, we_only_or, wi_first_0, wi_first_1, wi_first_2, wi_first_3, wi_first_4, wi_first_5, wi_first_6, wi_first_7, we_first_exists, we_first_not, we_first_and, we_first_or] <;> refine go _ ?_ <;> simp only [EV, dC] <;> exact ⟨sz (by omega), sz (by omega), q⟩
    | @not n x hx =>
      rw [inn_not hx.part] at q
      have hl := inn_len hx.part
      have cs : cntP (n + 1) = 2 * cntP n + 1 := rfl
      obtain ⟨xw, xa, xr, rfl⟩ := hx.part.head
      have e : cutT [T.str "not", .tup (.str xw :: xa :: xr)] (some 1) none = [.tup (.str xw :: xa :: xr)] := cut_from 1
      simp only [e, sFor, iT, forL, sSeq, sPar, sPut, sIf, sSet, sDrop, sRet, sRetN, sNext, dOp2, dOp1, dVar, dC, dB, dTup, dLst, dLstM, dNil, dCons, dSl, doNone, doSome, dCall, dLm, dLm0, dSm, dAnd, dOr, dNot, dAndV, dOrV, dIf, dChain, dFn, dFn0, dYes, dDisp, dDispM, dPairs, keysT, dNewD, dNewDM,
 oAdd, oSub, oMul, oFdiv, oMod, oPow, oInt2, oNeg, oIx, oSl, oRev, oRevM, oLt, oLe, oGt, oGe, oOrd, oIsN, L3.isNon, oNotB, oDGet, oDIn, oIn, oInS, mAppend, mPop, mJoin, isL, isS, fLen, fIsi, fAbs, fList, fListM, fTuple, fInt, fRepr, fBls, seqOf, tyT,
 look, keyT, Pat.set, start3, pick, List.getElem?_cons_zero, List.getElem?_cons_succ, List.set_cons_zero, List.set_cons_succ, List.map_cons, List.map_nil, List.length_cons, List.length_nil, List.nil_append, List.cons_append, List.replicate_succ, List.replicate_zero, Nat.reduceSub, Nat.reduceAdd, flatOf, kit_NoneType_str, kit_bool_str, kit_int_str, kit_str_str, kit_tuple_str, kit_list_str, kit_dict_str, kit_NoneType_int, kit_bool_int, kit_int_int, kit_str_int, kit_tuple_int, kit_list_int, kit_dict_int, kit_NoneType_bool, kit_bool_bool, kit_int_bool, kit_str_bool, kit_tuple_bool, kit_list_bool, kit_dict_bool, kit_NoneType_tuple, kit_bool_tuple, kit_int_tuple, kit_str_tuple, kit_tuple_tuple, kit_list_tuple, kit_dict_tuple, kit_NoneType_list, kit_bool_list, kit_int_list, kit_str_list, kit_tuple_list, kit_list_list, kit_dict_list, kit_NoneType_dict, kit_bool_dict, kit_int_dict, kit_str_dict, kit_tuple_dict, kit_list_dict, kit_dict_dict, Bool.false_eq_true, if_false, if_true, reduceIte, true_and, sz_0, sz_1, sz_2, sz_3, sz_4, sz_5, sz_6, sz_7, sz_8, sz_9, sz_10, sz_11, sz_12, sz_13, sz_14, sz_15, sz_16, sz_17, sz_18, sz_19, sz_20, sz_21, sz_22, sz_23, sz_24, sz_25, sz_26, sz_27, sz_28, sz_29, sz_30, sz_31, sz_32, sz_33, sz_34, sz_35, sz_36, sz_37, sz_38, sz_39, sz_40, sz_41, sz_42, sz_43, sz_44, sz_45, sz_46, sz_47, atI_c0, atI_c1, atI_c2, atI_c3, atI_c4, List.append_nil, List.filterMap_cons, List.filterMap_nil, and_self, dStar, mSplit, fSortS, fSortT, L3.setAll, mExtend, dKGet, dB, oIn, seqOf, eqb_ss, eqb_ii, eqb_bb, eqb_nn, eqb_ni, eqb_in, eqb_ns, eqb_sn, eqb_is, eqb_si, Bool.not_true, Bool.not_false, flatT, List.all_cons, List.all_nil, Bool.and_self, mExt, mCount, dFnV, dSortSet, sUnl, wi_column_0, wi_column_1, wi_column_2, wi_column_3, wi_column_4, wi_column_5, wi_column_6, wi_column_7, we_column_exists, we_column_not, we_column_and, we_column_or, wi_value_0, wi_value_1, wi_value_2, wi_value_3, wi_value_4, wi_value_5, wi_value_6, wi_value_7, we_value_exists, we_value_not, we_value_and, we_value_or, wi_plus_0, wi_plus_1, wi_plus_2, wi_plus_3, wi_plus_4, wi_plus_5, wi_plus_6, wi_plus_7, we_plus_exists, we_plus_not, we_plus_and, we_plus_or, wi_is_0, wi_is_1, wi_is_2, wi_is_3, wi_is_4, wi_is_5, wi_is_6, wi_is_7, we_is_exists, we_is_not, we_is_and, we_is_or, wi_not_0, wi_not_1, wi_not_2, wi_not_3, wi_not_4, wi_not_5, wi_not_6, wi_not_7, we_not_exists, we_not_not, we_not_and, we_not_or, wi_less_0, wi_less_1, wi_less_2, wi_less_3, wi_less_4, wi_less_5, wi_less_6, wi_less_7, we_less_exists, we_less_not, we_less_and, we_less_or, wi_most_0, wi_most_1, wi_most_2, wi_most_3, wi_most_4, wi_most_5, wi_most_6, wi_most_7, we_most_exists, we_most_not, we_most_and, we_most_or, wi_same_0, wi_same_1, wi_same_2, wi_same_3, wi_same_4, wi_same_5, wi_same_6, wi_same_7, we_same_exists, we_same_not, we_same_and, we_same_or, wi_and_0, wi_and_1, wi_and_2, wi_and_3, wi_and_4, wi_and_5, wi_and_6, wi_and_7, we_and_exists, we_and_not, we_and_and, we_and_or, wi_or_0, wi_or_1, wi_or_2, wi_or_3, wi_or_4, wi_or_5, wi_or_6, wi_or_7, we_or_exists, we_or_not, we_or_and, we_or_or, wi_exists_0, wi_exists_1, wi_exists_2, wi_exists_3, wi_exists_4, wi_exists_5, wi_exists_6, wi_exists_7, we_exists_exists, we_exists_not, we_exists_and, we_exists_or, wi_only_0, wi_only_1, wi_only_2, wi_only_3, wi_only_4, wi_only_5, wi_only_6, wi_only_7, we_only_exists, we_only_not, we_only_and, we_only_or, wi_first_0, wi_first_1, wi_first_2, wi_first_3, wi_first_4, wi_first_5, wi_first_6, wi_first_7, we_first_exists, we_first_not, we_first_and, we_first_or]
      refine ⟨_, rfl, hx, by omega, ?_⟩
      simp only [EV, dC]
      exact ⟨sz (by omega), q⟩
    | @two n w x y hw hx hy =>
      rw [inn_two hw hx.part hy.part] at q
      have hl := inn_len hx.part
      have hl2 := inn_len hy.part
      have cs : cntP (n + 1) = 2 * cntP n + 1 := rfl
      obtain ⟨xw, xa, xr, rfl⟩ := hx.part.head
      obtain ⟨yw, ya, yr, rfl⟩ := hy.part.head
      have e : cutT [T.str w, .tup (.str xw :: xa :: xr), .tup (.str yw :: ya :: yr)] (some 1) none = [.tup (.str xw :: xa :: xr), .tup (.str yw :: ya :: yr)] := cut_from 1
      rcases hw with rfl | rfl | rfl | rfl | rfl
      all_goals
        simp only [e, sFor, iT, forL, sSeq, sPar, sPut, sIf, sSet, sDrop, sRet, sRetN, sNext, dOp2, dOp1, dVar, dC, dB, dTup, dLst, dLstM, dNil, dCons, dSl, doNone, doSome, dCall, dLm, dLm0, dSm, dAnd, dOr, dNot, dAndV, dOrV, dIf, dChain, dFn, dFn0, dYes, dDisp, dDispM, dPairs, keysT, dNewD, dNewDM,
 oAdd, oSub, oMul, oFdiv, oMod, oPow, oInt2, oNeg, oIx, oSl, oRev, oRevM, oLt, oLe, oGt, oGe, oOrd, oIsN, L3.isNon, oNotB, oDGet, oDIn, oIn, oInS, mAppend, mPop, mJoin, isL, isS, fLen, fIsi, fAbs, fList, fListM, fTuple, fInt, fRepr, fBls, seqOf, tyT,
 look, keyT, Pat.set, start3, pick, List.getElem?_cons_zero, List.getElem?_cons_succ, List.set_cons_zero, List.set_cons_succ, List.map_cons, List.map_nil, List.length_cons, List.length_nil, List.nil_append, List.cons_append, List.replicate_succ, List.replicate_zero, Nat.reduceSub, Nat.reduceAdd, flatOf, kit_NoneType_str, kit_bool_str, kit_int_str, kit_str_str, kit_tuple_str, kit_list_str, kit_dict_str, kit_NoneType_int, kit_bool_int, kit_int_int, kit_str_int, kit_tuple_int, kit_list_int, kit_dict_int, kit_NoneType_bool, kit_bool_bool, kit_int_bool, kit_str_bool, kit_tuple_bool, kit_list_bool, kit_dict_bool, kit_NoneType_tuple, kit_bool_tuple, kit_int_tuple, kit_str_tuple, kit_tuple_tuple, kit_list_tuple, kit_dict_tuple, kit_NoneType_list, kit_bool_list, kit_int_list, kit_str_list, kit_tuple_list, kit_list_list, kit_dict_list, kit_NoneType_dict, kit_bool_dict, kit_int_dict, kit_str_dict, kit_tuple_dict, kit_list_dict, kit_dict_dict, Bool.false_eq_true, if_false, if_true, reduceIte, true_and, sz_0, sz_1, sz_2, sz_3, sz_4, sz_5, sz_6, sz_7, sz_8, sz_9, sz_10, sz_11, sz_12, sz_13, sz_14, sz_15, sz_16, sz_17, sz_18, sz_19, sz_20, sz_21, sz_22, sz_23, sz_24, sz_25, sz_26, sz_27, sz_28, sz_29, sz_30, sz_31, sz_32, sz_33, sz_34, sz_35, sz_36, sz_37, sz_38, sz_39, sz_40, sz_41, sz_42, sz_43, sz_44, sz_45, sz_46, sz_47, atI_c0, atI_c1, atI_c2, atI_c3, atI_c4, List.append_nil, List.filterMap_cons, List.filterMap_nil, and_self, dStar, mSplit, fSortS, fSortT, L3.setAll, mExtend, dKGet, dB, oIn, seqOf, eqb_ss, eqb_ii, eqb_bb, eqb_nn, eqb_ni, eqb_in, eqb_ns, eqb_sn, eqb_is, eqb_si, Bool.not_true, Bool.not_false, flatT, List.all_cons, List.all_nil, Bool.and_self, mExt, mCount, dFnV, dSortSet, sUnl, wi_column_0, wi_column_1, wi_column_2, wi_column_3, wi_column_4, wi_column_5, wi_column_6, wi_column_7, we_column_exists, we_column_not, we_column_and, we_column_or, wi_value_0, wi_value_1, wi_value_2, wi_value_3, wi_value_4, wi_value_5, wi_value_6, wi_value_7, we_value_exists, we_value_not, we_value_and, we_value_or, wi_plus_0, wi_plus_1, wi_plus_2, wi_plus_3, wi_plus_4, wi_plus_5, wi_plus_6, wi_plus_7, we_plus_exists, we_plus_not, we_plus_and, we_plus_or, wi_is_0, wi_is_1, wi_is_2, wi_is_3, wi_is_4, wi_is_5, wi_is_6, wi_is_7, we_is_exists, we_is_not, we_is_and, we_is_or, wi_not_0, wi_not_1, wi_not_2, wi_not_3, wi_not_4, wi_not_5, wi_not_6, wi_not_7, we_not_exists, we_not_not, we_not_and, we_not_or, wi_less_0, wi_less_1, wi_less_2, wi_less_3, wi_less_4, wi_less_5, wi_less_6, wi_less_7, we_less_exists, we_less_not, we_less_and, we_less_or, wi_most_0, wi_most_1, wi_most_2, wi_most_3, wi_most_4, wi_most_5, wi_most_6, wi_most_7, we_most_exists, we_most_not, we_most_and, we_most_or, wi_same_0, wi_same_1, wi_same_2, wi_same_3, wi_same_4, wi_same_5, wi_same_6, wi_same_7, we_same_exists, we_same_not, we_same_and, we_same_or, wi_and_0, wi_and_1, wi_and_2, wi_and_3, wi_and_4, wi_and_5, wi_and_6, wi_and_7, we_and_exists, we_and_not, we_and_and, we_and_or, wi_or_0, wi_or_1, wi_or_2, wi_or_3, wi_or_4, wi_or_5, wi_or_6, wi_or_7, we_or_exists, we_or_not, we_or_and, we_or_or, wi_exists_0, wi_exists_1, wi_exists_2, wi_exists_3, wi_exists_4, wi_exists_5, wi_exists_6, wi_exists_7, we_exists_exists, we_exists_not, we_exists_and, we_exists_or, wi_only_0, wi_only_1, wi_only_2, wi_only_3, wi_only_4, wi_only_5, wi_only_6, wi_only_7, we_only_exists, we_only_not, we_only_and, we_only_or, wi_first_0, wi_first_1, wi_first_2, wi_first_3, wi_first_4, wi_first_5, wi_first_6, wi_first_7, we_first_exists, we_first_not, we_first_and, we_first_or]
        refine ⟨_, rfl, hx, by omega, ?_⟩
        simp only [EV, dC]
        refine ⟨sz (by omega), _, rfl, hy, by omega, ?_⟩
        simp only [EV, dC]
        exact ⟨sz (by omega), q⟩
    | @«exists» n o x ho hx h0 =>
      rw [inn_exists ho hx, h0] at q
      simp only [sSeq, sPar, sPut, sIf, sSet, sDrop, sRet, sRetN, sNext, dOp2, dOp1, dVar, dC, dB, dTup, dLst, dLstM, dNil, dCons, dSl, doNone, doSome, dCall, dLm, dLm0, dSm, dAnd, dOr, dNot, dAndV, dOrV, dIf, dChain, dFn, dFn0, dYes, dDisp, dDispM, dPairs, keysT, dNewD, dNewDM,
 oAdd, oSub, oMul, oFdiv, oMod, oPow, oInt2, oNeg, oIx, oSl, oRev, oRevM, oLt, oLe, oGt, oGe, oOrd, oIsN, L3.isNon, oNotB, oDGet, oDIn, oIn, oInS, mAppend, mPop, mJoin, isL, isS, fLen, fIsi, fAbs, fList, fListM, fTuple, fInt, fRepr, fBls, seqOf, tyT,
 look, keyT, Pat.set, start3, pick, List.getElem?_cons_zero, List.getElem?_cons_succ, List.set_cons_zero, List.set_cons_succ, List.map_cons, List.map_nil, List.length_cons, List.length_nil, List.nil_append, List.cons_append, List.replicate_succ, List.replicate_zero, Nat.reduceSub, Nat.reduceAdd, flatOf, kit_NoneType_str, kit_bool_str, kit_int_str, kit_str_str, kit_tuple_str, kit_list_str, kit_dict_str, kit_NoneType_int, kit_bool_int, kit_int_int, kit_str_int, kit_tuple_int, kit_list_int, kit_dict_int, kit_NoneType_bool, kit_bool_bool, kit_int_bool, kit_str_bool, kit_tuple_bool, kit_list_bool, kit_dict_bool, kit_NoneType_tuple, kit_bool_tuple, kit_int_tuple, kit_str_tuple, kit_tuple_tuple, kit_list_tuple, kit_dict_tuple, kit_NoneType_list, kit_bool_list, kit_int_list, kit_str_list, kit_tuple_list, kit_list_list, kit_dict_list, kit_NoneType_dict, kit_bool_dict, kit_int_dict, kit_str_dict, kit_tuple_dict, kit_list_dict, kit_dict_dict, Bool.false_eq_true, if_false, if_true, reduceIte, true_and, sz_0, sz_1, sz_2, sz_3, sz_4, sz_5, sz_6, sz_7, sz_8, sz_9, sz_10, sz_11, sz_12, sz_13, sz_14, sz_15, sz_16, sz_17, sz_18, sz_19, sz_20, sz_21, sz_22, sz_23, sz_24, sz_25, sz_26, sz_27, sz_28, sz_29, sz_30, sz_31, sz_32, sz_33, sz_34, sz_35, sz_36, sz_37, sz_38, sz_39, sz_40, sz_41, sz_42, sz_43, sz_44, sz_45, sz_46, sz_47, atI_c0, atI_c1, atI_c2, atI_c3, atI_c4, List.append_nil, List.filterMap_cons, List.filterMap_nil, and_self, dStar, mSplit, fSortS, fSortT, L3.setAll, mExtend, dKGet, dB, oIn, seqOf, eqb_ss, eqb_ii, eqb_bb, eqb_nn, eqb_ni, eqb_in, eqb_ns, eqb_sn, eqb_is, eqb_si, Bool.not_true, Bool.not_false, flatT, List.all_cons, List.all_nil, Bool.and_self, mExt, mCount, dFnV, dSortSet, sUnl, wi_column_0, wi_column_1, wi_column_2, wi_column_3, wi_column_4, wi_column_5, wi_column_6, wi_column_7, we_column_exists, we_column_not, we_column_and, we_column_or, wi_value_0, wi_value_1, wi_value_2, wi_value_3, wi_value_4, wi_value_5, wi_value_6, wi_value_7, we_value_exists, we_value_not, we_value_and, we_value_or, wi_plus_0, wi_plus_1, wi_plus_2, wi_plus_3, wi_plus_4, wi_plus_5, wi_plus_6, wi_plus_7, we_plus_exists, we_plus_not, we_plus_and, we_plus_or, wi_is_0, wi_is_1, wi_is_2, wi_is_3, wi_is_4, wi_is_5, wi_is_6, wi_is_7, we_is_exists, we_is_not, we_is_and, we_is_or, wi_not_0, wi_not_1, wi_not_2, wi_not_3, wi_not_4, wi_not_5, wi_not_6, wi_not_7, we_not_exists, we_not_not, we_not_and, we_not_or, wi_less_0, wi_less_1, wi_less_2, wi_less_3, wi_less_4, wi_less_5, wi_less_6, wi_less_7, we_less_exists, we_less_not, we_less_and, we_less_or, wi_most_0, wi_most_1, wi_most_2, wi_most_3, wi_most_4, wi_most_5, wi_most_6, wi_most_7, we_most_exists, we_most_not, we_most_and, we_most_or, wi_same_0, wi_same_1, wi_same_2, wi_same_3, wi_same_4, wi_same_5, wi_same_6, wi_same_7, we_same_exists, we_same_not, we_same_and, we_same_or, wi_and_0, wi_and_1, wi_and_2, wi_and_3, wi_and_4, wi_and_5, wi_and_6, wi_and_7, we_and_exists, we_and_not, we_and_and, we_and_or, wi_or_0, wi_or_1, wi_or_2, wi_or_3, wi_or_4, wi_or_5, wi_or_6, wi_or_7, we_or_exists, we_or_not, we_or_and, we_or_or, wi_exists_0, wi_exists_1, wi_exists_2, wi_exists_3, wi_exists_4, wi_exists_5, wi_exists_6, wi_exists_7, we_exists_exists, we_exists_not, we_exists_and, we_exists_or, wi_only_0, wi_only_1, wi_only_2, wi_only_3, wi_only_4, wi_only_5, wi_only_6, wi_only_7, we_only_exists, we_only_not, we_only_and, we_only_or, wi_first_0, wi_first_1, wi_first_2, wi_first_3, wi_first_4, wi_first_5, wi_first_6, wi_first_7, we_first_exists, we_first_not, we_first_and, we_first_or]
      exact q
    | @only n w o x y hw ho hx hy h0 h1 =>
      rw [inn_only hw ho hx hy, h0, h1, List.append_nil] at q
      rcases hw with rfl | rfl <;> simp only [sSeq, sPar, sPut, sIf, sSet, sDrop, sRet, sRetN, sNext, dOp2, dOp1, dVar, dC, dB, dTup, dLst, dLstM, dNil, dCons, dSl, doNone, doSome, dCall, dLm, dLm0, dSm, dAnd, dOr, dNot, dAndV, dOrV, dIf, dChain, dFn, dFn0, dYes, dDisp, dDispM, dPairs, keysT, dNewD, dNewDM,
 oAdd, oSub, oMul, oFdiv, oMod, oPow, oInt2, oNeg, oIx, oSl, oRev, oRevM, oLt, oLe, oGt, oGe, oOrd, oIsN, L3.isNon, oNotB, oDGet, oDIn, oIn, oInS, mAppend, mPop, mJoin, isL, isS, fLen, fIsi, fAbs, fList, fListM, fTuple, fInt, fRepr, fBls, seqOf, tyT,
 look, keyT, Pat.set, start3, pick, List.getElem?_cons_zero, List.getElem?_cons_succ, List.set_cons_zero, List.set_cons_succ, List.map_cons, List.map_nil, List.length_cons, List.length_nil, List.nil_append, List.cons_append, List.replicate_succ, List.replicate_zero, Nat.reduceSub, Nat.reduceAdd, flatOf, kit_NoneType_str, kit_bool_str, kit_int_str, kit_str_str, kit_tuple_str, kit_list_str, kit_dict_str, kit_NoneType_int, kit_bool_int, kit_int_int, kit_str_int, kit_tuple_int, kit_list_int, kit_dict_int, kit_NoneType_bool, kit_bool_bool, kit_int_bool, kit_str_bool, kit_tuple_bool, kit_list_bool, kit_dict_bool, kit_NoneType_tuple, kit_bool_tuple, kit_int_tuple, kit_str_tuple, kit_tuple_tuple, kit_list_tuple, kit_dict_tuple, kit_NoneType_list, kit_bool_list, kit_int_list, kit_str_list, kit_tuple_list, kit_list_list, kit_dict_list, kit_NoneType_dict, kit_bool_dict, kit_int_dict, kit_str_dict, kit_tuple_dict, kit_list_dict, kit_dict_dict, Bool.false_eq_true, if_false, if_true, reduceIte, true_and, sz_0, sz_1, sz_2, sz_3, sz_4, sz_5, sz_6, sz_7, sz_8, sz_9, sz_10, sz_11, sz_12, sz_13, sz_14, sz_15, sz_16, sz_17, sz_18, sz_19, sz_20, sz_21, sz_22, sz_23, sz_24, sz_25, sz_26, sz_27, sz_28, sz_29, sz_30, sz_31, sz_32, sz_33, sz_34, sz_35, sz_36, sz_37, sz_38, sz_39, sz_40, sz_41, sz_42, sz_43, sz_44, sz_45, sz_46, sz_47, atI_c0, atI_c1, atI_c2, atI_c3, atI_c4, List.append_nil, List.filterMap_cons, List.filterMap_nil, and_self, dStar, mSplit, fSortS, fSortT, L3.setAll, mExtend, dKGet, dB, oIn, seqOf, eqb_ss, eqb_ii, eqb_bb, eqb_nn, eqb_ni, eqb_in, eqb_ns, eqb_sn, eqb_is, eqb_si, Bool.not_true, Bool.not_false, flatT, List.all_cons, List.all_nil, Bool.and_self, mExt, mCount, dFnV, dSortSet, sUnl, wi_column_0, wi_column_1, wi_column_2, wi_column_3, wi_column_4, wi_column_5, wi_column_6, wi_column_7, we_column_exists, we_column_not, we_column_and, we_column_or, wi_value_0, wi_value_1, wi_value_2, wi_value_3, wi_value_4, wi_value_5, wi_value_6, wi_value_7, we_value_exists, we_value_not, we_value_and, we_value_or, wi_plus_0, wi_plus_1, wi_plus_2, wi_plus_3, wi_plus_4, wi_plus_5, wi_plus_6, wi_plus_7, we_plus_exists, we_plus_not, we_plus_and, we_plus_or, wi_is_0, wi_is_1, wi_is_2, wi_is_3, wi_is_4, wi_is_5, wi_is_6, wi_is_7, we_is_exists, we_is_not, we_is_and, we_is_or, wi_not_0, wi_not_1, wi_not_2, wi_not_3, wi_not_4, wi_not_5, wi_not_6, wi_not_7, we_not_exists, we_not_not, we_not_and, we_not_or, wi_less_0, wi_less_1, wi_less_2, wi_less_3, wi_less_4, wi_less_5, wi_less_6, wi_less_7, we_less_exists, we_less_not, we_less_and, we_less_or, wi_most_0, wi_most_1, wi_most_2, wi_most_3, wi_most_4, wi_most_5, wi_most_6, wi_most_7, we_most_exists, we_most_not, we_most_and, we_most_or, wi_same_0, wi_same_1, wi_same_2, wi_same_3, wi_same_4, wi_same_5, wi_same_6, wi_same_7, we_same_exists, we_same_not, we_same_and, we_same_or, wi_and_0, wi_and_1, wi_and_2, wi_and_3, wi_and_4, wi_and_5, wi_and_6, wi_and_7, we_and_exists, we_and_not, we_and_and, we_and_or, wi_or_0, wi_or_1, wi_or_2, wi_or_3, wi_or_4, wi_or_5, wi_or_6, wi_or_7, we_or_exists, we_or_not, we_or_and, we_or_or, wi_exists_0, wi_exists_1, wi_exists_2, wi_exists_3, wi_exists_4, wi_exists_5, wi_exists_6, wi_exists_7, we_exists_exists, we_exists_not, we_exists_and, we_exists_or, wi_only_0, wi_only_1, wi_only_2, wi_only_3, wi_only_4, wi_only_5, wi_only_6, wi_only_7, we_only_exists, we_only_not, we_only_and, we_only_or, wi_first_0, wi_first_1, wi_first_2, wi_first_3, wi_first_4, wi_first_5, wi_first_6, wi_first_7, we_first_exists, we_first_not, we_first_and, we_first_or] <;> exact q

theorem ok_l_shapes (E : Fns K mg) {n : Nat} (hn : n ≤ 10) (G_l_inners : FnD P w K mg base (n + 1) E.f_l_inners E.fd_l_inners ["part"] (spLInnAt (n + 1))) : FnD P w K mg base (n + 2) E.f_l_shapes E.fd_l_shapes ["asked", "more"] (spLShapes n) := by
  have nd := sc_l_shapes.nd
  refine okF E.F_l_shapes sc_l_shapes ?len fun cdv A outer s H X hr hgd => ⟨_, (dss_cons (ds_par 2 3 rfl nd rfl rfl (by decide) rfl rfl (d_comp [("alias", 4), ("table", 5)] fin_L rfl nd (di_tup (d_ix (d_var 0) d_int (fun _ _ => rfl))) (by kernel_rfl)
  (fun _ _ _ _ _ => (dg_tp [4, 5] rfl (pgs_cons (pg_name (i := 4) nd rfl (by first | exact Or.inl rfl | exact Or.inr rfl)) (pgs_cons (pg_name (i := 5) nd rfl (by first | exact Or.inl rfl | exact Or.inr rfl)) pgs_nil)))) (fun _ _ _ _ _ => dts_nil) (fun _ _ _ _ _ => (d_var 5))) (d_lst da_nil))
  (dss_cons (ds_for PassesOwn.never rfl (di_list (d_add (d_lst (da_cons (d_var 0) da_nil)) (d_var 1))) (dg_nm 6 nd rfl (by first | exact Or.inl rfl | exact Or.inr rfl))
  (dss_one (ds_for PassesOwn.never rfl (di_list (d_add (d_ifExp (dt_isN (d_ix (d_var 6) d_int (fun _ _ => rfl))) (d_lst da_nil) (d_lst (da_cons (d_ix (d_var 6) d_int (fun _ _ => rfl)) da_nil))) (d_list (by rfl) E.m_list (da_cons (d_ix (d_var 6) d_int (fun _ _ => rfl)) da_nil)))) (dg_nm 7 nd rfl (by first | exact Or.inl rfl | exact Or.inr rfl))
  (dss_one (ds_for PassesOwn.never rfl (di_list (d_fn G_l_inners (hr.mono (by omega)) hgd (by rfl) E.g_l_inners E.F_l_inners.kp (kb_l_inners_1 E) (da_cons (d_var 7) da_nil) dk_nil)) (dg_nm 8 nd rfl (by first | exact Or.inl rfl | exact Or.inr rfl))
  (dss_one (ds_set 3 nd rfl (by first | exact Or.inl rfl | exact Or.inr rfl) (d_add (d_var 3) (d_mul (d_comp [("alias", 4), ("table", 5)] fin_L rfl nd (di_tup (d_ix (d_ix (d_var 8) d_int (fun _ _ => rfl)) d_int (fun _ _ => rfl))) (by kernel_rfl)
  (fun _ _ _ _ _ => (dg_tp [4, 5] rfl (pgs_cons (pg_name (i := 4) nd rfl (by first | exact Or.inl rfl | exact Or.inr rfl)) (pgs_cons (pg_name (i := 5) nd rfl (by first | exact Or.inl rfl | exact Or.inr rfl)) pgs_nil)))) (fun _ _ _ _ _ => dts_nil) (fun _ _ _ _ _ => (d_var 5))) (d_add d_int (d_intc (by rfl) E.m_int (da_cons (d_eq hr.units (d_ix (d_var 8) d_int (fun _ _ => rfl)) d_str) da_nil))))))))))))
  (dss_cons (ds_set 9 nd rfl (by first | exact Or.inl rfl | exact Or.inr rfl) (d_lst (da_cons (d_tup da_nil) da_nil)))
  (dss_cons (ds_for PassesOwn.never rfl (di_list (d_sortSet rfl (by rfl) E.m_sorted (by rfl) E.m_set (d_add (d_var 2) (d_var 3)))) (dg_nm 5 nd rfl (by first | exact Or.inl rfl | exact Or.inr rfl))
  (dss_cons (ds_asg (d_tup (da_cons (d_intc (by rfl) E.m_int (da_cons (d_in (d_var 5) (d_var 2) (by rfl)) da_nil)) (da_cons (d_lst da_nil) da_nil))) (dg_tp [10, 11] rfl (pgs_cons (pg_name (i := 10) nd rfl (by first | exact Or.inl rfl | exact Or.inr rfl)) (pgs_cons (pg_name (i := 11) nd rfl (by first | exact Or.inl rfl | exact Or.inr rfl)) pgs_nil))))
  (dss_cons (ds_for PassesOwn.never rfl (di_list (d_var 9)) (dg_nm 12 nd rfl (by first | exact Or.inl rfl | exact Or.inr rfl))
  (dss_cons (ds_set 13 nd rfl (by first | exact Or.inl rfl | exact Or.inr rfl) (d_sub (d_add (d_add (d_count (d_var 2) (da_cons (d_var 5) da_nil)) (d_count (d_var 3) (da_cons (d_var 5) da_nil))) d_int) (d_var 10)))
  (dss_one (ds_set 11 nd rfl (by first | exact Or.inl rfl | exact Or.inr rfl) (d_add (d_var 11) (d_comp [("k", 14)] fin_L rfl nd (di_range1 (by rfl) E.m_range (d_var 13)) (by kernel_rfl)
  (fun _ _ _ _ _ => (dg_nm 14 nd rfl (by first | exact Or.inl rfl | exact Or.inr rfl))) (fun _ _ _ _ _ => dts_nil) (fun _ _ _ _ _ => (d_add (d_var 12) (d_tup (da_cons (d_tup (da_cons (d_var 5) (da_cons (d_add (d_var 10) (d_var 14)) da_nil))) da_nil))))))))))
  (dss_one (ds_set 9 nd rfl (by first | exact Or.inl rfl | exact Or.inr rfl) (d_var 11))))))
  (dss_one (ds_ret (d_tuple (by rfl) E.m_tuple (da_cons (d_var 9) da_nil)))))))), ?_⟩
  case len =>
    rintro ts M Q ⟨q, qs, rfl, _⟩
    rfl
  · rintro ts M Q ⟨q0, qs, rfl, hl, hq, few, q⟩
    obtain ⟨T2, t2, hi2, ho2, hl2⟩ := few.ex
    have hall : ((q0 :: qs).flatMap (lTab n)).length ≤ 29 := by rw [(lTabs_perm n _).length_eq]; omega
    have ql : ∀ k, (((q0 :: qs).take k).flatMap (lTab n)).length ≤ 29 := by
      intro k
      have : (((q0 :: qs).take k).flatMap (lTab n)).length ≤ ((q0 :: qs).flatMap (lTab n)).length := by
        conv => rhs; rw [← List.take_append_drop k (q0 :: qs)]
        rw [List.flatMap_append, List.length_append]
        omega
      omega
    simp only [EV, sFor, iL]
    refine cut_k (.lst ((q0.rl.map (·.2)).map T.str)) M (fun K k => ?_) ?_
    · refine comp_go ?_
      simp only [EV, iT, Qn.t]
      refine compL_allA (xs := q0.rl) (g := prT) (f := fun a => T.str a.2) trivial (fun a ha => ⟨_, rfl, fun R kk => ?_⟩) (sz (by rw [List.length_map] at hl2; omega)) (by rw [List.map_map] at k; exact k)
      simp only [EV, wipe3]
      exact kk
    refine ⟨sz (by rw [List.length_map]; omega), ?_⟩
    refine forL_inv (xs := (q0 :: qs).map Qn.t) (fun j ss M' => M' = M ∧ ∃ x4 x5 x6 x7 x8 x9 x10 x11 x12 x13 x14 : Option T, ss = [some q0.t, some (.lst (qs.map Qn.t)), some (.lst ((q0.rl.map (·.2)).map T.str)), some (.lst ((((q0 :: qs).take j).flatMap (lTab n)).map T.str)), x4, x5, x6, x7, x8, x9, x10, x11, x12, x13, x14]) (fun _ _ _ _ => by trivial) 0 ⟨rfl, _, _, _, _, _, _, _, _, _, _, _, rfl⟩ ?_ ?_
    · rintro j t ss M2 hj ⟨rfl, x4, x5, x6, x7, x8, x9, x10, x11, x12, x13, x14, rfl⟩
      rw [List.getElem?_map] at hj
      obtain ⟨y, hy, rfl⟩ := Option.map_eq_some_iff.mp hj
      obtain ⟨hqy, hlp⟩ := hq y (List.mem_of_getElem? hy)
      have et : (q0 :: qs).take (j + 1) = (q0 :: qs).take j ++ [y] := by rw [List.take_succ, hy]; rfl
      have l1 := ql (j + 1)
      rw [et, List.flatMap_append, List.flatMap_cons, List.flatMap_nil, List.append_nil, List.length_append] at l1
      obtain ⟨yr, yw, yh, yo, yl⟩ := y
      change Q5 n (.tup [.tup (yr.map prT), yw, .tup yh, yo, yl]) at hqy
      obtain ⟨a1, a2, a3, a4, a5, e, _, h2, h3, h4, _, _⟩ := hqy.ex
      cases e
      change ∀ p ∈ wps yw yh, LP n p at hlp
      rw [Nat.zero_add]
      generalize hP : ((q0 :: qs).take j).flatMap (lTab n) = pre at l1
      have hlen : ∀ k, (((lps yw yh).take k).flatMap (inn n)).length ≤ ((lps yw yh).flatMap (inn n)).length := fun k => by
        conv => rhs; rw [← List.take_append_drop k (lps yw yh)]
        rw [List.flatMap_append, List.length_append]
        omega
      have sub : ∀ (l : List T) (k : Nat), ((l.take k).flatMap ptabs).length ≤ (l.flatMap ptabs).length := fun l k => by
        conv => rhs; rw [← List.take_append_drop k l]
        rw [List.flatMap_append, List.length_append]
        omega
      have lpl : (lps yw yh).length ≤ 5 := by
        unfold lps
        rw [List.length_append]
        split <;> simp <;> omega
      refine ⟨_, rfl, fun N kk => ?_⟩
      simp only [Qn.t, sFor, iL, sSeq, sPar, sPut, sIf, sSet, sDrop, sRet, sRetN, sNext, dOp2, dOp1, dVar, dC, dB, dTup, dLst, dLstM, dNil, dCons, dSl, doNone, doSome, dCall, dLm, dLm0, dSm, dAnd, dOr, dNot, dAndV, dOrV, dChain, dFn, dFn0, dYes, dDisp, dDispM, dPairs, keysT, dNewD, dNewDM,
 oAdd, oSub, oMul, oFdiv, oMod, oPow, oInt2, oNeg, oIx, oSl, oRev, oRevM, oLt, oLe, oGt, oGe, oOrd, oIsN, L3.isNon, oNotB, oDGet, oDIn, oIn, oInS, mAppend, mPop, mJoin, isL, isS, fLen, fIsi, fAbs, fList, fListM, fTuple, fInt, fRepr, fBls, seqOf, tyT,
 look, keyT, Pat.set, start3, pick, List.getElem?_cons_zero, List.getElem?_cons_succ, List.set_cons_zero, List.set_cons_succ, List.map_cons, List.map_nil, List.length_cons, List.length_nil, List.nil_append, List.cons_append, List.replicate_succ, List.replicate_zero, Nat.reduceSub, Nat.reduceAdd, flatOf, kit_NoneType_str, kit_bool_str, kit_int_str, kit_str_str, kit_tuple_str, kit_list_str, kit_dict_str, kit_NoneType_int, kit_bool_int, kit_int_int, kit_str_int, kit_tuple_int, kit_list_int, kit_dict_int, kit_NoneType_bool, kit_bool_bool, kit_int_bool, kit_str_bool, kit_tuple_bool, kit_list_bool, kit_dict_bool, kit_NoneType_tuple, kit_bool_tuple, kit_int_tuple, kit_str_tuple, kit_tuple_tuple, kit_list_tuple, kit_dict_tuple, kit_NoneType_list, kit_bool_list, kit_int_list, kit_str_list, kit_tuple_list, kit_list_list, kit_dict_list, kit_NoneType_dict, kit_bool_dict, kit_int_dict, kit_str_dict, kit_tuple_dict, kit_list_dict, kit_dict_dict, Bool.false_eq_true, if_false, if_true, reduceIte, true_and, sz_0, sz_1, sz_2, sz_3, sz_4, sz_5, sz_6, sz_7, sz_8, sz_9, sz_10, sz_11, sz_12, sz_13, sz_14, sz_15, sz_16, sz_17, sz_18, sz_19, sz_20, sz_21, sz_22, sz_23, sz_24, sz_25, sz_26, sz_27, sz_28, sz_29, sz_30, sz_31, sz_32, sz_33, sz_34, sz_35, sz_36, sz_37, sz_38, sz_39, sz_40, sz_41, sz_42, sz_43, sz_44, sz_45, sz_46, sz_47, atI_c0, atI_c1, atI_c2, atI_c3, atI_c4, List.append_nil, List.filterMap_cons, List.filterMap_nil, and_self, dStar, mSplit, fSortS, fSortT, L3.setAll, mExtend, dKGet, dB, oIn, seqOf, eqb_ss, eqb_ii, eqb_bb, eqb_nn, eqb_ni, eqb_in, eqb_ns, eqb_sn, eqb_is, eqb_si, Bool.not_true, Bool.not_false, flatT, List.all_cons, List.all_nil, Bool.and_self, mExt, mCount, dFnV, dSortSet, sUnl]
      refine cut_k (.lst (if isNo yw then [] else [yw])) M2 (fun K k => ?_) ?_
      · rcases h2 with rfl | h2
        · simp only [EV, dC]
          exact k
        · have nn : L3.isNon yw = some false := by cases h2 <;> rfl
          have no : isNo yw = false := by cases h2 <;> rfl
          rw [no, if_neg Bool.false_ne_true] at k
          simp only [nn, sSeq, sPar, sPut, sIf, sSet, sDrop, sRet, sRetN, sNext, dOp2, dOp1, dVar, dC, dB, dTup, dLst, dLstM, dNil, dCons, dSl, doNone, doSome, dCall, dLm, dLm0, dSm, dAnd, dOr, dNot, dAndV, dOrV, dIf, dChain, dFn, dFn0, dYes, dDisp, dDispM, dPairs, keysT, dNewD, dNewDM,
 oAdd, oSub, oMul, oFdiv, oMod, oPow, oInt2, oNeg, oIx, oSl, oRev, oRevM, oLt, oLe, oGt, oGe, oOrd, oIsN, oNotB, oDGet, oDIn, oIn, oInS, mAppend, mPop, mJoin, isL, isS, fLen, fIsi, fAbs, fList, fListM, fTuple, fInt, fRepr, fBls, seqOf, tyT,
 look, keyT, Pat.set, start3, pick, List.getElem?_cons_zero, List.getElem?_cons_succ, List.set_cons_zero, List.set_cons_succ, List.map_cons, List.map_nil, List.length_cons, List.length_nil, List.nil_append, List.cons_append, List.replicate_succ, List.replicate_zero, Nat.reduceSub, Nat.reduceAdd, flatOf, kit_NoneType_str, kit_bool_str, kit_int_str, kit_str_str, kit_tuple_str, kit_list_str, kit_dict_str, kit_NoneType_int, kit_bool_int, kit_int_int, kit_str_int, kit_tuple_int, kit_list_int, kit_dict_int, kit_NoneType_bool, kit_bool_bool, kit_int_bool, kit_str_bool, kit_tuple_bool, kit_list_bool, kit_dict_bool, kit_NoneType_tuple, kit_bool_tuple, kit_int_tuple, kit_str_tuple, kit_tuple_tuple, kit_list_tuple, kit_dict_tuple, kit_NoneType_list, kit_bool_list, kit_int_list, kit_str_list, kit_tuple_list, kit_list_list, kit_dict_list, kit_NoneType_dict, kit_bool_dict, kit_int_dict, kit_str_dict, kit_tuple_dict, kit_list_dict, kit_dict_dict, Bool.false_eq_true, if_false, if_true, reduceIte, true_and, sz_0, sz_1, sz_2, sz_3, sz_4, sz_5, sz_6, sz_7, sz_8, sz_9, sz_10, sz_11, sz_12, sz_13, sz_14, sz_15, sz_16, sz_17, sz_18, sz_19, sz_20, sz_21, sz_22, sz_23, sz_24, sz_25, sz_26, sz_27, sz_28, sz_29, sz_30, sz_31, sz_32, sz_33, sz_34, sz_35, sz_36, sz_37, sz_38, sz_39, sz_40, sz_41, sz_42, sz_43, sz_44, sz_45, sz_46, sz_47, atI_c0, atI_c1, atI_c2, atI_c3, atI_c4, List.append_nil, List.filterMap_cons, List.filterMap_nil, and_self, dStar, mSplit, fSortS, fSortT, L3.setAll, mExtend, dKGet, dB, oIn, seqOf, eqb_ss, eqb_ii, eqb_bb, eqb_nn, eqb_ni, eqb_in, eqb_ns, eqb_sn, eqb_is, eqb_si, Bool.not_true, Bool.not_false, flatT, List.all_cons, List.all_nil, Bool.and_self, mExt, mCount, dFnV, dSortSet, sUnl]
          exact k
      refine ⟨sz (by have := lpl; unfold lps at this; rw [List.length_append] at this; omega), ?_⟩
      refine forL_inv (xs := lps yw yh) (fun i ss M' => M' = M2 ∧ ∃ x4 x5 x7 x8 x9 x10 x11 x12 x13 x14 : Option T, ss = [some q0.t, some (.lst (qs.map Qn.t)), some (.lst ((q0.rl.map (·.2)).map T.str)), some (.lst ((pre ++ (((lps yw yh).take i).flatMap (inn n)).flatMap ptabs).map T.str)), x4, x5, some (.tup [.tup (yr.map prT), yw, .tup yh, yo, yl]), x7, x8, x9, x10, x11, x12, x13, x14]) (fun _ _ _ _ => by trivial) 0 ⟨rfl, _, _, _, _, _, _, _, _, _, _, by rw [List.take_zero, List.flatMap_nil, List.flatMap_nil, List.append_nil]; rfl⟩ ?_ ?_
      · rintro i t ss M3 hi ⟨rfl, x4, x5, x7, x8, x9, x10, x11, x12, x13, x14, rfl⟩
        have hpt := hlp t (by
          have := List.mem_of_getElem? hi
          unfold lps at this
          unfold wps
          exact (List.mem_append.mp this).elim (fun h => List.mem_append_right _ h) fun h => List.mem_append_left _ h)
        have et2 : (lps yw yh).take (i + 1) = (lps yw yh).take i ++ [t] := by rw [List.take_succ, hi]; rfl
        have hle : ((((lps yw yh).take (i + 1)).flatMap (inn n)).flatMap ptabs).length ≤ (lTab n ⟨yr, yw, yh, yo, yl⟩).length := by
          unfold lTab
          conv => rhs; rw [← List.take_append_drop (i + 1) (lps yw yh)]
          rw [List.flatMap_append, List.flatMap_append, List.length_append]
          omega
        rw [et2, List.flatMap_append, List.flatMap_append, List.flatMap_cons, List.flatMap_nil, List.append_nil, List.length_append] at hle
        rw [Nat.zero_add]
        generalize hP2 : (((lps yw yh).take i).flatMap (inn n)).flatMap ptabs = pre2 at hle
        refine ⟨_, rfl, fun N2 k2 => ?_⟩
        simp only [EV, sFor, iL]
        refine ⟨t, rfl, hpt, hn, ?_⟩
        simp only [EV, dC]
        refine forL_inv (xs := inn n t) (fun r ss M' => M' = M3 ∧ ∃ x4 x5 x8 x9 x10 x11 x12 x13 x14 : Option T, ss = [some q0.t, some (.lst (qs.map Qn.t)), some (.lst ((q0.rl.map (·.2)).map T.str)), some (.lst ((pre ++ pre2 ++ ((inn n t).take r).flatMap ptabs).map T.str)), x4, x5, some (.tup [.tup (yr.map prT), yw, .tup yh, yo, yl]), some t, x8, x9, x10, x11, x12, x13, x14]) (fun _ _ _ _ => by trivial) 0 ⟨rfl, _, _, _, _, _, _, _, _, _, by rw [List.take_zero, List.flatMap_nil, List.append_nil]⟩ ?_ ?_
        · rintro r u ss M4 hr ⟨rfl, x4, x5, x8, x9, x10, x11, x12, x13, x14, rfl⟩
          obtain ⟨w, l, x, rest, rfl, hll, hw⟩ := inn_form hpt.part u (List.mem_of_getElem? hr)
          have et3 : (inn n t).take (r + 1) = (inn n t).take r ++ [.tup (.str w :: .tup [.tup (l.map prT), x] :: rest)] := by rw [List.take_succ, hr]; rfl
          have l3 := sub (inn n t) r
          rw [Nat.zero_add]
          refine ⟨_, rfl, fun N3 k3 => ?_⟩
          simp only [EV, dC]
          refine cut_k (.lst ((l.map (·.2)).map T.str)) M4 (fun K k => ?_) ?_
          · refine comp_go ?_
            simp only [EV, iT]
            refine compL_allA (xs := l) (g := prT) (f := fun a => T.str a.2) trivial (fun a ha => ⟨_, rfl, fun R kk => ?_⟩) (sz (by omega)) (by rw [List.map_map] at k; exact k)
            simp only [EV, wipe3]
            exact kk
          have fin : ∀ (bs : List Str), bs = ptabs (.tup (.str w :: .tup [.tup (l.map prT), x] :: rest)) → N3 [some q0.t, some (.lst (qs.map Qn.t)), some (.lst ((q0.rl.map (·.2)).map T.str)), some (.lst ((pre ++ pre2 ++ ((inn n t).take r).flatMap ptabs).map T.str ++ bs.map T.str)), x4, x5, some (.tup [.tup (yr.map prT), yw, .tup yh, yo, yl]), some t, some (.tup (.str w :: .tup [.tup (l.map prT), x] :: rest)), x9, x10, x11, x12, x13, x14] M4 := by
            rintro bs rfl
            have e7 : (pre ++ pre2 ++ ((inn n t).take r).flatMap ptabs).map T.str ++ (ptabs (.tup (.str w :: .tup [.tup (l.map prT), x] :: rest))).map T.str = (pre ++ pre2 ++ ((inn n t).take (r + 1)).flatMap ptabs).map T.str := by
              rw [et3, List.flatMap_append, List.flatMap_cons, List.flatMap_nil, List.append_nil, ← List.append_assoc, List.map_append (l₂ := ptabs _)]
            rw [e7]
            exact k3 _ _ ⟨rfl, _, _, _, _, _, _, _, _, _, rfl⟩
          have fl : (if decide (w = "only") = true then l.map (·.2) ++ l.map (·.2) else l.map (·.2)) = ptabs (.tup (.str w :: .tup [.tup (l.map prT), x] :: rest)) := by
            rw [ptabs_of]
            by_cases h : w = "only"
            · rw [if_pos (decide_eq_true h), if_pos h]
            · rw [if_neg (by rw [decide_eq_false h]; decide), if_neg h]
          simp only [EV, dC]
          cases hd : decide (w = "only") with
          | true =>
            rw [hd, if_pos rfl] at fl
            have m2 : (List.replicate ((1 : Int) + 1).toNat ((l.map (·.2)).map T.str)).flatten = (l.map (·.2) ++ l.map (·.2)).map T.str := by
              show ((l.map (·.2)).map T.str ++ ((l.map (·.2)).map T.str ++ [])) = _
              rw [List.append_nil, List.map_append]
            simp only [EV, if_true, m2]
            refine ⟨⟨by decide, by decide, sz (by rw [List.length_map, List.length_map]; show l.length * 2 ≤ _; omega)⟩, sz (by simp only [List.length_map, List.length_append]; omega), fin _ fl⟩
          | false =>
            rw [hd, if_neg Bool.false_ne_true] at fl
            have m1 : (List.replicate ((1 : Int) + 0).toNat ((l.map (·.2)).map T.str)).flatten = (l.map (·.2)).map T.str := by
              show ((l.map (·.2)).map T.str ++ []) = _
              rw [List.append_nil]
            simp only [EV, Bool.false_eq_true, if_false, m1]
            refine ⟨⟨by decide, by decide, sz (by rw [List.length_map, List.length_map]; show l.length * 1 ≤ _; omega)⟩, sz (by simp only [List.length_map, List.length_append]; omega), fin _ fl⟩
        · rintro ss M4 ⟨rfl, x4, x5, x8, x9, x10, x11, x12, x13, x14, rfl⟩
          rw [Nat.zero_add, List.take_length]
          have e7 : pre ++ pre2 ++ (inn n t).flatMap ptabs = pre ++ (((lps yw yh).take (i + 1)).flatMap (inn n)).flatMap ptabs := by
            rw [et2, List.flatMap_append, List.flatMap_append, List.flatMap_cons, List.flatMap_nil, List.append_nil, ← hP2, List.append_assoc]
          rw [e7]
          exact k2 _ _ ⟨rfl, _, _, _, _, _, _, _, _, _, _, rfl⟩
      · rintro ss M3 ⟨rfl, x4, x5, x7, x8, x9, x10, x11, x12, x13, x14, rfl⟩
        rw [Nat.zero_add, List.take_length]
        have e7 : pre ++ ((lps yw yh).flatMap (inn n)).flatMap ptabs = ((q0 :: qs).take (j + 1)).flatMap (lTab n) := by
          rw [et, List.flatMap_append, List.flatMap_cons, List.flatMap_nil, List.append_nil, hP]
          rfl
        rw [e7]
        exact kk _ _ ⟨rfl, _, _, _, _, _, _, _, _, _, _, _, rfl⟩
    rintro ss M2 ⟨rfl, x4, x5, x6, x7, x8, x9, x10, x11, x12, x13, x14, rfl⟩
    rw [Nat.zero_add, List.length_map, List.take_length]
    have hbs := lTabs_perm n (q0 :: qs)
    generalize (q0 :: qs).flatMap (lTab n) = bs at hall hbs
    have fewb : FewS (q0.rl.map (·.2)) bs := ⟨T2, t2, fun z hz => hi2 z (hbs.mem_iff.mp hz), ho2, by rw [hbs.length_eq]; exact hl2⟩
    have hl3 : (q0.rl.map (·.2)).length + bs.length ≤ 29 := by rw [hbs.length_eq]; exact hl2
    simp only [EV, sFor, iL, ← List.map_append, strsT_map]
    refine ⟨sz (by simp only [List.length_map] at hl3 ⊢; omega), by rw [List.length_append]; omega, fun zs hz1 hz2 hz3 => ?_⟩
    have hzm : ∀ z ∈ zs, z ∈ q0.rl.map (·.2) ∨ z ∈ bs := fun z hz => List.mem_append.mp ((hz3 z).mp hz)
    have zl : zs.length ≤ 29 := by
      have := nodup_len hz2 fun z hz => (hz3 z).mp hz
      rw [List.length_append] at this
      omega
    generalize hO : q0.rl.map (·.2) = outer at *
    refine forL_inv (xs := zs.map T.str) (fun j ss M' => M' = M2 ∧ ∃ x4 x5 x6 x7 x8 x10 x11 x12 x13 x14 : Option T, ss = [some q0.t, some (.lst (qs.map Qn.t)), some (.lst (outer.map T.str)), some (.lst (bs.map T.str)), x4, x5, x6, x7, x8, some (.lst ((shp outer bs (zs.take j)).map enS)), x10, x11, x12, x13, x14]) (fun _ _ _ _ => by trivial) 0 ⟨rfl, _, _, _, _, _, _, _, _, _, _, rfl⟩ ?_ ?_
    · rintro j t ss M3 hj ⟨rfl, x4, x5, x6, x7, x8, x10, x11, x12, x13, x14, rfl⟩
      rw [List.getElem?_map] at hj
      obtain ⟨z, hz, rfl⟩ := Option.map_eq_some_iff.mp hj
      have et : zs.take (j + 1) = zs.take j ++ [z] := by rw [List.take_succ, hz]; rfl
      have l1 := shp_len fewb (hz2.sublist (List.take_sublist (j + 1) zs)) fun y hy => hzm y (List.mem_of_mem_take hy)
      have es : shp outer bs (zs.take (j + 1)) = stepS outer bs z (shp outer bs (zs.take j)) := by
        unfold shp
        rw [et, List.foldl_append]
        rfl
      have r30 := rng_le hl3 z
      have sl : (shp outer bs (zs.take j)).length ≤ 900 := shp_len fewb (hz2.sublist (List.take_sublist j zs)) fun y hy => hzm y (List.mem_of_mem_take hy)
      have el : (if outer.contains z = true then (1 : Int) else 0) = (lst1 outer z : Nat) := by unfold lst1; split <;> rfl
      have c0 : lst1 outer z ≤ outer.count z := by
        unfold lst1
        split
        · rename_i h
          exact List.count_pos_iff.mpr (List.contains_iff_mem.mp h)
        · exact Nat.zero_le _
      have er : rng outer bs z = outer.count z + bs.count z + 1 - lst1 outer z := rfl
      have e3 : ((outer.count z : Nat) : Int) + ((bs.count z : Nat) : Int) + 1 - ((lst1 outer z : Nat) : Int) = (rng outer bs z : Nat) := by omega
      have lz1 : lst1 outer z ≤ 1 := by unfold lst1; split <;> decide
      rw [es, stepS_len] at l1
      rw [Nat.zero_add]
      refine ⟨_, rfl, fun N kk => ?_⟩
      simp only [EV, sFor, iL, cnt_strs, inT_cont, flat_strs', el]
      have hln : ∀ k, ((shp outer bs (zs.take j)).take k).length ≤ (shp outer bs (zs.take j)).length := fun k => by rw [List.length_take]; omega
      refine forL_inv (xs := (shp outer bs (zs.take j)).map enS) (fun i ss M' => M' = M3 ∧ ∃ x4 x6 x7 x8 x12 x13 x14 : Option T, ss = [some q0.t, some (.lst (qs.map Qn.t)), some (.lst (outer.map T.str)), some (.lst (bs.map T.str)), x4, some (.str z), x6, x7, x8, some (.lst ((shp outer bs (zs.take j)).map enS)), some (.int (lst1 outer z : Nat)), some (.lst ((stepS outer bs z ((shp outer bs (zs.take j)).take i)).map enS)), x12, x13, x14]) (fun _ _ _ _ => by trivial) 0 ⟨rfl, _, _, _, _, _, _, _, rfl⟩ ?_ ?_
      · rintro i t ss M4 hi ⟨rfl, x4, x6, x7, x8, x12, x13, x14, rfl⟩
        rw [List.getElem?_map] at hi
        obtain ⟨s, hs, rfl⟩ := Option.map_eq_some_iff.mp hi
        have et5 : (shp outer bs (zs.take j)).take (i + 1) = (shp outer bs (zs.take j)).take i ++ [s] := by rw [List.take_succ, hs]; rfl
        have sln : s.length ≤ 29 := by
          rw [shp_each s (List.mem_of_getElem? hs), List.length_take]
          omega
        have l6 := hln i
        have l7 : ((shp outer bs (zs.take j)).take i).length * rng outer bs z ≤ (shp outer bs (zs.take j)).length * rng outer bs z := Nat.mul_le_mul_right _ l6
        have l8 := stepS_len (outer := outer) (inner := bs) (z := z) (ss := (shp outer bs (zs.take j)).take i)
        rw [Nat.zero_add]
        refine ⟨_, rfl, fun N5 k5 => ?_⟩
        simp only [EV, cnt_strs, flat_strs', e3]
        refine cut_k (.lst ((List.range (rng outer bs z)).map fun k => enS (s ++ [(z, lst1 outer z + k)]))) M4 (fun K k => ?_) ?_
        · refine comp_go ?_
          simp only [EV, iR1]
          refine ⟨⟨by omega, by omega⟩, ?_⟩
          rw [show ((rng outer bs z : Nat) : Int).toNat = rng outer bs z from rfl, ups0]
          refine compL_allA (f := fun k : Nat => enS (s ++ [(z, lst1 outer z + k)])) trivial (fun i hi => ⟨_, rfl, fun R r => ?_⟩) (sz (by rw [List.length_range]; omega)) k
          simp only [wipe3, enS, List.map_append, List.map_cons, List.map_nil] at r ⊢
          simp only [EV, dC]
          refine ⟨sz (by rw [List.length_map]; omega), ?_⟩
          rw [Int.natCast_add] at r
          exact r
        refine ⟨sz (by rw [List.length_map, List.length_map, List.length_range, l8]; omega), ?_⟩
        have e5 : stepS outer bs z ((shp outer bs (zs.take j)).take (i + 1)) = stepS outer bs z ((shp outer bs (zs.take j)).take i) ++ (List.range (rng outer bs z)).map fun k => s ++ [(z, lst1 outer z + k)] := by
          unfold stepS
          rw [et5, List.flatMap_append, List.flatMap_cons, List.flatMap_nil, List.append_nil]
        have e7 : (stepS outer bs z ((shp outer bs (zs.take j)).take i)).map enS ++ ((List.range (rng outer bs z)).map fun k => enS (s ++ [(z, lst1 outer z + k)])) = (stepS outer bs z ((shp outer bs (zs.take j)).take (i + 1))).map enS := by
          rw [e5, List.map_append, List.map_map]
          rfl
        rw [e7]
        exact k5 _ _ ⟨rfl, _, _, _, _, _, _, _, rfl⟩
      · rintro ss M4 ⟨rfl, x4, x6, x7, x8, x12, x13, x14, rfl⟩
        rw [Nat.zero_add, List.length_map, List.take_length]
        simp only [EV, dC]
        rw [← es]
        exact kk _ _ ⟨rfl, _, _, _, _, _, _, _, _, _, _, rfl⟩
    · rintro ss M3 ⟨rfl, x4, x5, x6, x7, x8, x10, x11, x12, x13, x14, rfl⟩
      rw [Nat.zero_add, List.length_map, List.take_length]
      simp only [EV, dC]
      exact .same .refl (q _ ⟨zs, bs, hz1, hz2, fun z => (hz3 z).trans List.mem_append, hbs, rfl⟩)

end
section
local macro_rules | `(tactic| simp only [EV, $ls,*]) => `(tactic| simp only [EV1, sSeq, sPar, sPut, sIf, sSet, sDrop, sRet, sRetN, sNext, dOp2, dOp1, dVar, dC, dB, dTup, dLst, dLstM, dNil, dCons, dSl, doNone, doSome, dCall, dLm, $ls,*])
local macro_rules | `(tactic| simp only [EV1, $ls,*]) => `(tactic| simp only [EV2, dLm0, dSm, dAnd, dOr, dNot, dAndV, dOrV, dIf, dChain, dFn, dFn0, dYes, dDisp, dDispM, dPairs, keysT, dNewD, dNewDM, oAdd, oSub, oMul, oFdiv, oMod, oPow, $ls,*])
local macro_rules | `(tactic| simp only [EV2, $ls,*]) => `(tactic| simp only [EV3, oInt2, oNeg, oIx, oSl, oRev, oRevM, oEqB, scalT, oLt, oLe, oGt, oGe, oOrd, oIsN, L3.isNon, oNotB, oDGet, oDIn, oIn, oInS, mAppend, mPop, mJoin, isL, $ls,*])
local macro_rules | `(tactic| simp only [EV3, $ls,*]) => `(tactic| simp only [EV4, isS, fLen, fIsi, fAbs, fList, fListM, fTuple, fInt, fRepr, fBls, seqOf, tyT, look, keyT, Pat.set, start3, pick, List.getElem?_cons_zero, List.getElem?_cons_succ, List.set_cons_zero, List.set_cons_succ, List.map_cons, List.map_nil, List.length_cons, $ls,*])
local macro_rules | `(tactic| simp only [EV4, $ls,*]) => `(tactic| simp only [EV5, List.length_nil, List.nil_append, List.cons_append, List.replicate_succ, List.replicate_zero, Nat.reduceSub, Nat.reduceAdd, flatOf, kit_NoneType_str, kit_bool_str, kit_int_str, kit_str_str, kit_tuple_str, kit_list_str, kit_dict_str, kit_NoneType_int, kit_bool_int, kit_int_int, kit_str_int, kit_tuple_int, kit_list_int, kit_dict_int, kit_NoneType_bool, kit_bool_bool, $ls,*])
local macro_rules | `(tactic| simp only [EV5, $ls,*]) => `(tactic| simp only [EV6, kit_int_bool, kit_str_bool, kit_tuple_bool, kit_list_bool, kit_dict_bool, kit_NoneType_tuple, kit_bool_tuple, kit_int_tuple, kit_str_tuple, kit_tuple_tuple, kit_list_tuple, kit_dict_tuple, kit_NoneType_list, kit_bool_list, kit_int_list, kit_str_list, kit_tuple_list, kit_list_list, kit_dict_list, kit_NoneType_dict, kit_bool_dict, kit_int_dict, kit_str_dict, kit_tuple_dict, $ls,*])
local macro_rules | `(tactic| simp only [EV6, $ls,*]) => `(tactic| simp only [EV7, kit_list_dict, kit_dict_dict, Bool.false_eq_true, if_false, if_true, reduceIte, true_and, sz_0, sz_1, sz_2, sz_3, sz_4, sz_5, sz_6, sz_7, sz_8, sz_9, sz_10, sz_11, sz_12, sz_13, sz_14, sz_15, sz_16, $ls,*])
local macro_rules | `(tactic| simp only [EV7, $ls,*]) => `(tactic| simp only [EV8, sz_17, sz_18, sz_19, sz_20, sz_21, sz_22, sz_23, sz_24, sz_25, sz_26, sz_27, sz_28, sz_29, sz_30, sz_31, sz_32, sz_33, sz_34, sz_35, sz_36, sz_37, sz_38, sz_39, sz_40, $ls,*])
local macro_rules | `(tactic| simp only [EV8, $ls,*]) => `(tactic| simp only [sz_41, sz_42, sz_43, sz_44, sz_45, sz_46, sz_47, atI_c0, atI_c1, atI_c2, atI_c3, atI_c4, List.append_nil, List.filterMap_cons, List.filterMap_nil, and_self, dStar, mSplit, fSortS, fSortT, L3.setAll, $ls,*])
theorem ok_l_draw (E : Fns K mg) : FnD P w K mg base 1 E.f_l_draw E.fd_l_draw ["deck", "many"] spDraw := by
  have nd := sc_l_draw.nd
  refine okD E.F_l_draw sc_l_draw ?len fun cdv A outer s H X hr hgd => ⟨_, (dss_cons (ds_par 2 3 rfl nd rfl rfl (by decide) rfl rfl (d_add (d_dget (hu_of hr) (d_var 0) d_str (fun _ _ => rfl)) d_int) (d_dget (hu_of hr) (d_var 0) d_str (fun _ _ => rfl)))
  (dss_cons (ds_dput (hu_of hr) (d_var 0) d_str (d_var 2))
  (dss_cons (ds_if (dt_ne hr.units (d_dget (hu_of hr) (d_var 0) d_str (fun _ _ => rfl)) (d_lst da_nil))
  (dss_cons (ds_set 3 nd rfl (by first | exact Or.inl rfl | exact Or.inr rfl) (d_pop (d_dget (hu_of hr) (d_var 0) d_str (fun _ _ => rfl))))
  (dss_cons (ds_if (dt_ge (d_var 3) (d_pow d_int d_int))
  (dss_cons (ds_expr (d_append (d_dget (hu_of hr) (d_var 0) d_str (fun _ _ => rfl)) (da_cons (d_fdiv (d_var 3) (d_var 1)) da_nil)))
  (dss_one (ds_ret (d_mod (d_var 3) (d_var 1)))))
  dss_nil)
  (dss_one (ds_set 3 nd rfl (by first | exact Or.inl rfl | exact Or.inr rfl) (d_add (d_var 3) (d_dget (hu_of hr) (d_var 0) d_str (fun _ _ => rfl)))))))
  dss_nil)
  (dss_cons (ds_set 4 nd rfl (by first | exact Or.inl rfl | exact Or.inr rfl) (d_mod (d_mul (d_add (d_add (d_mod (d_var 3) d_int) (d_mul (d_mul d_int (d_var 2)) (d_var 2))) d_int) d_int) d_int))
  (dss_cons (ds_set 4 nd rfl (by first | exact Or.inl rfl | exact Or.inr rfl) (d_mod (d_add (d_add (d_mul (d_var 4) (d_var 4)) (d_mul d_int (d_var 2))) d_int) d_int))
  (dss_one (ds_ret (d_mod (d_fdiv (d_mod (d_mul (d_var 4) d_int) d_int) d_int) (d_var 1))))))))), ?_⟩
  case len =>
    rintro ts M Q ⟨dk, c, n, many, rfl, _⟩
    rfl
  · rintro ts M Q ⟨dk, c, n, many, rfl, hD, hn, h0, h1, q⟩
    obtain ⟨hne, ns, t, k, eD, eC, hl, hk0, hk⟩ := hD
    simp only [EV, eD, eC, deckD_eq, deck_cells, deck_total, deck_draws, deck_put, deck_len, mset_same, mset_ne hne, mset_ne hne.symm, py_ints, py_nil, shaped_ints, shaped_nil, eqv_nil, if_true, true_and, Nat.zero_le]
    have key : ∀ (cell : Int) (M' : Mp), DeckAt dk c M' (n + 1) → Fr2 dk c M M' → Q (T.int ((((cell % 2147483629 + 60223 * (k + 1) * (k + 1) + 47) * 40692 % 2147483647) * ((cell % 2147483629 + 60223 * (k + 1) * (k + 1) + 47) * 40692 % 2147483647) + 69779 * (k + 1) + 31) % 2147483587 * 39373 % 2147483563 / 64 % many)) M' :=
      fun cell M' d f => q M' _ d f (Int.emod_nonneg _ (by omega)) (Int.emod_lt_of_pos _ h0)
    have m1 : ∀ x : Int, IntMulOk x (k + 1) := fun x => small_mul (by omega)
    have m2 : ∀ x : Int, IntMulOk (x % 2147483647) (x % 2147483647) := fun x => small_mul (by omega)
    have m3 : ∀ x : Int, IntMulOk x 40692 := fun x => small_mul (by decide)
    have m4 : ∀ x : Int, IntMulOk x 39373 := fun x => small_mul (by decide)
    have d1 : ∀ x : Int, CDivW x 64 := fun x => small_div (by decide) (by decide)
    have d2 : ∀ x : Int, CDivW x many := fun x => small_div h0 h1
    have dk1 : ∀ {M' : Mp} {ns' : List Int}, M' dk = some (.dct (deckL c t (k + 1))) → M' c = some (.lst (ns'.map T.int)) → ns'.length ≤ 63 → DeckAt dk c M' (n + 1) :=
      fun a b d => ⟨hne, _, _, _, a, b, d, by omega, by omega⟩
    have pow : CPow 10 18 := ⟨by decide, by decide, by decide⟩
    refine ⟨by decide, ?_⟩
    rcases List.eq_nil_or_concat ns with rfl | ⟨l, x, e⟩
    · simp only [decide_true, Bool.not_true, m1, m2, m3, m4, d1, h0, true_and, Int.reduceLT]
      refine key t _ (dk1 mset_same ((mset_ne hne.symm).trans eC) hl) fun a h2 h3 => mset_ne h2
    · rw [List.concat_eq_append] at e
      subst e
      have e0 : decide (l ++ [x] = []) = false := by simp
      have hl' : l.length ≤ 62 := by
        rw [List.length_append, List.length_singleton] at hl
        omega
      simp only [e0, Bool.not_false, last_get, last_drop, pow, true_and, mset_same, mset_mset, mset_ne hne, mset_ne hne.symm, deck_cells, deck_total, d2, h0]
      by_cases hx : (10 : Int) ^ (18 : Int).toNat ≤ x
      · simp only [decide_eq_true hx, mset_mset, mset_same, mset_ne hne, mset_ne hne.symm, deck_cells, true_and]
        refine ⟨sz' (by rw [List.length_map]; omega), ?_⟩
        refine q _ _ (dk1 (ns' := l ++ [x / many]) ((mset_ne hne).trans mset_same) ?_ (by rw [List.length_append, List.length_singleton]; omega)) (fun a h2 h3 => (mset_ne h3).trans (mset_ne h2)) (Int.emod_nonneg _ (by omega)) (Int.emod_lt_of_pos _ h0)
        rw [mset_same, List.map_append]
        rfl
      · simp only [decide_eq_false hx, mset_same, mset_ne hne, mset_ne hne.symm, deck_total, m1, m2, m3, m4, d1, h0, true_and, Int.reduceLT]
        exact key (x + t) _ (dk1 ((mset_ne hne).trans mset_same) mset_same (by omega)) fun a h2 h3 => (mset_ne h3).trans (mset_ne h2)

theorem ok_l_deck (E : Fns K mg) : FnD P w K mg base 1 E.f_l_deck E.fd_l_deck ["script"] spDeck := by
  have nd := sc_l_deck.nd
  refine okD E.F_l_deck sc_l_deck ?len fun cdv A outer s H X hr hgd => ⟨_, (dss_cons (ds_par 1 2 rfl nd rfl rfl (by decide) rfl rfl (d_list (by rfl) E.m_list (da_cons (d_slice (d_var 0) do_none (do_some d_int)) da_nil)) d_int)
  (dss_cons (ds_for PassesOwn.never rfl (di_list (d_var 1)) (dg_nm 3 nd rfl (by first | exact Or.inl rfl | exact Or.inr rfl))
  (dss_one (ds_set 2 nd rfl (by first | exact Or.inl rfl | exact Or.inr rfl) (d_mod (d_add (d_add (d_mul (d_var 2) d_int) (d_mod (d_var 3) d_int)) d_int) d_int))))
  (dss_one (ds_ret (d_dispM (dps_cons d_str (d_revM (d_var 1)) (dps_cons d_str (d_var 2) (dps_cons d_str d_int dps_nil)))))))), ?_⟩
  case len =>
    rintro ts M Q ⟨ns, rfl, _⟩
    rfl
  · rintro ts M Q ⟨ns, rfl, hl, q⟩
    simp only [sSeq, sPar, sPut, sIf, sSet, sDrop, sRet, sRetN, sNext, dOp2, dOp1, dVar, dC, dB, dTup, dLst, dLstM, dNil, dCons, dSl, doNone, doSome, dCall, dLm, dLm0, dSm, dAnd, dOr, dNot, dAndV, dOrV, dIf, dChain, dFn, dFn0, dYes, dDisp, dDispM, dPairs, keysT, dNewD, dNewDM,
 oAdd, oSub, oMul, oFdiv, oMod, oPow, oInt2, oNeg, oIx, oSl, oRev, oRevM, oEqB, scalT, oLt, oLe, oGt, oGe, oOrd, oIsN, L3.isNon, oNotB, oDGet, oDIn, oIn, oInS, mAppend, mPop, mJoin, isL, isS, fLen, fIsi, fAbs, fList, fListM, fTuple, fInt, fRepr, fBls, seqOf, tyT,
 look, keyT, Pat.set, start3, pick, List.getElem?_cons_zero, List.getElem?_cons_succ, List.set_cons_zero, List.set_cons_succ, List.map_cons, List.map_nil, List.length_cons, List.length_nil, List.nil_append, List.cons_append, List.replicate_succ, List.replicate_zero, Nat.reduceSub, Nat.reduceAdd, flatOf, kit_NoneType_str, kit_bool_str, kit_int_str, kit_str_str, kit_tuple_str, kit_list_str, kit_dict_str, kit_NoneType_int, kit_bool_int, kit_int_int, kit_str_int, kit_tuple_int, kit_list_int, kit_dict_int, kit_NoneType_bool, kit_bool_bool, kit_int_bool, kit_str_bool, kit_tuple_bool, kit_list_bool, kit_dict_bool, kit_NoneType_tuple, kit_bool_tuple, kit_int_tuple, kit_str_tuple, kit_tuple_tuple, kit_list_tuple, kit_dict_tuple, kit_NoneType_list, kit_bool_list, kit_int_list, kit_str_list, kit_tuple_list, kit_list_list, kit_dict_list, kit_NoneType_dict, kit_bool_dict, kit_int_dict, kit_str_dict, kit_tuple_dict, kit_list_dict, kit_dict_dict, Bool.false_eq_true, if_false, if_true, reduceIte, true_and, sz_0, sz_1, sz_2, sz_3, sz_4, sz_5, sz_6, sz_7, sz_8, sz_9, sz_10, sz_11, sz_12, sz_13, sz_14, sz_15, sz_16, sz_17, sz_18, sz_19, sz_20, sz_21, sz_22, sz_23, sz_24, sz_25, sz_26, sz_27, sz_28, sz_29, sz_30, sz_31, sz_32, sz_33, sz_34, sz_35, sz_36, sz_37, sz_38, sz_39, sz_40, sz_41, sz_42, sz_43, sz_44, sz_45, sz_46, sz_47, atI_c0, atI_c1, atI_c2, atI_c3, atI_c4, List.append_nil, List.filterMap_cons, List.filterMap_nil, and_self, dStar, mSplit, fSortS, fSortT, L3.setAll, sFor, iL, show (63 : Int) = ((63 : Nat) : Int) from rfl, cut_to, List.take_of_length_le (show (ns.map T.int).length ≤ 63 by rw [List.length_map]; exact hl)]
    refine (?loop : ∀ (r : List Int) (tot : Int) (y : Option T), forL _ _ _ _ (List.map T.int r) [some (.scr (ns.map T.int)), some (.lst (ns.map T.int)), some (.int tot), y] M) ns _ none
    case loop =>
      intro r
      induction r with
      | nil =>
        intro tot y
        simp only [EV, List.map_nil, forL]
        intro c hc
        refine ⟨by decide, fun dk hdk => ?_⟩
        have hne : dk ≠ c := by
          intro z
          rw [z, mset_same] at hdk
          cases hdk
        have hM : M dk = none := (mset_ne hne).symm.trans hdk
        refine q dk c _ hM hc ⟨hne, ns.reverse, tot, 0, ?_, ?_, by rw [List.length_reverse]; exact hl, by omega, by omega⟩ fun a h2 h3 => (mset_ne h2).trans (mset_ne h3)
        · rw [mset_same, deck_mk]
          rfl
        · rw [mset_ne hne.symm, mset_same, List.map_reverse]
      | cons z r ih =>
        intro tot y
        have m1 : ∀ x : Int, IntMulOk x 48271 := fun x => small_mul (by decide)
        simp only [EV, List.map_cons, forL, m1, true_and, Int.reduceLT]
        exact ih _ _

theorem ok_l_pick (E : Fns K mg) (G_l_draw : FnD P w K mg base 1 E.f_l_draw E.fd_l_draw ["deck", "many"] spDraw) : FnD P w K mg base 2 E.f_l_pick E.fd_l_pick ["deck", "some"] spPick := by
  have nd := sc_l_pick.nd
  refine okD E.F_l_pick sc_l_pick ?len fun cdv A outer s H X hr hgd => ⟨_, (dss_one (ds_ret (d_ix (d_var 1) (d_fn G_l_draw (hr.mono (by decide)) hgd (by rfl) E.g_l_draw E.F_l_draw.kp (kb_l_draw_2 E) (da_cons (d_var 0) (da_cons (d_len (by rfl) E.m_len (da_cons (d_var 1) da_nil)) da_nil)) dk_nil) (fun _ _ => rfl)))), ?_⟩
  case len =>
    rintro ts M Q ⟨dk, c, n, x, rfl, _⟩
    rfl
  · rintro ts M Q ⟨dk, c, n, x, rfl, hD, hn, h0, h1, q⟩
    have lt60 : ∀ m : Nat, m ≤ sizeLine → (m : Int) < 2 ^ 60 := fun m h => by
      rw [sizeLine_eq] at h
      omega
    have fin : ∀ (m : Nat), m = (itemsOf x).length → (∀ M' (r : Int), 0 ≤ r → r < m → DeckAt dk c M' (n + 1) → Fr2 dk c M M' → oIx x (.int r) Q M') → spDraw [.raw (.ref dk), .int m] M fun t M1 => oIx x t Q M1 := by
      intro m hm k
      refine ⟨dk, c, n, m, rfl, hD, hn, by omega, lt60 m (by omega), fun M' r d f r0 r1 => k M' r r0 r1 d f⟩
    cases x with
    | lst xs =>
      simp only [EV, dC]
      refine fin xs.length rfl fun M' r r0 r1 d f => ?_
      obtain ⟨t, e, hm⟩ := atI_ok r0 r1
      simp only [oIx, look, e]
      exact q M' t d f hm
    | scr xs =>
      simp only [EV, dC]
      refine fin xs.length rfl fun M' r r0 r1 d f => ?_
      obtain ⟨t, e, hm⟩ := atI_ok r0 r1
      simp only [oIx, look, e]
      exact q M' t d f hm
    | tup xs =>
      simp only [EV, dC]
      refine fin xs.length rfl fun M' r r0 r1 d f => ?_
      obtain ⟨t, e, hm⟩ := atI_ok r0 r1
      simp only [oIx, look, e]
      exact q M' t d f hm
    | str z =>
      simp only [EV, dC]
      have hz : z.length ≤ sizeLine := by rw [← signs_len]; exact h1
      refine ⟨hz, fin z.length (signs_len z).symm fun M' r r0 r1 d f => ?_⟩
      obtain ⟨t, e, hm⟩ := atI_signs r0 r1
      simp only [oIx, look, e]
      exact ⟨hz, q M' _ d f hm⟩
    | _ => exact absurd h0 (Nat.lt_irrefl 0)

theorem ok_l_names (E : Fns K mg) (G_l_draw : FnD P w K mg base 1 E.f_l_draw E.fd_l_draw ["deck", "many"] spDraw) : FnD P w K mg base 2 E.f_l_names E.fd_l_names ["deck", "many"] spNamesM := by
  have nd := sc_l_names.nd
  refine okD E.F_l_names sc_l_names ?len fun cdv A outer s H X hr hgd => ⟨_, (dss_cons (ds_asg (d_tup (da_cons (d_fn G_l_draw (hr.mono (by decide)) hgd (by rfl) E.g_l_draw E.F_l_draw.kp (kb_l_draw_2 E) (da_cons (d_var 0) (da_cons d_int da_nil)) dk_nil) (da_cons (d_fn G_l_draw (hr.mono (by decide)) hgd (by rfl) E.g_l_draw E.F_l_draw.kp (kb_l_draw_2 E) (da_cons (d_var 0) (da_cons d_int da_nil)) dk_nil) da_nil))) (dg_tp [2, 3] rfl (pgs_cons (pg_name (i := 2) nd rfl (by first | exact Or.inl rfl | exact Or.inr rfl)) (pgs_cons (pg_name (i := 3) nd rfl (by first | exact Or.inl rfl | exact Or.inr rfl)) pgs_nil))))
  (dss_cons (ds_set 4 nd rfl (by first | exact Or.inl rfl | exact Or.inr rfl) (d_split d_str (da_cons d_str da_nil)))
  (dss_one (ds_ret (d_comp [("k", 5)] fin_M rfl nd (di_range1 (by rfl) E.m_range (d_var 1)) (by kernel_rfl)
  (fun _ _ _ _ _ => (dg_nm 5 nd rfl (by first | exact Or.inl rfl | exact Or.inr rfl))) (fun _ _ _ _ _ => dts_nil) (fun _ _ _ _ _ => (d_ix (d_ix (d_lst (da_cons (d_var 4) (da_cons d_str da_nil))) (d_var 3) (fun _ _ => rfl)) (d_mod (d_add (d_var 2) (d_mul d_int (d_var 5))) d_int) (fun _ _ => rfl)))))))), ?_⟩
  case len =>
    rintro ts M Q ⟨dk, c, n, many, rfl, _⟩
    rfl
  · rintro ts M Q ⟨dk, c, n, many, rfl, hD, hn, m0, m1, q⟩
    simp only [EV, dC]
    refine ⟨dk, c, n, 17, rfl, hD, by omega, by decide, by decide, fun M1 r1 D1 F1 a1 b1 => ?_⟩
    simp only [EV, dC]
    refine ⟨dk, c, n + 1, 2, rfl, D1, by omega, by decide, by decide, fun M2 r2 D2 F2 a2 b2 => ?_⟩
    have hw : Txt.split "less is plus from in only where not first value exists same t tell limit and order" " " = namesW2 := by decide +kernel
    simp only [EV, dComp, iR1, hw]
    refine ⟨by decide +kernel, sz (by decide +kernel), by omega, ?_⟩
    rw [ups0]
    have len17 : ∀ i : Nat, i < many.toNat → 0 ≤ (r1 + 5 * (i : Int)) % 17 ∧ (r1 + 5 * (i : Int)) % 17 < 17 := fun i _ => by omega
    have atW : ∀ (W : List Str) (x : Int), W.length = 17 → 0 ≤ x → x < 17 → atI (W.map T.str) x = some (T.str (W.getD x.toNat "")) := fun W x hl h0 h1 => by
      obtain ⟨k, rfl⟩ : ∃ k : Nat, x = k := ⟨x.toNat, by omega⟩
      rw [atN (x := T.str (W.getD k ""))]
      · rfl
      · rw [List.getElem?_map, List.getElem?_eq_getElem (by omega), List.getD_eq_getElem?_getD, List.getElem?_eq_getElem (by omega)]
        rfl
    have fin : ∀ (W : List Str), W.length = 17 → W.Nodup → (∀ z ∈ W, Nm z) → finM ((List.range many.toNat).map fun i : Nat => T.str (W.getD ((r1 + 5 * (i : Int)) % 17).toNat "")) Q M2 := fun W hl hd hn' pp hpp => by
      have := q M2 pp ((List.range many.toNat).map fun i : Nat => W.getD ((r1 + 5 * (i : Int)) % 17).toNat "") D2 (F1.trans F2) hpp (by rw [List.length_map, List.length_range]) (fun a ha => ?_) (nodup_17 hl hd a1 (by omega))
      · rw [List.map_map] at this
        exact this
      · obtain ⟨i, hi, rfl⟩ := List.mem_map.mp ha
        rw [List.getD_eq_getElem?_getD, List.getElem?_eq_getElem (by rw [hl]; omega)]
        exact hn' _ (List.getElem_mem _)
    rcases (by omega : r2 = 0 ∨ r2 = 1) with rfl | rfl
    · refine compL_allA (f := fun i : Nat => T.str (namesW2.getD ((r1 + 5 * (i : Int)) % 17).toNat "")) trivial (fun i hi => ⟨_, rfl, fun R kk => ?_⟩) (sz (by rw [List.length_range]; omega)) (fin namesW2 rfl (by decide +kernel) ?_)
      · rw [List.mem_range] at hi
        have m5 : IntMulOk 5 (i : Int) := small_mulL (by decide)
        obtain ⟨h1, h2⟩ := len17 i hi
        have hA := atW namesW2 _ rfl h1 h2
        simp only [EV, wipe3, hw, m5, Int.reduceLT]
        rw [hA]
        exact kk
      · intro z hz
        simp only [namesW2, List.mem_cons, List.not_mem_nil, or_false] at hz
        rcases hz with rfl | rfl | rfl | rfl | rfl | rfl | rfl | rfl | rfl | rfl | rfl | rfl | rfl | rfl | rfl | rfl | rfl <;> exact nm_of (by decide +kernel)
    · refine compL_allA (f := fun i : Nat => T.str (namesL.getD ((r1 + 5 * (i : Int)) % 17).toNat "")) trivial (fun i hi => ⟨_, rfl, fun R kk => ?_⟩) (sz (by rw [List.length_range]; omega)) (fin namesL rfl (by decide +kernel) ?_)
      · rw [List.mem_range] at hi
        have m5 : IntMulOk 5 (i : Int) := small_mulL (by decide)
        obtain ⟨h1, h2⟩ := len17 i hi
        simp only [EV, wipe3, hw, m5, Int.reduceLT]
        generalize (r1 + 5 * (i : Int)) % 17 = x at h1 h2 kk
        obtain ⟨k, rfl⟩ : ∃ k : Nat, x = k := ⟨x.toNat, by omega⟩
        have hk : k < 17 := by omega
        obtain ⟨e1, e2⟩ := let17 ⟨k, hk⟩
        rw [e1]
        refine ⟨by decide +kernel, ?_⟩
        show R (T.str ⟨#[97 + k]⟩) M2
        rw [show (⟨#[97 + k]⟩ : Str) = namesL.getD k "" from e2]
        exact kk
      · intro z hz
        simp only [namesL, List.mem_cons, List.not_mem_nil, or_false] at hz
        rcases hz with rfl | rfl | rfl | rfl | rfl | rfl | rfl | rfl | rfl | rfl | rfl | rfl | rfl | rfl | rfl | rfl | rfl <;> exact nm_of (by decide +kernel)

end
section
local macro_rules | `(tactic| simp only [EV, $ls,*]) => `(tactic| simp only [EV1, sSeq, sPar, sPut, sIf, sSet, sDrop, sRet, sRetN, sNext, dOp2, dOp1, dVar, dC, dB, dTup, dLst, dLstM, dNil, dCons, dSl, doNone, doSome, dCall, dLm, $ls,*])
local macro_rules | `(tactic| simp only [EV1, $ls,*]) => `(tactic| simp only [EV2, dLm0, dSm, dAnd, dOr, dNot, dAndV, dOrV, dIf, dChain, dFn, dFn0, dYes, dDisp, dDispM, dPairs, keysT, dNewD, dNewDM, oAdd, oSub, oMul, oFdiv, oMod, oPow, $ls,*])
local macro_rules | `(tactic| simp only [EV2, $ls,*]) => `(tactic| simp only [EV3, oInt2, oNeg, oIx, oSl, oRev, oRevM, oLt, oLe, oGt, oGe, oOrd, oIsN, L3.isNon, oNotB, oDGet, oDIn, oIn, oInS, mAppend, mPop, mJoin, isL, isS, fLen, $ls,*])
local macro_rules | `(tactic| simp only [EV3, $ls,*]) => `(tactic| simp only [EV4, fIsi, fAbs, fList, fListM, fTuple, fInt, fRepr, fBls, seqOf, tyT, look, keyT, Pat.set, start3, pick, List.getElem?_cons_zero, List.getElem?_cons_succ, List.set_cons_zero, List.set_cons_succ, List.map_cons, List.map_nil, List.length_cons, List.length_nil, List.nil_append, $ls,*])
local macro_rules | `(tactic| simp only [EV4, $ls,*]) => `(tactic| simp only [EV5, List.cons_append, List.replicate_succ, List.replicate_zero, Nat.reduceSub, Nat.reduceAdd, flatOf, kit_NoneType_str, kit_bool_str, kit_int_str, kit_str_str, kit_tuple_str, kit_list_str, kit_dict_str, kit_NoneType_int, kit_bool_int, kit_int_int, kit_str_int, kit_tuple_int, kit_list_int, kit_dict_int, kit_NoneType_bool, kit_bool_bool, kit_int_bool, kit_str_bool, $ls,*])
local macro_rules | `(tactic| simp only [EV5, $ls,*]) => `(tactic| simp only [EV6, kit_tuple_bool, kit_list_bool, kit_dict_bool, kit_NoneType_tuple, kit_bool_tuple, kit_int_tuple, kit_str_tuple, kit_tuple_tuple, kit_list_tuple, kit_dict_tuple, kit_NoneType_list, kit_bool_list, kit_int_list, kit_str_list, kit_tuple_list, kit_list_list, kit_dict_list, kit_NoneType_dict, kit_bool_dict, kit_int_dict, kit_str_dict, kit_tuple_dict, kit_list_dict, kit_dict_dict, $ls,*])
local macro_rules | `(tactic| simp only [EV6, $ls,*]) => `(tactic| simp only [EV7, Bool.false_eq_true, if_false, if_true, reduceIte, true_and, sz_0, sz_1, sz_2, sz_3, sz_4, sz_5, sz_6, sz_7, sz_8, sz_9, sz_10, sz_11, sz_12, sz_13, sz_14, sz_15, sz_16, sz_17, sz_18, $ls,*])
local macro_rules | `(tactic| simp only [EV7, $ls,*]) => `(tactic| simp only [EV8, sz_19, sz_20, sz_21, sz_22, sz_23, sz_24, sz_25, sz_26, sz_27, sz_28, sz_29, sz_30, sz_31, sz_32, sz_33, sz_34, sz_35, sz_36, sz_37, sz_38, sz_39, sz_40, sz_41, sz_42, $ls,*])
local macro_rules | `(tactic| simp only [EV8, $ls,*]) => `(tactic| simp only [EV9, sz_43, sz_44, sz_45, sz_46, sz_47, atI_c0, atI_c1, atI_c2, atI_c3, atI_c4, List.append_nil, List.filterMap_cons, List.filterMap_nil, and_self, dStar, mSplit, fSortS, fSortT, L3.setAll, mExtend, dKGet, eqb_ss, eqb_ii, eqb_bb, $ls,*])
local macro_rules | `(tactic| simp only [EV9, $ls,*]) => `(tactic| simp only [eqb_nn, eqb_ni, eqb_in, eqb_ns, eqb_sn, eqb_is, eqb_si, Bool.not_true, Bool.not_false, flatT, List.all_cons, List.all_nil, Bool.and_self, mExt, mCount, dFnV, dSortSet, sUnl, $ls,*])
theorem ok_l_inner_part (E : Fns K mg) (G_l_draw : FnD P w K mg base 1 E.f_l_draw E.fd_l_draw ["deck", "many"] spDraw) (G_l_pick : FnD P w K mg base 2 E.f_l_pick E.fd_l_pick ["deck", "some"] spPick) : FnD P w K mg base 3 E.f_l_inner_part E.fd_l_inner_part ["deck", "refs", "names", "tables"] spIPart := by
  have nd := sc_l_inner_part.nd
  refine okD E.F_l_inner_part sc_l_inner_part ?len fun cdv A outer s H X hr hgd => ⟨_, (dss_cons (ds_set 4 nd rfl (by first | exact Or.inl rfl | exact Or.inr rfl) (d_tuple (by rfl) E.m_tuple (da_cons (d_comp [("k", 5)] fin_L rfl nd (di_range1 (by rfl) E.m_range (d_add d_int (d_fn G_l_draw (hr.mono (by decide)) hgd (by rfl) E.g_l_draw E.F_l_draw.kp (kb_l_draw_2 E) (da_cons (d_var 0) (da_cons d_int da_nil)) dk_nil))) (by kernel_rfl)
  (fun _ _ _ _ _ => (dg_nm 5 nd rfl (by first | exact Or.inl rfl | exact Or.inr rfl))) (fun _ _ _ _ _ => dts_nil) (fun _ _ _ _ _ => (d_tup (da_cons (d_pop (d_var 2)) (da_cons (d_fn G_l_pick (hr.mono (by decide)) hgd (by rfl) E.g_l_pick E.F_l_pick.kp (kb_l_pick_2 E) (da_cons (d_var 0) (da_cons (d_var 3) da_nil)) dk_nil) da_nil))))) da_nil)))
  (dss_cons (ds_set 6 nd rfl (by first | exact Or.inl rfl | exact Or.inr rfl) (d_tup (da_cons (d_var 4) (da_cons (d_tup (da_cons d_str (da_cons (d_tup (da_cons d_str (da_cons (d_ix (d_ix (d_var 4) (d_neg d_int) (fun _ _ => rfl)) d_int (fun _ _ => rfl)) (da_cons d_str da_nil)))) (da_cons (d_tup (da_cons d_str (da_cons (d_ix (d_ix (d_var 1) d_int (fun _ _ => rfl)) d_int (fun _ _ => rfl)) (da_cons d_str da_nil)))) da_nil)))) da_nil))))
  (dss_cons (ds_set 7 nd rfl (by first | exact Or.inl rfl | exact Or.inr rfl) (d_fn G_l_pick (hr.mono (by decide)) hgd (by rfl) E.g_l_pick E.F_l_pick.kp (kb_l_pick_2 E) (da_cons (d_var 0) (da_cons (d_lst (da_cons d_str (da_cons d_str (da_cons d_str da_nil)))) da_nil)) dk_nil))
  (dss_one (ds_ret (d_ifExp (dt_eq hr.units (d_var 7) d_str) (d_tup (da_cons (d_var 7) (da_cons (d_var 6) da_nil))) (d_tup (da_cons (d_var 7) (da_cons (d_var 6) (da_cons (d_tup (da_cons d_str (da_cons (d_tup (da_cons d_str (da_cons (d_ix (d_ix (d_var 4) d_int (fun _ _ => rfl)) d_int (fun _ _ => rfl)) (da_cons d_str da_nil)))) (da_cons d_int da_nil)))) da_nil)))))))))), ?_⟩
  case len =>
    rintro ts M Q ⟨dk, c, pl, n, k, rl, tb, rfl, _⟩
    rfl
  · rintro ts M Q ⟨dk, c, pl, n, k, rl, tb, rfl, hD, hn, p1, p2, hP, r0, r4, rN, t0, t1, tN, q⟩
    obtain ⟨⟨ra, rt⟩, rs, rfl⟩ : ∃ z r, rl = z :: r := by
      cases rl with
      | nil => exact absurd r0 (Nat.lt_irrefl 0)
      | cons z r => exact ⟨z, r, rfl⟩
    have hra : Nm ra := rN (ra, rt) List.mem_cons_self
    simp only [EV, dComp, iR1]
    refine draw_fr hD (by omega) (by decide) (by decide) fun M1 r1 D1 F1 a1 b1 => ?_
    try simp only [EV, dC]
    refine ⟨⟨by omega, by omega⟩, ?_⟩
    obtain ⟨al, ha, al30, alk, alN⟩ := hP
    refine compL_acc (fun j acc M' => ∃ (l : List (Str × Str)) (bl : List Str), acc = l.map prT ∧ l.length = j ∧ (∀ q ∈ l, Nm q.1 ∧ Nm q.2 ∧ q.2 ∈ tb) ∧ M' pl = some (.lst (bl.map T.str)) ∧ k + 2 ≤ bl.length + j ∧ bl.length ≤ 30 ∧ (∀ a ∈ bl, Nm a) ∧ DeckAt dk c M' (n + 1 + j) ∧ Fr3 dk c pl M M') (fun _ _ _ _ => by trivial) 0 ⟨[], al, rfl, rfl, fun _ h => (nomatch h), (F1 pl p1 p2).trans ha, by omega, al30, alN, D1, Fr3.of2 F1⟩ ?_ ?_ ?_
    · rintro j t acc M4 hj ⟨l, bl, rfl, hlj, hl, hM, hbk, hb30, hbN, D4, F4⟩
      obtain ⟨hj', rfl⟩ := ups_at hj
      obtain ⟨cl, x, rfl⟩ := last_split (l := bl) (by omega)
      refine ⟨_, rfl, fun R kk => ?_⟩
      have D5 : DeckAt dk c (mset M4 pl (.lst (cl.map T.str))) (n + 1 + (0 + j)) := ⟨D4.ne, let ⟨ns, t, k, a, b, d, e, f⟩ := D4.at_; ⟨ns, t, k, (mset_ne p1.symm).trans a, (mset_ne p2.symm).trans b, d, e, f⟩⟩
      simp only [EV, wipe3, hM, List.length_map, lastS_get, lastS_drop]
      refine pick_fr D5 (by omega) (by simpa [itemsOf] using t0) (by simp only [itemsOf, List.length_map]; omega) fun M6 t6 D6 f6 m6 => ?_
      simp only [itemsOf] at m6
      obtain ⟨z, hz, rfl⟩ := List.mem_map.mp m6
      try simp only [EV, dC]
      rw [List.length_append, List.length_singleton] at hbk hb30
      refine kk _ _ ⟨l ++ [(x, z)], cl, by rw [List.map_append]; rfl, by rw [List.length_append, hlj]; rfl, fun p hp => ?_, (f6 pl p1 p2).trans mset_same, by omega, by omega, fun a ha => hbN a (List.mem_append_left _ ha), D6.le (by omega), F4.trans fun a h1 h2 h3 => (f6 a h1 h2).trans (mset_ne h3)⟩
      rcases List.mem_append.mp hp with hp | hp
      · exact hl p hp
      · rw [List.mem_singleton.mp hp]
        exact ⟨hbN x (by simp), tN z hz, hz⟩
    · rw [ups_len]
      exact sz (by rw [List.length_nil]; omega)
    · rintro ys M6 ⟨l, bl, rfl, hlen, hl, hM, hbk, hb30, hbN, D6, F6⟩
      rw [ups_len] at hlen hbk D6
      have l12 : 0 < l.length ∧ l.length ≤ 2 := by omega
      have P6 : Pool pl k M6 := ⟨bl, hM, hb30, by omega, hbN⟩
      obtain ⟨p0, pL, hp0, hpL, e0, e1⟩ : ∃ p0 pL, p0 ∈ l ∧ pL ∈ l ∧ atI (l.map prT) 0 = some (prT p0) ∧ atI (l.map prT) (-1) = some (prT pL) := by
        match l, l12 with
        | [p], _ => exact ⟨p, p, by simp, by simp, rfl, rfl⟩
        | [p, q], _ => exact ⟨p, q, by simp, by simp, rfl, rfl⟩
      have nc : Nm "c" := nm_of (by decide +kernel)
      have c0 : Part 0 (.tup [.str "column", .str p0.1, .str "c"]) := .col (hl p0 hp0).1 nc
      have c1 : Part 0 (.tup [.str "column", .str pL.1, .str "c"]) := .col (hl pL hpL).1 nc
      have c2 : Part 0 (.tup [.str "column", .str ra, .str "c"]) := .col hra nc
      have i1 : inn 1 (.tup [.str "same", .tup [.str "column", .str pL.1, .str "c"], .tup [.str "column", .str ra, .str "c"]]) = [] := by
        rw [inn_two (by simp) c1 c2, inn_col, inn_col]
        rfl
      have x1 : Part 1 (.tup [.str "same", .tup [.str "column", .str pL.1, .str "c"], .tup [.str "column", .str ra, .str "c"]]) := .two (by simp) c1 c2
      have y1 : Part 1 (.tup [.str "plus", .tup [.str "column", .str p0.1, .str "c"], .int 1]) := .plus (Or.inl rfl) c0 (.int (by decide))
      have i2 : inn 1 (.tup [.str "plus", .tup [.str "column", .str p0.1, .str "c"], .int 1]) = [] := by
        rw [inn_plus (Or.inl rfl) c0 (.int (by decide)), inn_col]
      simp only [EV, finL, e0, e1]
      refine pick_fr D6 (by omega) (by simp [itemsOf]) (by simp [itemsOf]) fun M7 t7 D7 f7 m7 => ?_
      have F7 : Fr3 dk c pl M M7 := F6.trans (Fr3.of2 f7)
      have P7 : Pool pl k M7 := P6.fr f7 p1 p2
      simp only [itemsOf, List.mem_cons, List.not_mem_nil, or_false] at m7
      rcases m7 with rfl | rfl | rfl
      · simp only [EV, wx_exists_exists, decide_true]
        exact q _ _ (D7.le (by omega)) F7 P7 ⟨l, _, l12.1, l12.2, hl, x1, i1, Or.inl rfl⟩
      · simp only [EV, wx_only_exists]
        exact q _ _ (D7.le (by omega)) F7 P7 ⟨l, _, l12.1, l12.2, hl, x1, i1, Or.inr ⟨_, _, Or.inl rfl, y1, i2, rfl⟩⟩
      · simp only [EV, wx_first_exists]
        exact q _ _ (D7.le (by omega)) F7 P7 ⟨l, _, l12.1, l12.2, hl, x1, i1, Or.inr ⟨_, _, Or.inr rfl, y1, i2, rfl⟩⟩

theorem ok_l_condition (E : Fns K mg) (G_l_draw : FnD P w K mg base 1 E.f_l_draw E.fd_l_draw ["deck", "many"] spDraw) (G_l_pick : FnD P w K mg base 2 E.f_l_pick E.fd_l_pick ["deck", "some"] spPick) : FnD P w K mg base 3 E.f_l_condition E.fd_l_condition ["deck", "refs", "part"] spCond := by
  have nd := sc_l_condition.nd
  refine okD E.F_l_condition sc_l_condition ?len fun cdv A outer s H X hr hgd => ⟨_, (dss_cons (ds_set 3 nd rfl (by first | exact Or.inl rfl | exact Or.inr rfl) (d_tup (da_cons d_str (da_cons (d_tup (da_cons d_str (da_cons (d_ix (d_ix (d_var 1) d_int (fun _ _ => rfl)) d_int (fun _ _ => rfl)) (da_cons d_str da_nil)))) (da_cons (d_tup (da_cons d_str (da_cons d_int da_nil))) da_nil)))))
  (dss_cons (ds_if (dt_notN (d_var 2))
  (dss_cons (ds_set 4 nd rfl (by first | exact Or.inl rfl | exact Or.inr rfl) (d_ifExp (PW.pt (dw_and (dt_ne hr.units (d_ix (d_var 2) d_int (fun _ _ => rfl)) d_str) (dw_and1 (dt_eq hr.units (d_fn G_l_draw (hr.mono (by decide)) hgd (by rfl) E.g_l_draw E.F_l_draw.kp (kb_l_draw_2 E) (da_cons (d_var 0) (da_cons d_int da_nil)) dk_nil) d_int)))) (d_tup (da_cons d_str (da_cons (d_var 2) (da_cons (d_neg d_int) da_nil)))) (d_var 2)))
  (dss_cons (ds_set 5 nd rfl (by first | exact Or.inl rfl | exact Or.inr rfl) (d_lst (da_cons (d_tup (da_cons d_str (da_cons (d_var 4) (da_cons d_str da_nil)))) (da_cons (d_tup (da_cons d_str (da_cons (d_var 4) (da_cons (d_tup (da_cons d_str (da_cons d_non da_nil))) da_nil)))) (da_cons (d_tup (da_cons d_str (da_cons (d_tup (da_cons d_str (da_cons d_str da_nil))) (da_cons (d_var 4) da_nil)))) da_nil)))))
  (dss_one (ds_set 3 nd rfl (by first | exact Or.inl rfl | exact Or.inr rfl) (d_ifExp (dt_eq hr.units (d_ix (d_var 2) d_int (fun _ _ => rfl)) d_str) (d_var 2) (d_fn G_l_pick (hr.mono (by decide)) hgd (by rfl) E.g_l_pick E.F_l_pick.kp (kb_l_pick_2 E) (da_cons (d_var 0) (da_cons (d_var 5) da_nil)) dk_nil))))))
  dss_nil)
  (dss_cons (ds_for PassesOwn.never rfl (di_range1 (by rfl) E.m_range (d_fn G_l_draw (hr.mono (by decide)) hgd (by rfl) E.g_l_draw E.F_l_draw.kp (kb_l_draw_2 E) (da_cons (d_var 0) (da_cons d_int da_nil)) dk_nil)) (dg_nm 6 nd rfl (by first | exact Or.inl rfl | exact Or.inr rfl))
  (dss_cons (ds_set 7 nd rfl (by first | exact Or.inl rfl | exact Or.inr rfl) (d_tup (da_cons d_str (da_cons (d_tup (da_cons d_str (da_cons (d_var 6) da_nil))) (da_cons d_str da_nil)))))
  (dss_one (ds_set 3 nd rfl (by first | exact Or.inl rfl | exact Or.inr rfl) (d_fn G_l_pick (hr.mono (by decide)) hgd (by rfl) E.g_l_pick E.F_l_pick.kp (kb_l_pick_2 E) (da_cons (d_var 0) (da_cons (d_lst (da_cons (d_tup (da_cons d_str (da_cons (d_var 3) da_nil))) (da_cons (d_tup (da_cons d_str (da_cons (d_var 3) (da_cons (d_var 7) da_nil)))) (da_cons (d_tup (da_cons d_str (da_cons (d_var 7) (da_cons (d_var 3) da_nil)))) da_nil)))) da_nil)) dk_nil)))))
  (dss_one (ds_ret (d_var 3)))))), ?_⟩
  case len =>
    rintro ts M Q ⟨dk, c, n, part, rl, tb, rfl, _⟩
    rfl
  · rintro ts M Q ⟨dk, c, n, part, rl, tb, rfl, hD, hn, r0, rN, hp, q⟩
    obtain ⟨⟨ra, rt⟩, rs, rfl⟩ : ∃ z r, rl = z :: r := by
      cases rl with
      | nil => exact absurd r0 (Nat.lt_irrefl 0)
      | cons z r => exact ⟨z, r, rfl⟩
    have hra : Nm ra := rN (ra, rt) List.mem_cons_self
    have nc : Nm "c" := nm_of (by decide +kernel)
    have nw : ∀ w : Str, w ∈ (["number", "x", "word"] : List Str) → Nm w := fun w hw => by
      simp only [List.mem_cons, List.not_mem_nil, or_false] at hw
      rcases hw with rfl | rfl | rfl <;> exact nm_of (by decide +kernel)
    have c0 : LP 0 (.tup [.str "column", .str ra, .str "c"]) := .col hra nc
    have leafL : ∀ (m : Nat) (i : Int), i.natAbs < 10 ^ 60 → LP (m + 1) (.tup [.str "is", .tup [.str "value", .int i], .str "word"]) ∧ inn (m + 1) (.tup [.str "is", .tup [.str "value", .int i], .str "word"]) = [] := fun m i hi => by
      have v : LP m (.tup [.str "value", .int i]) := .val (.int hi)
      have f : FlatV (.str "word") := .str (nw _ (by simp))
      exact ⟨.plus (Or.inr rfl) v f, by rw [inn_plus (Or.inr rfl) v.part f, inn_val]⟩
    have wrap : ∀ (found : T) (M1 : Mp) (x4 x5 : Option T), DeckAt dk c M1 (n + 2) → Fr2 dk c M M1 → LP 4 found → (part = .non → inn 4 found = []) → (IP tb part → inn 4 found = [part] ∧ Hd found) →
        sFor (iR1 (dFn spDraw 2 0 [0, 1] [] (dCons (dVar 0) (dCons (dC (.int 3)) dNil)) dNil)) (Pat.nm 6) (sSeq (sSet (Pat.nm 7) (dTup (dCons (dC (.str "is")) (dCons (dTup (dCons (dC (.str "value")) (dCons (dVar 6) dNil))) (dCons (dC (.str "word")) dNil)))))
              (sSet (Pat.nm 3) (dFn spPick 2 0 [0, 1] [] (dCons (dVar 0) (dCons (dLst (dCons (dTup (dCons (dC (.str "not")) (dCons (dVar 3) dNil))) (dCons (dTup (dCons (dC (.str "and")) (dCons (dVar 3) (dCons (dVar 7) dNil)))) (dCons (dTup (dCons (dC (.str "or")) (dCons (dVar 7) (dCons (dVar 3) dNil)))) dNil)))) dNil)) dNil)))
          { nx := sRet (dVar 3) { nx := fun _ M' => Q .non M', rt := Q }, rt := Q } [some (.raw (.ref dk)), some (.tup (prT (ra, rt) :: rs.map prT)), some part, some found, x4, x5, none, none] M1 := by
      intro found M1 x4 x5 D1 F1 h1 h2 h3
      simp only [EV, sFor, iR1]
      refine draw_fr D1 (by omega) (by decide) (by decide) fun M2 r2 D2 F2 a2 b2 => ?_
      refine ⟨⟨by omega, by omega⟩, ?_⟩
      refine forL_inv (fun j ss M' => DeckAt dk c M' (n + 3 + j) ∧ Fr2 dk c M M' ∧ ∃ (fd : T) (x6 x7 : Option T), ss = [some (.raw (.ref dk)), some (.tup (prT (ra, rt) :: rs.map prT)), some part, some fd, x4, x5, x6, x7] ∧ LP (4 + j) fd ∧ (part = .non → inn (4 + j) fd = []) ∧ (IP tb part → inn (4 + j) fd = [part] ∧ Hd fd)) (fun _ _ _ _ => by trivial) 0
        ⟨D2, F1.trans F2, found, none, none, rfl, h1, h2, h3⟩ ?_ ?_
      · rintro j t ss M3 hj ⟨D3, F3, fd, x6, x7, rfl, l1, l2, l3⟩
        obtain ⟨hj', rfl⟩ := ups_at hj
        refine ⟨_, rfl, fun N kk => ?_⟩
        simp only [EV, dC]
        rw [Nat.zero_add] at *
        obtain ⟨lf1, lf2⟩ := leafL (3 + j) (j : Nat) (Nat.lt_of_lt_of_le (show j < 3 by omega) (by decide))
        rw [show 3 + j + 1 = 4 + j by omega] at lf1 lf2
        have es : 4 + (j + 1) = 4 + j + 1 := by omega
        refine pick_fr D3 (by omega) (by simp [itemsOf]) (by simp [itemsOf]) fun M4 t4 D4 F4 m4 => ?_
        simp only [itemsOf, List.mem_cons, List.not_mem_nil, or_false] at m4
        rcases m4 with rfl | rfl | rfl
        · refine kk _ _ ⟨D4.le (by omega), F3.trans F4, _, _, _, rfl, ?_, ?_, ?_⟩
          · rw [es]; exact .not l1
          · intro h; rw [es, inn_not l1.part]; exact l2 h
          · intro h
            rw [es, inn_not l1.part]
            exact ⟨(l3 h).1, fun w a b e => by cases e⟩
        · refine kk _ _ ⟨D4.le (by omega), F3.trans F4, _, _, _, rfl, ?_, ?_, ?_⟩
          · rw [es]; exact .two (by simp) l1 lf1
          · intro h; rw [es, inn_two (by simp) l1.part lf1.part, l2 h, lf2]; rfl
          · intro h
            rw [es, inn_two (by simp) l1.part lf1.part, (l3 h).1, lf2]
            exact ⟨rfl, fun w a b e => by cases e; intro z; rcases z with z | z | z <;> exact absurd z (by decide)⟩
        · refine kk _ _ ⟨D4.le (by omega), F3.trans F4, _, _, _, rfl, ?_, ?_, ?_⟩
          · rw [es]; exact .two (by simp) lf1 l1
          · intro h; rw [es, inn_two (by simp) lf1.part l1.part, l2 h, lf2]; rfl
          · intro h
            rw [es, inn_two (by simp) lf1.part l1.part, (l3 h).1, lf2]
            exact ⟨rfl, fun w a b e => by cases e; intro z; rcases z with z | z | z <;> exact absurd z (by decide)⟩
      · rintro ss M3 ⟨D3, F3, fd, x6, x7, rfl, l1, l2, l3⟩
        rw [ups_len] at D3 l1 l2 l3
        have l6 : 0 + r2.toNat ≤ 2 := by omega
        have im : inn 6 fd = inn (4 + (0 + r2.toNat)) fd := inn_mono l1.part (by omega)
        simp only [EV, dC]
        exact q _ _ (D3.le (by omega)) F3 (l1.mono (by omega)) (fun h => im.trans (l2 h)) fun h => ⟨im.trans (l3 h).1, (l3 h).2⟩
    rcases hp with rfl | hp
    · simp only [EV, List.map_cons]
      have v0 : LP 0 (.tup [.str "value", .int 0]) := .val (.int (by decide))
      refine wrap _ _ _ _ (hD.le (by omega)) Fr2.refl ((LP.two (by simp) c0 v0).mono (by decide)) (fun _ => ?_) (fun h => ?_)
      · rw [inn_mono (Part.two (by simp) c0.part v0.part) (by decide : 1 ≤ 4), inn_two (by simp) c0.part v0.part, inn_col, inn_val]
        rfl
      · obtain ⟨_, _, _, _, _, _, _, h | ⟨_, _, _, _, _, h⟩⟩ := h <;> cases h
    · have hp0 := hp
      obtain ⟨l, x, h0, h1, h2, h3, h4, rfl | ⟨w, y, hw, h5, h6, rfl⟩⟩ := hp
      · simp only [EV, List.map_cons, wx_exists_exists, decide_true]
        exact wrap _ _ _ _ (hD.le (by omega)) Fr2.refl (hp0.lp.mono (by decide)) (fun h => by cases h) fun _ => ⟨by rw [inn_mono hp0.lp.part (by decide : 2 ≤ 4), hp0.inn], fun w a b e => by cases e⟩
      · have hwn : w ≠ "exists" := by rcases hw with rfl | rfl <;> decide
        have rest : ∀ (one : T) (M1 : Mp), DeckAt dk c M1 (n + 1) → Fr2 dk c M M1 → LP 3 one → inn 3 one = [.tup [.str w, .tup [.tup (l.map prT), x], y]] → HdI one →
            spPick [.raw (.ref dk), .lst [.tup [.str "is", one, .str "number"], .tup [.str "most", one, .tup [.str "value", .non]], .tup [.str "same", .tup [.str "value", .str "x"], one]]] M1 fun t M2 =>
              sFor (iR1 (dFn spDraw 2 0 [0, 1] [] (dCons (dVar 0) (dCons (dC (.int 3)) dNil)) dNil)) (Pat.nm 6) (sSeq (sSet (Pat.nm 7) (dTup (dCons (dC (.str "is")) (dCons (dTup (dCons (dC (.str "value")) (dCons (dVar 6) dNil))) (dCons (dC (.str "word")) dNil)))))
              (sSet (Pat.nm 3) (dFn spPick 2 0 [0, 1] [] (dCons (dVar 0) (dCons (dLst (dCons (dTup (dCons (dC (.str "not")) (dCons (dVar 3) dNil))) (dCons (dTup (dCons (dC (.str "and")) (dCons (dVar 3) (dCons (dVar 7) dNil)))) (dCons (dTup (dCons (dC (.str "or")) (dCons (dVar 7) (dCons (dVar 3) dNil)))) dNil)))) dNil)) dNil)))
                { nx := sRet (dVar 3) { nx := fun _ M' => Q .non M', rt := Q }, rt := Q } [some (.raw (.ref dk)), some (.tup (prT (ra, rt) :: rs.map prT)), some (.tup [.str w, .tup [.tup (l.map prT), x], y]), some t, some one, some (.lst [.tup [.str "is", one, .str "number"], .tup [.str "most", one, .tup [.str "value", .non]], .tup [.str "same", .tup [.str "value", .str "x"], one]]), none, none] M2 := by
          intro one M1 D1 F1 o1 o2 o3
          have v1 : LP 3 (.tup [.str "value", .non]) := .val (Or.inl rfl)
          have v2 : LP 3 (.tup [.str "value", .str "x"]) := .val (.str (nw _ (by simp)))
          have f1 : FlatV (.str "number") := .str (nw _ (by simp))
          refine pick_fr D1 (by omega) (by simp [itemsOf]) (by simp [itemsOf]) fun M2 t2 D2 F2 m2 => ?_
          simp only [itemsOf, List.mem_cons, List.not_mem_nil, or_false] at m2
          rcases m2 with rfl | rfl | rfl
          · exact wrap _ _ _ _ D2 (F1.trans F2) (.plus (Or.inr rfl) o1 f1) (fun h => by cases h) fun _ => ⟨by rw [inn_plus (Or.inr rfl) o1.part f1, o2], fun w a b e => by cases e; intro z; rcases z with z | z | z <;> exact absurd z (by decide)⟩
          · exact wrap _ _ _ _ D2 (F1.trans F2) (.two (by simp) o1 v1) (fun h => by cases h) fun _ => ⟨by rw [inn_two (by simp) o1.part v1.part, o2, inn_val]; rfl, fun w a b e => by cases e; exact fun _ => Or.inl o3⟩
          · exact wrap _ _ _ _ D2 (F1.trans F2) (.two (by simp) v2 o1) (fun h => by cases h) fun _ => ⟨by rw [inn_two (by simp) v2.part o1.part, o2, inn_val]; rfl, fun w a b e => by cases e; exact fun _ => Or.inr o3⟩
        simp only [EV, List.map_cons, decide_eq_false hwn, Bool.not_false]
        refine draw_fr hD (by omega) (by decide) (by decide) fun M1 r1 D1 F1 a1 b1 => ?_
        simp only [EV, dC]
        have pl : LP 3 (.tup [.str "plus", .tup [.str w, .tup [.tup (l.map prT), x], y], .int (-1)]) := .plus (Or.inl rfl) hp0.lp (.int (by decide))
        cases hr : decide (r1 = 0) with
        | true =>
          simp only [EV, decide_eq_false hwn]
          exact rest _ _ D1 F1 pl (by rw [inn_plus (Or.inl rfl) hp0.lp.part (.int (by decide)), hp0.inn]) ⟨_, _, rfl, by simp⟩
        | false =>
          simp only [EV, decide_eq_false hwn]
          exact rest _ _ D1 F1 hp0.lp.succ (by rw [inn_mono hp0.lp.part (by decide : 2 ≤ 3), hp0.inn]) ⟨_, _, rfl, by rcases hw with h | h <;> simp [h]⟩

theorem ok_l_drawn (E : Fns K mg) (G_l_draw : FnD P w K mg base 1 E.f_l_draw E.fd_l_draw ["deck", "many"] spDraw) (G_l_pick : FnD P w K mg base 2 E.f_l_pick E.fd_l_pick ["deck", "some"] spPick) (G_l_inner_part : FnD P w K mg base 3 E.f_l_inner_part E.fd_l_inner_part ["deck", "refs", "names", "tables"] spIPart) (G_l_condition : FnD P w K mg base 3 E.f_l_condition E.fd_l_condition ["deck", "refs", "part"] spCond) : FnD P w K mg base 4 E.f_l_drawn E.fd_l_drawn ["deck", "refs", "tables", "names"] spDrawnQ := by
  have nd := sc_l_drawn.nd
  refine okD E.F_l_drawn sc_l_drawn ?len fun cdv A outer s H X hr hgd => ⟨_, (dss_cons (ds_par 4 5 rfl nd rfl rfl (by decide) rfl rfl d_non (d_tup (da_cons (d_tup (da_cons d_str (da_cons (d_ix (d_ix (d_var 1) d_int (fun _ _ => rfl)) d_int (fun _ _ => rfl)) (da_cons d_str da_nil)))) da_nil)))
  (dss_cons (ds_for PassesOwn.never rfl (di_range1 (by rfl) E.m_range (d_fn G_l_draw (hr.mono (by decide)) hgd (by rfl) E.g_l_draw E.F_l_draw.kp (kb_l_draw_2 E) (da_cons (d_var 0) (da_cons d_int da_nil)) dk_nil)) (dg_nm 6 nd rfl (by first | exact Or.inl rfl | exact Or.inr rfl))
  (dss_cons (ds_set 7 nd rfl (by first | exact Or.inl rfl | exact Or.inr rfl) (d_fn G_l_inner_part (hr.mono (by decide)) hgd (by rfl) E.g_l_inner_part E.F_l_inner_part.kp (kb_l_inner_part_4 E) (da_cons (d_var 0) (da_cons (d_var 1) (da_cons (d_var 3) (da_cons (d_var 2) da_nil)))) dk_nil))
  (dss_one (ds_if (PW.pt (dw_and (dt_ne hr.units (d_ix (d_var 7) d_int (fun _ _ => rfl)) d_str) (dw_and1 (dt_eq hr.units (d_fn G_l_draw (hr.mono (by decide)) hgd (by rfl) E.g_l_draw E.F_l_draw.kp (kb_l_draw_2 E) (da_cons (d_var 0) (da_cons d_int da_nil)) dk_nil) d_int))))
  (dss_one (ds_set 5 nd rfl (by first | exact Or.inl rfl | exact Or.inr rfl) (d_add (d_var 5) (d_tup (da_cons (d_var 7) da_nil)))))
  (dss_one (ds_if (dt_isN (d_var 4))
  (dss_one (ds_set 4 nd rfl (by first | exact Or.inl rfl | exact Or.inr rfl) (d_fn G_l_condition (hr.mono (by decide)) hgd (by rfl) E.g_l_condition E.F_l_condition.kp (kb_l_condition_3 E) (da_cons (d_var 0) (da_cons (d_var 1) (da_cons (d_var 7) da_nil))) dk_nil)))
  (dss_one (ds_if (PW.pt (dw_and (dt_eq hr.units (d_fn G_l_draw (hr.mono (by decide)) hgd (by rfl) E.g_l_draw E.F_l_draw.kp (kb_l_draw_2 E) (da_cons (d_var 0) (da_cons d_int da_nil)) dk_nil) d_int) (dw_and (dt_ne hr.units (d_ix (d_var 7) d_int (fun _ _ => rfl)) d_str) (dw_and1 (dt_in (d_ix (d_var 4) d_int (fun _ _ => rfl)) (d_tup (da_cons d_str (da_cons d_str (da_cons d_str da_nil)))) (by rfl))))))
  (dss_one (ds_set 4 nd rfl (by first | exact Or.inl rfl | exact Or.inr rfl) (d_tup (da_cons (d_ix (d_var 4) d_int (fun _ _ => rfl)) (da_cons (d_var 7) (da_cons (d_ix (d_comp [("one", 8)] fin_L rfl nd (di_tup (d_slice (d_var 4) (do_some d_int) do_none)) (by kernel_rfl)
  (fun _ _ _ _ _ => (dg_nm 8 nd rfl (by first | exact Or.inl rfl | exact Or.inr rfl))) (fun _ _ _ _ _ => (dts_one (dt_in (d_ix (d_var 8) d_int (fun _ _ => rfl)) (d_tup (da_cons d_str (da_cons d_str (da_cons d_str da_nil)))) (by rfl)))) (fun _ _ _ _ _ => (d_var 8))) d_int (fun _ _ => rfl)) da_nil))))))
  (dss_one (ds_set 4 nd rfl (by first | exact Or.inl rfl | exact Or.inr rfl) (d_tup (da_cons d_str (da_cons (d_var 4) (da_cons (d_fn G_l_condition (hr.mono (by decide)) hgd (by rfl) E.g_l_condition E.F_l_condition.kp (kb_l_condition_3 E) (da_cons (d_var 0) (da_cons (d_var 1) (da_cons (d_var 7) da_nil))) dk_nil) da_nil))))))))))))))
  (dss_cons (ds_par 9 10 rfl nd rfl rfl (by decide) rfl rfl (d_fn G_l_pick (hr.mono (by decide)) hgd (by rfl) E.g_l_pick E.F_l_pick.kp (kb_l_pick_2 E) (da_cons (d_var 0) (da_cons (d_lst (da_cons (d_tup da_nil) (da_cons (d_slice (d_var 5) do_none (do_some d_int)) da_nil))) da_nil)) dk_nil) (d_fn G_l_pick (hr.mono (by decide)) hgd (by rfl) E.g_l_pick E.F_l_pick.kp (kb_l_pick_2 E) (da_cons (d_var 0) (da_cons (d_lst (da_cons d_non (da_cons d_int (da_cons d_int da_nil)))) da_nil)) dk_nil))
  (dss_one (ds_ret (d_tup (da_cons (d_var 1) (da_cons (d_var 4) (da_cons (d_var 5) (da_cons (d_var 9) (da_cons (d_var 10) da_nil))))))))))), ?_⟩
  case len =>
    rintro ts M Q ⟨dk, c, pl, n, rl, tb, rfl, _⟩
    rfl
  · rintro ts M Q ⟨dk, c, pl, n, rl, tb, rfl, hD, hn, p1, p2, hP, r0, r4, rN, t0, t1, tN, q⟩
    obtain ⟨⟨ra, rt⟩, rs, rfl⟩ : ∃ z r, rl = z :: r := by
      cases rl with
      | nil => exact absurd r0 (Nat.lt_irrefl 0)
      | cons z r => exact ⟨z, r, rfl⟩
    have hra : Nm ra := (rN (ra, rt) List.mem_cons_self).1
    have rN1 : ∀ q ∈ (ra, rt) :: rs, Nm q.1 := fun q hq => (rN q hq).1
    have nc : Nm "c" := nm_of (by decide +kernel)
    have c0 : LP 2 (.tup [.str "column", .str ra, .str "c"]) := .col hra nc
    have qz : qInn 8 .non [.tup [.str "column", .str ra, .str "c"]] = [] := by
      unfold qInn wps
      rw [if_pos (show isNo .non = true from rfl), List.append_nil, List.flatMap_cons, List.flatMap_nil, inn_col]
      rfl
    have q0 : (qInn 8 .non [.tup [.str "column", .str ra, .str "c"]]).length ≤ 0 ∧ ∀ p ∈ qInn 8 .non [.tup [.str "column", .str ra, .str "c"]], IP tb p := by
      rw [qz]
      exact ⟨Nat.le_refl _, fun _ h => nomatch h⟩
    simp only [EV, List.map_cons, sFor, iR1]
    refine draw_fr hD (by omega) (by decide) (by decide) fun M1 r1 D1 F1 a1 b1 => ?_
    refine ⟨⟨by omega, by omega⟩, ?_⟩
    refine forL_inv (fun j ss M' => DeckAt dk c M' (n + 1 + j * 15) ∧ Fr3 dk c pl M M' ∧ Pool pl (4 - 2 * j) M' ∧ ∃ (wh : T) (hs : List T) (x6 x7 x8 x9 x10 : Option T), ss = [some (.raw (.ref dk)), some (.tup (prT (ra, rt) :: rs.map prT)), some (.lst (tb.map T.str)), some (.raw (.ref pl)), some wh, some (.tup hs), x6, x7, x8, x9, x10] ∧
      (wh = .non ∨ LP (6 + j) wh ∧ Hd wh) ∧ (∀ h ∈ hs, LP 2 h) ∧ 0 < hs.length ∧ hs.length ≤ 1 + j ∧ (qInn 8 wh hs).length ≤ j ∧ (∀ p ∈ qInn 8 wh hs, IP tb p) ∧ hs.head? = some (.tup [.str "column", .str ra, .str "c"])) (fun _ _ _ _ => by trivial) 0
      ⟨D1, Fr3.of2 F1, hP.fr F1 p1 p2, .non, [.tup [.str "column", .str ra, .str "c"]], none, none, none, none, none, rfl, Or.inl rfl, fun h hh => by rw [List.mem_singleton.mp hh]; exact c0, Nat.le_refl _, Nat.le_refl _, q0.1, q0.2, rfl⟩ ?_ ?_
    · rintro j t ss M3 hj ⟨D3, F3, P3, wh, hs, x6, x7, x8, x9, x10, rfl, hw, hh, hs0, hs1, ql, qI, hhd⟩
      obtain ⟨hj', rfl⟩ := ups_at hj
      rw [Nat.zero_add] at *
      have hj2 : j < 2 := by omega
      refine ⟨_, rfl, fun N kk => ?_⟩
      simp only [sSeq, sPar, sPut, sIf, sSet, sDrop, sRet, sRetN, sNext, dOp2, dOp1, dVar, dC, dB, dTup, dLst, dLstM, dNil, dCons, dSl, doNone, doSome, dCall, dLm, dLm0, dSm, dOr, dNot, dAndV, dOrV, dIf, dChain, dFn, dFn0, dYes, dDisp, dDispM, dPairs, keysT, dNewD, dNewDM,
 oAdd, oSub, oMul, oFdiv, oMod, oPow, oInt2, oNeg, oIx, oSl, oRev, oRevM, oLt, oLe, oGt, oGe, oOrd, oIsN, oNotB, oDGet, oDIn, oIn, oInS, mAppend, mPop, mJoin, isL, isS, fLen, fIsi, fAbs, fList, fListM, fTuple, fInt, fRepr, fBls, seqOf, tyT,
 look, keyT, Pat.set, start3, pick, List.getElem?_cons_zero, List.getElem?_cons_succ, List.set_cons_zero, List.set_cons_succ, List.map_cons, List.map_nil, List.length_cons, List.length_nil, List.nil_append, List.cons_append, List.replicate_succ, List.replicate_zero, Nat.reduceSub, Nat.reduceAdd, flatOf, kit_NoneType_str, kit_bool_str, kit_int_str, kit_str_str, kit_tuple_str, kit_list_str, kit_dict_str, kit_NoneType_int, kit_bool_int, kit_int_int, kit_str_int, kit_tuple_int, kit_list_int, kit_dict_int, kit_NoneType_bool, kit_bool_bool, kit_int_bool, kit_str_bool, kit_tuple_bool, kit_list_bool, kit_dict_bool, kit_NoneType_tuple, kit_bool_tuple, kit_int_tuple, kit_str_tuple, kit_tuple_tuple, kit_list_tuple, kit_dict_tuple, kit_NoneType_list, kit_bool_list, kit_int_list, kit_str_list, kit_tuple_list, kit_list_list, kit_dict_list, kit_NoneType_dict, kit_bool_dict, kit_int_dict, kit_str_dict, kit_tuple_dict, kit_list_dict, kit_dict_dict, Bool.false_eq_true, if_false, if_true, reduceIte, true_and, sz_0, sz_1, sz_2, sz_3, sz_4, sz_5, sz_6, sz_7, sz_8, sz_9, sz_10, sz_11, sz_12, sz_13, sz_14, sz_15, sz_16, sz_17, sz_18, sz_19, sz_20, sz_21, sz_22, sz_23, sz_24, sz_25, sz_26, sz_27, sz_28, sz_29, sz_30, sz_31, sz_32, sz_33, sz_34, sz_35, sz_36, sz_37, sz_38, sz_39, sz_40, sz_41, sz_42, sz_43, sz_44, sz_45, sz_46, sz_47, atI_c0, atI_c1, atI_c2, atI_c3, atI_c4, List.append_nil, List.filterMap_cons, List.filterMap_nil, and_self, dStar, mSplit, fSortS, fSortT, L3.setAll, mExtend, dKGet, dB, oIn, seqOf, eqb_ss, eqb_ii, eqb_bb, eqb_nn, eqb_ni, eqb_in, eqb_ns, eqb_sn, eqb_is, eqb_si, Bool.not_true, Bool.not_false, flatT, List.all_cons, List.all_nil, Bool.and_self, mExt, mCount, dFnV, dSortSet, sUnl]
      refine ⟨dk, c, pl, _, 4 - 2 * (j + 1), (ra, rt) :: rs, tb, rfl, D3, by omega, p1, p2, by rw [show 4 - 2 * (j + 1) + 2 = 4 - 2 * j by omega]; exact P3, by simp, r4, rN1, t0, t1, tN, fun M4 part D4 F4 P4 hp => ?_⟩
      have hpl := hp.lp
      have hpi : inn 8 part = [part] := by rw [inn_mono hpl.part (by decide : 2 ≤ 8), hp.inn]
      obtain ⟨pw, pa, pr, rfl⟩ := hpl.part.head
      have hpw : pw ≠ "exists" → HdI (.tup (.str pw :: pa :: pr)) := fun h => by
        obtain ⟨l, x, h0, h1, h2, h3, h4, e | ⟨w, y, hw, h5, h6, e⟩⟩ := hp
        · cases e
          exact absurd rfl h
        · cases e
          exact ⟨_, _, rfl, by rcases hw with h | h <;> simp [h]⟩
      have qapp : ∀ u : T, qInn 8 u (hs ++ [.tup (.str pw :: pa :: pr)]) = hs.flatMap (inn 8) ++ .tup (.str pw :: pa :: pr) :: (if isNo u then [] else [u]).flatMap (inn 8) := fun u => by
        unfold qInn wps
        rw [List.flatMap_append, List.flatMap_append, List.flatMap_cons, List.flatMap_nil, List.append_nil, hpi, List.append_assoc]
        rfl
      have qspl : ∀ u : T, qInn 8 u hs = hs.flatMap (inn 8) ++ (if isNo u then [] else [u]).flatMap (inn 8) := fun u => by
        unfold qInn wps
        rw [List.flatMap_append]
      have lpno : ∀ {m : Nat} {u : T}, LP m u → isNo u = false := fun h => by cases h <;> rfl
      have lpnn : ∀ {m : Nat} {u : T}, LP m u → L3.isNon u = some false := fun h => by cases h <;> rfl
      rw [qspl, List.length_append] at ql
      rw [qspl] at qI
      dsimp only
      refine cut_t (fun b M' => DeckAt dk c M' (n + 1 + j * 15 + 7) ∧ Fr3 dk c pl M M' ∧ Pool pl (4 - 2 * (j + 1)) M') (fun K k => ?_) fun b1 M5 ⟨D5, F5, P5⟩ => ?_
      · simp only [EV, dC]
        cases hd : decide (pw = "exists") with
        | true =>
          simp only [EV, dC]
          exact k _ _ ⟨D4.le (by omega), F3.trans F4, P4⟩
        | false =>
          simp only [EV, dC]
          refine draw_fr D4 (by omega) (by decide) (by decide) fun M5 r5 D5 F5 a5 b5 => ?_
          try simp only [EV, dC]
          exact k _ _ ⟨D5, (F3.trans F4).trans (Fr3.of2 F5), P4.fr F5 p1 p2⟩
      cases b1 with
      | true =>
        simp only [EV, dC]
        refine ⟨sz (by omega), kk _ _ ⟨D5.le (by omega), F5, P5, wh, _, _, _, _, _, _, rfl, hw.imp id fun h => ⟨h.1.mono (by omega), h.2⟩, fun h hm => ?_, by rw [List.length_append]; omega, by rw [List.length_append]; simp only [List.length_cons, List.length_nil]; omega, ?_, fun p hm => ?_, ?_⟩⟩
        · rcases List.mem_append.mp hm with hm | hm
          · exact hh h hm
          · rw [List.mem_singleton.mp hm]
            exact hpl
        · rw [qapp, List.length_append, List.length_cons]
          omega
        · rw [qapp] at hm
          rcases List.mem_append.mp hm with hm | hm
          · exact qI p (List.mem_append_left _ hm)
          · rcases List.mem_cons.mp hm with rfl | hm
            · exact hp
            · exact qI p (List.mem_append_right _ hm)
        · cases hs with
          | nil => cases hhd
          | cons x r => exact hhd
      | false =>
        rcases hw with rfl | ⟨hw, hd⟩
        · simp only [show L3.isNon T.non = some true from rfl, sSeq, sPar, sPut, sIf, sSet, sDrop, sRet, sRetN, sNext, dOp2, dOp1, dVar, dC, dB, dTup, dLst, dLstM, dNil, dCons, dSl, doNone, doSome, dCall, dLm, dLm0, dSm, dAnd, dOr, dNot, dAndV, dOrV, dIf, dChain, dFn, dFn0, dYes, dDisp, dDispM, dPairs, keysT, dNewD, dNewDM,
 oAdd, oSub, oMul, oFdiv, oMod, oPow, oInt2, oNeg, oIx, oSl, oRev, oRevM, oLt, oLe, oGt, oGe, oOrd, oIsN, oNotB, oDGet, oDIn, oIn, oInS, mAppend, mPop, mJoin, isL, isS, fLen, fIsi, fAbs, fList, fListM, fTuple, fInt, fRepr, fBls, seqOf, tyT,
 look, keyT, Pat.set, start3, pick, List.getElem?_cons_zero, List.getElem?_cons_succ, List.set_cons_zero, List.set_cons_succ, List.map_cons, List.map_nil, List.length_cons, List.length_nil, List.nil_append, List.cons_append, List.replicate_succ, List.replicate_zero, Nat.reduceSub, Nat.reduceAdd, flatOf, kit_NoneType_str, kit_bool_str, kit_int_str, kit_str_str, kit_tuple_str, kit_list_str, kit_dict_str, kit_NoneType_int, kit_bool_int, kit_int_int, kit_str_int, kit_tuple_int, kit_list_int, kit_dict_int, kit_NoneType_bool, kit_bool_bool, kit_int_bool, kit_str_bool, kit_tuple_bool, kit_list_bool, kit_dict_bool, kit_NoneType_tuple, kit_bool_tuple, kit_int_tuple, kit_str_tuple, kit_tuple_tuple, kit_list_tuple, kit_dict_tuple, kit_NoneType_list, kit_bool_list, kit_int_list, kit_str_list, kit_tuple_list, kit_list_list, kit_dict_list, kit_NoneType_dict, kit_bool_dict, kit_int_dict, kit_str_dict, kit_tuple_dict, kit_list_dict, kit_dict_dict, Bool.false_eq_true, if_false, if_true, reduceIte, true_and, sz_0, sz_1, sz_2, sz_3, sz_4, sz_5, sz_6, sz_7, sz_8, sz_9, sz_10, sz_11, sz_12, sz_13, sz_14, sz_15, sz_16, sz_17, sz_18, sz_19, sz_20, sz_21, sz_22, sz_23, sz_24, sz_25, sz_26, sz_27, sz_28, sz_29, sz_30, sz_31, sz_32, sz_33, sz_34, sz_35, sz_36, sz_37, sz_38, sz_39, sz_40, sz_41, sz_42, sz_43, sz_44, sz_45, sz_46, sz_47, atI_c0, atI_c1, atI_c2, atI_c3, atI_c4, List.append_nil, List.filterMap_cons, List.filterMap_nil, and_self, dStar, mSplit, fSortS, fSortT, L3.setAll, mExtend, dKGet, dB, oIn, seqOf, eqb_ss, eqb_ii, eqb_bb, eqb_nn, eqb_ni, eqb_in, eqb_ns, eqb_sn, eqb_is, eqb_si, Bool.not_true, Bool.not_false, flatT, List.all_cons, List.all_nil, Bool.and_self, mExt, mCount, dFnV, dSortSet, sUnl]
          refine ⟨dk, c, _, _, (ra, rt) :: rs, tb, rfl, D5, by omega, by simp, rN1, Or.inr hp, fun M6 t6 D6 F6 l6 _ i6 => ?_⟩
          obtain ⟨i6, h6⟩ := i6 hp
          have i8 : inn 8 t6 = [.tup (.str pw :: pa :: pr)] := by rw [inn_mono l6.part (by decide : 6 ≤ 8), i6]
          have qe : qInn 8 t6 hs = hs.flatMap (inn 8) ++ [.tup (.str pw :: pa :: pr)] := by
            rw [qspl, lpno l6, if_neg Bool.false_ne_true, List.flatMap_cons, List.flatMap_nil, List.append_nil, i8]
          try simp only [EV, dC]
          refine kk _ _ ⟨D6.le (by omega), F5.trans (Fr3.of2 F6), P5.fr F6 p1 p2, t6, hs, _, _, _, _, _, rfl, Or.inr ⟨l6.mono (by omega), h6⟩, hh, hs0, by omega, ?_, fun p hm => ?_, hhd⟩
          · rw [qe, List.length_append]
            simp only [List.length_cons, List.length_nil]
            omega
          · rw [qe] at hm
            rcases List.mem_append.mp hm with hm | hm
            · exact qI p (List.mem_append_left _ hm)
            · rw [List.mem_singleton.mp hm]
              exact hp
        · rw [lpno hw, if_neg Bool.false_ne_true, List.flatMap_cons, List.flatMap_nil, List.append_nil] at ql qI
          simp only [lpnn hw, sSeq, sPar, sPut, sIf, sSet, sDrop, sRet, sRetN, sNext, dOp2, dOp1, dVar, dC, dB, dTup, dLst, dLstM, dNil, dCons, dSl, doNone, doSome, dCall, dLm, dLm0, dSm, dOr, dNot, dAndV, dOrV, dIf, dChain, dFn, dFn0, dYes, dDisp, dDispM, dPairs, keysT, dNewD, dNewDM,
 oAdd, oSub, oMul, oFdiv, oMod, oPow, oInt2, oNeg, oIx, oSl, oRev, oRevM, oLt, oLe, oGt, oGe, oOrd, oIsN, oNotB, oDGet, oDIn, oIn, oInS, mAppend, mPop, mJoin, isL, isS, fLen, fIsi, fAbs, fList, fListM, fTuple, fInt, fRepr, fBls, seqOf, tyT,
 look, keyT, Pat.set, start3, pick, List.getElem?_cons_zero, List.getElem?_cons_succ, List.set_cons_zero, List.set_cons_succ, List.map_cons, List.map_nil, List.length_cons, List.length_nil, List.nil_append, List.cons_append, List.replicate_succ, List.replicate_zero, Nat.reduceSub, Nat.reduceAdd, flatOf, kit_NoneType_str, kit_bool_str, kit_int_str, kit_str_str, kit_tuple_str, kit_list_str, kit_dict_str, kit_NoneType_int, kit_bool_int, kit_int_int, kit_str_int, kit_tuple_int, kit_list_int, kit_dict_int, kit_NoneType_bool, kit_bool_bool, kit_int_bool, kit_str_bool, kit_tuple_bool, kit_list_bool, kit_dict_bool, kit_NoneType_tuple, kit_bool_tuple, kit_int_tuple, kit_str_tuple, kit_tuple_tuple, kit_list_tuple, kit_dict_tuple, kit_NoneType_list, kit_bool_list, kit_int_list, kit_str_list, kit_tuple_list, kit_list_list, kit_dict_list, kit_NoneType_dict, kit_bool_dict, kit_int_dict, kit_str_dict, kit_tuple_dict, kit_list_dict, kit_dict_dict, Bool.false_eq_true, if_false, if_true, reduceIte, true_and, sz_0, sz_1, sz_2, sz_3, sz_4, sz_5, sz_6, sz_7, sz_8, sz_9, sz_10, sz_11, sz_12, sz_13, sz_14, sz_15, sz_16, sz_17, sz_18, sz_19, sz_20, sz_21, sz_22, sz_23, sz_24, sz_25, sz_26, sz_27, sz_28, sz_29, sz_30, sz_31, sz_32, sz_33, sz_34, sz_35, sz_36, sz_37, sz_38, sz_39, sz_40, sz_41, sz_42, sz_43, sz_44, sz_45, sz_46, sz_47, atI_c0, atI_c1, atI_c2, atI_c3, atI_c4, List.append_nil, List.filterMap_cons, List.filterMap_nil, and_self, dStar, mSplit, fSortS, fSortT, L3.setAll, mExtend, dKGet, dB, oIn, seqOf, eqb_ss, eqb_ii, eqb_bb, eqb_nn, eqb_ni, eqb_in, eqb_ns, eqb_sn, eqb_is, eqb_si, Bool.not_true, Bool.not_false, flatT, List.all_cons, List.all_nil, Bool.and_self, mExt, mCount, dFnV, dSortSet, sUnl]
          refine cut_t (fun b M' => DeckAt dk c M' (n + 1 + j * 15 + 8) ∧ Fr3 dk c pl M M' ∧ Pool pl (4 - 2 * (j + 1)) M' ∧ (b = true → pw ≠ "exists" ∧ ∃ (w : Str) (a b : T), wh = .tup [.str w, a, b] ∧ (w = "less" ∨ w = "most" ∨ w = "same"))) (fun K k => ?_) fun b2 M6 ⟨D6, F6, P6, hb2⟩ => ?_
          · simp only [EV, dC]
            refine draw_fr D5 (by omega) (by decide) (by decide) fun M6 r6 D6 F6 a6 b6 => ?_
            have post : ∀ b : Bool, (b = true → pw ≠ "exists" ∧ ∃ (w : Str) (a b : T), wh = .tup [.str w, a, b] ∧ (w = "less" ∨ w = "most" ∨ w = "same")) → K b M6 := fun b h => k b M6 ⟨D6, F5.trans (Fr3.of2 F6), P5.fr F6 p1 p2, h⟩
            simp only [EV, dC]
            cases hr : decide (r6 = 0) with
            | false =>
              simp only [EV, dC]
              exact post false fun z => by cases z
            | true =>
              simp only [EV, dC]
              cases hx : decide (pw = "exists") with
              | true =>
                simp only [EV, dC]
                exact post false fun z => by cases z
              | false =>
                have hx' := of_decide_eq_false hx
                obtain ⟨m0, hw0⟩ : ∃ m, LP m wh := ⟨_, hw⟩
                cases hw0 with
                | col _ _ => simp only [wi_column_0, wi_column_1, wi_column_2, wi_column_3, wi_column_4, wi_column_5, wi_column_6, wi_column_7, we_column_exists, we_column_not, we_column_and, we_column_or, wi_value_0, wi_value_1, wi_value_2, wi_value_3, wi_value_4, wi_value_5, wi_value_6, wi_value_7, we_value_exists, we_value_not, we_value_and, we_value_or, wi_plus_0, wi_plus_1, wi_plus_2, wi_plus_3, wi_plus_4, wi_plus_5, wi_plus_6, wi_plus_7, we_plus_exists, we_plus_not, we_plus_and, we_plus_or, wi_is_0, wi_is_1, wi_is_2, wi_is_3, wi_is_4, wi_is_5, wi_is_6, wi_is_7, we_is_exists, we_is_not, we_is_and, we_is_or, wi_not_0, wi_not_1, wi_not_2, wi_not_3, wi_not_4, wi_not_5, wi_not_6, wi_not_7, we_not_exists, we_not_not, we_not_and, we_not_or, wi_less_0, wi_less_1, wi_less_2, wi_less_3, wi_less_4, wi_less_5, wi_less_6, wi_less_7, we_less_exists, we_less_not, we_less_and, we_less_or, wi_most_0, wi_most_1, wi_most_2, wi_most_3, wi_most_4, wi_most_5, wi_most_6, wi_most_7, we_most_exists, we_most_not, we_most_and, we_most_or, wi_same_0, wi_same_1, wi_same_2, wi_same_3, wi_same_4, wi_same_5, wi_same_6, wi_same_7, we_same_exists, we_same_not, we_same_and, we_same_or, wi_and_0, wi_and_1, wi_and_2, wi_and_3, wi_and_4, wi_and_5, wi_and_6, wi_and_7, we_and_exists, we_and_not, we_and_and, we_and_or, wi_or_0, wi_or_1, wi_or_2, wi_or_3, wi_or_4, wi_or_5, wi_or_6, wi_or_7, we_or_exists, we_or_not, we_or_and, we_or_or, wi_exists_0, wi_exists_1, wi_exists_2, wi_exists_3, wi_exists_4, wi_exists_5, wi_exists_6, wi_exists_7, we_exists_exists, we_exists_not, we_exists_and, we_exists_or, wi_only_0, wi_only_1, wi_only_2, wi_only_3, wi_only_4, wi_only_5, wi_only_6, wi_only_7, we_only_exists, we_only_not, we_only_and, we_only_or, wi_first_0, wi_first_1, wi_first_2, wi_first_3, wi_first_4, wi_first_5, wi_first_6, wi_first_7, we_first_exists, we_first_not, we_first_and, we_first_or, sSeq, sPar, sPut, sIf, sSet, sDrop, sRet, sRetN, sNext, dOp2, dOp1, dVar, dC, dB, dTup, dLst, dLstM, dNil, dCons, dSl, doNone, doSome, dCall, dLm, dLm0, dSm, dAnd, dOr, dNot, dAndV, dOrV, dIf, dChain, dFn, dFn0, dYes, dDisp, dDispM, dPairs, keysT, dNewD, dNewDM,
 oAdd, oSub, oMul, oFdiv, oMod, oPow, oInt2, oNeg, oIx, oSl, oRev, oRevM, oLt, oLe, oGt, oGe, oOrd, oIsN, L3.isNon, oNotB, oDGet, oDIn, oIn, oInS, mAppend, mPop, mJoin, isL, isS, fLen, fIsi, fAbs, fList, fListM, fTuple, fInt, fRepr, fBls, seqOf, tyT,
 look, keyT, Pat.set, start3, pick, List.getElem?_cons_zero, List.getElem?_cons_succ, List.set_cons_zero, List.set_cons_succ, List.map_cons, List.map_nil, List.length_cons, List.length_nil, List.nil_append, List.cons_append, List.replicate_succ, List.replicate_zero, Nat.reduceSub, Nat.reduceAdd, flatOf, kit_NoneType_str, kit_bool_str, kit_int_str, kit_str_str, kit_tuple_str, kit_list_str, kit_dict_str, kit_NoneType_int, kit_bool_int, kit_int_int, kit_str_int, kit_tuple_int, kit_list_int, kit_dict_int, kit_NoneType_bool, kit_bool_bool, kit_int_bool, kit_str_bool, kit_tuple_bool, kit_list_bool, kit_dict_bool, kit_NoneType_tuple, kit_bool_tuple, kit_int_tuple, kit_str_tuple, kit_tuple_tuple, kit_list_tuple, kit_dict_tuple, kit_NoneType_list, kit_bool_list, kit_int_list, kit_str_list, kit_tuple_list, kit_list_list, kit_dict_list, kit_NoneType_dict, kit_bool_dict, kit_int_dict, kit_str_dict, kit_tuple_dict, kit_list_dict, kit_dict_dict, Bool.false_eq_true, if_false, if_true, reduceIte, true_and, sz_0, sz_1, sz_2, sz_3, sz_4, sz_5, sz_6, sz_7, sz_8, sz_9, sz_10, sz_11, sz_12, sz_13, sz_14, sz_15, sz_16, sz_17, sz_18, sz_19, sz_20, sz_21, sz_22, sz_23, sz_24, sz_25, sz_26, sz_27, sz_28, sz_29, sz_30, sz_31, sz_32, sz_33, sz_34, sz_35, sz_36, sz_37, sz_38, sz_39, sz_40, sz_41, sz_42, sz_43, sz_44, sz_45, sz_46, sz_47, atI_c0, atI_c1, atI_c2, atI_c3, atI_c4, List.append_nil, List.filterMap_cons, List.filterMap_nil, and_self, dStar, mSplit, fSortS, fSortT, L3.setAll, mExtend, dKGet, dB, oIn, seqOf, eqb_ss, eqb_ii, eqb_bb, eqb_nn, eqb_ni, eqb_in, eqb_ns, eqb_sn, eqb_is, eqb_si, Bool.not_true, Bool.not_false, flatT, List.all_cons, List.all_nil, Bool.and_self, mExt, mCount, dFnV, dSortSet, sUnl]; exact post _ fun z => by cases z
                | val _ => simp only [wi_column_0, wi_column_1, wi_column_2, wi_column_3, wi_column_4, wi_column_5, wi_column_6, wi_column_7, we_column_exists, we_column_not, we_column_and, we_column_or, wi_value_0, wi_value_1, wi_value_2, wi_value_3, wi_value_4, wi_value_5, wi_value_6, wi_value_7, we_value_exists, we_value_not, we_value_and, we_value_or, wi_plus_0, wi_plus_1, wi_plus_2, wi_plus_3, wi_plus_4, wi_plus_5, wi_plus_6, wi_plus_7, we_plus_exists, we_plus_not, we_plus_and, we_plus_or, wi_is_0, wi_is_1, wi_is_2, wi_is_3, wi_is_4, wi_is_5, wi_is_6, wi_is_7, we_is_exists, we_is_not, we_is_and, we_is_or, wi_not_0, wi_not_1, wi_not_2, wi_not_3, wi_not_4, wi_not_5, wi_not_6, wi_not_7, we_not_exists, we_not_not, we_not_and, we_not_or, wi_less_0, wi_less_1, wi_less_2, wi_less_3, wi_less_4, wi_less_5, wi_less_6, wi_less_7, we_less_exists, we_less_not, we_less_and, we_less_or, wi_most_0, wi_most_1, wi_most_2, wi_most_3, wi_most_4, wi_most_5, wi_most_6, wi_most_7, we_most_exists, we_most_not, we_most_and, we_most_or, wi_same_0, wi_same_1, wi_same_2, wi_same_3, wi_same_4, wi_same_5, wi_same_6, wi_same_7, we_same_exists, we_same_not, we_same_and, we_same_or, wi_and_0, wi_and_1, wi_and_2, wi_and_3, wi_and_4, wi_and_5, wi_and_6, wi_and_7, we_and_exists, we_and_not, we_and_and, we_and_or, wi_or_0, wi_or_1, wi_or_2, wi_or_3, wi_or_4, wi_or_5, wi_or_6, wi_or_7, we_or_exists, we_or_not, we_or_and, we_or_or, wi_exists_0, wi_exists_1, wi_exists_2, wi_exists_3, wi_exists_4, wi_exists_5, wi_exists_6, wi_exists_7, we_exists_exists, we_exists_not, we_exists_and, we_exists_or, wi_only_0, wi_only_1, wi_only_2, wi_only_3, wi_only_4, wi_only_5, wi_only_6, wi_only_7, we_only_exists, we_only_not, we_only_and, we_only_or, wi_first_0, wi_first_1, wi_first_2, wi_first_3, wi_first_4, wi_first_5, wi_first_6, wi_first_7, we_first_exists, we_first_not, we_first_and, we_first_or, sSeq, sPar, sPut, sIf, sSet, sDrop, sRet, sRetN, sNext, dOp2, dOp1, dVar, dC, dB, dTup, dLst, dLstM, dNil, dCons, dSl, doNone, doSome, dCall, dLm, dLm0, dSm, dAnd, dOr, dNot, dAndV, dOrV, dIf, dChain, dFn, dFn0, dYes, dDisp, dDispM, dPairs, keysT, dNewD, dNewDM,
 oAdd, oSub, oMul, oFdiv, oMod, oPow, oInt2, oNeg, oIx, oSl, oRev, oRevM, oLt, oLe, oGt, oGe, oOrd, oIsN, L3.isNon, oNotB, oDGet, oDIn, oIn, oInS, mAppend, mPop, mJoin, isL, isS, fLen, fIsi, fAbs, fList, fListM, fTuple, fInt, fRepr, fBls, seqOf, tyT,
 look, keyT, Pat.set, start3, pick, List.getElem?_cons_zero, List.getElem?_cons_succ, List.set_cons_zero, List.set_cons_succ, List.map_cons, List.map_nil, List.length_cons, List.length_nil, List.nil_append, List.cons_append, List.replicate_succ, List.replicate_zero, Nat.reduceSub, Nat.reduceAdd, flatOf, kit_NoneType_str, kit_bool_str, kit_int_str, kit_str_str, kit_tuple_str, kit_list_str, kit_dict_str, kit_NoneType_int, kit_bool_int, kit_int_int, kit_str_int, kit_tuple_int, kit_list_int, kit_dict_int, kit_NoneType_bool, kit_bool_bool, kit_int_bool, kit_str_bool, kit_tuple_bool, kit_list_bool, kit_dict_bool, kit_NoneType_tuple, kit_bool_tuple, kit_int_tuple, kit_str_tuple, kit_tuple_tuple, kit_list_tuple, kit_dict_tuple, kit_NoneType_list, kit_bool_list, kit_int_list, kit_str_list, kit_tuple_list, kit_list_list, kit_dict_list, kit_NoneType_dict, kit_bool_dict, kit_int_dict, kit_str_dict, kit_tuple_dict, kit_list_dict, kit_dict_dict, Bool.false_eq_true, if_false, if_true, reduceIte, true_and, sz_0, sz_1, sz_2, sz_3, sz_4, sz_5, sz_6, sz_7, sz_8, sz_9, sz_10, sz_11, sz_12, sz_13, sz_14, sz_15, sz_16, sz_17, sz_18, sz_19, sz_20, sz_21, sz_22, sz_23, sz_24, sz_25, sz_26, sz_27, sz_28, sz_29, sz_30, sz_31, sz_32, sz_33, sz_34, sz_35, sz_36, sz_37, sz_38, sz_39, sz_40, sz_41, sz_42, sz_43, sz_44, sz_45, sz_46, sz_47, atI_c0, atI_c1, atI_c2, atI_c3, atI_c4, List.append_nil, List.filterMap_cons, List.filterMap_nil, and_self, dStar, mSplit, fSortS, fSortT, L3.setAll, mExtend, dKGet, dB, oIn, seqOf, eqb_ss, eqb_ii, eqb_bb, eqb_nn, eqb_ni, eqb_in, eqb_ns, eqb_sn, eqb_is, eqb_si, Bool.not_true, Bool.not_false, flatT, List.all_cons, List.all_nil, Bool.and_self, mExt, mCount, dFnV, dSortSet, sUnl]; exact post _ fun z => by cases z
                | plus hq _ _ => rcases hq with rfl | rfl <;> simp only [wi_column_0, wi_column_1, wi_column_2, wi_column_3, wi_column_4, wi_column_5, wi_column_6, wi_column_7, we_column_exists, we_column_not, we_column_and, we_column_or, wi_value_0, wi_value_1, wi_value_2, wi_value_3, wi_value_4, wi_value_5, wi_value_6, wi_value_7, we_value_exists, we_value_not, we_value_and, we_value_or, wi_plus_0, wi_plus_1, wi_plus_2, wi_plus_3, wi_plus_4, wi_plus_5, wi_plus_6, wi_plus_7, we_plus_exists, we_plus_not, we_plus_and, we_plus_or, wi_is_0, wi_is_1, wi_is_2, wi_is_3, wi_is_4, wi_is_5, wi_is_6, wi_is_7, we_is_exists, we_is_not, we_is_and, we_is_or, wi_not_0, wi_not_1, wi_not_2, wi_not_3, wi_not_4, wi_not_5, wi_not_6, wi_not_7, we_not_exists, we_not_not, we_not_and, we_not_or, wi_less_0, wi_less_1, wi_less_2, wi_less_3, wi_less_4, wi_less_5, wi_less_6, wi_less_7, we_less_exists, we_less_not, we_less_and, we_less_or, wi_most_0, wi_most_1, wi_most_2, wi_most_3, wi_most_4, wi_most_5, wi_most_6, wi_most_7, we_most_exists, we_most_not, we_most_and, we_most_or, wi_same_0, wi_same_1, wi_same_2, wi_same_3, wi_same_4, wi_same_5, wi_same_6, wi_same_7, we_same_exists, we_same_not, we_same_and, we_same_or, wi_and_0, wi_and_1, wi_and_2, wi_and_3, wi_and_4, wi_and_5, wi_and_6, wi_and_7, we_and_exists, we_and_not, we_and_and, we_and_or, wi_or_0, wi_or_1, wi_or_2, wi_or_3, wi_or_4, wi_or_5, wi_or_6, wi_or_7, we_or_exists, we_or_not, we_or_and, we_or_or, wi_exists_0, wi_exists_1, wi_exists_2, wi_exists_3, wi_exists_4, wi_exists_5, wi_exists_6, wi_exists_7, we_exists_exists, we_exists_not, we_exists_and, we_exists_or, wi_only_0, wi_only_1, wi_only_2, wi_only_3, wi_only_4, wi_only_5, wi_only_6, wi_only_7, we_only_exists, we_only_not, we_only_and, we_only_or, wi_first_0, wi_first_1, wi_first_2, wi_first_3, wi_first_4, wi_first_5, wi_first_6, wi_first_7, we_first_exists, we_first_not, we_first_and, we_first_or, sSeq, sPar, sPut, sIf, sSet, sDrop, sRet, sRetN, sNext, dOp2, dOp1, dVar, dC, dB, dTup, dLst, dLstM, dNil, dCons, dSl, doNone, doSome, dCall, dLm, dLm0, dSm, dAnd, dOr, dNot, dAndV, dOrV, dIf, dChain, dFn, dFn0, dYes, dDisp, dDispM, dPairs, keysT, dNewD, dNewDM,
 oAdd, oSub, oMul, oFdiv, oMod, oPow, oInt2, oNeg, oIx, oSl, oRev, oRevM, oLt, oLe, oGt, oGe, oOrd, oIsN, L3.isNon, oNotB, oDGet, oDIn, oIn, oInS, mAppend, mPop, mJoin, isL, isS, fLen, fIsi, fAbs, fList, fListM, fTuple, fInt, fRepr, fBls, seqOf, tyT,
 look, keyT, Pat.set, start3, pick, List.getElem?_cons_zero, List.getElem?_cons_succ, List.set_cons_zero, List.set_cons_succ, List.map_cons, List.map_nil, List.length_cons, List.length_nil, List.nil_append, List.cons_append, List.replicate_succ, List.replicate_zero, Nat.reduceSub, Nat.reduceAdd, flatOf, kit_NoneType_str, kit_bool_str, kit_int_str, kit_str_str, kit_tuple_str, kit_list_str, kit_dict_str, kit_NoneType_int, kit_bool_int, kit_int_int, kit_str_int, kit_tuple_int, kit_list_int, kit_dict_int, kit_NoneType_bool, kit_bool_bool, kit_int_bool, kit_str_bool, kit_tuple_bool, kit_list_bool, kit_dict_bool, kit_NoneType_tuple, kit_bool_tuple, kit_int_tuple, kit_str_tuple, kit_tuple_tuple, kit_list_tuple, kit_dict_tuple, kit_NoneType_list, kit_bool_list, kit_int_list, kit_str_list, kit_tuple_list, kit_list_list, kit_dict_list, kit_NoneType_dict, kit_bool_dict, kit_int_dict, kit_str_dict, kit_tuple_dict, kit_list_dict, kit_dict_dict, Bool.false_eq_true, if_false, if_true, reduceIte, true_and, sz_0, sz_1, sz_2, sz_3, sz_4, sz_5, sz_6, sz_7, sz_8, sz_9, sz_10, sz_11, sz_12, sz_13, sz_14, sz_15, sz_16, sz_17, sz_18, sz_19, sz_20, sz_21, sz_22, sz_23, sz_24, sz_25, sz_26, sz_27, sz_28, sz_29, sz_30, sz_31, sz_32, sz_33, sz_34, sz_35, sz_36, sz_37, sz_38, sz_39, sz_40, sz_41, sz_42, sz_43, sz_44, sz_45, sz_46, sz_47, atI_c0, atI_c1, atI_c2, atI_c3, atI_c4, List.append_nil, List.filterMap_cons, List.filterMap_nil, and_self, dStar, mSplit, fSortS, fSortT, L3.setAll, mExtend, dKGet, dB, oIn, seqOf, eqb_ss, eqb_ii, eqb_bb, eqb_nn, eqb_ni, eqb_in, eqb_ns, eqb_sn, eqb_is, eqb_si, Bool.not_true, Bool.not_false, flatT, List.all_cons, List.all_nil, Bool.and_self, mExt, mCount, dFnV, dSortSet, sUnl] <;> exact post _ fun z => by cases z
                | not _ => simp only [wi_column_0, wi_column_1, wi_column_2, wi_column_3, wi_column_4, wi_column_5, wi_column_6, wi_column_7, we_column_exists, we_column_not, we_column_and, we_column_or, wi_value_0, wi_value_1, wi_value_2, wi_value_3, wi_value_4, wi_value_5, wi_value_6, wi_value_7, we_value_exists, we_value_not, we_value_and, we_value_or, wi_plus_0, wi_plus_1, wi_plus_2, wi_plus_3, wi_plus_4, wi_plus_5, wi_plus_6, wi_plus_7, we_plus_exists, we_plus_not, we_plus_and, we_plus_or, wi_is_0, wi_is_1, wi_is_2, wi_is_3, wi_is_4, wi_is_5, wi_is_6, wi_is_7, we_is_exists, we_is_not, we_is_and, we_is_or, wi_not_0, wi_not_1, wi_not_2, wi_not_3, wi_not_4, wi_not_5, wi_not_6, wi_not_7, we_not_exists, we_not_not, we_not_and, we_not_or, wi_less_0, wi_less_1, wi_less_2, wi_less_3, wi_less_4, wi_less_5, wi_less_6, wi_less_7, we_less_exists, we_less_not, we_less_and, we_less_or, wi_most_0, wi_most_1, wi_most_2, wi_most_3, wi_most_4, wi_most_5, wi_most_6, wi_most_7, we_most_exists, we_most_not, we_most_and, we_most_or, wi_same_0, wi_same_1, wi_same_2, wi_same_3, wi_same_4, wi_same_5, wi_same_6, wi_same_7, we_same_exists, we_same_not, we_same_and, we_same_or, wi_and_0, wi_and_1, wi_and_2, wi_and_3, wi_and_4, wi_and_5, wi_and_6, wi_and_7, we_and_exists, we_and_not, we_and_and, we_and_or, wi_or_0, wi_or_1, wi_or_2, wi_or_3, wi_or_4, wi_or_5, wi_or_6, wi_or_7, we_or_exists, we_or_not, we_or_and, we_or_or, wi_exists_0, wi_exists_1, wi_exists_2, wi_exists_3, wi_exists_4, wi_exists_5, wi_exists_6, wi_exists_7, we_exists_exists, we_exists_not, we_exists_and, we_exists_or, wi_only_0, wi_only_1, wi_only_2, wi_only_3, wi_only_4, wi_only_5, wi_only_6, wi_only_7, we_only_exists, we_only_not, we_only_and, we_only_or, wi_first_0, wi_first_1, wi_first_2, wi_first_3, wi_first_4, wi_first_5, wi_first_6, wi_first_7, we_first_exists, we_first_not, we_first_and, we_first_or, sSeq, sPar, sPut, sIf, sSet, sDrop, sRet, sRetN, sNext, dOp2, dOp1, dVar, dC, dB, dTup, dLst, dLstM, dNil, dCons, dSl, doNone, doSome, dCall, dLm, dLm0, dSm, dAnd, dOr, dNot, dAndV, dOrV, dIf, dChain, dFn, dFn0, dYes, dDisp, dDispM, dPairs, keysT, dNewD, dNewDM,
 oAdd, oSub, oMul, oFdiv, oMod, oPow, oInt2, oNeg, oIx, oSl, oRev, oRevM, oLt, oLe, oGt, oGe, oOrd, oIsN, L3.isNon, oNotB, oDGet, oDIn, oIn, oInS, mAppend, mPop, mJoin, isL, isS, fLen, fIsi, fAbs, fList, fListM, fTuple, fInt, fRepr, fBls, seqOf, tyT,
 look, keyT, Pat.set, start3, pick, List.getElem?_cons_zero, List.getElem?_cons_succ, List.set_cons_zero, List.set_cons_succ, List.map_cons, List.map_nil, List.length_cons, List.length_nil, List.nil_append, List.cons_append, List.replicate_succ, List.replicate_zero, Nat.reduceSub, Nat.reduceAdd, flatOf, kit_NoneType_str, kit_bool_str, kit_int_str, kit_str_str, kit_tuple_str, kit_list_str, kit_dict_str, kit_NoneType_int, kit_bool_int, kit_int_int, kit_str_int, kit_tuple_int, kit_list_int, kit_dict_int, kit_NoneType_bool, kit_bool_bool, kit_int_bool, kit_str_bool, kit_tuple_bool, kit_list_bool, kit_dict_bool, kit_NoneType_tuple, kit_bool_tuple, kit_int_tuple, kit_str_tuple, kit_tuple_tuple, kit_list_tuple, kit_dict_tuple, kit_NoneType_list, kit_bool_list, kit_int_list, kit_str_list, kit_tuple_list, kit_list_list, kit_dict_list, kit_NoneType_dict, kit_bool_dict, kit_int_dict, kit_str_dict, kit_tuple_dict, kit_list_dict, kit_dict_dict, Bool.false_eq_true, if_false, if_true, reduceIte, true_and, sz_0, sz_1, sz_2, sz_3, sz_4, sz_5, sz_6, sz_7, sz_8, sz_9, sz_10, sz_11, sz_12, sz_13, sz_14, sz_15, sz_16, sz_17, sz_18, sz_19, sz_20, sz_21, sz_22, sz_23, sz_24, sz_25, sz_26, sz_27, sz_28, sz_29, sz_30, sz_31, sz_32, sz_33, sz_34, sz_35, sz_36, sz_37, sz_38, sz_39, sz_40, sz_41, sz_42, sz_43, sz_44, sz_45, sz_46, sz_47, atI_c0, atI_c1, atI_c2, atI_c3, atI_c4, List.append_nil, List.filterMap_cons, List.filterMap_nil, and_self, dStar, mSplit, fSortS, fSortT, L3.setAll, mExtend, dKGet, dB, oIn, seqOf, eqb_ss, eqb_ii, eqb_bb, eqb_nn, eqb_ni, eqb_in, eqb_ns, eqb_sn, eqb_is, eqb_si, Bool.not_true, Bool.not_false, flatT, List.all_cons, List.all_nil, Bool.and_self, mExt, mCount, dFnV, dSortSet, sUnl]; exact post _ fun z => by cases z
                | «exists» _ _ _ => simp only [wi_column_0, wi_column_1, wi_column_2, wi_column_3, wi_column_4, wi_column_5, wi_column_6, wi_column_7, we_column_exists, we_column_not, we_column_and, we_column_or, wi_value_0, wi_value_1, wi_value_2, wi_value_3, wi_value_4, wi_value_5, wi_value_6, wi_value_7, we_value_exists, we_value_not, we_value_and, we_value_or, wi_plus_0, wi_plus_1, wi_plus_2, wi_plus_3, wi_plus_4, wi_plus_5, wi_plus_6, wi_plus_7, we_plus_exists, we_plus_not, we_plus_and, we_plus_or, wi_is_0, wi_is_1, wi_is_2, wi_is_3, wi_is_4, wi_is_5, wi_is_6, wi_is_7, we_is_exists, we_is_not, we_is_and, we_is_or, wi_not_0, wi_not_1, wi_not_2, wi_not_3, wi_not_4, wi_not_5, wi_not_6, wi_not_7, we_not_exists, we_not_not, we_not_and, we_not_or, wi_less_0, wi_less_1, wi_less_2, wi_less_3, wi_less_4, wi_less_5, wi_less_6, wi_less_7, we_less_exists, we_less_not, we_less_and, we_less_or, wi_most_0, wi_most_1, wi_most_2, wi_most_3, wi_most_4, wi_most_5, wi_most_6, wi_most_7, we_most_exists, we_most_not, we_most_and, we_most_or, wi_same_0, wi_same_1, wi_same_2, wi_same_3, wi_same_4, wi_same_5, wi_same_6, wi_same_7, we_same_exists, we_same_not, we_same_and, we_same_or, wi_and_0, wi_and_1, wi_and_2, wi_and_3, wi_and_4, wi_and_5, wi_and_6, wi_and_7, we_and_exists, we_and_not, we_and_and, we_and_or, wi_or_0, wi_or_1, wi_or_2, wi_or_3, wi_or_4, wi_or_5, wi_or_6, wi_or_7, we_or_exists, we_or_not, we_or_and, we_or_or, wi_exists_0, wi_exists_1, wi_exists_2, wi_exists_3, wi_exists_4, wi_exists_5, wi_exists_6, wi_exists_7, we_exists_exists, we_exists_not, we_exists_and, we_exists_or, wi_only_0, wi_only_1, wi_only_2, wi_only_3, wi_only_4, wi_only_5, wi_only_6, wi_only_7, we_only_exists, we_only_not, we_only_and, we_only_or, wi_first_0, wi_first_1, wi_first_2, wi_first_3, wi_first_4, wi_first_5, wi_first_6, wi_first_7, we_first_exists, we_first_not, we_first_and, we_first_or, sSeq, sPar, sPut, sIf, sSet, sDrop, sRet, sRetN, sNext, dOp2, dOp1, dVar, dC, dB, dTup, dLst, dLstM, dNil, dCons, dSl, doNone, doSome, dCall, dLm, dLm0, dSm, dAnd, dOr, dNot, dAndV, dOrV, dIf, dChain, dFn, dFn0, dYes, dDisp, dDispM, dPairs, keysT, dNewD, dNewDM,
 oAdd, oSub, oMul, oFdiv, oMod, oPow, oInt2, oNeg, oIx, oSl, oRev, oRevM, oLt, oLe, oGt, oGe, oOrd, oIsN, L3.isNon, oNotB, oDGet, oDIn, oIn, oInS, mAppend, mPop, mJoin, isL, isS, fLen, fIsi, fAbs, fList, fListM, fTuple, fInt, fRepr, fBls, seqOf, tyT,
 look, keyT, Pat.set, start3, pick, List.getElem?_cons_zero, List.getElem?_cons_succ, List.set_cons_zero, List.set_cons_succ, List.map_cons, List.map_nil, List.length_cons, List.length_nil, List.nil_append, List.cons_append, List.replicate_succ, List.replicate_zero, Nat.reduceSub, Nat.reduceAdd, flatOf, kit_NoneType_str, kit_bool_str, kit_int_str, kit_str_str, kit_tuple_str, kit_list_str, kit_dict_str, kit_NoneType_int, kit_bool_int, kit_int_int, kit_str_int, kit_tuple_int, kit_list_int, kit_dict_int, kit_NoneType_bool, kit_bool_bool, kit_int_bool, kit_str_bool, kit_tuple_bool, kit_list_bool, kit_dict_bool, kit_NoneType_tuple, kit_bool_tuple, kit_int_tuple, kit_str_tuple, kit_tuple_tuple, kit_list_tuple, kit_dict_tuple, kit_NoneType_list, kit_bool_list, kit_int_list, kit_str_list, kit_tuple_list, kit_list_list, kit_dict_list, kit_NoneType_dict, kit_bool_dict, kit_int_dict, kit_str_dict, kit_tuple_dict, kit_list_dict, kit_dict_dict, Bool.false_eq_true, if_false, if_true, reduceIte, true_and, sz_0, sz_1, sz_2, sz_3, sz_4, sz_5, sz_6, sz_7, sz_8, sz_9, sz_10, sz_11, sz_12, sz_13, sz_14, sz_15, sz_16, sz_17, sz_18, sz_19, sz_20, sz_21, sz_22, sz_23, sz_24, sz_25, sz_26, sz_27, sz_28, sz_29, sz_30, sz_31, sz_32, sz_33, sz_34, sz_35, sz_36, sz_37, sz_38, sz_39, sz_40, sz_41, sz_42, sz_43, sz_44, sz_45, sz_46, sz_47, atI_c0, atI_c1, atI_c2, atI_c3, atI_c4, List.append_nil, List.filterMap_cons, List.filterMap_nil, and_self, dStar, mSplit, fSortS, fSortT, L3.setAll, mExtend, dKGet, dB, oIn, seqOf, eqb_ss, eqb_ii, eqb_bb, eqb_nn, eqb_ni, eqb_in, eqb_ns, eqb_sn, eqb_is, eqb_si, Bool.not_true, Bool.not_false, flatT, List.all_cons, List.all_nil, Bool.and_self, mExt, mCount, dFnV, dSortSet, sUnl]; exact post _ fun z => by cases z
                | only hq _ _ _ _ _ => rcases hq with rfl | rfl <;> simp only [wi_column_0, wi_column_1, wi_column_2, wi_column_3, wi_column_4, wi_column_5, wi_column_6, wi_column_7, we_column_exists, we_column_not, we_column_and, we_column_or, wi_value_0, wi_value_1, wi_value_2, wi_value_3, wi_value_4, wi_value_5, wi_value_6, wi_value_7, we_value_exists, we_value_not, we_value_and, we_value_or, wi_plus_0, wi_plus_1, wi_plus_2, wi_plus_3, wi_plus_4, wi_plus_5, wi_plus_6, wi_plus_7, we_plus_exists, we_plus_not, we_plus_and, we_plus_or, wi_is_0, wi_is_1, wi_is_2, wi_is_3, wi_is_4, wi_is_5, wi_is_6, wi_is_7, we_is_exists, we_is_not, we_is_and, we_is_or, wi_not_0, wi_not_1, wi_not_2, wi_not_3, wi_not_4, wi_not_5, wi_not_6, wi_not_7, we_not_exists, we_not_not, we_not_and, we_not_or, wi_less_0, wi_less_1, wi_less_2, wi_less_3, wi_less_4, wi_less_5, wi_less_6, wi_less_7, we_less_exists, we_less_not, we_less_and, we_less_or, wi_most_0, wi_most_1, wi_most_2, wi_most_3, wi_most_4, wi_most_5, wi_most_6, wi_most_7, we_most_exists, we_most_not, we_most_and, we_most_or, wi_same_0, wi_same_1, wi_same_2, wi_same_3, wi_same_4, wi_same_5, wi_same_6, wi_same_7, we_same_exists, we_same_not, we_same_and, we_same_or, wi_and_0, wi_and_1, wi_and_2, wi_and_3, wi_and_4, wi_and_5, wi_and_6, wi_and_7, we_and_exists, we_and_not, we_and_and, we_and_or, wi_or_0, wi_or_1, wi_or_2, wi_or_3, wi_or_4, wi_or_5, wi_or_6, wi_or_7, we_or_exists, we_or_not, we_or_and, we_or_or, wi_exists_0, wi_exists_1, wi_exists_2, wi_exists_3, wi_exists_4, wi_exists_5, wi_exists_6, wi_exists_7, we_exists_exists, we_exists_not, we_exists_and, we_exists_or, wi_only_0, wi_only_1, wi_only_2, wi_only_3, wi_only_4, wi_only_5, wi_only_6, wi_only_7, we_only_exists, we_only_not, we_only_and, we_only_or, wi_first_0, wi_first_1, wi_first_2, wi_first_3, wi_first_4, wi_first_5, wi_first_6, wi_first_7, we_first_exists, we_first_not, we_first_and, we_first_or, sSeq, sPar, sPut, sIf, sSet, sDrop, sRet, sRetN, sNext, dOp2, dOp1, dVar, dC, dB, dTup, dLst, dLstM, dNil, dCons, dSl, doNone, doSome, dCall, dLm, dLm0, dSm, dAnd, dOr, dNot, dAndV, dOrV, dIf, dChain, dFn, dFn0, dYes, dDisp, dDispM, dPairs, keysT, dNewD, dNewDM,
 oAdd, oSub, oMul, oFdiv, oMod, oPow, oInt2, oNeg, oIx, oSl, oRev, oRevM, oLt, oLe, oGt, oGe, oOrd, oIsN, L3.isNon, oNotB, oDGet, oDIn, oIn, oInS, mAppend, mPop, mJoin, isL, isS, fLen, fIsi, fAbs, fList, fListM, fTuple, fInt, fRepr, fBls, seqOf, tyT,
 look, keyT, Pat.set, start3, pick, List.getElem?_cons_zero, List.getElem?_cons_succ, List.set_cons_zero, List.set_cons_succ, List.map_cons, List.map_nil, List.length_cons, List.length_nil, List.nil_append, List.cons_append, List.replicate_succ, List.replicate_zero, Nat.reduceSub, Nat.reduceAdd, flatOf, kit_NoneType_str, kit_bool_str, kit_int_str, kit_str_str, kit_tuple_str, kit_list_str, kit_dict_str, kit_NoneType_int, kit_bool_int, kit_int_int, kit_str_int, kit_tuple_int, kit_list_int, kit_dict_int, kit_NoneType_bool, kit_bool_bool, kit_int_bool, kit_str_bool, kit_tuple_bool, kit_list_bool, kit_dict_bool, kit_NoneType_tuple, kit_bool_tuple, kit_int_tuple, kit_str_tuple, kit_tuple_tuple, kit_list_tuple, kit_dict_tuple, kit_NoneType_list, kit_bool_list, kit_int_list, kit_str_list, kit_tuple_list, kit_list_list, kit_dict_list, kit_NoneType_dict, kit_bool_dict, kit_int_dict, kit_str_dict, kit_tuple_dict, kit_list_dict, kit_dict_dict, Bool.false_eq_true, if_false, if_true, reduceIte, true_and, sz_0, sz_1, sz_2, sz_3, sz_4, sz_5, sz_6, sz_7, sz_8, sz_9, sz_10, sz_11, sz_12, sz_13, sz_14, sz_15, sz_16, sz_17, sz_18, sz_19, sz_20, sz_21, sz_22, sz_23, sz_24, sz_25, sz_26, sz_27, sz_28, sz_29, sz_30, sz_31, sz_32, sz_33, sz_34, sz_35, sz_36, sz_37, sz_38, sz_39, sz_40, sz_41, sz_42, sz_43, sz_44, sz_45, sz_46, sz_47, atI_c0, atI_c1, atI_c2, atI_c3, atI_c4, List.append_nil, List.filterMap_cons, List.filterMap_nil, and_self, dStar, mSplit, fSortS, fSortT, L3.setAll, mExtend, dKGet, dB, oIn, seqOf, eqb_ss, eqb_ii, eqb_bb, eqb_nn, eqb_ni, eqb_in, eqb_ns, eqb_sn, eqb_is, eqb_si, Bool.not_true, Bool.not_false, flatT, List.all_cons, List.all_nil, Bool.and_self, mExt, mCount, dFnV, dSortSet, sUnl] <;> exact post _ fun z => by cases z
                | two hq ha hb => rcases hq with rfl | rfl | rfl | rfl | rfl <;> simp only [wi_column_0, wi_column_1, wi_column_2, wi_column_3, wi_column_4, wi_column_5, wi_column_6, wi_column_7, we_column_exists, we_column_not, we_column_and, we_column_or, wi_value_0, wi_value_1, wi_value_2, wi_value_3, wi_value_4, wi_value_5, wi_value_6, wi_value_7, we_value_exists, we_value_not, we_value_and, we_value_or, wi_plus_0, wi_plus_1, wi_plus_2, wi_plus_3, wi_plus_4, wi_plus_5, wi_plus_6, wi_plus_7, we_plus_exists, we_plus_not, we_plus_and, we_plus_or, wi_is_0, wi_is_1, wi_is_2, wi_is_3, wi_is_4, wi_is_5, wi_is_6, wi_is_7, we_is_exists, we_is_not, we_is_and, we_is_or, wi_not_0, wi_not_1, wi_not_2, wi_not_3, wi_not_4, wi_not_5, wi_not_6, wi_not_7, we_not_exists, we_not_not, we_not_and, we_not_or, wi_less_0, wi_less_1, wi_less_2, wi_less_3, wi_less_4, wi_less_5, wi_less_6, wi_less_7, we_less_exists, we_less_not, we_less_and, we_less_or, wi_most_0, wi_most_1, wi_most_2, wi_most_3, wi_most_4, wi_most_5, wi_most_6, wi_most_7, we_most_exists, we_most_not, we_most_and, we_most_or, wi_same_0, wi_same_1, wi_same_2, wi_same_3, wi_same_4, wi_same_5, wi_same_6, wi_same_7, we_same_exists, we_same_not, we_same_and, we_same_or, wi_and_0, wi_and_1, wi_and_2, wi_and_3, wi_and_4, wi_and_5, wi_and_6, wi_and_7, we_and_exists, we_and_not, we_and_and, we_and_or, wi_or_0, wi_or_1, wi_or_2, wi_or_3, wi_or_4, wi_or_5, wi_or_6, wi_or_7, we_or_exists, we_or_not, we_or_and, we_or_or, wi_exists_0, wi_exists_1, wi_exists_2, wi_exists_3, wi_exists_4, wi_exists_5, wi_exists_6, wi_exists_7, we_exists_exists, we_exists_not, we_exists_and, we_exists_or, wi_only_0, wi_only_1, wi_only_2, wi_only_3, wi_only_4, wi_only_5, wi_only_6, wi_only_7, we_only_exists, we_only_not, we_only_and, we_only_or, wi_first_0, wi_first_1, wi_first_2, wi_first_3, wi_first_4, wi_first_5, wi_first_6, wi_first_7, we_first_exists, we_first_not, we_first_and, we_first_or, sSeq, sPar, sPut, sIf, sSet, sDrop, sRet, sRetN, sNext, dOp2, dOp1, dVar, dC, dB, dTup, dLst, dLstM, dNil, dCons, dSl, doNone, doSome, dCall, dLm, dLm0, dSm, dAnd, dOr, dNot, dAndV, dOrV, dIf, dChain, dFn, dFn0, dYes, dDisp, dDispM, dPairs, keysT, dNewD, dNewDM,
 oAdd, oSub, oMul, oFdiv, oMod, oPow, oInt2, oNeg, oIx, oSl, oRev, oRevM, oLt, oLe, oGt, oGe, oOrd, oIsN, L3.isNon, oNotB, oDGet, oDIn, oIn, oInS, mAppend, mPop, mJoin, isL, isS, fLen, fIsi, fAbs, fList, fListM, fTuple, fInt, fRepr, fBls, seqOf, tyT,
 look, keyT, Pat.set, start3, pick, List.getElem?_cons_zero, List.getElem?_cons_succ, List.set_cons_zero, List.set_cons_succ, List.map_cons, List.map_nil, List.length_cons, List.length_nil, List.nil_append, List.cons_append, List.replicate_succ, List.replicate_zero, Nat.reduceSub, Nat.reduceAdd, flatOf, kit_NoneType_str, kit_bool_str, kit_int_str, kit_str_str, kit_tuple_str, kit_list_str, kit_dict_str, kit_NoneType_int, kit_bool_int, kit_int_int, kit_str_int, kit_tuple_int, kit_list_int, kit_dict_int, kit_NoneType_bool, kit_bool_bool, kit_int_bool, kit_str_bool, kit_tuple_bool, kit_list_bool, kit_dict_bool, kit_NoneType_tuple, kit_bool_tuple, kit_int_tuple, kit_str_tuple, kit_tuple_tuple, kit_list_tuple, kit_dict_tuple, kit_NoneType_list, kit_bool_list, kit_int_list, kit_str_list, kit_tuple_list, kit_list_list, kit_dict_list, kit_NoneType_dict, kit_bool_dict, kit_int_dict, kit_str_dict, kit_tuple_dict, kit_list_dict, kit_dict_dict, Bool.false_eq_true, if_false, if_true, reduceIte, true_and, sz_0, sz_1, sz_2, sz_3, sz_4, sz_5, sz_6, sz_7, sz_8, sz_9, sz_10, sz_11, sz_12, sz_13, sz_14, sz_15, sz_16, sz_17, sz_18, sz_19, sz_20, sz_21, sz_22, sz_23, sz_24, sz_25, sz_26, sz_27, sz_28, sz_29, sz_30, sz_31, sz_32, sz_33, sz_34, sz_35, sz_36, sz_37, sz_38, sz_39, sz_40, sz_41, sz_42, sz_43, sz_44, sz_45, sz_46, sz_47, atI_c0, atI_c1, atI_c2, atI_c3, atI_c4, List.append_nil, List.filterMap_cons, List.filterMap_nil, and_self, dStar, mSplit, fSortS, fSortT, L3.setAll, mExtend, dKGet, dB, oIn, seqOf, eqb_ss, eqb_ii, eqb_bb, eqb_nn, eqb_ni, eqb_in, eqb_ns, eqb_sn, eqb_is, eqb_si, Bool.not_true, Bool.not_false, flatT, List.all_cons, List.all_nil, Bool.and_self, mExt, mCount, dFnV, dSortSet, sUnl] <;> exact post _ fun z => ⟨hx', _, _, _, rfl, by first | simp | cases z⟩
          cases b2 with
          | true =>
            obtain ⟨hx, w, a, b, rfl, hww⟩ := hb2 rfl
            obtain ⟨m, em, la, lb⟩ := lp_two hw hww
            have hdab := hd w a b rfl hww
            have hw5 : w = "less" ∨ w = "most" ∨ w = "same" ∨ w = "and" ∨ w = "or" := by rcases hww with h | h | h <;> simp [h]
            have iw : inn 8 (.tup [.str w, a, b]) = inn 8 a ++ inn 8 b := by
              rw [inn_mono hw.part (by omega : 6 + j ≤ 8), em, inn_two hw5 la.part lb.part, inn_mono la.part (by omega : m ≤ 8), inn_mono lb.part (by omega : m ≤ 8)]
            have ecut : cutT [T.str w, a, b] (some 1) none = [a, b] := cut_from 1
            simp only [EV, dC]
            refine cut_k (.lst (bsel (headP a) a ++ bsel (headP b) b)) M6 (fun K k => ?_) ?_
            · refine comp_go ?_
              obtain ⟨aw, aa, ar, rfl⟩ := la.part.head
              obtain ⟨bw, ba, br, rfl⟩ := lb.part.head
              have eA : inT (.str aw) [.str "only", .str "first", .str "plus"] = headP (.tup (.str aw :: aa :: ar)) := rfl
              have eB : inT (.str bw) [.str "only", .str "first", .str "plus"] = headP (.tup (.str bw :: ba :: br)) := rfl
              simp only [EV, iT, ecut, compL, wipe3, finL, eA, eB]
              generalize headP (.tup (.str aw :: aa :: ar)) = A at k ⊢
              generalize headP (.tup (.str bw :: ba :: br)) = B at k ⊢
              cases A <;> cases B <;> first | exact k | exact ⟨sz' (by decide), k⟩ | exact ⟨sz' (by decide), sz' (by decide), k⟩
            have pick : ∃ x : T, atI (bsel (headP a) a ++ bsel (headP b) b) 0 = some x ∧ LP m x ∧ (inn 8 x).length ≤ (inn 8 (.tup [.str w, a, b])).length ∧ ∀ p ∈ inn 8 x, p ∈ inn 8 (.tup [.str w, a, b]) := by
              rw [iw, List.length_append]
              cases hA : headP a with
              | true => exact ⟨a, (atI_c0 : atI (a :: ([] ++ bsel (headP b) b)) 0 = some a), la, by omega, fun p hp => List.mem_append_left _ hp⟩
              | false =>
                have hB : headP b = true := by
                  rcases hdab with h | h
                  · rw [headP_of h] at hA
                    cases hA
                  · exact headP_of h
                rw [hB]
                exact ⟨b, (atI_c0 : atI (b :: []) 0 = some b), lb, by omega, fun p hp => List.mem_append_right _ hp⟩
            obtain ⟨x, ex, lx, xl, xm⟩ := pick
            simp only [EV, ex]
            have ld : LP (m + 2) (.tup [.str w, .tup (.str pw :: pa :: pr), x]) := .two hw5 (hpl.mono (by omega)) (lx.mono (by omega))
            have ie : inn 8 (.tup [.str w, .tup (.str pw :: pa :: pr), x]) = .tup (.str pw :: pa :: pr) :: inn 8 x := by
              rw [inn_mono ld.part (by omega : m + 2 ≤ 8), inn_two hw5 (hpl.mono (by omega)).part (lx.mono (by omega)).part, ← inn_mono (hpl.mono (by omega : 2 ≤ m + 1)).part (by omega : m + 1 ≤ 8), hpi, ← inn_mono (lx.mono (by omega : m ≤ m + 1)).part (by omega : m + 1 ≤ 8)]
              rfl
            have qe : qInn 8 (.tup [.str w, .tup (.str pw :: pa :: pr), x]) hs = hs.flatMap (inn 8) ++ .tup (.str pw :: pa :: pr) :: inn 8 x := by
              rw [qspl, lpno ld, if_neg Bool.false_ne_true, List.flatMap_cons, List.flatMap_nil, List.append_nil, ie]
            refine kk _ _ ⟨D6.le (by omega), F6, P6, _, hs, _, _, _, _, _, rfl, Or.inr ⟨ld.mono (by omega), fun w a b e => by cases e; exact fun _ => Or.inl (hpw hx)⟩, hh, hs0, by omega, ?_, fun p hm => ?_, hhd⟩
            · rw [qe, List.length_append, List.length_cons]
              omega
            · rw [qe] at hm
              rcases List.mem_append.mp hm with hm | hm
              · exact qI p (List.mem_append_left _ hm)
              · rcases List.mem_cons.mp hm with rfl | hm
                · exact hp
                · exact qI p (List.mem_append_right _ (xm p hm))
          | false =>
            simp only [EV, dC]
            refine ⟨dk, c, _, _, (ra, rt) :: rs, tb, rfl, D6, by omega, by simp, rN1, Or.inr hp, fun M7 t7 D7 F7 l7 _ i7 => ?_⟩
            obtain ⟨i7, h7⟩ := i7 hp
            have i8 : inn 8 t7 = [.tup (.str pw :: pa :: pr)] := by rw [inn_mono l7.part (by decide : 6 ≤ 8), i7]
            have ld : LP (6 + j + 1) (.tup [.str "and", wh, t7]) := .two (by simp) hw (l7.mono (by omega))
            have ie : inn 8 (.tup [.str "and", wh, t7]) = inn 8 wh ++ [.tup (.str pw :: pa :: pr)] := by
              rw [inn_mono ld.part (by omega : 6 + j + 1 ≤ 8), inn_two (by simp) hw.part (l7.mono (by omega)).part, inn_mono hw.part (by omega : 6 + j ≤ 8), ← i8, inn_mono (l7.mono (by omega : 6 ≤ 6 + j)).part (by omega : 6 + j ≤ 8)]
            have qe : qInn 8 (.tup [.str "and", wh, t7]) hs = hs.flatMap (inn 8) ++ (inn 8 wh ++ [.tup (.str pw :: pa :: pr)]) := by
              rw [qspl, lpno ld, if_neg Bool.false_ne_true, List.flatMap_cons, List.flatMap_nil, List.append_nil, ie]
            try simp only [EV, dC]
            refine kk _ _ ⟨D7.le (by omega), F6.trans (Fr3.of2 F7), P6.fr F7 p1 p2, _, hs, _, _, _, _, _, rfl, Or.inr ⟨ld, fun w a b e => by cases e; intro z; rcases z with z | z | z <;> exact absurd z (by decide)⟩, hh, hs0, by omega, ?_, fun p hm => ?_, hhd⟩
            · rw [qe, List.length_append, List.length_append]
              simp only [List.length_cons, List.length_nil]
              omega
            · rw [qe] at hm
              rcases List.mem_append.mp hm with hm | hm
              · exact qI p (List.mem_append_left _ hm)
              · rcases List.mem_append.mp hm with hm | hm
                · exact qI p (List.mem_append_right _ hm)
                · rw [List.mem_singleton.mp hm]
                  exact hp
    · rintro ss M3 ⟨D3, F3, P3, wh, hs, x6, x7, x8, x9, x10, rfl, hw, hh, hs0, hs1, ql, qI, hhd⟩
      rw [ups_len] at D3 hw hs1 ql
      simp only [EV, dC]
      have h02 : 0 + r1.toNat ≤ 2 := by omega
      have l8 : ∀ p ∈ wps wh hs, LP 8 p := fun p hm => by
        rcases List.mem_append.mp hm with hm | hm
        · exact (hh p hm).mono (by decide)
        · split at hm
          · cases hm
          · rename_i hno
            rw [List.mem_singleton.mp hm]
            rcases hw with rfl | hw
            · exact absurd rfl hno
            · exact hw.1.mono (by omega)
      have hs3 : hs.length ≤ 3 := by omega
      have q2 : (qInn 8 wh hs).length ≤ 2 := by omega
      have hw8 := hw.imp id fun h => (h.1.mono (by omega : 6 + (0 + r1.toNat) ≤ 8)).part
      obtain ⟨h0, hr', rfl⟩ : ∃ h r, hs = h :: r := by
        cases hs with
        | nil => exact absurd hs0 (Nat.lt_irrefl 0)
        | cons h r => exact ⟨h, r, rfl⟩
      have e1 : cutT (h0 :: hr') none (some 1) = [h0] := cut_to 1
      simp only [EV, e1]
      refine pick_fr D3 (by omega) (by simp [itemsOf]) (by simp [itemsOf]) fun M4 t4 D4 F4 m4 => ?_
      refine pick_fr D4 (by omega) (by simp [itemsOf]) (by simp [itemsOf]) fun M5 t5 D5 F5 m5 => ?_
      have h4 : ∃ os : List T, t4 = .tup os ∧ os.length ≤ 1 ∧ ∀ o ∈ os, Part 0 o := by
        simp only [itemsOf, List.mem_cons, List.not_mem_nil, or_false] at m4
        rcases m4 with rfl | rfl
        · exact ⟨[], rfl, by decide, fun _ h => nomatch h⟩
        · refine ⟨[h0], rfl, Nat.le_refl _, fun o ho => ?_⟩
          rw [List.mem_singleton.mp ho]
          cases hhd
          exact .col hra nc
      have h5 : FlatV t5 := by
        simp only [itemsOf, List.mem_cons, List.not_mem_nil, or_false] at m5
        rcases m5 with rfl | rfl | rfl
        · exact Or.inl rfl
        · exact .int (by decide)
        · exact .int (by decide)
      obtain ⟨os, rfl, os1, osP⟩ := h4
      exact q M5 ⟨(ra, rt) :: rs, wh, h0 :: hr', .tup os, t5⟩ (D5.le (by omega)) ((F3.trans (Fr3.of2 F4)).trans (Fr3.of2 F5)) rfl
        ⟨⟨_, _, _, _, _, rfl, ⟨(ra, rt) :: rs, rfl, r4, rN⟩, hw8, Nat.le_succ_of_le hs3, fun h hm => ((hh h hm).mono (by decide)).part, ⟨os, rfl, by omega, osP⟩, h5⟩, l8, q2, qI⟩

theorem ok_l_pair (E : Fns K mg) (G_l_draw : FnD P w K mg base 1 E.f_l_draw E.fd_l_draw ["deck", "many"] spDraw) (G_l_pick : FnD P w K mg base 2 E.f_l_pick E.fd_l_pick ["deck", "some"] spPick) (G_l_names : FnD P w K mg base 2 E.f_l_names E.fd_l_names ["deck", "many"] spNamesM) (G_l_condition : FnD P w K mg base 3 E.f_l_condition E.fd_l_condition ["deck", "refs", "part"] spCond) (G_l_drawn : FnD P w K mg base 4 E.f_l_drawn E.fd_l_drawn ["deck", "refs", "tables", "names"] spDrawnQ) : FnD P w K mg base 5 E.f_l_pair E.fd_l_pair ["deck"] spPair := by
  have nd := sc_l_pair.nd
  refine okD E.F_l_pair sc_l_pair ?len fun cdv A outer s H X hr hgd => ⟨_, (dss_cons (ds_set 1 nd rfl (by first | exact Or.inl rfl | exact Or.inr rfl) (d_fn G_l_names (hr.mono (by decide)) hgd (by rfl) E.g_l_names E.F_l_names.kp (kb_l_names_2 E) (da_cons (d_var 0) (da_cons d_int da_nil)) dk_nil))
  (dss_cons (ds_set 2 nd rfl (by first | exact Or.inl rfl | exact Or.inr rfl) (d_comp [("k", 3)] fin_L rfl nd (di_range1 (by rfl) E.m_range d_int) (by kernel_rfl)
  (fun _ _ _ _ _ => (dg_nm 3 nd rfl (by first | exact Or.inl rfl | exact Or.inr rfl))) (fun _ _ _ _ _ => dts_nil) (fun _ _ _ _ _ => (d_pop (d_var 1)))))
  (dss_cons (ds_set 4 nd rfl (by first | exact Or.inl rfl | exact Or.inr rfl) (d_add d_int (d_fn G_l_draw (hr.mono (by decide)) hgd (by rfl) E.g_l_draw E.F_l_draw.kp (kb_l_draw_2 E) (da_cons (d_var 0) (da_cons d_int da_nil)) dk_nil)))
  (dss_cons (ds_if (dt_eq hr.units (d_fn G_l_draw (hr.mono (by decide)) hgd (by rfl) E.g_l_draw E.F_l_draw.kp (kb_l_draw_2 E) (da_cons (d_var 0) (da_cons d_int da_nil)) dk_nil) d_int)
  (dss_cons (ds_set 5 nd rfl (by first | exact Or.inl rfl | exact Or.inr rfl) (d_tuple (by rfl) E.m_tuple (da_cons (d_comp [("k", 3)] fin_L rfl nd (di_range1 (by rfl) E.m_range (d_var 4)) (by kernel_rfl)
  (fun _ _ _ _ _ => (dg_nm 3 nd rfl (by first | exact Or.inl rfl | exact Or.inr rfl))) (fun _ _ _ _ _ => dts_nil) (fun _ _ _ _ _ => (d_tup (da_cons (d_pop (d_var 1)) (da_cons (d_fn G_l_pick (hr.mono (by decide)) hgd (by rfl) E.g_l_pick E.F_l_pick.kp (kb_l_pick_2 E) (da_cons (d_var 0) (da_cons (d_slice (d_var 2) do_none (do_some d_int)) da_nil)) dk_nil) da_nil))))) da_nil)))
  (dss_one (ds_ret (d_comp [("k", 3)] fin_L rfl nd (di_range1 (by rfl) E.m_range d_int) (by kernel_rfl)
  (fun _ _ _ _ _ => (dg_nm 3 nd rfl (by first | exact Or.inl rfl | exact Or.inr rfl))) (fun _ _ _ _ _ => dts_nil) (fun _ _ _ _ _ => (d_tup (da_cons (d_var 5) (da_cons (d_fn G_l_condition (hr.mono (by decide)) hgd (by rfl) E.g_l_condition E.F_l_condition.kp (kb_l_condition_3 E) (da_cons (d_var 0) (da_cons (d_var 5) (da_cons d_non da_nil))) dk_nil) (da_cons (d_tup (da_cons (d_tup (da_cons d_str (da_cons d_int da_nil))) da_nil)) (da_cons (d_tup da_nil) (da_cons d_non da_nil)))))))))))
  dss_nil)
  (dss_cons (ds_set 5 nd rfl (by first | exact Or.inl rfl | exact Or.inr rfl) (d_tuple (by rfl) E.m_tuple (da_cons (d_comp [("k", 3)] fin_L rfl nd (di_range1 (by rfl) E.m_range (d_var 4)) (by kernel_rfl)
  (fun _ _ _ _ _ => (dg_nm 3 nd rfl (by first | exact Or.inl rfl | exact Or.inr rfl))) (fun _ _ _ _ _ => dts_nil) (fun _ _ _ _ _ => (d_tup (da_cons (d_pop (d_var 1)) (da_cons (d_ix (d_var 2) (d_var 3) (fun _ _ => rfl)) da_nil))))) da_nil)))
  (dss_one (ds_ret (d_comp [("k", 3)] fin_L rfl nd (di_range1 (by rfl) E.m_range d_int) (by kernel_rfl)
  (fun _ _ _ _ _ => (dg_nm 3 nd rfl (by first | exact Or.inl rfl | exact Or.inr rfl))) (fun _ _ _ _ _ => dts_nil) (fun _ _ _ _ _ => (d_fn G_l_drawn (hr.mono (by decide)) hgd (by rfl) E.g_l_drawn E.F_l_drawn.kp (kb_l_drawn_4 E) (da_cons (d_var 0) (da_cons (d_var 5) (da_cons (d_slice (d_var 2) (do_some d_int) do_none) (da_cons (d_listM (by rfl) E.m_list (da_cons (d_var 1) da_nil)) da_nil)))) dk_nil)))))))))), ?_⟩
  case len =>
    rintro ts M Q ⟨dk, c, n, rfl, _⟩
    rfl
  · rintro ts M Q ⟨dk, c, n, rfl, hD, hn, q⟩
    simp only [EV, dC]
    refine ⟨dk, c, n, 17, rfl, hD, by omega, by decide, by decide, fun M1 pl al D1 F1 hpl al17 alN alD => ?_⟩
    have al17' : al.length = 17 := al17
    obtain ⟨kd, kc⟩ : M1 dk ≠ none ∧ M1 c ≠ none := by
      obtain ⟨_, _, _, h1, h2, _⟩ := D1.at_
      rw [h1, h2]
      exact ⟨by simp, by simp⟩
    have p1 : pl ≠ dk := fun z => kd (z ▸ hpl)
    have p2 : pl ≠ c := fun z => kc (z ▸ hpl)
    have dset : ∀ {m : Nat} {M : Mp} {a : Addr} {o : MO}, DeckAt dk c M m → a ≠ dk → a ≠ c → DeckAt dk c (mset M a o) m := fun {m M a o} h p1 p2 =>
      ⟨h.ne, let ⟨ns, t, k, a, b, d, e, f⟩ := h.at_; ⟨ns, t, k, (mset_ne p1.symm).trans a, (mset_ne p2.symm).trans b, d, e, f⟩⟩
    refine comp_go ?_
    simp only [EV, iR1]
    refine ⟨⟨by decide, by decide⟩, ?_⟩
    refine compL_acc (fun j acc M' => ∃ (l bl : List Str), acc = l.map T.str ∧ l.length = j ∧ bl ++ l.reverse = al ∧ M' pl = some (.lst (bl.map T.str)) ∧ DeckAt dk c M' (n + 2)) (fun _ _ _ _ => by trivial) 0 ⟨[], al, rfl, rfl, by simp, mset_same, dset D1 p1 p2⟩ ?_ ?_ ?_
    · rintro j t acc M4 hj ⟨l, bl, rfl, hlj, hbl, hM, D4⟩
      obtain ⟨hj', rfl⟩ := ups_at hj
      have hj6 : j < 6 := hj'
      have hbn := congrArg List.length hbl
      rw [List.length_append, List.length_reverse] at hbn
      obtain ⟨cl, x, rfl⟩ := last_split (l := bl) (by omega)
      refine ⟨_, rfl, fun R kk => ?_⟩
      simp only [EV, wipe3, hM, List.length_map, lastS_get, lastS_drop]
      exact kk _ _ ⟨l ++ [x], cl, by rw [List.map_append]; rfl, by rw [List.length_append, hlj]; rfl, by rw [← hbl, List.reverse_append]; simp, mset_same, dset D4 p1 p2⟩
    · rw [ups_len]
      exact sz (by decide)
    rintro ys M6 ⟨tl, bl, rfl, hlen, hbl, hM, D6⟩
    rw [ups_len] at hlen
    have tl6 : tl.length = 6 := hlen
    have hbn := congrArg List.length hbl
    rw [List.length_append, List.length_reverse] at hbn
    have tlN : ∀ z ∈ tl, Nm z := fun z hz => alN z (by rw [← hbl]; simp [hz])
    have blN : ∀ z ∈ bl, Nm z := fun z hz => alN z (by rw [← hbl]; simp [hz])
    have tlD : tl.Nodup := by
      rw [← hbl] at alD
      exact (List.pairwise_reverse.mp (List.nodup_append.mp alD).2.1).imp Ne.symm
    simp only [EV, finL]
    refine draw_fr D6 (by omega) (by decide) (by decide) fun M7 r7 D7 F7 a7 b7 => ?_
    simp only [EV, dC]
    refine draw_fr D7 (by omega) (by decide) (by decide) fun M8 r8 D8 F8 a8 b8 => ?_
    have hM8 : M8 pl = some (.lst (bl.map T.str)) := (F8 pl p1 p2).trans ((F7 pl p1 p2).trans hM)
    have e2 : cutT (tl.map T.str) none (some 2) = (tl.take 2).map T.str := (cut_to 2).trans List.map_take.symm
    have e4 : cutT (tl.map T.str) (some 4) none = (tl.drop 4).map T.str := (cut_from 4).trans List.map_drop.symm
    obtain ⟨cnt, hcnt, c1, c4⟩ : ∃ cnt : Nat, 1 + r7 = (cnt : Int) ∧ 0 < cnt ∧ cnt ≤ 4 := ⟨(1 + r7).toNat, by omega, by omega, by omega⟩
    rw [hcnt]
    have once : ∀ {l : List Str}, l.Nodup → ∀ z ∈ l, l.count z = 1 := fun {l} nd => by
      induction l with
      | nil => intro z hz; cases hz
      | cons y l ih =>
        intro z hz
        obtain ⟨h1, h2⟩ := List.nodup_cons.mp nd
        rw [List.count_cons]
        rcases List.mem_cons.mp hz with rfl | hz
        · rw [List.count_eq_zero.mpr h1, if_pos (beq_self_eq_true z)]
        · have hne : y ≠ z := fun e => h1 (e ▸ hz)
          rw [ih h2 z hz, if_neg (by simpa using hne)]
    simp only [EV, dC]
    cases hd : decide (r8 = 0) with
    | true =>
      simp only [EV, dC]
      refine comp_go ?_
      simp only [EV, iR1]
      refine ⟨⟨by omega, by omega⟩, ?_⟩
      refine compL_acc (fun j acc M' => ∃ (rl : List (Str × Str)) (cl : List Str), acc = rl.map prT ∧ rl.length = j ∧ (∀ q ∈ rl, Nm q.1 ∧ Nm q.2 ∧ q.2 ∈ tl.take 2) ∧ M' pl = some (.lst (cl.map T.str)) ∧ 11 ≤ cl.length + j ∧ (∀ a ∈ cl, Nm a) ∧ DeckAt dk c M' (n + 4 + j)) (fun _ _ _ _ => by trivial) 0 ⟨[], bl, rfl, rfl, fun _ h => (nomatch h), hM8, by omega, blN, D8⟩ ?_ ?_ ?_
      · rintro j t acc M4 hj ⟨l, ul, rfl, hlj, hl, hM', hbk, hbN, D4⟩
        obtain ⟨hj', rfl⟩ := ups_at hj
        have hj4 : j < 4 := by omega
        obtain ⟨cl, x, rfl⟩ := last_split (l := ul) (by omega)
        refine ⟨_, rfl, fun R kk => ?_⟩
        simp only [EV, wipe3, hM', e2, List.length_map, lastS_get, lastS_drop]
        refine pick_fr (dset D4 p1 p2) (by omega) (by simp only [itemsOf, List.length_map, List.length_take]; omega) (by simp only [itemsOf, List.length_map, List.length_take]; omega) fun M9 t9 D9 F9 m9 => ?_
        simp only [itemsOf] at m9
        obtain ⟨z, hz, rfl⟩ := List.mem_map.mp m9
        try simp only [EV, dC]
        rw [List.length_append, List.length_singleton] at hbk
        refine kk _ _ ⟨l ++ [(x, z)], cl, by rw [List.map_append]; rfl, by rw [List.length_append, hlj]; rfl, fun p hp => ?_, (F9 pl p1 p2).trans mset_same, by omega, fun a ha => hbN a (List.mem_append_left _ ha), D9.le (by omega)⟩
        rcases List.mem_append.mp hp with hp | hp
        · exact hl p hp
        · rw [List.mem_singleton.mp hp]
          exact ⟨hbN x (by simp), tlN z (List.mem_of_mem_take hz), hz⟩
      · rw [ups_len]
        exact sz (by rw [List.length_nil]; omega)
      rintro ys M9 ⟨rl, cl, rfl, rlen, rlP, _, _, _, D9⟩
      rw [ups_len] at rlen D9
      have rl4 : 0 < rl.length ∧ rl.length ≤ 4 := by omega
      have v1 : LP 8 (.tup [.str "value", .int 1]) := .val (.int (by decide))
      simp only [EV, finL]
      refine comp_go ?_
      simp only [EV, iR1]
      refine ⟨⟨by decide, by decide⟩, ?_⟩
      refine compL_acc (fun j acc M' => ∃ qs : List Qn, acc = qs.map Qn.t ∧ qs.length = j ∧ (∀ q ∈ qs, q.rl = rl ∧ DQ [] q) ∧ DeckAt dk c M' (n + 8 + j * 6)) (fun _ _ _ _ => by trivial) 0 ⟨[], rfl, rfl, fun _ h => (nomatch h), D9.le (by omega)⟩ ?_ ?_ ?_
      · rintro j t acc M4 hj ⟨qs, rfl, hq, hqs, D4⟩
        obtain ⟨hj', rfl⟩ := ups_at hj
        have hj2 : j < 2 := hj'
        refine ⟨_, rfl, fun R kk => ?_⟩
        simp only [EV, wipe3]
        refine ⟨dk, c, _, _, rl, [], rfl, D4, by omega, rl4.1, fun q hq => (rlP q hq).1, Or.inl rfl, fun M5 t5 D5 F5 l5 i5 _ => ?_⟩
        have i8 : inn 8 t5 = [] := by rw [inn_mono l5.part (by decide : 6 ≤ 8), i5 rfl]
        have no5 : isNo t5 = false := by cases l5 <;> rfl
        refine kk _ _ ⟨qs ++ [⟨rl, t5, [.tup [.str "value", .int 1]], .tup [], .non⟩], by rw [List.map_append]; rfl, by rw [List.length_append, hq]; rfl, fun q hm => ?_, D5.le (by omega)⟩
        rcases List.mem_append.mp hm with hm | hm
        · exact hqs q hm
        · rw [List.mem_singleton.mp hm]
          have qe : qInn 8 t5 [.tup [.str "value", .int 1]] = [] := by
            unfold qInn wps
            rw [no5, if_neg Bool.false_ne_true, List.flatMap_append, List.flatMap_cons, List.flatMap_cons, List.flatMap_nil, inn_val, i8]
            rfl
          refine ⟨rfl, ⟨_, _, _, _, _, rfl, ⟨rl, rfl, rl4.2, fun q hq => ⟨(rlP q hq).1, (rlP q hq).2.1⟩⟩, Or.inr (l5.mono (by decide)).part, (by decide : 1 ≤ 4), fun h hh => by rw [List.mem_singleton.mp hh]; exact v1.part, ⟨[], rfl, by decide, fun _ h => nomatch h⟩, Or.inl rfl⟩, fun p hp => ?_, by rw [qe]; decide, fun p hp => by rw [qe] at hp; cases hp⟩
          unfold wps at hp
          rw [no5, if_neg Bool.false_ne_true] at hp
          simp only [List.mem_append, List.mem_singleton] at hp
          rcases hp with rfl | rfl
          · exact v1
          · exact l5.mono (by decide)
      · rw [ups_len]
        exact sz (by decide)
      rintro ys M10 ⟨qs, rfl, hq, hqs, D10⟩
      rw [ups_len] at hq D10
      have hq2 : qs.length = 2 := hq
      obtain ⟨qa, qb, rfl⟩ : ∃ a b, qs = [a, b] := by
        match qs, hq2 with
        | [a, b], _ => exact ⟨a, b, rfl⟩
      have ha := hqs qa (by simp)
      have hb := hqs qb (by simp)
      refine q M10 qa qb (D10.le (by show n + 8 + (0 + 2) * 6 ≤ _; omega)) ⟨ha.1.trans hb.1.symm, by rw [ha.1]; exact rl4.2, fun x hx => (rlP x (by rw [← ha.1]; exact hx)).2.1, tl.take 2, [], by rw [List.length_take]; omega, fun _ h => (nomatch h), fun z hz hn' => ?_, ha.2, hb.2⟩
      obtain ⟨x, hx, rfl⟩ := List.mem_map.mp hz
      exact absurd (rlP x (by rw [← ha.1]; exact hx)).2.2 hn'
    | false =>
      simp only [EV, dC]
      refine comp_go ?_
      simp only [EV, iR1]
      refine ⟨⟨by omega, by omega⟩, ?_⟩
      refine compL_acc (fun j acc M' => ∃ (rl : List (Str × Str)) (cl : List Str), acc = rl.map prT ∧ rl.length = j ∧ (∀ q ∈ rl, Nm q.1) ∧ rl.map (·.2) = tl.take j ∧ M' pl = some (.lst (cl.map T.str)) ∧ 11 ≤ cl.length + j ∧ cl.length ≤ 11 ∧ (∀ a ∈ cl, Nm a) ∧ DeckAt dk c M' (n + 4)) (fun _ _ _ _ => by trivial) 0 ⟨[], bl, rfl, rfl, fun _ h => (nomatch h), rfl, hM8, by omega, by omega, blN, D8⟩ ?_ ?_ ?_
      · rintro j t acc M4 hj ⟨l, ul, rfl, hlj, hl, hlt, hM', hbk, hb11, hbN, D4⟩
        obtain ⟨hj', rfl⟩ := ups_at hj
        have hj4 : j < 4 := by omega
        obtain ⟨cl, x, rfl⟩ := last_split (l := ul) (by omega)
        rw [Nat.zero_add] at *
        have hz : tl[j]? = some tl[j] := List.getElem?_eq_getElem (by omega)
        refine ⟨_, rfl, fun R kk => ?_⟩
        have ha : atI (tl.map T.str) (j : Int) = some (.str tl[j]) := atN (by rw [List.getElem?_map, hz]; rfl)
        simp only [EV, wipe3, hM', ha, List.length_map, lastS_get, lastS_drop]
        rw [List.length_append, List.length_singleton] at hbk hb11
        refine kk _ _ ⟨l ++ [(x, tl[j])], cl, by rw [List.map_append]; rfl, by rw [List.length_append, hlj]; rfl, fun p hp => ?_, by rw [List.map_append, hlt, List.take_succ, hz]; rfl, mset_same, by omega, by omega, fun a ha => hbN a (List.mem_append_left _ ha), dset D4 p1 p2⟩
        rcases List.mem_append.mp hp with hp | hp
        · exact hl p hp
        · rw [List.mem_singleton.mp hp]
          exact hbN x (by simp)
      · rw [ups_len]
        exact sz (by rw [List.length_nil]; omega)
      rintro ys M9 ⟨rl, cl, rfl, rlen, rlP, rlt, hM9, hcl, hcl2, clN, D9⟩
      rw [ups_len] at rlen rlt hcl
      have rl4 : 0 < rl.length ∧ rl.length ≤ 4 := by omega
      have rlN : ∀ x ∈ rl, Nm x.2 := fun x hx => by
        have := List.mem_map_of_mem (f := fun p : Str × Str => p.2) hx
        rw [rlt] at this
        exact tlN _ (List.mem_of_mem_take this)
      have td : (tl.drop 4).length = 2 := by rw [List.length_drop]; omega
      simp only [EV, finL]
      refine comp_go ?_
      simp only [EV, iR1]
      refine ⟨⟨by decide, by decide⟩, ?_⟩
      refine compL_acc (fun j acc M' => ∃ qs : List Qn, acc = qs.map Qn.t ∧ qs.length = j ∧ (∀ q ∈ qs, q.rl = rl ∧ DQ (tl.drop 4) q) ∧ DeckAt dk c M' (n + 8 + j * 40) ∧ M' pl = some (.lst (cl.map T.str))) (fun _ _ _ _ => by trivial) 0 ⟨[], rfl, rfl, fun _ h => (nomatch h), D9.le (by omega), hM9⟩ ?_ ?_ ?_
      · rintro j t acc M4 hj ⟨qs, rfl, hq, hqs, D4, hM4⟩
        obtain ⟨hj', rfl⟩ := ups_at hj
        have hj2 : j < 2 := hj'
        refine ⟨_, rfl, fun R kk => ?_⟩
        simp only [EV, wipe3, e4, hM4]
        intro pn hpn
        obtain ⟨kd4, kc4⟩ : M4 dk ≠ none ∧ M4 c ≠ none := by
          obtain ⟨_, _, _, h1, h2, _⟩ := D4.at_
          rw [h1, h2]
          exact ⟨by simp, by simp⟩
        have n1 : pn ≠ dk := fun z => kd4 (z ▸ hpn)
        have n2 : pn ≠ c := fun z => kc4 (z ▸ hpn)
        have n3 : pl ≠ pn := fun z => by rw [z, hpn] at hM4; cases hM4
        refine ⟨dk, c, pn, _, rl, tl.drop 4, rfl, dset D4 n1 n2, by omega, n1, n2, ⟨cl, mset_same, by omega, by omega, clN⟩, rl4.1, rl4.2, fun x hx => ⟨rlP x hx, rlN x hx⟩, by omega, by omega, fun z hz => tlN z (List.mem_of_mem_drop hz), fun M5 q5 D5 F5 e5 d5 => ?_⟩
        refine kk _ _ ⟨qs ++ [q5], by rw [List.map_append]; rfl, by rw [List.length_append, hq]; rfl, fun q hm => ?_, D5.le (by omega), (F5 pl p1 p2 n3).trans ((mset_ne n3).trans hM4)⟩
        rcases List.mem_append.mp hm with hm | hm
        · exact hqs q hm
        · rw [List.mem_singleton.mp hm]
          exact ⟨e5, d5⟩
      · rw [ups_len]
        exact sz (by decide)
      rintro ys M10 ⟨qs, rfl, hq, hqs, D10, _⟩
      rw [ups_len] at hq D10
      have hq2 : qs.length = 2 := hq
      obtain ⟨qa, qb, rfl⟩ : ∃ a b, qs = [a, b] := by
        match qs, hq2 with
        | [a, b], _ => exact ⟨a, b, rfl⟩
      have ha := hqs qa (by simp)
      have hb := hqs qb (by simp)
      refine q M10 qa qb (D10.le (by show n + 8 + (0 + 2) * 40 ≤ _; omega)) ⟨ha.1.trans hb.1.symm, by rw [ha.1]; exact rl4.2, fun x hx => rlN x (by rw [← ha.1]; exact hx), tl.drop 4, tl.drop 4, by omega, fun _ h => h, fun z hz _ => ?_, ha.2, hb.2⟩
      rw [ha.1, rlt] at hz ⊢
      exact once (tlD.sublist (List.take_sublist _ _)) z hz

end
section
local macro_rules | `(tactic| simp only [EV, $ls,*]) => `(tactic| simp only [EV1, sSeq, sPar, sPut, sIf, sSet, sDrop, sRet, sRetN, sNext, dOp2, dOp1, dVar, dC, dB, dTup, dLst, dLstM, dNil, dCons, dSl, doNone, doSome, dCall, dLm, $ls,*])
local macro_rules | `(tactic| simp only [EV1, $ls,*]) => `(tactic| simp only [EV2, dLm0, dSm, dAnd, dOr, dNot, dAndV, dOrV, dIf, dChain, dFn, dFn0, dYes, dDisp, dDispM, dPairs, keysT, dNewD, dNewDM, oAdd, oSub, oMul, oFdiv, oMod, oPow, $ls,*])
local macro_rules | `(tactic| simp only [EV2, $ls,*]) => `(tactic| simp only [EV3, oInt2, oNeg, oIx, oSl, oRev, oRevM, oLt, oLe, oGt, oGe, oOrd, oIsN, L3.isNon, oNotB, oDGet, oDIn, oIn, oInS, mAppend, mPop, mJoin, isL, isS, fLen, $ls,*])
local macro_rules | `(tactic| simp only [EV3, $ls,*]) => `(tactic| simp only [EV4, fIsi, fAbs, fList, fListM, fTuple, fInt, fBls, seqOf, tyT, look, keyT, Pat.set, start3, pick, List.getElem?_cons_zero, List.getElem?_cons_succ, List.set_cons_zero, List.set_cons_succ, List.map_cons, List.map_nil, List.length_cons, List.length_nil, List.nil_append, List.cons_append, $ls,*])
local macro_rules | `(tactic| simp only [EV4, $ls,*]) => `(tactic| simp only [EV5, List.replicate_succ, List.replicate_zero, Nat.reduceSub, Nat.reduceAdd, flatOf, kit_NoneType_str, kit_bool_str, kit_int_str, kit_str_str, kit_tuple_str, kit_list_str, kit_dict_str, kit_NoneType_int, kit_bool_int, kit_int_int, kit_str_int, kit_tuple_int, kit_list_int, kit_dict_int, kit_NoneType_bool, kit_bool_bool, kit_int_bool, kit_str_bool, kit_tuple_bool, $ls,*])
local macro_rules | `(tactic| simp only [EV5, $ls,*]) => `(tactic| simp only [EV6, kit_list_bool, kit_dict_bool, kit_NoneType_tuple, kit_bool_tuple, kit_int_tuple, kit_str_tuple, kit_tuple_tuple, kit_list_tuple, kit_dict_tuple, kit_NoneType_list, kit_bool_list, kit_int_list, kit_str_list, kit_tuple_list, kit_list_list, kit_dict_list, kit_NoneType_dict, kit_bool_dict, kit_int_dict, kit_str_dict, kit_tuple_dict, kit_list_dict, kit_dict_dict, Bool.false_eq_true, $ls,*])
local macro_rules | `(tactic| simp only [EV6, $ls,*]) => `(tactic| simp only [EV7, if_false, if_true, reduceIte, true_and, sz_0, sz_1, sz_2, sz_3, sz_4, sz_5, sz_6, sz_7, sz_8, sz_9, sz_10, sz_11, sz_12, sz_13, sz_14, sz_15, sz_16, sz_17, sz_18, sz_19, $ls,*])
local macro_rules | `(tactic| simp only [EV7, $ls,*]) => `(tactic| simp only [EV8, sz_20, sz_21, sz_22, sz_23, sz_24, sz_25, sz_26, sz_27, sz_28, sz_29, sz_30, sz_31, sz_32, sz_33, sz_34, sz_35, sz_36, sz_37, sz_38, sz_39, sz_40, sz_41, sz_42, sz_43, $ls,*])
local macro_rules | `(tactic| simp only [EV8, $ls,*]) => `(tactic| simp only [EV9, sz_44, sz_45, sz_46, sz_47, atI_c0, atI_c1, atI_c2, atI_c3, atI_c4, List.append_nil, List.filterMap_cons, List.filterMap_nil, and_self, dStar, mSplit, fSortS, fSortT, L3.setAll, mExtend, dKGet, eqb_ss, eqb_ii, eqb_bb, eqb_nn, $ls,*])
local macro_rules | `(tactic| simp only [EV9, $ls,*]) => `(tactic| simp only [eqb_ni, eqb_in, eqb_ns, eqb_sn, eqb_is, eqb_si, Bool.not_true, Bool.not_false, flatT, List.all_cons, List.all_nil, Bool.and_self, mExt, mCount, dFnV, dSortSet, sUnl, $ls,*])
theorem ok_law (E : Fns K mg) (hsy : SysAt base) (G_l_draw : FnD P w K mg base 1 E.f_l_draw E.fd_l_draw ["deck", "many"] spDraw) (G_l_deck : FnD P w K mg base 1 E.f_l_deck E.fd_l_deck ["script"] spDeck) (G_l_pair : FnD P w K mg base 5 E.f_l_pair E.fd_l_pair ["deck"] spPair) (G_shapes_of : FnV P w K mg base 4 E.f_shapes_of spShapes) (G_l_shapes : FnD P w K mg base 10 E.f_l_shapes E.fd_l_shapes ["asked", "more"] (spLShapes 8)) : FnD P w K mg base 11 E.f_law E.fd_law ["script"] spLaw := by
  have nd := sc_law.nd
  refine okD E.F_law sc_law ?len fun cdv A outer s H X hr hgd => ⟨_, (dss_cons (ds_set 1 nd rfl (by first | exact Or.inl rfl | exact Or.inr rfl) (d_fn G_l_deck (hr.mono (by decide)) hgd (by rfl) E.g_l_deck E.F_l_deck.kp (kb_l_deck_1 E) (da_cons (d_var 0) da_nil) dk_nil))
  (dss_cons (ds_for PassesOwn.never rfl (di_range1 (by rfl) E.m_range d_int) (dg_nm 2 nd rfl (by first | exact Or.inl rfl | exact Or.inr rfl))
  (dss_cons (ds_unl [3, 4] (d_fn G_l_pair (hr.mono (by decide)) hgd (by rfl) E.g_l_pair E.F_l_pair.kp (kb_l_pair_1 E) (da_cons (d_var 1) da_nil) dk_nil) (pg_unl rfl (pgs_cons (pg_name (i := 3) nd rfl (by first | exact Or.inl rfl | exact Or.inr rfl)) (pgs_cons (pg_name (i := 4) nd rfl (by first | exact Or.inl rfl | exact Or.inr rfl)) pgs_nil))))
  (dss_cons (ds_if (PW.pt (dw_or (dt_ne hr.units (d_repr hgd hr.units hsy (by rfl) E.m_repr (da_cons (d_fnV G_shapes_of (hr.mono (by decide)) hgd (by rfl) E.g_shapes_of E.F_shapes_of.kp (da_cons (d_var 3) da_nil)) da_nil)) (d_repr hgd hr.units hsy (by rfl) E.m_repr (da_cons (d_fn G_l_shapes (hr.mono (by decide)) hgd (by rfl) E.g_l_shapes E.F_l_shapes.kp (kb_l_shapes_2 E) (da_cons (d_var 3) (da_cons (d_lst da_nil) da_nil)) dk_nil) da_nil))) (dw_or1 (dt_ne hr.units (d_repr hgd hr.units hsy (by rfl) E.m_repr (da_cons (d_fnV G_shapes_of (hr.mono (by decide)) hgd (by rfl) E.g_shapes_of E.F_shapes_of.kp (da_cons (d_var 4) da_nil)) da_nil)) (d_repr hgd hr.units hsy (by rfl) E.m_repr (da_cons (d_fn G_l_shapes (hr.mono (by decide)) hgd (by rfl) E.g_l_shapes E.F_l_shapes.kp (kb_l_shapes_2 E) (da_cons (d_var 4) (da_cons (d_lst da_nil) da_nil)) dk_nil) da_nil))))))
  (dss_one (ds_ret d_bl))
  dss_nil)
  (dss_cons (ds_set 5 nd rfl (by first | exact Or.inl rfl | exact Or.inr rfl) (d_repr hgd hr.units hsy (by rfl) E.m_repr (da_cons (d_fn G_l_shapes (hr.mono (by decide)) hgd (by rfl) E.g_l_shapes E.F_l_shapes.kp (kb_l_shapes_2 E) (da_cons (d_var 3) (da_cons (d_lst (da_cons (d_var 4) da_nil)) da_nil)) dk_nil) da_nil)))
  (dss_cons (ds_if (PW.pt (dw_or (dt_ne hr.units (d_repr hgd hr.units hsy (by rfl) E.m_repr (da_cons (d_fnV G_shapes_of (hr.mono (by decide)) hgd (by rfl) E.g_shapes_of E.F_shapes_of.kp (da_cons (d_var 3) (da_cons (d_var 4) da_nil))) da_nil)) (d_var 5)) (dw_or1 (dt_ne hr.units (d_repr hgd hr.units hsy (by rfl) E.m_repr (da_cons (d_fnV G_shapes_of (hr.mono (by decide)) hgd (by rfl) E.g_shapes_of E.F_shapes_of.kp (da_cons (d_var 4) (da_cons (d_var 3) da_nil))) da_nil)) (d_var 5)))))
  (dss_one (ds_ret d_bl))
  dss_nil)
  (dss_cons (ds_if (dt_ne hr.units (d_repr hgd hr.units hsy (by rfl) E.m_repr (da_cons (d_fnV G_shapes_of (hr.mono (by decide)) hgd (by rfl) E.g_shapes_of E.F_shapes_of.kp (da_cons (d_var 3) (da_cons (d_var 3) da_nil))) da_nil)) (d_repr hgd hr.units hsy (by rfl) E.m_repr (da_cons (d_fn G_l_shapes (hr.mono (by decide)) hgd (by rfl) E.g_l_shapes E.F_l_shapes.kp (kb_l_shapes_2 E) (da_cons (d_var 3) (da_cons (d_lst (da_cons (d_var 3) da_nil)) da_nil)) dk_nil) da_nil)))
  (dss_one (ds_ret d_bl))
  dss_nil)
  (dss_one (ds_if (dt_ne hr.units (d_repr hgd hr.units hsy (by rfl) E.m_repr (da_cons (d_fnV G_shapes_of (hr.mono (by decide)) hgd (by rfl) E.g_shapes_of E.F_shapes_of.kp (da_cons (d_var 3) (da_cons (d_var 3) (da_cons (d_var 4) da_nil)))) da_nil)) (d_repr hgd hr.units hsy (by rfl) E.m_repr (da_cons (d_fn G_l_shapes (hr.mono (by decide)) hgd (by rfl) E.g_l_shapes E.F_l_shapes.kp (kb_l_shapes_2 E) (da_cons (d_var 3) (da_cons (d_lst (da_cons (d_var 3) (da_cons (d_var 4) da_nil))) da_nil)) dk_nil) da_nil)))
  (dss_one (ds_ret d_bl))
  dss_nil))))))))
  (dss_one (ds_ret d_bl)))), ?_⟩
  case len =>
    rintro ts M Q ⟨ns, rfl, _⟩
    rfl
  · rintro ts M Q ⟨ns, rfl, hl, hM, q⟩
    simp only [EV, dC]
    refine ⟨ns, rfl, hl, fun dk c M1 _ _ D1 _ => ?_⟩
    simp only [EV, sFor, iR1]
    refine ⟨⟨by decide, by decide⟩, ?_⟩
    refine forL_inv (fun i ss M => DeckAt dk c M (0 + i * 1000) ∧ ∃ x0 x2 x3 x4 x5 : Option T, ss = [x0, some (.raw (.ref dk)), x2, x3, x4, x5]) (fun _ _ _ _ => by trivial) 0 ⟨by simpa using D1, _, _, _, _, _, rfl⟩ ?_ ?_
    · rintro i t ss M2 hj ⟨D2, x0, x2, x3, x4, x5, rfl⟩
      obtain ⟨hi', rfl⟩ := ups_at hj
      have hi : i < 12 := hi'
      rw [Nat.zero_add] at D2
      refine ⟨_, rfl, fun N kk => ?_⟩
      try simp only [EV, dC]
      refine ⟨dk, c, _, rfl, D2, by omega, fun M3 a b D3 P => ?_⟩
      have dq : ∀ q, q = a ∨ q = b → q.rl = a.rl ∧ Q5 8 q.t ∧ ∀ p ∈ wps q.wh q.hs, LP 8 p := fun q hq => by
        obtain ⟨_, _, _, _, _, da, db⟩ := P.ex
        rcases hq with rfl | rfl
        · exact ⟨rfl, da.q5, da.lp⟩
        · exact ⟨P.rl.symm, db.q5, db.lp⟩
      have rep : ∀ {o i : List Str} {t : T}, ShapesOf o i t → FewS o i → (∀ z, z ∈ o ∨ z ∈ i → Nm z) → ∀ {M : Mp} {K : QE}, K (.str (shT t)) M → fRepr [t] K M := by
        intro o i t h f hn M K k
        exact rep_of (h.fine f hn) (by decide) (by decide) (by obtain ⟨_, _, _, _, _, _, rfl⟩ := h; rfl) k
      have pS : ∀ (x : Qn) (qs : List Qn), (∀ q ∈ x :: qs, q = a ∨ q = b) → qs.length ≤ 2 → ∀ (M : Mp) (K : QE), (∀ t, ShapesOf (a.rl.map (·.2)) (qTabs 8 (x :: qs)) t → (∀ {M : Mp} {K : QE}, K (.str (shT t)) M → fRepr [t] K M) → K t M) → spShapes ((x :: qs).map Qn.t) M K := by
        intro x qs hm hl M K k
        obtain ⟨f1, f2⟩ := P.few_of hm (by rw [List.length_cons]; omega)
        have hx := (dq x (hm x List.mem_cons_self)).1
        refine ⟨8, x, qs, rfl, by omega, by decide, fun y hy => (dq y (hm y hy)).2.1, by rw [hx]; exact f1, fun t ht => ?_⟩
        rw [hx] at ht
        exact k t ht (rep ht f1 f2)
      have pL : ∀ (x : Qn) (qs : List Qn), (∀ q ∈ x :: qs, q = a ∨ q = b) → qs.length ≤ 2 → ∀ (M : Mp) (K : QE), (∀ t, ShapesOf (a.rl.map (·.2)) (qTabs 8 (x :: qs)) t → (∀ {M : Mp} {K : QE}, K (.str (shT t)) M → fRepr [t] K M) → K t M) → spLShapes 8 [x.t, .lst (qs.map Qn.t)] M K := by
        intro x qs hm hl M K k
        obtain ⟨f1, f2⟩ := P.few_of hm (by rw [List.length_cons]; omega)
        have hx := (dq x (hm x List.mem_cons_self)).1
        refine ⟨x, qs, rfl, by omega, fun y hy => (dq y (hm y hy)).2, by rw [hx]; exact f1, fun t ht => ?_⟩
        rw [hx] at ht
        exact k t ht (rep ht f1 f2)
      try simp only [EV, dC]
      refine pS a [] (by simp) (by simp) _ _ fun t1 s1 h1 => h1 ?_
      refine pL a [] (by simp) (by simp) _ _ fun t2 s2 h2 => h2 ?_
      obtain rfl := shapes_one s1 s2 (List.Perm.refl _)
      simp only [EV, decide_true, Bool.not_true]
      refine pS b [] (by simp) (by simp) _ _ fun t3 s3 h3 => h3 ?_
      refine pL b [] (by simp) (by simp) _ _ fun t4 s4 h4 => h4 ?_
      obtain rfl := shapes_one s3 s4 (List.Perm.refl _)
      simp only [EV, decide_true, Bool.not_true]
      refine pL a [b] (by simp) (by simp) _ _ fun t5 s5 h5 => h5 ?_
      try simp only [EV, dC]
      refine pS a [b] (by simp) (by simp) _ _ fun t6 s6 h6 => h6 ?_
      obtain rfl := shapes_one s5 s6 (List.Perm.refl _)
      simp only [EV, decide_true, Bool.not_true]
      refine pS b [a] (by simp) (by simp) _ _ fun t7 s7 h7 => h7 ?_
      obtain rfl := shapes_one s5 s7 (by unfold qTabs; simp only [List.flatMap_cons, List.flatMap_nil, List.append_nil]; exact List.perm_append_comm)
      simp only [EV, decide_true, Bool.not_true]
      refine pS a [a] (by simp) (by simp) _ _ fun t8 s8 h8 => h8 ?_
      refine pL a [a] (by simp) (by simp) _ _ fun t9 s9 h9 => h9 ?_
      obtain rfl := shapes_one s8 s9 (List.Perm.refl _)
      simp only [EV, decide_true, Bool.not_true]
      refine pS a [a, b] (by simp) (by simp) _ _ fun t10 s10 h10 => h10 ?_
      refine pL a [a, b] (by simp) (by simp) _ _ fun t11 s11 h11 => h11 ?_
      obtain rfl := shapes_one s10 s11 (List.Perm.refl _)
      simp only [EV, decide_true, Bool.not_true]
      exact kk _ _ ⟨D3.le (by omega), _, _, _, _, _, rfl⟩
    · rintro ss M2 ⟨D2, x0, x2, x3, x4, x5, rfl⟩
      try simp only [EV, dC]
      exact q _

end

theorem law_ok : ∀ ns : List Int, ns.length ≤ 63 → spLaw [.scr (ns.map T.int)] (fun _ => none) fun t _ => t = .bl true :=
  fun ns h => ⟨ns, rfl, h, fun _ => rfl, fun _ => rfl⟩
theorem all_mk {P : Program} {w : World} {K : PySem.W.Frag} {h : Heap} {mg : Str → Option Value} {fa : Addr} (X : K.In h) (G : h.Ns mainGlobals mg) (hfa : mg "law" = some (.ref fa))
    {f_sub_parts : Addr} {od_sub_parts an_sub_parts : Option Addr} {sl_sub_parts : Array (Option Value)} {oc_sub_parts kV_sub_parts dc_sub_parts pm_sub_parts cd_sub_parts ct_sub_parts : Value}
    (a_sub_parts : PySem.W.nsIn K mainGlobals "sub_parts" = some (some (.ref f_sub_parts)))
    (l_sub_parts : K.lookup f_sub_parts = some ⟨oc_sub_parts, od_sub_parts, .func (PySem.W.fnOf "sub_parts" "sub_parts" (defArgs s_sub_parts) (defBody s_sub_parts) (defScope s_sub_parts) .none kV_sub_parts dc_sub_parts pm_sub_parts an_sub_parts cd_sub_parts ct_sub_parts), sl_sub_parts⟩)
    (c_sub_parts : PySem.W.codeIn K cd_sub_parts "sub_parts" = true) (k_sub_parts : PySem.W.keepIn K (.ref f_sub_parts) = true)
    {f_inner_parts : Addr} {od_inner_parts an_inner_parts : Option Addr} {sl_inner_parts : Array (Option Value)} {oc_inner_parts kV_inner_parts dc_inner_parts pm_inner_parts cd_inner_parts ct_inner_parts : Value}
    (a_inner_parts : PySem.W.nsIn K mainGlobals "inner_parts" = some (some (.ref f_inner_parts)))
    (l_inner_parts : K.lookup f_inner_parts = some ⟨oc_inner_parts, od_inner_parts, .func (PySem.W.fnOf "inner_parts" "inner_parts" (defArgs s_inner_parts) (defBody s_inner_parts) (defScope s_inner_parts) .none kV_inner_parts dc_inner_parts pm_inner_parts an_inner_parts cd_inner_parts ct_inner_parts), sl_inner_parts⟩)
    (c_inner_parts : PySem.W.codeIn K cd_inner_parts "inner_parts" = true) (k_inner_parts : PySem.W.keepIn K (.ref f_inner_parts) = true)
    {f_inner_tables : Addr} {od_inner_tables an_inner_tables : Option Addr} {sl_inner_tables : Array (Option Value)} {oc_inner_tables kV_inner_tables dc_inner_tables pm_inner_tables cd_inner_tables ct_inner_tables : Value}
    (a_inner_tables : PySem.W.nsIn K mainGlobals "inner_tables" = some (some (.ref f_inner_tables)))
    (l_inner_tables : K.lookup f_inner_tables = some ⟨oc_inner_tables, od_inner_tables, .func (PySem.W.fnOf "inner_tables" "inner_tables" (defArgs s_inner_tables) (defBody s_inner_tables) (defScope s_inner_tables) .none kV_inner_tables dc_inner_tables pm_inner_tables an_inner_tables cd_inner_tables ct_inner_tables), sl_inner_tables⟩)
    (c_inner_tables : PySem.W.codeIn K cd_inner_tables "inner_tables" = true) (k_inner_tables : PySem.W.keepIn K (.ref f_inner_tables) = true)
    {f_shapes_of : Addr} {od_shapes_of an_shapes_of : Option Addr} {sl_shapes_of : Array (Option Value)} {oc_shapes_of kV_shapes_of dc_shapes_of pm_shapes_of cd_shapes_of ct_shapes_of : Value}
    (a_shapes_of : PySem.W.nsIn K mainGlobals "shapes_of" = some (some (.ref f_shapes_of)))
    (l_shapes_of : K.lookup f_shapes_of = some ⟨oc_shapes_of, od_shapes_of, .func (PySem.W.fnOf "shapes_of" "shapes_of" (defArgs s_shapes_of) (defBody s_shapes_of) (defScope s_shapes_of) .none kV_shapes_of dc_shapes_of pm_shapes_of an_shapes_of cd_shapes_of ct_shapes_of), sl_shapes_of⟩)
    (c_shapes_of : PySem.W.codeIn K cd_shapes_of "shapes_of" = true) (k_shapes_of : PySem.W.keepIn K (.ref f_shapes_of) = true)
    {f_l_deck : Addr} {od_l_deck an_l_deck : Option Addr} {sl_l_deck : Array (Option Value)} {oc_l_deck kV_l_deck dc_l_deck pm_l_deck cd_l_deck ct_l_deck : Value}
    (a_l_deck : PySem.W.nsIn K mainGlobals "_law_deck" = some (some (.ref f_l_deck)))
    (l_l_deck : K.lookup f_l_deck = some ⟨oc_l_deck, od_l_deck, .func (PySem.W.fnOf "_law_deck" "_law_deck" (defArgs s_l_deck) (defBody s_l_deck) (defScope s_l_deck) .none kV_l_deck dc_l_deck pm_l_deck an_l_deck cd_l_deck ct_l_deck), sl_l_deck⟩)
    (c_l_deck : PySem.W.codeIn K cd_l_deck "_law_deck" = true) (k_l_deck : PySem.W.keepIn K (.ref f_l_deck) = true)
    {f_l_draw : Addr} {od_l_draw an_l_draw : Option Addr} {sl_l_draw : Array (Option Value)} {oc_l_draw kV_l_draw dc_l_draw pm_l_draw cd_l_draw ct_l_draw : Value}
    (a_l_draw : PySem.W.nsIn K mainGlobals "_law_draw" = some (some (.ref f_l_draw)))
    (l_l_draw : K.lookup f_l_draw = some ⟨oc_l_draw, od_l_draw, .func (PySem.W.fnOf "_law_draw" "_law_draw" (defArgs s_l_draw) (defBody s_l_draw) (defScope s_l_draw) .none kV_l_draw dc_l_draw pm_l_draw an_l_draw cd_l_draw ct_l_draw), sl_l_draw⟩)
    (c_l_draw : PySem.W.codeIn K cd_l_draw "_law_draw" = true) (k_l_draw : PySem.W.keepIn K (.ref f_l_draw) = true)
    {f_l_pick : Addr} {od_l_pick an_l_pick : Option Addr} {sl_l_pick : Array (Option Value)} {oc_l_pick kV_l_pick dc_l_pick pm_l_pick cd_l_pick ct_l_pick : Value}
    (a_l_pick : PySem.W.nsIn K mainGlobals "_law_pick" = some (some (.ref f_l_pick)))
    (l_l_pick : K.lookup f_l_pick = some ⟨oc_l_pick, od_l_pick, .func (PySem.W.fnOf "_law_pick" "_law_pick" (defArgs s_l_pick) (defBody s_l_pick) (defScope s_l_pick) .none kV_l_pick dc_l_pick pm_l_pick an_l_pick cd_l_pick ct_l_pick), sl_l_pick⟩)
    (c_l_pick : PySem.W.codeIn K cd_l_pick "_law_pick" = true) (k_l_pick : PySem.W.keepIn K (.ref f_l_pick) = true)
    {f_l_names : Addr} {od_l_names an_l_names : Option Addr} {sl_l_names : Array (Option Value)} {oc_l_names kV_l_names dc_l_names pm_l_names cd_l_names ct_l_names : Value}
    (a_l_names : PySem.W.nsIn K mainGlobals "_law_names" = some (some (.ref f_l_names)))
    (l_l_names : K.lookup f_l_names = some ⟨oc_l_names, od_l_names, .func (PySem.W.fnOf "_law_names" "_law_names" (defArgs s_l_names) (defBody s_l_names) (defScope s_l_names) .none kV_l_names dc_l_names pm_l_names an_l_names cd_l_names ct_l_names), sl_l_names⟩)
    (c_l_names : PySem.W.codeIn K cd_l_names "_law_names" = true) (k_l_names : PySem.W.keepIn K (.ref f_l_names) = true)
    {f_l_inners : Addr} {od_l_inners an_l_inners : Option Addr} {sl_l_inners : Array (Option Value)} {oc_l_inners kV_l_inners dc_l_inners pm_l_inners cd_l_inners ct_l_inners : Value}
    (a_l_inners : PySem.W.nsIn K mainGlobals "_law_inners" = some (some (.ref f_l_inners)))
    (l_l_inners : K.lookup f_l_inners = some ⟨oc_l_inners, od_l_inners, .func (PySem.W.fnOf "_law_inners" "_law_inners" (defArgs s_l_inners) (defBody s_l_inners) (defScope s_l_inners) .none kV_l_inners dc_l_inners pm_l_inners an_l_inners cd_l_inners ct_l_inners), sl_l_inners⟩)
    (c_l_inners : PySem.W.codeIn K cd_l_inners "_law_inners" = true) (k_l_inners : PySem.W.keepIn K (.ref f_l_inners) = true)
    {f_l_shapes : Addr} {od_l_shapes an_l_shapes : Option Addr} {sl_l_shapes : Array (Option Value)} {oc_l_shapes kV_l_shapes dc_l_shapes pm_l_shapes cd_l_shapes ct_l_shapes : Value}
    (a_l_shapes : PySem.W.nsIn K mainGlobals "_law_shapes" = some (some (.ref f_l_shapes)))
    (l_l_shapes : K.lookup f_l_shapes = some ⟨oc_l_shapes, od_l_shapes, .func (PySem.W.fnOf "_law_shapes" "_law_shapes" (defArgs s_l_shapes) (defBody s_l_shapes) (defScope s_l_shapes) .none kV_l_shapes dc_l_shapes pm_l_shapes an_l_shapes cd_l_shapes ct_l_shapes), sl_l_shapes⟩)
    (c_l_shapes : PySem.W.codeIn K cd_l_shapes "_law_shapes" = true) (k_l_shapes : PySem.W.keepIn K (.ref f_l_shapes) = true)
    {f_l_inner_part : Addr} {od_l_inner_part an_l_inner_part : Option Addr} {sl_l_inner_part : Array (Option Value)} {oc_l_inner_part kV_l_inner_part dc_l_inner_part pm_l_inner_part cd_l_inner_part ct_l_inner_part : Value}
    (a_l_inner_part : PySem.W.nsIn K mainGlobals "_law_inner_part" = some (some (.ref f_l_inner_part)))
    (l_l_inner_part : K.lookup f_l_inner_part = some ⟨oc_l_inner_part, od_l_inner_part, .func (PySem.W.fnOf "_law_inner_part" "_law_inner_part" (defArgs s_l_inner_part) (defBody s_l_inner_part) (defScope s_l_inner_part) .none kV_l_inner_part dc_l_inner_part pm_l_inner_part an_l_inner_part cd_l_inner_part ct_l_inner_part), sl_l_inner_part⟩)
    (c_l_inner_part : PySem.W.codeIn K cd_l_inner_part "_law_inner_part" = true) (k_l_inner_part : PySem.W.keepIn K (.ref f_l_inner_part) = true)
    {f_l_condition : Addr} {od_l_condition an_l_condition : Option Addr} {sl_l_condition : Array (Option Value)} {oc_l_condition kV_l_condition dc_l_condition pm_l_condition cd_l_condition ct_l_condition : Value}
    (a_l_condition : PySem.W.nsIn K mainGlobals "_law_condition" = some (some (.ref f_l_condition)))
    (l_l_condition : K.lookup f_l_condition = some ⟨oc_l_condition, od_l_condition, .func (PySem.W.fnOf "_law_condition" "_law_condition" (defArgs s_l_condition) (defBody s_l_condition) (defScope s_l_condition) .none kV_l_condition dc_l_condition pm_l_condition an_l_condition cd_l_condition ct_l_condition), sl_l_condition⟩)
    (c_l_condition : PySem.W.codeIn K cd_l_condition "_law_condition" = true) (k_l_condition : PySem.W.keepIn K (.ref f_l_condition) = true)
    {f_l_drawn : Addr} {od_l_drawn an_l_drawn : Option Addr} {sl_l_drawn : Array (Option Value)} {oc_l_drawn kV_l_drawn dc_l_drawn pm_l_drawn cd_l_drawn ct_l_drawn : Value}
    (a_l_drawn : PySem.W.nsIn K mainGlobals "_law_drawn" = some (some (.ref f_l_drawn)))
    (l_l_drawn : K.lookup f_l_drawn = some ⟨oc_l_drawn, od_l_drawn, .func (PySem.W.fnOf "_law_drawn" "_law_drawn" (defArgs s_l_drawn) (defBody s_l_drawn) (defScope s_l_drawn) .none kV_l_drawn dc_l_drawn pm_l_drawn an_l_drawn cd_l_drawn ct_l_drawn), sl_l_drawn⟩)
    (c_l_drawn : PySem.W.codeIn K cd_l_drawn "_law_drawn" = true) (k_l_drawn : PySem.W.keepIn K (.ref f_l_drawn) = true)
    {f_l_pair : Addr} {od_l_pair an_l_pair : Option Addr} {sl_l_pair : Array (Option Value)} {oc_l_pair kV_l_pair dc_l_pair pm_l_pair cd_l_pair ct_l_pair : Value}
    (a_l_pair : PySem.W.nsIn K mainGlobals "_law_pair" = some (some (.ref f_l_pair)))
    (l_l_pair : K.lookup f_l_pair = some ⟨oc_l_pair, od_l_pair, .func (PySem.W.fnOf "_law_pair" "_law_pair" (defArgs s_l_pair) (defBody s_l_pair) (defScope s_l_pair) .none kV_l_pair dc_l_pair pm_l_pair an_l_pair cd_l_pair ct_l_pair), sl_l_pair⟩)
    (c_l_pair : PySem.W.codeIn K cd_l_pair "_law_pair" = true) (k_l_pair : PySem.W.keepIn K (.ref f_l_pair) = true)
    {f_law : Addr} {od_law an_law : Option Addr} {sl_law : Array (Option Value)} {oc_law kV_law dc_law pm_law cd_law ct_law : Value}
    (a_law : PySem.W.nsIn K mainGlobals "law" = some (some (.ref f_law)))
    (l_law : K.lookup f_law = some ⟨oc_law, od_law, .func (PySem.W.fnOf "law" "law" (defArgs s_law) (defBody s_law) (defScope s_law) .none kV_law dc_law pm_law an_law cd_law ct_law), sl_law⟩)
    (c_law : PySem.W.codeIn K cd_law "law" = true) (k_law : PySem.W.keepIn K (.ref f_law) = true)
    (z_len : PySem.W.nsIn K mainGlobals "len" = some none)
    (z_list : PySem.W.nsIn K mainGlobals "list" = some none)
    (z_tuple : PySem.W.nsIn K mainGlobals "tuple" = some none)
    (z_range : PySem.W.nsIn K mainGlobals "range" = some none)
    (z_repr : PySem.W.nsIn K mainGlobals "repr" = some none)
    (z_sorted : PySem.W.nsIn K mainGlobals "sorted" = some none)
    (z_set : PySem.W.nsIn K mainGlobals "set" = some none)
    (z_int : PySem.W.nsIn K mainGlobals "int" = some none)
    (z_isinstance : PySem.W.nsIn K mainGlobals "isinstance" = some none)
    {kt2 : Tok}
    {kt3 : Tok}
    {kt4 : Tok}
    {ka1 : Addr} {ka1o : Option Addr} {ka1n : Nat} {ka1s : Array (Option Value)}
    (a_INNER_WORDS : PySem.W.nsIn K mainGlobals "INNER_WORDS" = some (some (.ref ka1)))
    (lka1 : K.lookup ka1 = some ⟨.type "tuple", ka1o, .seq ([(.str "exists" kt2), (.str "only" kt3), (.str "first" kt4)] : List Value).toArray ka1n, ka1s⟩)
    : ∃ fd : FuncData, (∀ (s : Shared) (u : Value), BindsTo s fd ⟨[u], []⟩ [("script", u)]) ∧ ∀ base : Heap, K.In base → base.Ns mainGlobals mg → SysAt base → FnD P w K mg base 11 fa fd ["script"] spLaw := by
  have e := hfa.symm.trans (PySem.W.mg_of X G a_law)
  cases e
  have F_sub_parts := fun_mk (st := s_sub_parts) l_sub_parts c_sub_parts k_sub_parts
  have F_inner_parts := fun_mk (st := s_inner_parts) l_inner_parts c_inner_parts k_inner_parts
  have F_inner_tables := fun_mk (st := s_inner_tables) l_inner_tables c_inner_tables k_inner_tables
  have F_shapes_of := fun_mk (st := s_shapes_of) l_shapes_of c_shapes_of k_shapes_of
  have F_l_deck := fun_mk (st := s_l_deck) l_l_deck c_l_deck k_l_deck
  have F_l_draw := fun_mk (st := s_l_draw) l_l_draw c_l_draw k_l_draw
  have F_l_pick := fun_mk (st := s_l_pick) l_l_pick c_l_pick k_l_pick
  have F_l_names := fun_mk (st := s_l_names) l_l_names c_l_names k_l_names
  have F_l_inners := fun_mk (st := s_l_inners) l_l_inners c_l_inners k_l_inners
  have F_l_shapes := fun_mk (st := s_l_shapes) l_l_shapes c_l_shapes k_l_shapes
  have F_l_inner_part := fun_mk (st := s_l_inner_part) l_l_inner_part c_l_inner_part k_l_inner_part
  have F_l_condition := fun_mk (st := s_l_condition) l_l_condition c_l_condition k_l_condition
  have F_l_drawn := fun_mk (st := s_l_drawn) l_l_drawn c_l_drawn k_l_drawn
  have F_l_pair := fun_mk (st := s_l_pair) l_l_pair c_l_pair k_l_pair
  have F_law := fun_mk (st := s_law) l_law c_law k_law
  let E : Fns K mg := { f_sub_parts := f_sub_parts, fd_sub_parts := _, F_sub_parts := F_sub_parts, g_sub_parts := PySem.W.mg_of X G a_sub_parts, f_inner_parts := f_inner_parts, fd_inner_parts := _, F_inner_parts := F_inner_parts, g_inner_parts := PySem.W.mg_of X G a_inner_parts, f_inner_tables := f_inner_tables, fd_inner_tables := _, F_inner_tables := F_inner_tables, g_inner_tables := PySem.W.mg_of X G a_inner_tables, f_shapes_of := f_shapes_of, fd_shapes_of := _, F_shapes_of := F_shapes_of, g_shapes_of := PySem.W.mg_of X G a_shapes_of, f_l_deck := f_l_deck, fd_l_deck := _, F_l_deck := F_l_deck, g_l_deck := PySem.W.mg_of X G a_l_deck, f_l_draw := f_l_draw, fd_l_draw := _, F_l_draw := F_l_draw, g_l_draw := PySem.W.mg_of X G a_l_draw, f_l_pick := f_l_pick, fd_l_pick := _, F_l_pick := F_l_pick, g_l_pick := PySem.W.mg_of X G a_l_pick, f_l_names := f_l_names, fd_l_names := _, F_l_names := F_l_names, g_l_names := PySem.W.mg_of X G a_l_names, f_l_inners := f_l_inners, fd_l_inners := _, F_l_inners := F_l_inners, g_l_inners := PySem.W.mg_of X G a_l_inners, f_l_shapes := f_l_shapes, fd_l_shapes := _, F_l_shapes := F_l_shapes, g_l_shapes := PySem.W.mg_of X G a_l_shapes, f_l_inner_part := f_l_inner_part, fd_l_inner_part := _, F_l_inner_part := F_l_inner_part, g_l_inner_part := PySem.W.mg_of X G a_l_inner_part, f_l_condition := f_l_condition, fd_l_condition := _, F_l_condition := F_l_condition, g_l_condition := PySem.W.mg_of X G a_l_condition, f_l_drawn := f_l_drawn, fd_l_drawn := _, F_l_drawn := F_l_drawn, g_l_drawn := PySem.W.mg_of X G a_l_drawn, f_l_pair := f_l_pair, fd_l_pair := _, F_l_pair := F_l_pair, g_l_pair := PySem.W.mg_of X G a_l_pair, f_law := fa, fd_law := _, F_law := F_law, g_law := PySem.W.mg_of X G a_law, m_len := PySem.W.mg_none_of X G z_len, m_list := PySem.W.mg_none_of X G z_list, m_tuple := PySem.W.mg_none_of X G z_tuple, m_range := PySem.W.mg_none_of X G z_range, m_repr := PySem.W.mg_none_of X G z_repr, m_sorted := PySem.W.mg_none_of X G z_sorted, m_set := PySem.W.mg_none_of X G z_set, m_int := PySem.W.mg_none_of X G z_int, m_isinstance := PySem.W.mg_none_of X G z_isinstance, v_INNER_WORDS := gv_of (PySem.W.mg_of X G a_INNER_WORDS) (kv_tup lka1 (show 3 ≤ sizeLine by decide) (kvs_cons (kv_str "exists" kt2) (kvs_cons (kv_str "only" kt3) (kvs_cons (kv_str "first" kt4) kvs_nil)))) }
  refine ⟨E.fd_law, fun s v => .of_eq rfl, fun base _ _ hsy => ?_⟩
  have G_sub := ok_sub_parts (P := P) (w := w) (base := base) E
  have G_ip := ok_inner_parts E G_sub
  have G_it := ok_inner_tables E G_ip
  have G_sh := ok_shapes_of E G_it
  have G_draw := ok_l_draw (P := P) (w := w) (base := base) E
  have G_deck := ok_l_deck (P := P) (w := w) (base := base) E
  have G_pick := ok_l_pick E G_draw
  have G_names := ok_l_names E G_draw
  have L0 := ok_l_inners (n := 0) (P := P) (w := w) (base := base) E fnd_no
  have L1 := ok_l_inners (n := 1) E L0
  have L2 := ok_l_inners (n := 2) E L1
  have L3 := ok_l_inners (n := 3) E L2
  have L4 := ok_l_inners (n := 4) E L3
  have L5 := ok_l_inners (n := 5) E L4
  have L6 := ok_l_inners (n := 6) E L5
  have L7 := ok_l_inners (n := 7) E L6
  have L8 := ok_l_inners (n := 8) E L7
  have G_ls := ok_l_shapes (n := 8) E (by decide) L8
  have G_part := ok_l_inner_part E G_draw G_pick
  have G_cond := ok_l_condition E G_draw G_pick
  have G_drawn := ok_l_drawn E G_draw G_pick G_part G_cond
  have G_pair := ok_l_pair E G_draw G_pick G_names G_cond G_drawn
  exact ok_law E hsy G_draw G_deck G_pair G_sh G_ls
end K45

open PySem PySem.W PyProof.Rows
set_option maxRecDepth 100000 in
set_option maxHeartbeats 0 in
theorem PySem.Challenge.cw_failswhole_k45_shapes_holds : PySem.Challenge.rw_failswhole_k45_shapes.Holds := by
  w_on; o_law; k_head; (case hw => w_witness2)
  k_fill
  refine L3.walkD (l := PySem.Challenge.rw_failswhole_k45_shapes) (n := 63) (k := 11) (x := "script") (sp := K45.spLaw) rfl (by decide) rfl ⟨rfl, by decide, by decide⟩ (by decide +kernel) (fun w h Y => PySem.W.kIn_of Y) ?F ?S
  case F =>
    intro w mg fa h KX G XP hmg
    refine' K45.all_mk (w := w) KX G hmg ?a_sub_parts ?l_sub_parts ?c_sub_parts ?k_sub_parts ?a_inner_parts ?l_inner_parts ?c_inner_parts ?k_inner_parts ?a_inner_tables ?l_inner_tables ?c_inner_tables ?k_inner_tables ?a_shapes_of ?l_shapes_of ?c_shapes_of ?k_shapes_of ?a_l_deck ?l_l_deck ?c_l_deck ?k_l_deck ?a_l_draw ?l_l_draw ?c_l_draw ?k_l_draw ?a_l_pick ?l_l_pick ?c_l_pick ?k_l_pick ?a_l_names ?l_l_names ?c_l_names ?k_l_names ?a_l_inners ?l_l_inners ?c_l_inners ?k_l_inners ?a_l_shapes ?l_l_shapes ?c_l_shapes ?k_l_shapes ?a_l_inner_part ?l_l_inner_part ?c_l_inner_part ?k_l_inner_part ?a_l_condition ?l_l_condition ?c_l_condition ?k_l_condition ?a_l_drawn ?l_l_drawn ?c_l_drawn ?k_l_drawn ?a_l_pair ?l_l_pair ?c_l_pair ?k_l_pair ?a_law ?l_law ?c_law ?k_law ?z_len ?z_list ?z_tuple ?z_range ?z_repr ?z_sorted ?z_set ?z_int ?z_isinstance ?a_INNER_WORDS ?lka1
    (case a_sub_parts => k_is)
    (case l_sub_parts => k_is)
    (case c_sub_parts => k_is)
    (case k_sub_parts => k_is)
    (case a_inner_parts => k_is)
    (case l_inner_parts => k_is)
    (case c_inner_parts => k_is)
    (case k_inner_parts => k_is)
    (case a_inner_tables => k_is)
    (case l_inner_tables => k_is)
    (case c_inner_tables => k_is)
    (case k_inner_tables => k_is)
    (case a_shapes_of => k_is)
    (case l_shapes_of => k_is)
    (case c_shapes_of => k_is)
    (case k_shapes_of => k_is)
    (case a_l_deck => k_is)
    (case l_l_deck => k_is)
    (case c_l_deck => k_is)
    (case k_l_deck => k_is)
    (case a_l_draw => k_is)
    (case l_l_draw => k_is)
    (case c_l_draw => k_is)
    (case k_l_draw => k_is)
    (case a_l_pick => k_is)
    (case l_l_pick => k_is)
    (case c_l_pick => k_is)
    (case k_l_pick => k_is)
    (case a_l_names => k_is)
    (case l_l_names => k_is)
    (case c_l_names => k_is)
    (case k_l_names => k_is)
    (case a_l_inners => k_is)
    (case l_l_inners => k_is)
    (case c_l_inners => k_is)
    (case k_l_inners => k_is)
    (case a_l_shapes => k_is)
    (case l_l_shapes => k_is)
    (case c_l_shapes => k_is)
    (case k_l_shapes => k_is)
    (case a_l_inner_part => k_is)
    (case l_l_inner_part => k_is)
    (case c_l_inner_part => k_is)
    (case k_l_inner_part => k_is)
    (case a_l_condition => k_is)
    (case l_l_condition => k_is)
    (case c_l_condition => k_is)
    (case k_l_condition => k_is)
    (case a_l_drawn => k_is)
    (case l_l_drawn => k_is)
    (case c_l_drawn => k_is)
    (case k_l_drawn => k_is)
    (case a_l_pair => k_is)
    (case l_l_pair => k_is)
    (case c_l_pair => k_is)
    (case k_l_pair => k_is)
    (case a_law => k_is)
    (case l_law => k_is)
    (case c_law => k_is)
    (case k_law => k_is)
    (case z_len => k_is)
    (case z_list => k_is)
    (case z_tuple => k_is)
    (case z_range => k_is)
    (case z_repr => k_is)
    (case z_sorted => k_is)
    (case z_set => k_is)
    (case z_int => k_is)
    (case z_isinstance => k_is)
    (case a_INNER_WORDS => k_is)
    (case lka1 => k_is)
  case S =>
    exact K45.law_ok
#print axioms PySem.Challenge.cw_failswhole_k45_shapes_holds
