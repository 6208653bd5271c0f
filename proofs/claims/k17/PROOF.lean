import PyProof.Rows.All
import Wide.All
import OpenK.AllK
import Wide.FinOn
import HandS.ForMost
import HandS.Wide
import HandS.TupAny
import HandS.IsInst
import HandS.Style
import HandS.Conv
import HandS.TupLe
import PyProof.StrLawsRepr
import PyProof.P3Eq
import HandS.Star
import HandS.Sort
import KE.KSortTupAny
import PyProof.TupleIter
import PyProof.EnumMake
import PyProof.EnumFor
import PyProof.Draws
import PyProof.RulesMatch
import HandS.Zip
import HandS.SetTxt0
import HandS.Set
import PyProof.Rows.SortShellAny
import HandS.SetBool
import PySem.Challenge.RW_failswhole_k17_places_and_main_parts
set_option Elab.async false
set_option linter.all false
set_option maxRecDepth 100000
/-! L3A: promises of defs that also know that nothing is being shown (no repr guard runs), calls by position and by name, the law's end. -/
namespace L3
open PySem PySem.Spec PyProof.Rows L2

/-- a def keeps its promise wherever no guard runs -/
structure FnG (P : Program) (w : World) (K : PySem.W.Frag) (mg : Str → Option Value) (base : Heap) (CX : CXT) (k : Nat)
    (f : Addr) (fd : FuncData) (ps : List Str) (sp : Sp) : Prop where
  len : ∀ vs H Q E, sp vs H Q E → vs.length = ps.length
  run : ∀ (A : Around) (outer : List Env) (s : Shared) (H : Hp) (args : Args) (us : List Value) (vs : List V) (Q : VK) (E : XK),
    Room k A → A.guards = some [] → Env0 P w K mg base A outer s H → BindsTo s fd args (ps.zip us) → Vals vs us → sp vs H Q E →
    codeAny (model P w) A (.call (.ref f) args) (CR CX outer P w H s Q E) s

theorem FnG.mono {P : Program} {w : World} {K : PySem.W.Frag} {mg : Str → Option Value} {base : Heap} {CX : CXT} {j k : Nat} {f : Addr}
    {fd : FuncData} {ps : List Str} {sp : Sp} (F : FnG P w K mg base CX j f fd ps sp) (h : j ≤ k) : FnG P w K mg base CX k f fd ps sp :=
  ⟨F.len, fun A outer s H args us vs Q E hr => F.run A outer s H args us vs Q E (hr.mono h)⟩
theorem FnG.imp {P : Program} {w : World} {K : PySem.W.Frag} {mg : Str → Option Value} {base : Heap} {CX : CXT} {k : Nat} {f : Addr}
    {fd : FuncData} {ps : List Str} {sp sp' : Sp} (F : FnG P w K mg base CX k f fd ps sp) (h : ∀ vs H Q E, sp' vs H Q E → sp vs H Q E) :
    FnG P w K mg base CX k f fd ps sp' :=
  ⟨fun vs H Q E q => F.len vs H Q E (h _ _ _ _ q), fun A outer s H args us vs Q E hr hg he hb hv hs => F.run A outer s H args us vs Q E hr hg he hb hv (h _ _ _ _ hs)⟩

/-- a def's body keeps its promise -/
theorem okG {P : Program} {w : World} {K : PySem.W.Frag} {mg : Str → Option Value} {base : Heap} {CX : CXT} {x qual : Str} {st : Stmt} {f : Addr}
    {fd : FuncData} {N ps : List Str} {k : Nat} {sp : Sp} (F : Fun K x qual st f fd) (S : FnScope N ps (defScope st))
    (len : ∀ vs H Q E, sp vs H Q E → vs.length = ps.length)
    (hbody : ∀ (cdv : Value) (A : Around) (outer : List Env) (s : Shared) (H : Hp) (vs : List V) (Q : VK) (E : XK),
      Room k (A.deeper (envOfC qual (defScope st) s.heap.objs.size f cdv)) → A.guards = some [] → sp vs H Q E →
      ∃ t, PSs (cxOf CX P w K mg base N qual (defScope st) f cdv A outer s H E) (defBody st) t ∧
        t { nx := fun _ H' => Q .non H', rt := Q } (start N vs) H) : FnG P w K mg base CX (k + 1) f fd ps sp := by
  obtain ⟨oc, od, kV, doc, pm, an, cdv, ct, osl, rfl, lk, hcd⟩ := F.ex
  refine ⟨len, fun A outer s H args us vs Q E hr hgd e0 hb r hsp => ?_⟩
  have hl := len _ _ _ _ hsp
  have KX : K.In s.heap := e0.mod.kin.keeps (fun b o e => (e0.bs b o e).1)
  have lim : s.heap.NoLimit := e0.mod.nolimit.keeps (fun b o e => (e0.bs b o e).1)
  have hkind : ∀ y ∈ ps.zip us, (defScope st).names.lookup y.1 = some .local ∨ ((defScope st).names.lookup y.1 = some .cell ∧
      ((cellsFrom (s.heap.objs.size + 1) (defScope st).names []).lookup y.1).isSome = true) := by
    rintro ⟨n, v⟩ hy
    rcases S.par n (List.of_mem_zip hy).1 with q | q
    · exact Or.inl q
    · exact Or.inr ⟨q, PySem.W.cellsFrom_some _ _ _ (Or.inl q)⟩
  refine codeAny_call_function hr.depth (KX _ _ lk) rfl S.co S.gen rfl
    (PySem.W.codeRec_of KX hcd) (hb _ _ _ _ ?_)
  refine wpAny_newFunctionEnv_cells S.kind hkind ?_
  intro env he s1 x
  subst he
  refine ⟨lim.keeps x.toInCall.keep, codeAny_func ?_⟩
  obtain ⟨t, ht, hq⟩ := hbody cdv A outer s H vs Q E (hr.deeper _) hgd hsp
  have I := inv_start (P := P) (mg := mg) (cd := cdv) (f := f) (qual := qual) (CX := CX) (E := E) S hr.hd e0 hl r x
  refine wpAny_mono (ht.run [] s1 (start N vs) H _ I hq) ?_ (fun e s' hs => hs)
  intro fl s' hs
  cases fl with
  | ret u =>
    obtain ⟨v, σ', H', J, rv, q⟩ := hs
    exact ⟨v, H', J.os, J.bare, J.base, J.hok, rv, q⟩
  | next =>
    obtain ⟨σ', H', J, q⟩ := hs
    exact ⟨V.non, H', J.os, J.bare, J.base, J.hok, rfl, q⟩
  | brk => obtain ⟨_, _, _, q⟩ := hs; exact q.elim
  | cont => obtain ⟨_, _, _, q⟩ := hs; exact q.elim

section
variable {X : Cx} {CX : CXT} {k : Nat} {f : Addr} {fd : FuncData} {ps ks : List Str} {sp : Sp} {E : XK} {x : Str} {p pos : Pos} {es : List Expr} {kws : List Keyword} {t tk : TA}
  {g : List Value → List Value → List Value} {gV : List V → List V → List V}

/-- a callee runs: positional values us, keywords' values ws -/
theorem run_g {pins : List (Addr × Obj)} {σ : L2.St} {H : Hp} {s : Shared} {Q : VK} {us ws : List Value} {vs zs : List V}
    (F : FnG X.prog X.w X.K X.mg X.base CX k f fd ps sp) (hr : Room k X.A) (hgd : X.A.guards = some []) (hb : KBinds X.K fd ps ks g gV) (hx : Passes CX X E)
    (I : Inv X pins σ H s) (r : Vals vs us) (rz : Vals zs ws) (h : sp (gV vs zs) H Q E) :
    wpAny (model X.prog X.w) X.A (call (.ref f) us (ks.zip ws)) (EP X pins σ Q) X.xe s := by
  have r2 := hb.rel r rz
  have hl : (g us ws).length = ps.length := r2.length.symm.trans (F.len _ _ _ _ h)
  refine wpAny_call (codeAny_mono (F.run X.A X.stack s H ⟨us, ks.zip ws⟩ (g us ws) (gV vs zs) Q E hr hgd I.env0
    (hb.to s us ws I.kIn hl) r2 h) ?_)
  intro r s' hq
  match r, hq with
  | .error e, hq => exact hx pins σ H s e s' I hq
  | .ok (.ret u), hq => exact I.after hq
  | .ok .next, hq => exact hq.elim
  | .ok .brk, hq => exact hq.elim
  | .ok .cont, hq => exact hq.elim

/-- all positional, no keyword: the binding -/
theorem kb_pos {K : PySem.W.Frag} {ds : List Value} {dvs : List V} (hb : Binds K fd ps ds) (hd : Vals dvs ds) :
    KBinds K fd ps [] (fun us _ => us ++ ds) (fun vs _ => vs ++ dvs) :=
  ⟨fun s us ws h hl => hb s us h hl, fun r _ => r.append hd⟩

theorem zipnil {α β : Type} (l : List β) : List.zip ([] : List α) l = [] := rfl

/-- f(e, ..) and f(e, .., k = v, ..) -/
theorem pe_callG {e : Expr} (F : FnG X.prog X.w X.K X.mg X.base CX k f fd ps sp) (hr : Room k X.A) (hgd : X.A.guards = some []) (hg : Gl X x) (hm : X.mg x = some (.ref f))
    (hk : PySem.W.keepIn X.K (.ref f) = true) (hb : KBinds X.K fd ps ks g gV) (hx : Passes CX X E)
    (ha : PA X (e :: es) t) (hkw : PK X kws tk) (hall : (backToKw pos (keywordEach kws X.env)).all (·.1.isSome) = true := by rfl)
    (hks : (backToKw pos (keywordEach kws X.env)).filterMap (·.1) = ks := by rfl)
    (hdb : (x == ("__debug__" : Str)) = false := by decide) (he : starEach (e :: es) X.env = (false, eval e X.env) :: starEach es X.env := by rfl)
    (hpl : ((backTo pos (starEach (e :: es) X.env)).any (·.1) || (backToKw pos (keywordEach kws X.env)).any (·.1.isNone)) = false := by rfl) :
    PE X (.Call (.Name x p) (e :: es) kws pos) (tCallK sp gV E t tk) := by
  constructor
  intro pins s σ H Q I h
  refine wpAny_Call_Name_kw (ld_glob I hg hm ?_ hdb)
  refine PySem.W.callWith_KW (h₀ := X.base) I.ok.mod.kin hk hall (thn (ha.run pos pins s σ H _ I h) ?_) hpl he
  rintro us s1 ⟨vs, H1, I1, r, q⟩
  refine thn (hkw.run pos pins s1 σ H1 _ I1 q) ?_
  rintro ws s2 ⟨zs, H2, I2, rz, q2⟩
  refine ⟨I2.kIn, ?_⟩
  rw [hks]
  exact run_g F hr hgd hb hx I2 r rz q2
/-- f() -/
theorem pe_callG0 (F : FnG X.prog X.w X.K X.mg X.base CX k f fd ps sp) (hr : Room k X.A) (hgd : X.A.guards = some []) (hg : Gl X x) (hm : X.mg x = some (.ref f))
    (hk : PySem.W.keepIn X.K (.ref f) = true) (hb : KBinds X.K fd ps [] g gV) (hx : Passes CX X E)
    (hdb : (x == ("__debug__" : Str)) = false := by decide) : PE X (.Call (.Name x p) [] [] pos) (tCallK sp gV E tNil tNil) := by
  constructor
  intro pins s σ H Q I h
  refine wpAny_Call_Name_kw (ld_glob I hg hm ?_ hdb)
  exact PySem.W.callWith_K0 I.kIn hk (run_g (us := []) (ws := []) F hr hgd hb hx I .nil .nil h)
/-- f(k = v, ..) -/
theorem pe_callGk (F : FnG X.prog X.w X.K X.mg X.base CX k f fd ps sp) (hr : Room k X.A) (hgd : X.A.guards = some []) (hg : Gl X x) (hm : X.mg x = some (.ref f))
    (hk : PySem.W.keepIn X.K (.ref f) = true) (hb : KBinds X.K fd ps ks g gV) (hx : Passes CX X E)
    (hkw : PK X kws tk) (hall : (backToKw pos (keywordEach kws X.env)).all (·.1.isSome) = true := by rfl)
    (hks : (backToKw pos (keywordEach kws X.env)).filterMap (·.1) = ks := by rfl)
    (hdb : (x == ("__debug__" : Str)) = false := by decide)
    (hpl : ((backTo pos (starEach [] X.env)).any (·.1) || (backToKw pos (keywordEach kws X.env)).any (·.1.isNone)) = false := by rfl) :
    PE X (.Call (.Name x p) [] kws pos) (tCallK sp gV E tNil tk) := by
  constructor
  intro pins s σ H Q I h
  refine wpAny_Call_Name_kw (ld_glob I hg hm ?_ hdb)
  refine PySem.W.callWith_KW0 (h₀ := X.base) I.ok.mod.kin hk hall (thn (hkw.run pos pins s σ H _ I h) ?_) hpl
  rintro ws s2 ⟨zs, H2, I2, rz, q2⟩
  refine ⟨I2.kIn, ?_⟩
  rw [hks]
  exact run_g (us := []) (vs := []) F hr hgd hb hx I2 .nil rz q2
end

/-! ### the law's end -/
/-- where the table of modules stands -/
def SysAt (base : Heap) : Prop := ∃ o es ep, base.get? sysModules = some o ∧ o.data = .dict es ep
theorem law_end {P : Program} {w : World} {K : PySem.W.Frag} {mg mb : Str → Option Value} {CX : CXT} {k : Nat} {fa a : Addr} {fd : FuncData} {x : Str} {sp : Sp} {s₁ : Shared}
    {vs : List Value} {ns : List Int} (KX : K.In s₁.heap) (hns : s₁.heap.Ns mainGlobals mg) (hb : s₁.heap.Ns builtinsNs mb)
    (hbb : ∀ x : Str, x ≠ "__name__" → mb x = bootBuiltins x) (hlim : s₁.heap.NoLimit) (hg : s₁.gens = #[])
    (ha : s₁.heap.get? a = some { cls := .type "list", data := .seq vs.toArray }) (hi : IntsAre vs ns) (hl : ns.length ≤ sizeLine) (hr : Room k callerA)
    (hsy : ∃ mm, s₁.heap.Ns sysModules mm)
    (F : ∀ base : Heap, K.In base → base.Ns mainGlobals mg → SysAt base → FnG P w K mg base CX k fa fd [x] sp)
    (hbind : ∀ (s : Shared) (u : Value), BindsTo s fd ⟨[u], []⟩ [(x, u)])
    (hsp : ∀ H : Hp, Only H → SqL K H a (ns.map V.int) → sp [.ref a] H (fun v _ => v = .bl true) fun _ _ _ => False)
    (hCX : ∀ H e s', CX [] H s₁ (fun _ _ _ => False) e s' → False) :
    codeAny (model P w) callerA (.call (.ref fa) ⟨[.ref a], []⟩)
      (fun r s' => r = .ok (.ret (.bool true)) ∧ OldK s₁.heap s'.heap ∧ s'.os = s₁.os ∧ AllBare s'.gens) s₁ := by
  have rv := vals_ints hi
  have core : ∀ H : Hp, Only H → SqL K H a (ns.map V.int) → HOk P w H s₁.heap → (∀ b, H b ≠ none → b = a) → (H a ≠ none → K.lookup a = none) →
      codeAny (model P w) callerA (.call (.ref fa) ⟨[.ref a], []⟩)
        (fun r s' => r = .ok (.ret (.bool true)) ∧ OldK s₁.heap s'.heap ∧ s'.os = s₁.os ∧ AllBare s'.gens) s₁ := by
    intro H hO hS hok hA hK
    have tracked : ∀ {b : Addr} {u : HO}, H b = some u → b = a := by
      intro b u q
      exact hA b (by rw [q]; exact fun z => nomatch z)
    have base_of : ∀ {b : Addr} {o : Obj}, s₁.heap.get? b = some o → H b = none → (hidT s₁.heap H).get? b = some o :=
      fun e n => hidT_get e n
    have noA : ∀ {b : Addr} {o : Obj} {es : Array DictEntry} {ep : Nat}, s₁.heap.get? b = some o → o.data = .dict es ep → H b = none := by
      intro b o es ep e d
      cases q : H b with
      | none => rfl
      | some u =>
        obtain rfl := tracked q
        rw [ha] at e
        cases e
        have d' : Data.seq vs.toArray _ = Data.dict es ep := d
        cases d'
    have nsK : ∀ {b : Addr} {m : Str → Option Value}, s₁.heap.Ns b m → (hidT s₁.heap H).Ns b m := by
      rintro b m ⟨o, es, ep, e, d, r⟩
      exact ⟨o, es, ep, base_of e (noA e d), d, r⟩
    have hKb : K.In (hidT s₁.heap H) := by
      intro b o e
      refine base_of (KX b o e) ?_
      cases q : H b with
      | none => rfl
      | some u =>
        obtain rfl := tracked q
        rw [hK (by rw [q]; exact fun z => nomatch z)] at e
        cases e
    have hM : Mod K mg (hidT s₁.heap H) := by
      obtain ⟨mc, h1, h2⟩ := hlim
      exact ⟨hKb, nsK hns, ⟨mb, nsK hb, hbb⟩, ⟨mc, nsK h1, h2⟩⟩
    have e0 : Env0 P w K mg (hidT s₁.heap H) callerA [] s₁ H := by
      refine ⟨rfl, hM, fun b o e => of_hidT e, Nat.le_of_eq (hidT_size _ _), trivial, ?_, hok, .of_eq hg⟩
      intro b hb
      exact nomatch (show b ∈ ([] : List Addr) from hb)
    have hsB : SysAt (hidT s₁.heap H) := by
      obtain ⟨mm, hm⟩ := hsy
      obtain ⟨o, es, ep, e, d, _⟩ := nsK hm
      exact ⟨o, es, ep, e, d⟩
    refine codeAny_mono ((F _ hKb (nsK hns) hsB).run callerA [] s₁ H ⟨[.ref a], []⟩ [.ref a] [.ref a] _ _ hr rfl e0
      (hbind s₁ (.ref a)) (.cons rfl .nil) (hsp H hO hS)) ?_
    intro r s' h
    match r, h with
    | .error e, h => exact (hCX H e s' h).elim
    | .ok .next, h => exact h.elim
    | .ok .brk, h => exact h.elim
    | .ok .cont, h => exact h.elim
    | .ok (.ret u), h =>
      obtain ⟨v, H', os, bare, un, hok', r', q⟩ := h
      obtain rfl : v = .bl true := q
      obtain rfl : u = Value.bool true := r'
      refine ⟨rfl, OldK.of_keep ?_, os, bare⟩
      intro b o e
      cases q : H b with
      | none =>
        exact un.keep b o e q (fun z => nomatch (show b ∈ ([] : List Addr) from z)) (fun z => nomatch z)
      | some u =>
        rcases hO b with z | ⟨ob, xs, z⟩
        · rw [q] at z
          cases z
        · have e1 := (hok b _ z).1
          have e2 := (hok' b _ (un.frzs b ob _ z)).1
          rw [e] at e1
          cases e1
          exact e2
  cases hk : K.lookup a with
  | some o =>
    have e := KX a o hk
    rw [ha] at e
    cases e
    refine core (fun _ => none) (fun _ => .inl rfl) (.inr ⟨_, vs.toArray, _, hk, rfl, rfl, rfl, ?_, by simpa using rv⟩) ?_ (fun b z => absurd rfl z) (fun z => absurd rfl z)
    · rw [List.size_toArray, hi.length]
      exact hl
    · intro b u z
      exact nomatch (show (none : Option HO) = some u from z)
  | none =>
    have at_a : (if a = a then some (HO.frz { cls := .type "list", data := .seq vs.toArray } (.lst (ns.map V.int))) else none) =
        some (HO.frz { cls := .type "list", data := .seq vs.toArray } (.lst (ns.map V.int))) := if_pos rfl
    refine core (fun b => if b = a then some (.frz { cls := .type "list", data := .seq vs.toArray } (.lst (ns.map V.int))) else none) ?_ (.inl (.inr ⟨_, at_a⟩)) ?_ ?_ (fun _ => hk)
    · intro b
      by_cases hb : b = a
      · exact .inr ⟨_, _, if_pos hb⟩
      · exact .inl (if_neg hb)
    · intro b u z
      by_cases hb : b = a
      · have z' := (if_pos hb).symm.trans z
        cases z'
        subst hb
        refine ⟨ha, ?_, vs, _, rv, ha⟩
        rw [List.length_map]
        exact hl
      · exact nomatch (if_neg hb).symm.trans z
    · intro b z
      by_cases hb : b = a
      · exact hb
      · exact absurd (if_neg hb) z

theorem walkG {l : PySem.W.OpenLaw} {n k : Nat} {q : Program} {loose : List Str} {XP : (Str → Option Value) → Heap → Prop} {YP : World → Heap → Prop} {d : DefRec}
    {K : Params → PySem.W.Frag} {CX : World → CXT} {sp : World → Sp} {x : Str} (hn : l.most = some n) (hn2 : n ≤ sizeLine) (hdf : d.params.defaults = []) (hr : Room k callerA) (him : importsNone q = true)
    (hY : ∀ (w : World) (h : Heap), YP w h → (K w.params).In h)
    (F : ∀ (w : World) (mg : Str → Option Value) (fa : Addr) (h : Heap), (K w.params).In h → h.Ns mainGlobals mg → XP mg h → mg d.name = some (.ref fa) →
      ∃ fd : FuncData, (∀ (s : Shared) (u : Value), BindsTo s fd ⟨[u], []⟩ [(x, u)]) ∧
        ∀ base : Heap, (K w.params).In base → base.Ns mainGlobals mg → SysAt base → FnG l.prog w (K w.params) mg base (CX w) k fa fd [x] (sp w))
    (hsp : ∀ (w : World) (H : Hp) (a : Addr) (ns : List Int), ns.length ≤ n → Only H → SqL (K w.params) H a (ns.map V.int) → sp w [.ref a] H (fun v _ => v = .bl true) fun _ _ _ => False)
    (hCX : ∀ (w : World) (H : Hp) (s : Shared) (e : Value) (s' : Shared), CX w [] H s (fun _ _ _ => False) e s' → False) :
    PySem.W.WalkO q loose XP YP l.row.toRowW d [] (fun f vs => PySem.call f vs) := by
  refine Att.attach_call hn hdf ?_
  intro w s₀ s₁ mg mb fa o pm cd doc a vs ns G Y ho hd hcd hmg hobj hints hlen hg
  obtain ⟨fd, hb, hF⟩ := F w mg fa _ (hY w _ Y) G.T.g G.X hmg
  have hsy : ∃ mm, s₁.heap.Ns sysModules mm := (G.T.seer him).mods.imp fun _ h => h.1
  exact law_end (hY w _ Y) G.T.g G.T.b G.T.builtins G.T.nolimit hg hobj hints (Nat.le_trans hlen hn2) hr hsy hF hb
    (fun H hO hS => hsp w H a ns hlen hO hS) (fun H e s' => hCX w H s₁ e s')
end L3

set_option maxHeartbeats 1000000
/-! L3B: immutable data as trees, what changes by its address; readings over these. -/
namespace L3
open PySem PySem.Spec PyProof.Rows L2

/-- a value as a tree: what never changes any more stands whole; what may change is its bare reference -/
inductive T where
  | non | bl (b : Bool) | int (i : Int) | str (x : Str)
  | tup (xs : List T) | lst (xs : List T) | scr (xs : List T) | dic (kvs : List (Key × T)) | raw (v : V)
  deriving Inhabited
/-- what may change -/
inductive MO where
  | lst (xs : List T) | dct (kvs : List (Key × T)) | ins (C dx : Addr) (fs : List (Str × T))
abbrev Mp := Addr → Option MO
def mset (M : Mp) (a : Addr) (o : MO) : Mp := fun b => if b = a then some o else M b
def mdel (M : Mp) (a : Addr) : Mp := fun b => if b = a then none else M b
theorem mset_same {M : Mp} {a : Addr} {o : MO} : mset M a o a = some o := if_pos rfl
theorem mset_ne {M : Mp} {a b : Addr} {o : MO} (h : b ≠ a) : mset M a o b = M b := if_neg h
theorem mset_mset {M : Mp} {a : Addr} {o u : MO} : mset (mset M a o) a u = mset M a u := by
  funext b; unfold mset; split <;> rfl

section
variable (K : PySem.W.Frag) (F : Hp)
mutual
inductive Rep : V → T → Prop
  | non : Rep .non .non
  | bl (b : Bool) : Rep (.bl b) (.bl b)
  | int (i : Int) : Rep (.int i) (.int i)
  | str (x : Str) : Rep (.str x) (.str x)
  | tup {a : Addr} {vs : List V} {ts : List T} : SqT K F a vs → Reps vs ts → Rep (.ref a) (.tup ts)
  | lst {a : Addr} {vs : List V} {ts : List T} : F a = some (.lst vs) → Reps vs ts → Rep (.ref a) (.lst ts)
  | scr {a : Addr} {vs : List V} {ts : List T} : SqL K F a vs → Reps vs ts → Rep (.ref a) (.scr ts)
  | dic {a : Addr} {kvs : List (Key × V)} {kts : List (Key × T)} : F a = some (.dK kvs) → RepKV kvs kts → Rep (.ref a) (.dic kts)
  | raw (v : V) : Rep v (.raw v)
inductive Reps : List V → List T → Prop
  | nil : Reps [] []
  | cons {v : V} {vs : List V} {t : T} {ts : List T} : Rep v t → Reps vs ts → Reps (v :: vs) (t :: ts)
inductive RepKV : List (Key × V) → List (Key × T) → Prop
  | nil : RepKV [] []
  | cons {k : Key} {v : V} {vs : List (Key × V)} {t : T} {ts : List (Key × T)} : Rep v t → RepKV vs ts → RepKV ((k, v) :: vs) ((k, t) :: ts)
end
end

def Ex (F F' : Hp) : Prop := ∀ a o, F a = some o → F' a = some o
theorem Ex.refl {F : Hp} : Ex F F := fun _ _ h => h
theorem Ex.trans {F G H : Hp} (a : Ex F G) (b : Ex G H) : Ex F H := fun x o h => b x o (a x o h)
theorem Ex.upd {F : Hp} {p : Addr} {o : HO} (h : F p = none) : Ex F (upd F p o) := fun b x e => by
  rw [upd_ne (ne_of_none e h)]
  exact e
section
variable {K : PySem.W.Frag} {F F' H : Hp}
theorem Ex.rd (x : Ex F F') {a : Addr} {u : HO} (h : Rd F a u) : Rd F' a u := h.imp (x _ _) fun ⟨o, e⟩ => ⟨o, x _ _ e⟩
theorem Ex.sqL (x : Ex F F') {a : Addr} {vs : List V} (h : SqL K F a vs) : SqL K F' a vs := h.imp x.rd id
theorem Ex.sqT (x : Ex F F') {a : Addr} {vs : List V} (h : SqT K F a vs) : SqT K F' a vs := h.imp x.rd id
mutual
theorem Rep.mono (x : Ex F F') : ∀ {v : V} {t : T}, Rep K F v t → Rep K F' v t
  | _, _, .non => .non
  | _, _, .bl b => .bl b
  | _, _, .int i => .int i
  | _, _, .str z => .str z
  | _, _, .tup h r => .tup (x.sqT h) (Reps.mono x r)
  | _, _, .lst h r => .lst (x _ _ h) (Reps.mono x r)
  | _, _, .scr h r => .scr (x.sqL h) (Reps.mono x r)
  | _, _, .dic h r => .dic (x _ _ h) (RepKV.mono x r)
  | _, _, .raw v => .raw v
theorem Reps.mono (x : Ex F F') : ∀ {vs : List V} {ts : List T}, Reps K F vs ts → Reps K F' vs ts
  | _, _, .nil => .nil
  | _, _, .cons h r => .cons (Rep.mono x h) (Reps.mono x r)
theorem RepKV.mono (x : Ex F F') : ∀ {vs : List (Key × V)} {ts : List (Key × T)}, RepKV K F vs ts → RepKV K F' vs ts
  | _, _, .nil => .nil
  | _, _, .cons h r => .cons (Rep.mono x h) (RepKV.mono x r)
end
theorem Reps.length : ∀ {vs : List V} {ts : List T}, Reps K F vs ts → vs.length = ts.length
  | _, _, .nil => rfl
  | _, _, .cons _ r => congrArg (· + 1) (Reps.length r)
theorem Reps.get : ∀ {vs : List V} {ts : List T} {i : Nat} {t : T}, Reps K F vs ts → ts[i]? = some t → ∃ v, vs[i]? = some v ∧ Rep K F v t
  | _, _, 0, _, .cons h _, e => ⟨_, rfl, by have e' := Option.some.inj e; subst e'; exact h⟩
  | _, _, i + 1, t, .cons _ r, e => Reps.get (i := i) r e
theorem Reps.get' : ∀ {vs : List V} {ts : List T} {i : Nat} {v : V}, Reps K F vs ts → vs[i]? = some v → ∃ t, ts[i]? = some t ∧ Rep K F v t
  | _, _, 0, _, .cons h _, e => ⟨_, rfl, by have e' := Option.some.inj e; subst e'; exact h⟩
  | _, _, i + 1, t, .cons _ r, e => Reps.get' (i := i) r e
theorem Reps.append : ∀ {vs us : List V} {ts ws : List T}, Reps K F vs ts → Reps K F us ws → Reps K F (vs ++ us) (ts ++ ws)
  | _, _, _, _, .nil, q => q
  | _, _, _, _, .cons h r, q => .cons h (Reps.append r q)
theorem Reps.drop : ∀ {vs : List V} {ts : List T} (n : Nat), Reps K F vs ts → Reps K F (vs.drop n) (ts.drop n)
  | _, _, 0, r => r
  | _, _, _ + 1, .nil => .nil
  | _, _, n + 1, .cons _ r => Reps.drop n r
theorem Reps.take : ∀ {vs : List V} {ts : List T} (n : Nat), Reps K F vs ts → Reps K F (vs.take n) (ts.take n)
  | _, _, 0, _ => .nil
  | _, _, _ + 1, .nil => .nil
  | _, _, n + 1, .cons h r => .cons h (Reps.take n r)
theorem Reps.reverse : ∀ {vs : List V} {ts : List T}, Reps K F vs ts → Reps K F vs.reverse ts.reverse
  | _, _, .nil => .nil
  | _, _, .cons h r => by
    rw [List.reverse_cons, List.reverse_cons]
    exact (Reps.reverse r).append (.cons h .nil)
theorem Reps.ints : ∀ {vs : List V} {ns : List Int}, Reps K F vs (ns.map T.int) → vs = ns.map V.int
  | _, [], .nil => rfl
  | _, n :: ns, .cons h r => by
    cases h
    rw [Reps.ints (ns := ns) r]
    rfl
theorem Reps.of_ints : ∀ (ns : List Int), Reps K F (ns.map V.int) (ns.map T.int)
  | [] => .nil
  | n :: ns => .cons (.int n) (Reps.of_ints ns)
theorem Reps.strs : ∀ {vs : List V} {ns : List Str}, Reps K F vs (ns.map T.str) → vs = ns.map V.str
  | _, [], .nil => rfl
  | _, n :: ns, .cons h r => by
    cases h
    rw [Reps.strs (ns := ns) r]
    rfl
theorem Reps.of_strs : ∀ (ns : List Str), Reps K F (ns.map V.str) (ns.map T.str)
  | [] => .nil
  | n :: ns => .cons (.str n) (Reps.of_strs ns)
theorem Reps.bls : ∀ {vs : List V} {ns : List Bool}, Reps K F vs (ns.map T.bl) → vs = ns.map V.bl
  | _, [], .nil => rfl
  | _, n :: ns, .cons h r => by
    cases h
    rw [Reps.bls (ns := ns) r]
    rfl
theorem RepKV.length : ∀ {vs : List (Key × V)} {ts : List (Key × T)}, RepKV K F vs ts → vs.length = ts.length
  | _, _, .nil => rfl
  | _, _, .cons _ r => congrArg (· + 1) (RepKV.length r)
end

/-- an instance's attributes -/
def RepFs (K : PySem.W.Frag) (F : Hp) (fs : List (Str × V)) (ts : List (Str × T)) : Prop := Paired (fun (p : Str × V) (q : Str × T) => p.1 = q.1 ∧ Rep K F p.2 q.2) fs ts
theorem RepFs.mono {K : PySem.W.Frag} {F F' : Hp} (x : Ex F F') {fs : List (Str × V)} {ts : List (Str × T)} (h : RepFs K F fs ts) : RepFs K F' fs ts :=
  Paired.mapP h fun _ _ q => ⟨q.1, q.2.mono x⟩
inductive RepO (K : PySem.W.Frag) (F : Hp) : HO → MO → Prop
  | lst {vs : List V} {ts : List T} : Reps K F vs ts → RepO K F (.lst vs) (.lst ts)
  | dct {vs : List (Key × V)} {ts : List (Key × T)} : RepKV K F vs ts → RepO K F (.dK vs) (.dct ts)
  | ins {C dx : Addr} {fs : List (Str × V)} {ts : List (Str × T)} : RepFs K F fs ts → RepO K F (.ins C dx fs) (.ins C dx ts)
theorem RepO.mono {K : PySem.W.Frag} {F F' : Hp} (x : Ex F F') {o : HO} {m : MO} (h : RepO K F o m) : RepO K F' o m := by
  cases h with
  | lst h => exact .lst (h.mono x)
  | dct h => exact .dct (h.mono x)
  | ins h => exact .ins (h.mono x)

/-- the heap H in three parts: F never changes, O is nobody's here, M may change -/
structure Wd (K : PySem.W.Frag) (F O H : Hp) (M : Mp) : Prop where
  sub : ∀ a o, F a = some o → H a = some o
  oth : ∀ a o, O a = some o → H a = some o ∧ F a = none
  mo : ∀ a m, M a = some m → F a = none ∧ O a = none ∧ ∃ o, H a = some o ∧ RepO K F o m

section
variable {K : PySem.W.Frag} {F O H : Hp} {M : Mp} {p : Addr}
theorem Wd.fF (w : Wd K F O H M) (h : H p = none) : F p = none := by
  cases e : F p with
  | none => rfl
  | some o => rw [w.sub p o e] at h; cases h
theorem Wd.fO (w : Wd K F O H M) (h : H p = none) : O p = none := by
  cases e : O p with
  | none => rfl
  | some o => rw [(w.oth p o e).1] at h; cases h
theorem Wd.fM (w : Wd K F O H M) (h : H p = none) : M p = none := by
  cases e : M p with
  | none => rfl
  | some o => obtain ⟨_, _, u, e2, _⟩ := w.mo p o e; rw [e2] at h; cases h
/-- a new object that never changes -/
theorem Wd.newF (w : Wd K F O H M) (h : H p = none) (o : HO) : Wd K (upd F p o) O (upd H p o) M := by
  have x : Ex F (upd F p o) := Ex.upd (w.fF h)
  refine ⟨fun a u e => ?_, fun a u e => ?_, fun a m e => ?_⟩
  · by_cases hp : a = p
    · subst hp
      rw [upd_same] at e ⊢
      exact e
    · rw [upd_ne hp] at e ⊢
      exact w.sub a u e
  · obtain ⟨e1, e2⟩ := w.oth a u e
    have hp : a ≠ p := ne_of_none e1 h
    rw [upd_ne hp, upd_ne hp]
    exact ⟨e1, e2⟩
  · obtain ⟨e1, e2, u, e3, r⟩ := w.mo a m e
    have hp : a ≠ p := ne_of_none e3 h
    refine ⟨by rw [upd_ne hp]; exact e1, e2, u, by rw [upd_ne hp]; exact e3, r.mono x⟩
/-- a new object that may change -/
theorem Wd.newM (w : Wd K F O H M) (h : H p = none) {o : HO} {m : MO} (r : RepO K F o m) : Wd K F O (upd H p o) (mset M p m) := by
  refine ⟨fun a u e => ?_, fun a u e => ?_, fun a m' e => ?_⟩
  · have e1 := w.sub a u e
    rw [upd_ne (ne_of_none e1 h)]
    exact e1
  · obtain ⟨e1, e2⟩ := w.oth a u e
    rw [upd_ne (ne_of_none e1 h)]
    exact ⟨e1, e2⟩
  · by_cases hp : a = p
    · subst hp
      rw [mset_same] at e
      cases e
      exact ⟨w.fF h, w.fO h, o, upd_same, r⟩
    · rw [mset_ne hp] at e
      obtain ⟨e1, e2, u, e3, q⟩ := w.mo a m' e
      exact ⟨e1, e2, u, by rw [upd_ne hp]; exact e3, q⟩
/-- what may change changes -/
theorem Wd.write (w : Wd K F O H M) {m0 : MO} (h : M p = some m0) {o : HO} {m : MO} (r : RepO K F o m) : Wd K F O (upd H p o) (mset M p m) := by
  obtain ⟨f0, o0, _⟩ := w.mo p m0 h
  refine ⟨fun a u e => ?_, fun a u e => ?_, fun a m' e => ?_⟩
  · rw [upd_ne (ne_of_none e f0)]
    exact w.sub a u e
  · rw [upd_ne (ne_of_none e o0)]
    exact w.oth a u e
  · by_cases hp : a = p
    · subst hp
      rw [mset_same] at e
      cases e
      exact ⟨f0, o0, o, upd_same, r⟩
    · rw [mset_ne hp] at e
      obtain ⟨e1, e2, u, e3, q⟩ := w.mo a m' e
      exact ⟨e1, e2, u, by rw [upd_ne hp]; exact e3, q⟩
/-- what no longer changes: a list, a dict is from now on a tree -/
theorem Wd.freeze (w : Wd K F O H M) {m0 : MO} (h : M p = some m0) {o : HO} (ho : H p = some o) : Wd K (upd F p o) O H (mdel M p) := by
  obtain ⟨f0, o0, _⟩ := w.mo p m0 h
  refine ⟨fun a u e => ?_, fun a u e => ?_, fun a m' e => ?_⟩
  · by_cases hp : a = p
    · subst hp
      rw [upd_same] at e
      cases e
      exact ho
    · rw [upd_ne hp] at e
      exact w.sub a u e
  · obtain ⟨e1, e2⟩ := w.oth a u e
    refine ⟨e1, ?_⟩
    rw [upd_ne (ne_of_none e o0)]
    exact e2
  · by_cases hp : a = p
    · subst hp
      unfold mdel at e
      rw [if_pos rfl] at e
      cases e
    · unfold mdel at e
      rw [if_neg hp] at e
      obtain ⟨e1, e2, u, e3, q⟩ := w.mo a m' e
      exact ⟨by rw [upd_ne hp]; exact e1, e2, u, e3, q.mono (Ex.upd f0)⟩
end

abbrev SS := List (Option T)
def SlR (K : PySem.W.Frag) (F : Hp) (σ : L2.St) (ss : SS) : Prop := σ.length = ss.length ∧ ∀ (i : Nat) (t : T), ss[i]? = some (some t) → ∃ v, σ[i]? = some (some v) ∧ Rep K F v t
theorem SlR.mono {K : PySem.W.Frag} {F F' : Hp} (x : Ex F F') {σ : L2.St} {ss : SS} (h : SlR K F σ ss) : SlR K F' σ ss :=
  ⟨h.1, fun i t e => let ⟨v, e1, r⟩ := h.2 i t e; ⟨v, e1, r.mono x⟩⟩
theorem SlR.set {K : PySem.W.Frag} {F : Hp} {σ : L2.St} {ss : SS} (h : SlR K F σ ss) {v : V} {t : T} (r : Rep K F v t) (i : Nat) : SlR K F (σ.set i (some v)) (ss.set i (some t)) := by
  refine ⟨by rw [List.length_set, List.length_set]; exact h.1, fun j u e => ?_⟩
  rw [List.getElem?_set] at e ⊢
  by_cases hij : i = j
  · subst hij
    rw [if_pos rfl] at e ⊢
    by_cases hl : i < ss.length
    · rw [if_pos hl] at e
      rw [if_pos (h.1 ▸ hl)]
      cases e
      exact ⟨v, rfl, r⟩
    · rw [if_neg hl] at e
      cases e
  · rw [if_neg hij] at e ⊢
    exact h.2 j u e
theorem SlR.unset {K : PySem.W.Frag} {F : Hp} {σ : L2.St} {ss : SS} (h : SlR K F σ ss) (i : Nat) : SlR K F (σ.set i none) (ss.set i none) := by
  refine ⟨by rw [List.length_set, List.length_set]; exact h.1, fun j u e => ?_⟩
  rw [List.getElem?_set] at e ⊢
  by_cases hij : i = j
  · subst hij
    rw [if_pos rfl] at e
    split at e <;> cases e
  · rw [if_neg hij] at e ⊢
    exact h.2 j u e
def wipe3 (ss : SS) : List Nat → SS
  | [] => ss
  | v :: vs => (wipe3 ss vs).set v none
theorem SlR.wipe {K : PySem.W.Frag} {F : Hp} {σ : L2.St} {ss : SS} (h : SlR K F σ ss) : ∀ vs : List Nat, SlR K F (wipe σ vs) (wipe3 ss vs)
  | [] => h
  | v :: vs => (SlR.wipe h vs).unset v

abbrev QE := T → Mp → Prop
abbrev E3 := SS → Mp → QE → Prop
abbrev T3 := SS → Mp → (Bool → Mp → Prop) → Prop
abbrev A3 := SS → Mp → (List T → Mp → Prop) → Prop
structure Ends3 where
  nx : SS → Mp → Prop
  rt : QE
  bk : SS → Mp → Prop := fun _ _ => False
  ct : SS → Mp → Prop := fun _ _ => False
abbrev S3 := Ends3 → SS → Mp → Prop

/-- what follows a value, from what follows its tree -/
def LkV (K : PySem.W.Frag) (F O : Hp) (Q3 : QE) (Q : VK) : Prop := ∀ (v : V) (H' F' : Hp) (M' : Mp) (t : T), Ex F F' → Wd K F' O H' M' → Rep K F' v t → Q3 t M' → Q v H'
def LkS (K : PySem.W.Frag) (F O : Hp) (Q3 : SS → Mp → Prop) (Q : L2.St → Hp → Prop) : Prop :=
  ∀ (σ' : L2.St) (H' F' : Hp) (M' : Mp) (ss' : SS), Ex F F' → Wd K F' O H' M' → SlR K F' σ' ss' → Q3 ss' M' → Q σ' H'
structure Lnk (K : PySem.W.Frag) (F O : Hp) (D3 : Ends3) (D : Ends) : Prop where
  nx : LkS K F O D3.nx D.nx
  rt : LkV K F O D3.rt D.rt
  bk : LkS K F O D3.bk D.bk
  ct : LkS K F O D3.ct D.ct
theorem LkV.mono {K : PySem.W.Frag} {F F' O : Hp} (x : Ex F F') {Q3 : QE} {Q : VK} (h : LkV K F O Q3 Q) : LkV K F' O Q3 Q := fun v H' G M' t y => h v H' G M' t (x.trans y)
theorem LkS.mono {K : PySem.W.Frag} {F F' O : Hp} (x : Ex F F') {Q3 : SS → Mp → Prop} {Q : L2.St → Hp → Prop} (h : LkS K F O Q3 Q) : LkS K F' O Q3 Q := fun v H' G M' t y => h v H' G M' t (x.trans y)
theorem Lnk.mono {K : PySem.W.Frag} {F F' O : Hp} (x : Ex F F') {D3 : Ends3} {D : Ends} (h : Lnk K F O D3 D) : Lnk K F' O D3 D := ⟨h.nx.mono x, h.rt.mono x, h.bk.mono x, h.ct.mono x⟩

def liftE (K : PySem.W.Frag) (te : E3) : TE := fun σ H Q => ∃ F O M ss Q3, Wd K F O H M ∧ SlR K F σ ss ∧ te ss M Q3 ∧ LkV K F O Q3 Q
def liftT (K : PySem.W.Frag) (tt : T3) : TT := fun σ H Q => ∃ F O M ss Q3, Wd K F O H M ∧ SlR K F σ ss ∧ tt ss M Q3 ∧ ∀ (b : Bool) (H' F' : Hp) (M' : Mp), Ex F F' → Wd K F' O H' M' → Q3 b M' → Q b H'
def liftA (K : PySem.W.Frag) (ta : A3) : TA := fun σ H Q => ∃ F O M ss Q3, Wd K F O H M ∧ SlR K F σ ss ∧ ta ss M Q3 ∧ ∀ (vs : List V) (H' F' : Hp) (M' : Mp) (ts : List T), Ex F F' → Wd K F' O H' M' → Reps K F' vs ts → Q3 ts M' → Q vs H'
def liftS (K : PySem.W.Frag) (ts : S3) : TS := fun D σ H => ∃ F O M ss D3, Wd K F O H M ∧ SlR K F σ ss ∧ ts D3 ss M ∧ Lnk K F O D3 D

abbrev DE (X : Cx) (e : Expr) (te : E3) : Prop := PE X e (liftE X.K te)
abbrev DT (X : Cx) (e : Expr) (tt : T3) : Prop := PT X e (liftT X.K tt)
abbrev DW (X : Cx) (e : Expr) (tt : T3) : Prop := PW X e (liftT X.K tt)
abbrev DA (X : Cx) (es : List Expr) (ta : A3) : Prop := PA X es (liftA X.K ta)
abbrev DK (X : Cx) (es : List Keyword) (ta : A3) : Prop := PK X es (liftA X.K ta)
abbrev DS (X : Cx) (st : Stmt) (ts : S3) : Prop := PS X st (liftS X.K ts)
abbrev DSs (X : Cx) (st : List Stmt) (ts : S3) : Prop := PSs X st (liftS X.K ts)

theorem pe_weak {X : Cx} {e : Expr} {t t' : TE} (h : PE X e t) (i : ∀ σ H Q, t' σ H Q → t σ H Q) : PE X e t' := ⟨fun pins s σ H Q I q => h.run pins s σ H Q I (i σ H Q q)⟩
theorem pt_weak {X : Cx} {e : Expr} {t t' : TT} (h : PT X e t) (i : ∀ σ H Q, t' σ H Q → t σ H Q) : PT X e t' := ⟨fun pins s σ H Q I q => h.run pins s σ H Q I (i σ H Q q)⟩
theorem pw_weak {X : Cx} {e : Expr} {t t' : TT} (h : PW X e t) (i : ∀ σ H Q, t' σ H Q → t σ H Q) : PW X e t' := ⟨fun wh pins s σ H Q I q => h.run wh pins s σ H Q I (i σ H Q q)⟩
theorem pa_weak {X : Cx} {e : List Expr} {t t' : TA} (h : PA X e t) (i : ∀ σ H Q, t' σ H Q → t σ H Q) : PA X e t' := ⟨fun po pins s σ H Q I q => h.run po pins s σ H Q I (i σ H Q q)⟩
theorem pk_weak {X : Cx} {e : List Keyword} {t t' : TA} (h : PK X e t) (i : ∀ σ H Q, t' σ H Q → t σ H Q) : PK X e t' := ⟨fun po pins s σ H Q I q => h.run po pins s σ H Q I (i σ H Q q)⟩
theorem ps_weak {X : Cx} {e : Stmt} {t t' : TS} (h : PS X e t) (i : ∀ D σ H, t' D σ H → t D σ H) : PS X e t' := ⟨fun pins s σ H D I q => h.run pins s σ H D I (i D σ H q)⟩
theorem pss_weak {X : Cx} {e : List Stmt} {t t' : TS} (h : PSs X e t) (i : ∀ D σ H, t' D σ H → t D σ H) : PSs X e t' := ⟨fun pins s σ H D I q => h.run pins s σ H D I (i D σ H q)⟩

section
variable {X : Cx} {a b c e : Expr} {es : List Expr} {te ta tb : E3} {tt tu : T3} {tl : A3} {pos : Pos}
/-! ### names, constants -/
def dVar (i : Nat) : E3 := fun ss M Q => match ss[i]? with
  | some (some t) => Q t M
  | _ => False
def dC (t : T) : E3 := fun _ M Q => Q t M
theorem d_var (i : Nat) {x : Str} {pos : Pos} (hN : X.N[i]? = some x := by rfl) (hv : Vis X.env.scope x := by first | exact Or.inl rfl | exact Or.inr (Or.inl rfl) | exact Or.inr (Or.inr rfl))
    (hd : (x == ("__debug__" : Str)) = false := by decide) (hcd : (x == ("__classdict__" : Str)) = false := by decide) : DE X (.Name x pos) (dVar i) := by
  refine pe_weak (pe_var hN hv hd hcd) ?_
  rintro σ H Q ⟨F, O, M, ss, Q3, w, sl, q, k⟩
  unfold dVar at q
  split at q
  · rename_i t e
    obtain ⟨v, e1, r⟩ := sl.2 i t e
    exact ⟨v, e1, k v H F M t .refl w r q⟩
  · exact q.elim
theorem d_const {e : Expr} {v : V} {t : T} (h : PE X e (tC v)) (r : ∀ F, Rep X.K F v t) : DE X e (dC t) := by
  refine pe_weak h ?_
  rintro σ H Q ⟨F, O, M, ss, Q3, w, sl, q, k⟩
  exact k v H F M t .refl w (r F) q
theorem d_int {i j pos} : DE X (.Constant (.int i) j pos) (dC (.int i)) := d_const pe_int fun _ => .int i
theorem d_bl {i j pos} : DE X (.Constant (.bool i) j pos) (dC (.bl i)) := d_const pe_bl fun _ => .bl i
theorem d_non {j pos} : DE X (.Constant .none j pos) (dC .non) := d_const pe_non fun _ => .non
theorem d_str {i j pos} : DE X (.Constant (.str i) j pos) (dC (.str i)) := d_const pe_str fun _ => .str i
/-- a module's constant -/
theorem d_glob {x : Str} {v : V} {t : T} {u : Value} {pos : Pos} (hg : Gl X x) (hm : X.mg x = some u) (rv : RelV v u) (r : ∀ F, Rep X.K F v t) (hd : (x == ("__debug__" : Str)) = false := by decide) : DE X (.Name x pos) (dC t) :=
  d_const (pe_glob hg hm rv hd) r
/-- a built-in as a value (a type) -/
theorem d_bltn {x : Str} {v : V} {u : Value} {pos : Pos} (hg : Gl X x) (hm : X.mg x = none) (hv : bootBuiltins x = some u) (r : RelV v u) (hn : x ≠ "__name__" := by decide) (hd : (x == ("__debug__" : Str)) = false := by decide) : DE X (.Name x pos) (dC (.raw v)) :=
  d_const (pe_bltn hg hm hv r hn hd) fun _ => .raw v

/-! ### argument lists, displays -/
def dNil : A3 := fun _ M Q => Q [] M
def dCons (te : E3) (tl : A3) : A3 := fun ss M Q => te ss M fun t M1 => tl ss M1 fun ts M2 => Q (t :: ts) M2
theorem da_nil : DA X [] dNil := by
  refine pa_weak pa_nil ?_
  rintro σ H Q ⟨F, O, M, ss, Q3, w, sl, q, k⟩
  exact k [] H F M [] .refl w .nil q
theorem lift_cons {K : PySem.W.Frag} : ∀ σ H Q, liftA K (dCons te tl) σ H Q → tCons (liftE K te) (liftA K tl) σ H Q := by
  rintro σ H Q ⟨F, O, M, ss, Q3, w, sl, q, k⟩
  refine ⟨F, O, M, ss, _, w, sl, q, ?_⟩
  intro v H1 F1 M1 t x1 w1 r1 q1
  refine ⟨F1, O, M1, ss, _, w1, sl.mono x1, q1, ?_⟩
  intro vs H2 F2 M2 ts x2 w2 r2 q2
  exact k _ H2 F2 M2 _ (x1.trans x2) w2 (.cons (r1.mono x2) r2) q2
theorem da_cons (ha : DE X e te) (hr : DA X es tl) (hs : starEach (e :: es) X.env = (false, eval e X.env) :: starEach es X.env := by rfl) : DA X (e :: es) (dCons te tl) :=
  pa_weak (pa_cons ha hr hs) lift_cons
theorem dk_nil : DK X [] dNil := by
  refine pk_weak pk_nil ?_
  rintro σ H Q ⟨F, O, M, ss, Q3, w, sl, q, k⟩
  exact k [] H F M [] .refl w .nil q
theorem dk_cons {nm : Option Str} {kpos : Pos} {kws : List Keyword} (ha : DE X e te) (hr : DK X kws tl) : DK X (⟨nm, e, kpos⟩ :: kws) (dCons te tl) :=
  pk_weak (pk_cons ha hr) lift_cons
def dTup (tl : A3) : E3 := fun ss M Q => tl ss M fun ts M1 => ts.length ≤ sizeLine ∧ Q (.tup ts) M1
def dLst (tl : A3) : E3 := fun ss M Q => tl ss M fun ts M1 => ts.length ≤ sizeLine ∧ Q (.lst ts) M1
/-- a list that will change -/
def dLstM (tl : A3) : E3 := fun ss M Q => tl ss M fun ts M1 => ts.length ≤ sizeLine ∧ ∀ p, M1 p = none → Q (.raw (.ref p)) (mset M1 p (.lst ts))
theorem d_tup {x1} (h : DA X es tl) : DE X (.Tuple es x1 pos) (dTup tl) := by
  refine pe_weak (pe_tup h) ?_
  rintro σ H Q ⟨F, O, M, ss, Q3, w, sl, q, k⟩
  refine ⟨F, O, M, ss, _, w, sl, q, ?_⟩
  rintro vs H1 F1 M1 ts x1 w1 r1 ⟨z, q1⟩
  refine ⟨r1.length ▸ z, fun p hp => ?_⟩
  have x2 : Ex F1 (upd F1 p (.tup vs)) := .upd (w1.fF hp)
  exact k _ _ _ M1 _ (x1.trans x2) (w1.newF hp _) (.tup (.of upd_same) (r1.mono x2)) q1
theorem d_lst (h : DA X es tl) : DE X (.List es pos) (dLst tl) := by
  refine pe_weak (pe_lst h) ?_
  rintro σ H Q ⟨F, O, M, ss, Q3, w, sl, q, k⟩
  refine ⟨F, O, M, ss, _, w, sl, q, ?_⟩
  rintro vs H1 F1 M1 ts x1 w1 r1 ⟨z, q1⟩
  refine ⟨r1.length ▸ z, fun p hp => ?_⟩
  have x2 : Ex F1 (upd F1 p (.lst vs)) := .upd (w1.fF hp)
  exact k _ _ _ M1 _ (x1.trans x2) (w1.newF hp _) (.lst upd_same (r1.mono x2)) q1
theorem d_lstM (h : DA X es tl) : DE X (.List es pos) (dLstM tl) := by
  refine pe_weak (pe_lst h) ?_
  rintro σ H Q ⟨F, O, M, ss, Q3, w, sl, q, k⟩
  refine ⟨F, O, M, ss, _, w, sl, q, ?_⟩
  rintro vs H1 F1 M1 ts x1 w1 r1 ⟨z, q1⟩
  refine ⟨r1.length ▸ z, fun p hp => ?_⟩
  exact k _ _ _ _ _ x1 (w1.newM hp (.lst r1)) (.raw _) (q1 p (w1.fM hp))

/-! ### what does not touch the heap: operators on flat values -/
/-- an operation that asks something of two flat trees -/
def dOp2 (R : T → T → QE → Mp → Prop) (ta tb : E3) : E3 := fun ss M Q => ta ss M fun x M1 => tb ss M1 fun y M2 => R x y Q M2
def dOp1 (R : T → QE → Mp → Prop) (ta : E3) : E3 := fun ss M Q => ta ss M fun x M1 => R x Q M1
/-- a two-place operation's rule carried to trees -/
def OpD (K : PySem.W.Frag) (r : R2) (R : T → T → QE → Mp → Prop) : Prop :=
  ∀ (F O H : Hp) (M : Mp) (x y : V) (t u : T) (Q3 : QE) (Q : VK), Wd K F O H M → Rep K F x t → Rep K F y u → R t u Q3 M → LkV K F O Q3 Q → r x y H Q
def OpD1 (K : PySem.W.Frag) (r : V → Hp → VK → Prop) (R : T → QE → Mp → Prop) : Prop :=
  ∀ (F O H : Hp) (M : Mp) (x : V) (t : T) (Q3 : QE) (Q : VK), Wd K F O H M → Rep K F x t → R t Q3 M → LkV K F O Q3 Q → r x H Q
theorem lift_op2 {K : PySem.W.Frag} {r : R2} {R : T → T → QE → Mp → Prop} (h : OpD K r R) : ∀ σ H Q, liftE K (dOp2 R ta tb) σ H Q → tOp r (liftE K ta) (liftE K tb) σ H Q := by
  rintro σ H Q ⟨F, O, M, ss, Q3, w, sl, q, k⟩
  refine ⟨F, O, M, ss, _, w, sl, q, ?_⟩
  intro v H1 F1 M1 t x1 w1 r1 q1
  refine ⟨F1, O, M1, ss, _, w1, sl.mono x1, q1, ?_⟩
  intro u H2 F2 M2 t2 x2 w2 r2 q2
  exact h F2 O H2 M2 v u t t2 Q3 Q w2 (r1.mono x2) r2 q2 (k.mono (x1.trans x2))
theorem d_op {op : Operator} {r : R2} {R : T → T → QE → Mp → Prop} (ho : OpR X (binaryOp op) r) (h : OpD X.K r R) (ha : DE X a ta) (hb : DE X b tb) : DE X (.BinOp a op b pos) (dOp2 R ta tb) :=
  pe_weak (pe_op ho ha hb) (lift_op2 h)
theorem d_un {op : UnaryOp} {r : V → Hp → VK → Prop} {R : T → QE → Mp → Prop} (ho : UnR X (unaryOp op) r) (h : OpD1 X.K r R) (ha : DE X a ta) : DE X (.UnaryOp op a pos) (dOp1 R ta) := by
  refine pe_weak (pe_un ho ha) ?_
  rintro σ H Q ⟨F, O, M, ss, Q3, w, sl, q, k⟩
  refine ⟨F, O, M, ss, _, w, sl, q, ?_⟩
  intro v H1 F1 M1 t x1 w1 r1 q1
  exact h F1 O H1 M1 v t Q3 Q w1 r1 q1 (k.mono x1)
theorem d_cmp {op : CmpOp} {r : R2} {R : T → T → QE → Mp → Prop} (ho : OpR X (compareOp op) r) (h : OpD X.K r R) (ha : DE X a ta) (hb : DE X b tb) (hm : behindInMarks op b = false) : DE X (.Compare a [op] [b] pos) (dOp2 R ta tb) :=
  pe_weak (pe_cmpR ho ha hb hm) (lift_op2 h)
end
end L3

set_option maxHeartbeats 1000000
/-! L3C: operators over trees. -/
namespace L3
open PySem PySem.Spec PyProof.Rows L2

/-- what a bare reference shows now -/
def look (t : T) (M : Mp) : T := match t with
  | .raw (.ref a) => (match M a with
    | some (.lst xs) => .lst xs
    | some (.dct kvs) => .dic kvs
    | _ => .raw (.ref a))
  | t => t
/-- a value as it is read now -/
inductive Sees (K : PySem.W.Frag) (F H : Hp) : V → T → Prop
  | non : Sees K F H .non .non
  | bl (b : Bool) : Sees K F H (.bl b) (.bl b)
  | int (i : Int) : Sees K F H (.int i) (.int i)
  | str (x : Str) : Sees K F H (.str x) (.str x)
  | tup {a : Addr} {vs : List V} {ts : List T} : SqT K F a vs → Reps K F vs ts → Sees K F H (.ref a) (.tup ts)
  | lst {a : Addr} {vs : List V} {ts : List T} : H a = some (.lst vs) → Reps K F vs ts → Sees K F H (.ref a) (.lst ts)
  | scr {a : Addr} {vs : List V} {ts : List T} : SqL K H a vs → Reps K F vs ts → Sees K F H (.ref a) (.scr ts)
  | dic {a : Addr} {kvs : List (Key × V)} {kts : List (Key × T)} : H a = some (.dK kvs) → RepKV K F kvs kts → Sees K F H (.ref a) (.dic kts)
  | raw (v : V) : Sees K F H v (.raw v)
section
variable {K : PySem.W.Frag} {F O H : Hp} {M : Mp} {v : V} {t : T}
theorem Wd.ex (w : Wd K F O H M) : Ex F H := w.sub
theorem Rep.sees' (w : Wd K F O H M) (r : Rep K F v t) : Sees K F H v t := by
  cases r with
  | non => exact .non
  | bl b => exact .bl b
  | int i => exact .int i
  | str x => exact .str x
  | tup h r => exact .tup h r
  | lst h r => exact .lst (w.sub _ _ h) r
  | scr h r => exact .scr (w.ex.sqL h) r
  | dic h r => exact .dic (w.sub _ _ h) r
  | raw v => exact .raw v
theorem Rep.sees (w : Wd K F O H M) (r : Rep K F v t) : Sees K F H v (look t M) := by
  unfold look
  split
  · cases r
    rename_i a
    split
    · rename_i e
      obtain ⟨_, _, o, e2, q⟩ := w.mo a _ e
      cases q with
      | lst q => exact .lst e2 q
    · rename_i e
      obtain ⟨_, _, o, e2, q⟩ := w.mo a _ e
      cases q with
      | dct q => exact .dic e2 q
    · exact .raw _
  · exact r.sees' w
end

section
variable {X : Cx} {K : PySem.W.Frag}
/-! ### + - * // % ** -/
def oAdd (x y : T) (Q : QE) (M : Mp) : Prop := match look x M, look y M with
  | .int i, .int j => Q (.int (i + j)) M
  | .str a, .str b => a.length + b.length ≤ sizeLine ∧ Q (.str (a ++ b)) M
  | .tup xs, .tup ys => xs.length + ys.length ≤ sizeLine ∧ Q (.tup (xs ++ ys)) M
  | .lst xs, .lst ys => xs.length + ys.length ≤ sizeLine ∧ Q (.lst (xs ++ ys)) M
  | _, _ => False

theorem fin_flat {F O H : Hp} {M : Mp} {Q3 : QE} {Q : VK} (w : Wd K F O H M) (k : LkV K F O Q3 Q) {v : V} {t : T} (r : Rep K F v t) (q : Q3 t M) : Q v H := k v H F M t .refl w r q
theorem fin_new {F O H : Hp} {M : Mp} {Q3 : QE} {Q : VK} (w : Wd K F O H M) (k : LkV K F O Q3 Q) {o : HO} {t : T} (r : ∀ F' p, Ex F F' → F' p = some o → Rep K F' (.ref p) t) (q : Q3 t M) : ∀ p, H p = none → Q (.ref p) (upd H p o) := by
  intro p hp
  have x : Ex F (upd F p o) := .upd (w.fF hp)
  exact k _ _ _ M t x (w.newF hp o) (r _ p x upd_same) q
theorem od_add : OpD K (fun x y H Q => rI0 (fun i j => .int (i + j)) x y H Q ∨ (∃ i j, x = .str i ∧ y = .str j ∧ i.length + j.length ≤ sizeLine ∧ Q (.str (i ++ j)) H) ∨ rCatA K x y H Q ∨ rCat x y H Q) oAdd := by
  intro F O H M x y t u Q3 Q w rx ry q k
  have sx := rx.sees w
  have sy := ry.sees w
  unfold oAdd at q
  split at q
  · rename_i i j e1 e2
    rw [e1] at sx
    rw [e2] at sy
    cases sx; cases sy
    exact .inl ⟨i, j, rfl, rfl, fin_flat w k (.int _) q⟩
  · rename_i i j e1 e2
    rw [e1] at sx
    rw [e2] at sy
    cases sx; cases sy
    exact .inr (.inl ⟨i, j, rfl, rfl, q.1, fin_flat w k (.str _) q.2⟩)
  · rename_i xs ys e1 e2
    rw [e1] at sx
    rw [e2] at sy
    cases sx with
    | tup hx px =>
    cases sy with
    | tup hy py =>
    rename_i a vs b us
    have e3 := px.length
    have e4 := py.length
    refine .inr (.inr (.inl ⟨a, b, vs, us, rfl, rfl, w.ex.sqT hx, w.ex.sqT hy, by omega, fun z => ?_, fun _ z => ?_, fun _ _ => ?_⟩))
    · subst z
      cases px
      exact fin_flat w k (.tup hy py) q.2
    · subst z
      cases py
      rw [List.append_nil] at q
      exact fin_flat w k (.tup hx px) q.2
    · exact fin_new w k (fun F' p x e => .tup (.of e) ((px.append py).mono x)) q.2
  · rename_i xs ys e1 e2
    rw [e1] at sx
    rw [e2] at sy
    cases sx with
    | lst hx px =>
    cases sy with
    | lst hy py =>
    rename_i a vs b us
    have e3 := px.length
    have e4 := py.length
    exact .inr (.inr (.inr ⟨a, b, vs, us, rfl, rfl, hx, hy, by omega, fin_new w k (fun F' p x e => .lst e ((px.append py).mono x)) q.2⟩))
  · exact q.elim

def oInt2 (C : Int → Int → Prop) (g : Int → Int → T) (x y : T) (Q : QE) (M : Mp) : Prop := match x, y with
  | .int i, .int j => C i j ∧ Q (g i j) M
  | _, _ => False
theorem od_int2 {C : Int → Int → Prop} {g : Int → Int → T} {g' : Int → Int → V} (hg : ∀ F i j, Rep K F (g' i j) (g i j)) : OpD K (rI C g') (oInt2 C g) := by
  intro F O H M x y t u Q3 Q w rx ry q k
  unfold oInt2 at q
  split at q
  · cases rx; cases ry
    exact ⟨_, _, rfl, rfl, q.1, fin_flat w k (hg _ _ _) q.2⟩
  · exact q.elim
def oSub : T → T → QE → Mp → Prop := fun x y Q M => match x, y with
  | .int i, .int j => Q (.int (i - j)) M
  | _, _ => False
theorem od_sub : OpD K (rI0 fun i j => .int (i - j)) oSub := by
  intro F O H M x y t u Q3 Q w rx ry q k
  unfold oSub at q
  split at q
  · cases rx; cases ry
    exact ⟨_, _, rfl, rfl, fin_flat w k (.int _) q⟩
  · exact q.elim
theorem op_mulI : OpR X (binaryOp .Mult) (rI IntMulOk fun i j => .int (i * j)) := opI fun _ _ _ _ _ _ _ hc q => mul_int q hc
theorem op_mulS : OpR X (binaryOp .Mult) (fun x y H Q => ∃ z n, x = .str z ∧ y = .int n ∧ MulOk z n ∧ Q (.str (Txt.mul z n)) H) := by
  intro pins s σ H x y v u Q I rx ry h
  obtain ⟨z, n, rfl, rfl, c, q⟩ := h
  obtain ⟨t, rfl⟩ := rx
  obtain ⟨t', rfl⟩ := ry
  exact SB.mul c fun t2 kk => ⟨.str _, H, I.tok _, ⟨_, rfl⟩, q⟩
def oMul : T → T → QE → Mp → Prop := fun x y Q M => match look x M, look y M with
  | .int i, .int j => IntMulOk i j ∧ Q (.int (i * j)) M
  | .str z, .int n => MulOk z n ∧ Q (.str (Txt.mul z n)) M
  | .lst xs, .int n => (-(2 ^ 63) ≤ n ∧ n < 2 ^ 63 ∧ xs.length * n.toNat ≤ sizeLine) ∧ Q (.lst (List.replicate n.toNat xs).flatten) M
  | _, _ => False
theorem Reps.rep {F : Hp} {vs : List V} {ts : List T} (r : Reps K F vs ts) : ∀ n : Nat, Reps K F (List.replicate n vs).flatten (List.replicate n ts).flatten
  | 0 => .nil
  | n + 1 => by
    rw [List.replicate_succ, List.replicate_succ, List.flatten_cons, List.flatten_cons]
    exact r.append (Reps.rep r n)
theorem od_mul : OpD K (fun x y H Q => rI IntMulOk (fun i j => .int (i * j)) x y H Q ∨ (∃ z n, x = .str z ∧ y = .int n ∧ MulOk z n ∧ Q (.str (Txt.mul z n)) H) ∨ rRep x y H Q) oMul := by
  intro F O H M x y t u Q3 Q w rx ry q k
  have sx := rx.sees w
  have sy := ry.sees w
  unfold oMul at q
  split at q
  · rename_i i j e1 e2
    rw [e1] at sx
    rw [e2] at sy
    cases sx; cases sy
    exact .inl ⟨i, j, rfl, rfl, q.1, fin_flat w k (.int _) q.2⟩
  · rename_i i j e1 e2
    rw [e1] at sx
    rw [e2] at sy
    cases sx; cases sy
    exact .inr (.inl ⟨i, j, rfl, rfl, q.1, fin_flat w k (.str _) q.2⟩)
  · rename_i xs n e1 e2
    rw [e1] at sx
    rw [e2] at sy
    cases sy
    cases sx with
    | lst hx px =>
    rename_i a vs
    have e3 := px.length
    obtain ⟨⟨h1, h2, h3⟩, q⟩ := q
    exact .inr (.inr ⟨a, n, vs, rfl, rfl, hx, h1, h2, e3 ▸ h3, fin_new w k (fun F' p x e => .lst e ((px.rep _).mono x)) q⟩)
  · exact q.elim
section
variable {a b c e : Expr} {es : List Expr} {te ta tb tc : E3} {tt tu : T3} {tl : A3} {pos : Pos}
theorem d_add (ha : DE X a ta) (hb : DE X b tb) : DE X (.BinOp a .Add b pos) (dOp2 oAdd ta tb) := d_op (op_add.or (op_add_str.or (op_catA.or op_cat))) od_add ha hb
theorem d_sub (ha : DE X a ta) (hb : DE X b tb) : DE X (.BinOp a .Sub b pos) (dOp2 oSub ta tb) := d_op op_sub od_sub ha hb
theorem d_mul (ha : DE X a ta) (hb : DE X b tb) : DE X (.BinOp a .Mult b pos) (dOp2 oMul ta tb) := d_op (op_mulI.or (op_mulS.or op_rep)) od_mul ha hb
def oFdiv : T → T → QE → Mp → Prop := oInt2 CDivW fun i j => .int (i / j)
def oMod : T → T → QE → Mp → Prop := oInt2 (fun _ j => 0 < j) fun i j => .int (i % j)
def oPow : T → T → QE → Mp → Prop := oInt2 CPow fun i j => .int (i ^ j.toNat)
theorem d_fdiv (ha : DE X a ta) (hb : DE X b tb) : DE X (.BinOp a .FloorDiv b pos) (dOp2 oFdiv ta tb) := d_op op_fdivW (od_int2 fun _ _ _ => .int _) ha hb
theorem d_mod (ha : DE X a ta) (hb : DE X b tb) : DE X (.BinOp a .Mod b pos) (dOp2 oMod ta tb) := d_op op_mod (od_int2 fun _ _ _ => .int _) ha hb
theorem d_pow (ha : DE X a ta) (hb : DE X b tb) : DE X (.BinOp a .Pow b pos) (dOp2 oPow ta tb) := d_op op_pow (od_int2 fun _ _ _ => .int _) ha hb
def oNeg : T → QE → Mp → Prop := fun x Q M => match x with
  | .int i => Q (.int (-i)) M
  | _ => False
theorem d_neg (ha : DE X a ta) : DE X (.UnaryOp .USub a pos) (dOp1 oNeg ta) := d_un un_neg (by
  intro F O H M x t Q3 Q w rx q k
  unfold oNeg at q
  split at q
  · cases rx
    exact ⟨_, rfl, fin_flat w k (.int _) q⟩
  · exact q.elim) ha

/-! ### comparisons -/
mutual
def T.py : T → Option PyData
  | .non => some .none
  | .bl b => some (.bool b)
  | .int i => some (.int i)
  | .str x => some (.str x)
  | .tup xs => (T.pys xs).map PyData.tuple
  | .lst xs => (T.pys xs).map PyData.list
  | .scr xs => (T.pys xs).map PyData.list
  | .dic kvs => (T.pyKV kvs).map PyData.dict
  | .raw _ => none
def T.pys : List T → Option (List PyData)
  | [] => some []
  | x :: xs => match T.py x, T.pys xs with
    | some d, some ds => some (d :: ds)
    | _, _ => none
def T.pyKV : List (Key × T) → Option (List (PyData × PyData))
  | [] => some []
  | (k, x) :: xs => match T.py x, T.pyKV xs with
    | some d, some ds => some ((match k with | .inl i => PyData.int i | .inr s => PyData.str s, d) :: ds)
    | _, _ => none
end
mutual
theorem Rep.dp {F : Hp} : ∀ {v : V} {t : T} {d : PyData}, Rep K F v t → t.py = some d → d.canLay0 = true → Dp K F v d
  | _, _, _, .non, e, _ => by cases e; exact .non
  | _, _, _, .bl b, e, _ => by cases e; exact .bl b
  | _, _, _, .int i, e, _ => by cases e; exact .int i
  | _, _, _, .str x, e, _ => by cases e; exact .str x
  | _, _, _, .tup h r, e, c => by
    rw [T.py] at e
    obtain ⟨ds, e1, e2⟩ := Option.map_eq_some_iff.mp e
    subst e2
    exact .tup h (Reps.dp r e1 (by simpa only [PyData.canLay0] using c))
  | _, _, _, .lst h r, e, c => by
    rw [T.py] at e
    obtain ⟨ds, e1, e2⟩ := Option.map_eq_some_iff.mp e
    subst e2
    exact .lst (.of h) (Reps.dp r e1 (by simpa only [PyData.canLay0] using c))
  | _, _, _, .scr h r, e, c => by
    rw [T.py] at e
    obtain ⟨ds, e1, e2⟩ := Option.map_eq_some_iff.mp e
    subst e2
    exact .lst h (Reps.dp r e1 (by simpa only [PyData.canLay0] using c))
  | _, _, _, .dic _ _, e, c => by
    rw [T.py] at e
    obtain ⟨ds, e1, e2⟩ := Option.map_eq_some_iff.mp e
    subst e2
    simp [PyData.canLay0] at c
  | _, _, _, .raw _, e, _ => by cases e
theorem Reps.dp {F : Hp} : ∀ {vs : List V} {ts : List T} {ds : List PyData}, Reps K F vs ts → T.pys ts = some ds → PyData.canLayAll0 ds = true → DpAll K F vs ds
  | _, _, _, .nil, e, _ => by cases e; exact .nil
  | _, _, _, .cons h r, e, c => by
    rw [T.pys] at e
    split at e
    · rename_i e1 e2
      cases e
      simp only [PyData.canLayAll0, Bool.and_eq_true] at c
      exact .cons (Rep.dp h e1 c.1) (Reps.dp r e2 c.2)
    · cases e
end
mutual
theorem Dp.mono {F F' : Hp} (x : Ex F F') : ∀ {v : V} {d : PyData}, Dp K F v d → Dp K F' v d
  | _, _, .non => .non
  | _, _, .bl b => .bl b
  | _, _, .int i => .int i
  | _, _, .str z => .str z
  | _, _, .lst h r => .lst (x.sqL h) (DpAll.mono x r)
  | _, _, .tup h r => .tup (x.sqT h) (DpAll.mono x r)
theorem DpAll.mono {F F' : Hp} (x : Ex F F') : ∀ {v : List V} {d : List PyData}, DpAll K F v d → DpAll K F' v d
  | _, _, .nil => .nil
  | _, _, .cons h r => .cons (Dp.mono x h) (DpAll.mono x r)
end
theorem Sees.dp {F O H : Hp} {M : Mp} (w : Wd K F O H M) {v : V} {t : T} {d : PyData} (r : Sees K F H v t) (e : t.py = some d) (c : d.canLay0 = true) : Dp K H v d := by
  cases r with
  | non => cases e; exact .non
  | bl b => cases e; exact .bl b
  | int i => cases e; exact .int i
  | str x => cases e; exact .str x
  | tup h r => exact Dp.mono w.ex (Rep.dp (.tup h r) e c)
  | lst h r =>
    rw [T.py] at e
    obtain ⟨ds, e1, e2⟩ := Option.map_eq_some_iff.mp e
    subst e2
    exact .lst (.of h) (DpAll.mono w.ex (Reps.dp r e1 (by simpa only [PyData.canLay0] using c)))
  | scr h r =>
    rw [T.py] at e
    obtain ⟨ds, e1, e2⟩ := Option.map_eq_some_iff.mp e
    subst e2
    exact .lst h (DpAll.mono w.ex (Reps.dp r e1 (by simpa only [PyData.canLay0] using c)))
  | dic h r =>
    rw [T.py] at e
    obtain ⟨ds, e1, e2⟩ := Option.map_eq_some_iff.mp e
    subst e2
    simp [PyData.canLay0] at c
  | raw v => cases e
/-- == of flat values -/
def scalT : T → T → Option Bool
  | .non, .non => some true
  | .non, .int _ => some false | .int _, .non => some false
  | .non, .bl _ => some false | .bl _, .non => some false
  | .non, .str _ => some false | .str _, .non => some false
  | .int i, .int j => some (decide (i = j))
  | .bl i, .bl j => some (decide (i = j))
  | .str i, .str j => some (decide (i = j))
  | .int _, .str _ => some false | .str _, .int _ => some false
  | .bl _, .str _ => some false | .str _, .bl _ => some false
  | _, _ => none
theorem scalT_ok {F : Hp} {x y : V} {t u : T} {b : Bool} (rx : Rep K F x t) (ry : Rep K F y u) (h : scalT t u = some b) : scal x y = true ∧ decide (x = y) = b := by
  unfold scalT at h
  split at h <;> first | (cases h; done) | (cases rx; cases ry; cases h; refine ⟨rfl, ?_⟩; simp)
def oEqB (neg : Bool) (x y : T) (Q : QE) (M : Mp) : Prop := match scalT x y with
  | some b => Q (.bl (if neg then !b else b)) M
  | none => match (look x M).py, (look y M).py with
    | some d, some e => SeqAt.shaped d = true ∧ SeqAt.shaped e = true ∧ Q (.bl (if neg then !PyData.eqv d e else PyData.eqv d e)) M
    | _, _ => False
theorem od_eq : OpD K (fun x y H Q => rEq x y H Q ∨ rEqD K x y H Q) (oEqB false) := by
  intro F O H M x y t u Q3 Q w rx ry q k
  unfold oEqB at q
  split at q
  · rename_i b e
    obtain ⟨h1, h2⟩ := scalT_ok rx ry e
    exact .inl ⟨h1, h2 ▸ fin_flat w k (.bl _) q⟩
  · split at q
    · rename_i d e e1 e2
      obtain ⟨s1, s2, q⟩ := q
      exact .inr ⟨d, e, (rx.sees w).dp w e1 (SeqAt.canLay_of_shaped s1), (ry.sees w).dp w e2 (SeqAt.canLay_of_shaped s2), s1, s2, fin_flat w k (.bl _) q⟩
    · exact q.elim
theorem od_ne : OpD K (fun x y H Q => rNe x y H Q ∨ rNeD K x y H Q) (oEqB true) := by
  intro F O H M x y t u Q3 Q w rx ry q k
  unfold oEqB at q
  split at q
  · rename_i b e
    obtain ⟨h1, h2⟩ := scalT_ok rx ry e
    exact .inl ⟨h1, h2 ▸ fin_flat w k (.bl _) q⟩
  · split at q
    · rename_i d e e1 e2
      obtain ⟨s1, s2, q⟩ := q
      exact .inr ⟨d, e, (rx.sees w).dp w e1 (SeqAt.canLay_of_shaped s1), (ry.sees w).dp w e2 (SeqAt.canLay_of_shaped s2), s1, s2, fin_flat w k (.bl _) q⟩
    · exact q.elim
theorem d_eq (hu : X.A.units + 64 < cLine) (ha : DE X a ta) (hb : DE X b tb) : DE X (.Compare a [.Eq] [b] pos) (dOp2 (oEqB false) ta tb) := d_cmp (op_eq.or (op_eqD hu)) od_eq ha hb (nomark _)
theorem d_ne (hu : X.A.units + 64 < cLine) (ha : DE X a ta) (hb : DE X b tb) : DE X (.Compare a [.NotEq] [b] pos) (dOp2 (oEqB true) ta tb) := d_cmp (op_ne.or (op_neD hu)) od_ne ha hb (nomark _)
/-- order: ints, texts -/
def oOrd (f : Int → Int → Bool) (g : Str → Str → Bool) (x y : T) (Q : QE) (M : Mp) : Prop := match x, y with
  | .int i, .int j => Q (.bl (f i j)) M
  | .str i, .str j => Q (.bl (g i j)) M
  | _, _ => False
theorem od_ord {f : Int → Int → Bool} {g : Str → Str → Bool} : OpD K (fun x y H Q => rI0 (fun i j => .bl (f i j)) x y H Q ∨ ∃ i j, x = .str i ∧ y = .str j ∧ Q (.bl (g i j)) H) (oOrd f g) := by
  intro F O H M x y t u Q3 Q w rx ry q k
  unfold oOrd at q
  split at q
  · cases rx; cases ry
    exact .inl ⟨_, _, rfl, rfl, fin_flat w k (.bl _) q⟩
  · cases rx; cases ry
    exact .inr ⟨_, _, rfl, rfl, fin_flat w k (.bl _) q⟩
  · exact q.elim
def ltS (i j : Str) : Bool := decide (i.cps.toList < j.cps.toList)
def oLt := oOrd (fun i j => decide (i < j)) ltS
def oLe := oOrd (fun i j => decide (i ≤ j)) fun i j => !ltS j i
def oGt := oOrd (fun i j => decide (j < i)) fun i j => ltS j i
def oGe := oOrd (fun i j => decide (j ≤ i)) fun i j => !ltS i j
theorem d_lt (ha : DE X a ta) (hb : DE X b tb) : DE X (.Compare a [.Lt] [b] pos) (dOp2 oLt ta tb) := d_cmp (op_lt.or op_lt_str) od_ord ha hb (nomark _)
theorem d_le (ha : DE X a ta) (hb : DE X b tb) : DE X (.Compare a [.LtE] [b] pos) (dOp2 oLe ta tb) := d_cmp (op_le.or op_le_str) od_ord ha hb (nomark _)
theorem d_gt (ha : DE X a ta) (hb : DE X b tb) : DE X (.Compare a [.Gt] [b] pos) (dOp2 oGt ta tb) := d_cmp (op_gt.or op_gt_str) od_ord ha hb (nomark _)
theorem d_ge (ha : DE X a ta) (hb : DE X b tb) : DE X (.Compare a [.GtE] [b] pos) (dOp2 oGe ta tb) := d_cmp (op_ge.or op_ge_str) od_ord ha hb (nomark _)
/-- a chain of two comparisons -/
def dChain (R R' : T → T → QE → Mp → Prop) (ta tb tc : E3) : E3 := fun ss M Q => ta ss M fun x M1 => tb ss M1 fun y M2 => R x y (fun z M3 => match z with
  | .bl true => tc ss M3 fun z' M4 => R' y z' Q M4
  | .bl false => Q (.bl false) M3
  | _ => False) M2
theorem d_chain {op op' : CmpOp} {r r' : R2} {R R' : T → T → QE → Mp → Prop} (ho : OpR X (compareOp op) r) (h : OpD X.K r R) (ho' : OpR X (compareOp op') r') (h' : OpD X.K r' R') (ha : DE X a ta) (hb : DE X b tb) (hc : DE X c tc)
    (hm : lastMarks [op, op'] [b, c] = false) : DE X (.Compare a [op, op'] [b, c] pos) (dChain R R' ta tb tc) := by
  refine pe_weak (pe_chain ho ho' ha hb hc hm) ?_
  rintro σ H Q ⟨F, O, M, ss, Q3, w, sl, q, k⟩
  refine ⟨F, O, M, ss, _, w, sl, q, ?_⟩
  intro v H1 F1 M1 t x1 w1 r1 q1
  refine ⟨F1, O, M1, ss, _, w1, sl.mono x1, q1, ?_⟩
  intro u H2 F2 M2 t2 x2 w2 r2 q2
  refine h F2 O H2 M2 v u t t2 _ _ w2 (r1.mono x2) r2 q2 ?_
  intro z H3 F3 M3 t3 x3 w3 r3 q3
  split at q3
  · cases r3
    refine ⟨true, rfl, ?_⟩
    rw [if_pos rfl]
    refine ⟨F3, O, M3, ss, _, w3, sl.mono (x1.trans (x2.trans x3)), q3, ?_⟩
    intro z' H4 F4 M4 t4 x4 w4 r4 q4
    exact h' F4 O H4 M4 u z' t2 t4 Q3 Q w4 (r2.mono (x3.trans x4)) r4 q4 (k.mono (x1.trans (x2.trans (x3.trans x4))))
  · cases r3
    refine ⟨false, rfl, ?_⟩
    rw [if_neg Bool.false_ne_true]
    exact k _ H3 F3 M3 _ (x1.trans (x2.trans x3)) w3 (.bl _) q3
  · exact q3.elim
theorem d_lele (ha : DE X a ta) (hb : DE X b tb) (hc : DE X c tc) (hm : lastMarks [.LtE, .LtE] [b, c] = false := by with_unfolding_all rfl) : DE X (.Compare a [.LtE, .LtE] [b, c] pos) (dChain oLe oLe ta tb tc) := d_chain (op_le.or op_le_str) od_ord (op_le.or op_le_str) od_ord ha hb hc hm
theorem d_ltlt (ha : DE X a ta) (hb : DE X b tb) (hc : DE X c tc) (hm : lastMarks [.Lt, .Lt] [b, c] = false := by with_unfolding_all rfl) : DE X (.Compare a [.Lt, .Lt] [b, c] pos) (dChain oLt oLt ta tb tc) := d_chain (op_lt.or op_lt_str) od_ord (op_lt.or op_lt_str) od_ord ha hb hc hm
/-- is None, is not None -/
def isNon : T → Option Bool
  | .non => some true
  | .raw _ => none
  | _ => some false
def oIsN (neg : Bool) (x : T) (Q : QE) (M : Mp) : Prop := match isNon x with
  | some b => Q (.bl (if neg then !b else b)) M
  | none => False
theorem isNon_ok {F : Hp} {x : V} {t : T} {b : Bool} (rx : Rep K F x t) (h : isNon t = some b) : decide (x = .non) = b := by
  unfold isNon at h
  split at h
  · cases rx; cases h; rfl
  · cases h
  · rename_i h1 h2
    cases h
    cases rx <;> first | rfl | exact absurd rfl h1 | exact absurd rfl (h2 _) | simp
theorem d_isN {j pos'} (ha : DE X a ta) : DE X (.Compare a [.Is] [.Constant .none j pos'] pos) (dOp1 (oIsN false) ta) := by
  refine pe_weak (pe_cmp (pc_isN ha)) ?_
  rintro σ H Q ⟨F, O, M, ss, Q3, w, sl, q, k⟩
  refine ⟨F, O, M, ss, _, w, sl, q, ?_⟩
  intro v H1 F1 M1 t x1 w1 r1 q1
  unfold oIsN at q1
  split at q1
  · rename_i b e
    rw [isNon_ok r1 e]
    exact fin_flat w1 (k.mono x1) (.bl _) q1
  · exact q1.elim
theorem d_notN {j pos'} (ha : DE X a ta) : DE X (.Compare a [.IsNot] [.Constant .none j pos'] pos) (dOp1 (oIsN true) ta) := by
  refine pe_weak (pe_cmp (pc_notN ha)) ?_
  rintro σ H Q ⟨F, O, M, ss, Q3, w, sl, q, k⟩
  refine ⟨F, O, M, ss, _, w, sl, q, ?_⟩
  intro v H1 F1 M1 t x1 w1 r1 q1
  unfold oIsN at q1
  split at q1
  · rename_i b e
    rw [isNon_ok r1 e]
    exact fin_flat w1 (k.mono x1) (.bl _) q1
  · exact q1.elim

/-! ### tests -/
def dB (te : E3) : T3 := fun ss M Q => te ss M fun t M1 => match t with
  | .bl b => Q b M1
  | _ => False
theorem lift_bool {K : PySem.W.Frag} {te : E3} {σ : L2.St} {H : Hp} {Q : Bool → Hp → Prop} (h : liftT K (dB te) σ H Q) : liftE K te σ H fun x H1 => ∃ c, x = .bl c ∧ Q c H1 := by
  obtain ⟨F, O, M, ss, Q3, w, sl, q, k⟩ := h
  refine ⟨F, O, M, ss, _, w, sl, q, ?_⟩
  intro v H1 F1 M1 t x1 w1 r1 q1
  split at q1
  · cases r1
    exact ⟨_, rfl, k _ H1 F1 M1 x1 w1 q1⟩
  · exact q1.elim
/-- an expression whose value is a bool -/
theorem dt_val (h : DE X e te) (he : ∀ whole, isTrue e X.env whole = (do let v ← whole; standAt e.pos; holding [v] (truthy v)) := by intro _; rfl) : DT X e (dB te) :=
  pt_weak (pt_val h he) fun _ _ _ => lift_bool
theorem pt_cmp1 {op : CmpOp} {t : TE} (h : PE X (.Compare a [op] [b] pos) t) : PC X op a b t → True := fun _ => trivial
theorem dt_cmp {op : CmpOp} {r : R2} {R : T → T → QE → Mp → Prop} (ho : OpR X (compareOp op) r) (h : OpD X.K r R) (ha : DE X a ta) (hb : DE X b tb) (hm : behindInMarks op b = false) : DT X (.Compare a [op] [b] pos) (dB (dOp2 R ta tb)) := by
  refine pt_weak (pt_cmpR ho ha hb hm) ?_
  intro σ H Q hh
  exact lift_op2 h _ _ _ (lift_bool hh)
theorem dt_eq (hu : X.A.units + 64 < cLine) (ha : DE X a ta) (hb : DE X b tb) : DT X (.Compare a [.Eq] [b] pos) (dB (dOp2 (oEqB false) ta tb)) := dt_cmp (op_eq.or (op_eqD hu)) od_eq ha hb (nomark _)
theorem dt_ne (hu : X.A.units + 64 < cLine) (ha : DE X a ta) (hb : DE X b tb) : DT X (.Compare a [.NotEq] [b] pos) (dB (dOp2 (oEqB true) ta tb)) := dt_cmp (op_ne.or (op_neD hu)) od_ne ha hb (nomark _)
theorem dt_lt (ha : DE X a ta) (hb : DE X b tb) : DT X (.Compare a [.Lt] [b] pos) (dB (dOp2 oLt ta tb)) := dt_cmp (op_lt.or op_lt_str) od_ord ha hb (nomark _)
theorem dt_le (ha : DE X a ta) (hb : DE X b tb) : DT X (.Compare a [.LtE] [b] pos) (dB (dOp2 oLe ta tb)) := dt_cmp (op_le.or op_le_str) od_ord ha hb (nomark _)
theorem dt_gt (ha : DE X a ta) (hb : DE X b tb) : DT X (.Compare a [.Gt] [b] pos) (dB (dOp2 oGt ta tb)) := dt_cmp (op_gt.or op_gt_str) od_ord ha hb (nomark _)
theorem dt_ge (ha : DE X a ta) (hb : DE X b tb) : DT X (.Compare a [.GtE] [b] pos) (dB (dOp2 oGe ta tb)) := dt_cmp (op_ge.or op_ge_str) od_ord ha hb (nomark _)
theorem dt_isN {j pos'} (ha : DE X a ta) : DT X (.Compare a [.Is] [.Constant .none j pos'] pos) (dB (dOp1 (oIsN false) ta)) := by
  refine pt_weak (pt_cmp (pc_isN ha)) ?_
  intro σ H Q hh
  obtain ⟨F, O, M, ss, Q3, w, sl, q, k⟩ := lift_bool hh
  refine ⟨F, O, M, ss, _, w, sl, q, ?_⟩
  intro v H1 F1 M1 t x1 w1 r1 q1
  unfold oIsN at q1
  split at q1
  · rename_i b e
    rw [isNon_ok r1 e]
    exact fin_flat w1 (k.mono x1) (.bl _) q1
  · exact q1.elim
theorem dt_notN {j pos'} (ha : DE X a ta) : DT X (.Compare a [.IsNot] [.Constant .none j pos'] pos) (dB (dOp1 (oIsN true) ta)) := by
  refine pt_weak (pt_cmp (pc_notN ha)) ?_
  intro σ H Q hh
  obtain ⟨F, O, M, ss, Q3, w, sl, q, k⟩ := lift_bool hh
  refine ⟨F, O, M, ss, _, w, sl, q, ?_⟩
  intro v H1 F1 M1 t x1 w1 r1 q1
  unfold oIsN at q1
  split at q1
  · rename_i b e
    rw [isNon_ok r1 e]
    exact fin_flat w1 (k.mono x1) (.bl _) q1
  · exact q1.elim
def dAnd (t u : T3) : T3 := fun ss M Q => t ss M fun b M1 => match b with
  | true => u ss M1 Q
  | false => Q false M1
def dOr (t u : T3) : T3 := fun ss M Q => t ss M fun b M1 => match b with
  | true => Q true M1
  | false => u ss M1 Q
def dNot (t : T3) : T3 := fun ss M Q => t ss M fun b M1 => Q (!b) M1
variable {rest : List Expr}
theorem dw_and1 (ha : DT X a tt) : DW X (.BoolOp .And [a] pos) tt := pw_and1 ha
theorem dw_or1 (ha : DT X a tt) : DW X (.BoolOp .Or [a] pos) tt := pw_or1 ha
theorem dw_and (ha : DT X a tt) (hb : DW X (.BoolOp .And (b :: rest) pos) tu) : DW X (.BoolOp .And (a :: b :: rest) pos) (dAnd tt tu) := by
  refine pw_weak (pw_and ha hb) ?_
  rintro σ H Q ⟨F, O, M, ss, Q3, w, sl, q, k⟩
  refine ⟨F, O, M, ss, _, w, sl, q, ?_⟩
  intro c H1 F1 M1 x1 w1 q1
  cases c with
  | true => exact ⟨F1, O, M1, ss, Q3, w1, sl.mono x1, q1, fun d H2 F2 M2 x2 => k d H2 F2 M2 (x1.trans x2)⟩
  | false => exact k false H1 F1 M1 x1 w1 q1
theorem dw_or (ha : DT X a tt) (hb : DW X (.BoolOp .Or (b :: rest) pos) tu) : DW X (.BoolOp .Or (a :: b :: rest) pos) (dOr tt tu) := by
  refine pw_weak (pw_or ha hb) ?_
  rintro σ H Q ⟨F, O, M, ss, Q3, w, sl, q, k⟩
  refine ⟨F, O, M, ss, _, w, sl, q, ?_⟩
  intro c H1 F1 M1 x1 w1 q1
  cases c with
  | true => exact k true H1 F1 M1 x1 w1 q1
  | false => exact ⟨F1, O, M1, ss, Q3, w1, sl.mono x1, q1, fun d H2 F2 M2 x2 => k d H2 F2 M2 (x1.trans x2)⟩
theorem dt_not (ha : DT X a tt) : DT X (.UnaryOp .Not a pos) (dNot tt) := by
  refine pt_weak (pt_not ha) ?_
  rintro σ H Q ⟨F, O, M, ss, Q3, w, sl, q, k⟩
  exact ⟨F, O, M, ss, _, w, sl, q, fun d H2 F2 M2 x2 w2 q2 => k _ H2 F2 M2 x2 w2 q2⟩
/-- .. as values -/
def dAndV (ta tb : E3) : E3 := fun ss M Q => ta ss M fun x M1 => match x with
  | .bl true => tb ss M1 Q
  | .bl false => Q (.bl false) M1
  | _ => False
def dOrV (ta tb : E3) : E3 := fun ss M Q => ta ss M fun x M1 => match x with
  | .bl true => Q (.bl true) M1
  | .bl false => tb ss M1 Q
  | _ => False
theorem d_one {op} (h : DE X a te) : DE X (.BoolOp op [a] pos) te := pe_one h
theorem d_and (ha : DE X a ta) (hb : DE X (.BoolOp .And (b :: rest) pos) tb) : DE X (.BoolOp .And (a :: b :: rest) pos) (dAndV ta tb) := by
  refine pe_weak (pe_and ha hb) ?_
  rintro σ H Q ⟨F, O, M, ss, Q3, w, sl, q, k⟩
  refine ⟨F, O, M, ss, _, w, sl, q, ?_⟩
  intro c H1 F1 M1 t x1 w1 r1 q1
  split at q1
  · cases r1
    refine ⟨true, rfl, ?_⟩
    rw [if_pos rfl]
    exact ⟨F1, O, M1, ss, Q3, w1, sl.mono x1, q1, k.mono x1⟩
  · cases r1
    refine ⟨false, rfl, ?_⟩
    rw [if_neg Bool.false_ne_true]
    exact k _ H1 F1 M1 _ x1 w1 (.bl _) q1
  · exact q1.elim
theorem d_or (ha : DE X a ta) (hb : DE X (.BoolOp .Or (b :: rest) pos) tb) : DE X (.BoolOp .Or (a :: b :: rest) pos) (dOrV ta tb) := by
  refine pe_weak (pe_or ha hb) ?_
  rintro σ H Q ⟨F, O, M, ss, Q3, w, sl, q, k⟩
  refine ⟨F, O, M, ss, _, w, sl, q, ?_⟩
  intro c H1 F1 M1 t x1 w1 r1 q1
  split at q1
  · cases r1
    refine ⟨true, rfl, ?_⟩
    rw [if_pos rfl]
    exact k _ H1 F1 M1 _ x1 w1 (.bl _) q1
  · cases r1
    refine ⟨false, rfl, ?_⟩
    rw [if_neg Bool.false_ne_true]
    exact ⟨F1, O, M1, ss, Q3, w1, sl.mono x1, q1, k.mono x1⟩
  · exact q1.elim
/-- not e as a value, e a bool -/
def oNotB : T → QE → Mp → Prop := fun x Q M => match x with
  | .bl b => Q (.bl (!b)) M
  | _ => False
theorem d_not (ha : DE X a ta) : DE X (.UnaryOp .Not a pos) (dOp1 oNotB ta) := by
  refine pe_weak (pe_not ha) ?_
  rintro σ H Q ⟨F, O, M, ss, Q3, w, sl, q, k⟩
  refine ⟨F, O, M, ss, _, w, sl, q, ?_⟩
  intro c H1 F1 M1 t x1 w1 r1 q1
  unfold oNotB at q1
  split at q1
  · cases r1
    exact ⟨_, rfl, k _ H1 F1 M1 _ x1 w1 (.bl _) q1⟩
  · exact q1.elim
def dIf (t : T3) (ta tb : E3) : E3 := fun ss M Q => t ss M fun b M1 => match b with
  | true => ta ss M1 Q
  | false => tb ss M1 Q
theorem d_ifExp (hc : DT X c tt) (ha : DE X a ta) (hb : DE X b tb) : DE X (.IfExp c a b pos) (dIf tt ta tb) := by
  refine pe_weak (pe_ifExp hc ha hb) ?_
  rintro σ H Q ⟨F, O, M, ss, Q3, w, sl, q, k⟩
  refine ⟨F, O, M, ss, _, w, sl, q, ?_⟩
  intro d H1 F1 M1 x1 w1 q1
  cases d with
  | true =>
    rw [if_pos rfl]
    exact ⟨F1, O, M1, ss, Q3, w1, sl.mono x1, q1, k.mono x1⟩
  | false =>
    rw [if_neg Bool.false_ne_true]
    exact ⟨F1, O, M1, ss, Q3, w1, sl.mono x1, q1, k.mono x1⟩
end
end
end L3

set_option maxHeartbeats 1000000
/-! L3D: subscripts, slices, loops, comprehensions, statements, calls. -/
namespace L3
open PySem PySem.Spec PyProof.Rows L2

section
variable {X : Cx} {K : PySem.W.Frag} {a b c e : Expr} {es : List Expr} {te ta tb tc : E3} {tt tu : T3} {tl : A3} {pos : Pos}

/-! ### subscripts -/
def oIx (x y : T) (Q : QE) (M : Mp) : Prop := match look x M, y with
  | .lst xs, .int i => (match atI xs i with | some t => Q t M | none => False)
  | .scr xs, .int i => (match atI xs i with | some t => Q t M | none => False)
  | .tup xs, .int i => (match atI xs i with | some t => Q t M | none => False)
  | .str z, .int i => z.length ≤ sizeLine ∧ (match atI z.cps.toList i with | some c => Q (.str ⟨#[c]⟩) M | none => False)
  | _, _ => False
theorem Reps.atI {F : Hp} {vs : List V} {ts : List T} (r : Reps K F vs ts) {i : Int} {t : T} (h : atI ts i = some t) : ∃ v, L2.atI vs i = some v ∧ Rep K F v t := by
  unfold L2.atI at h ⊢
  rw [r.length]
  cases e : ixN ts.length i with
  | none => rw [e] at h; cases h
  | some j =>
    rw [e] at h
    exact r.get h
theorem od_ix : OpD K (rIx K) oIx := by
  intro F O H M x y t u Q3 Q w rx ry q k
  have sx := rx.sees w
  unfold oIx at q
  split at q
  · rename_i xs i e1
    rw [e1] at sx
    cases ry
    cases sx with
    | lst hx px =>
    split at q
    · rename_i t' e
      obtain ⟨v, e2, r⟩ := px.atI e
      exact .inl ⟨_, _, _, v, rfl, rfl, .of hx, e2, fin_flat w k r q⟩
    · exact q.elim
  · rename_i xs i e1
    rw [e1] at sx
    cases ry
    cases sx with
    | scr hx px =>
    split at q
    · rename_i t' e
      obtain ⟨v, e2, r⟩ := px.atI e
      exact .inl ⟨_, _, _, v, rfl, rfl, hx, e2, fin_flat w k r q⟩
    · exact q.elim
  · rename_i xs i e1
    rw [e1] at sx
    cases ry
    cases sx with
    | tup hx px =>
    split at q
    · rename_i t' e
      obtain ⟨v, e2, r⟩ := px.atI e
      exact .inr (.inl ⟨_, _, _, v, rfl, rfl, w.ex.sqT hx, e2, fin_flat w k r q⟩)
    · exact q.elim
  · rename_i z i e1
    rw [e1] at sx
    cases ry
    cases sx
    obtain ⟨hz, q⟩ := q
    split at q
    · rename_i c e
      exact .inr (.inr ⟨z, i, c, rfl, rfl, hz, e, fin_flat w k (.str _) q⟩)
    · exact q.elim
  · exact q.elim
theorem d_ix (ha : DE X a ta) (hb : DE X b tb) (hs : PlainIx b) : DE X (.Subscript a b pos) (dOp2 oIx ta tb) := pe_weak (pe_ix ix_seq ha hb hs) (lift_op2 od_ix)

/-! ### slices -/
abbrev O3 := SS → Mp → (Option Int → Mp → Prop) → Prop
def liftO (K : PySem.W.Frag) (t : O3) : TO := fun σ H Q => ∃ F O M ss Q3, Wd K F O H M ∧ SlR K F σ ss ∧ t ss M Q3 ∧ ∀ (o : Option Int) (H' F' : Hp) (M' : Mp), Ex F F' → Wd K F' O H' M' → Q3 o M' → Q o H'
def doNone : O3 := fun _ M Q => Q none M
def doSome (te : E3) : O3 := fun ss M Q => te ss M fun t M1 => match t with
  | .int i => Q (some i) M1
  | _ => False
theorem do_none : PO X none (liftO X.K doNone) := ⟨fun pins s σ H Q I h => po_none.run pins s σ H Q I (by
  obtain ⟨F, O, M, ss, Q3, w, sl, q, k⟩ := h
  exact k none H F M .refl w q)⟩
theorem do_some (h : DE X e te) : PO X (some e) (liftO X.K (doSome te)) := ⟨fun pins s σ H Q I hq => (po_some h).run pins s σ H Q I (by
  obtain ⟨F, O, M, ss, Q3, w, sl, q, k⟩ := hq
  refine ⟨F, O, M, ss, _, w, sl, q, ?_⟩
  intro v H1 F1 M1 t x1 w1 r1 q1
  split at q1
  · cases r1
    exact ⟨_, rfl, k _ H1 F1 M1 x1 w1 q1⟩
  · exact q1.elim)⟩
def cutT {α : Type} (xs : List α) (lo hi : Option Int) : List α := (xs.drop (HT.sIx xs.length 0 lo)).take (HT.sIx xs.length xs.length hi - HT.sIx xs.length 0 lo)
theorem Reps.cut {F : Hp} {vs : List V} {ts : List T} (r : Reps K F vs ts) (lo hi : Option Int) : Reps K F (cutV vs lo hi) (cutT ts lo hi) := by
  unfold cutV cutT
  rw [r.length]
  exact (r.drop _).take _
def oSl (x : T) (lo hi : Option Int) (Q : QE) (M : Mp) : Prop := match look x M with
  | .str z => z.length ≤ sizeLine ∧ Q (.str (cutS z lo hi)) M
  | .lst xs => Q (.lst (cutT xs lo hi)) M
  | .scr xs => Q (.lst (cutT xs lo hi)) M
  | .tup xs => Q (.tup (cutT xs lo hi)) M
  | _ => False
def dSl (te : E3) (lo hi : O3) : E3 := fun ss M Q => te ss M fun x M1 => lo ss M1 fun l M2 => hi ss M2 fun h M3 => oSl x l h Q M3
theorem d_slice {lo hi : Option Expr} {tlo thi : O3} {p2 : Pos} (he : DE X e te) (hl : PO X lo (liftO X.K tlo)) (hh : PO X hi (liftO X.K thi)) : DE X (.Subscript e (.Slice lo hi none p2) pos) (dSl te tlo thi) := by
  refine pe_weak (pe_slice (sl_str.or (sl_list.or sl_tupA)) he hl hh) ?_
  rintro σ H Q ⟨F, O, M, ss, Q3, w, sl, q, k⟩
  refine ⟨F, O, M, ss, _, w, sl, q, ?_⟩
  intro v H1 F1 M1 t x1 w1 r1 q1
  refine ⟨F1, O, M1, ss, _, w1, sl.mono x1, q1, ?_⟩
  intro l H2 F2 M2 x2 w2 q2
  refine ⟨F2, O, M2, ss, _, w2, sl.mono (x1.trans x2), q2, ?_⟩
  intro h H3 F3 M3 x3 w3 q3
  have kk := k.mono (x1.trans (x2.trans x3))
  have sx := (r1.mono (x2.trans x3)).sees w3
  unfold oSl at q3
  split at q3
  · rename_i z e1
    rw [e1] at sx
    cases sx
    exact .inl ⟨z, rfl, q3.1, fin_flat w3 kk (.str _) q3.2⟩
  · rename_i xs e1
    rw [e1] at sx
    cases sx with
    | lst hx px =>
    exact .inr (.inl ⟨_, _, rfl, .of hx, fin_new w3 kk (fun F' p x e => .lst e ((px.cut l h).mono x)) q3⟩)
  · rename_i xs e1
    rw [e1] at sx
    cases sx with
    | scr hx px =>
    exact .inr (.inl ⟨_, _, rfl, hx, fin_new w3 kk (fun F' p x e => .lst e ((px.cut l h).mono x)) q3⟩)
  · rename_i xs e1
    rw [e1] at sx
    cases sx with
    | tup hx px =>
    rename_i a vs
    refine .inr (.inr ⟨a, vs, rfl, w3.ex.sqT hx, fun z => ?_, fun _ => fin_new w3 kk (fun F' p x e => .tup (.of e) ((px.cut l h).mono x)) q3⟩)
    have e2 : cutT xs l h = xs := by
      unfold cutT
      rw [← px.length, z.1, z.2, List.drop_zero, Nat.sub_zero, px.length, List.take_length]
    rw [e2] at q3
    exact fin_flat w3 kk (.tup hx px) q3
  · exact q3.elim
/-- xs[::-1] -/
def oRev (x : T) (Q : QE) (M : Mp) : Prop := match look x M with
  | .lst xs => Q (.lst xs.reverse) M
  | .scr xs => Q (.lst xs.reverse) M
  | _ => False
/-- .. a list that will change -/
def oRevM (x : T) (Q : QE) (M : Mp) : Prop := match look x M with
  | .lst xs => ∀ p, M p = none → Q (.raw (.ref p)) (mset M p (.lst xs.reverse))
  | .scr xs => ∀ p, M p = none → Q (.raw (.ref p)) (mset M p (.lst xs.reverse))
  | _ => False
theorem d_rev {k : Nat} {p1 p2 p3 : Pos} (he : DE X e te) : DE X (.Subscript e (.Slice none none (some (.UnaryOp .USub (.Constant (.int 1) k p1) p2)) p3) pos) (dOp1 oRev te) := by
  refine pe_weak (pe_revL he) ?_
  rintro σ H Q ⟨F, O, M, ss, Q3, w, sl, q, k⟩
  refine ⟨F, O, M, ss, _, w, sl, q, ?_⟩
  intro v H1 F1 M1 t x1 w1 r1 q1
  have sx := r1.sees w1
  unfold oRev at q1
  split at q1
  · rename_i xs e1
    rw [e1] at sx
    cases sx with
    | lst hx px => exact ⟨_, _, rfl, .of hx, fin_new w1 (k.mono x1) (fun F' p x e => .lst e (px.reverse.mono x)) q1⟩
  · rename_i xs e1
    rw [e1] at sx
    cases sx with
    | scr hx px => exact ⟨_, _, rfl, hx, fin_new w1 (k.mono x1) (fun F' p x e => .lst e (px.reverse.mono x)) q1⟩
  · exact q1.elim
theorem fin_newM {F O H : Hp} {M : Mp} {Q3 : QE} {Q : VK} (w : Wd K F O H M) (k : LkV K F O Q3 Q) {o : HO} {m : MO} (r : RepO K F o m) (q : ∀ p, M p = none → Q3 (.raw (.ref p)) (mset M p m)) : ∀ p, H p = none → Q (.ref p) (upd H p o) :=
  fun p hp => k _ _ _ _ _ .refl (w.newM hp r) (.raw _) (q p (w.fM hp))
theorem d_revM {k : Nat} {p1 p2 p3 : Pos} (he : DE X e te) : DE X (.Subscript e (.Slice none none (some (.UnaryOp .USub (.Constant (.int 1) k p1) p2)) p3) pos) (dOp1 oRevM te) := by
  refine pe_weak (pe_revL he) ?_
  rintro σ H Q ⟨F, O, M, ss, Q3, w, sl, q, k⟩
  refine ⟨F, O, M, ss, _, w, sl, q, ?_⟩
  intro v H1 F1 M1 t x1 w1 r1 q1
  have sx := r1.sees w1
  unfold oRevM at q1
  split at q1
  · rename_i xs e1
    rw [e1] at sx
    cases sx with
    | lst hx px => exact ⟨_, _, rfl, .of hx, fin_newM w1 (k.mono x1) (.lst px.reverse) q1⟩
  · rename_i xs e1
    rw [e1] at sx
    cases sx with
    | scr hx px => exact ⟨_, _, rfl, hx, fin_newM w1 (k.mono x1) (.lst px.reverse) q1⟩
  · exact q1.elim

/-! ### built-in functions and types -/
def CallD (K : PySem.W.Frag) (r : List V → Hp → VK → Prop) (R : List T → QE → Mp → Prop) : Prop :=
  ∀ (F O H : Hp) (M : Mp) (vs : List V) (ts : List T) (Q3 : QE) (Q : VK), Wd K F O H M → Reps K F vs ts → R ts Q3 M → LkV K F O Q3 Q → r vs H Q
def dCall (R : List T → QE → Mp → Prop) (tl : A3) : E3 := fun ss M Q => tl ss M fun ts M1 => R ts Q M1
theorem lift_call {r : List V → Hp → VK → Prop} {R : List T → QE → Mp → Prop} (h : CallD K r R) : ∀ σ H Q, liftE K (dCall R tl) σ H Q → tCB r (liftA K tl) σ H Q := by
  rintro σ H Q ⟨F, O, M, ss, Q3, w, sl, q, k⟩
  refine ⟨F, O, M, ss, _, w, sl, q, ?_⟩
  intro vs H1 F1 M1 ts x1 w1 r1 q1
  exact h F1 O H1 M1 vs ts Q3 Q w1 r1 q1 (k.mono x1)
section
variable {x : Str} {p : Pos} {id Ty : String} {r : List V → Hp → VK → Prop} {R : List T → QE → Mp → Prop}
theorem d_callB (hc : CallR X (.builtin id) r) (h : CallD X.K r R) (hg : Gl X x) (hm : X.mg x = none) (hv : bootBuiltins x = some (.builtin id)) (ha : DA X (e :: es) tl) (hn : x ≠ "__name__" := by decide) (hdb : (x == ("__debug__" : Str)) = false := by decide)
    (he : starEach (e :: es) X.env = (false, eval e X.env) :: starEach es X.env := by rfl) (hpl : (backTo pos (starEach es X.env)).any (·.1) = false := by rfl) : DE X (.Call (.Name x p) (e :: es) [] pos) (dCall R tl) :=
  pe_weak (pe_callB hc hg hm hv ha hn hdb he hpl) (lift_call h)
theorem d_callTy (hc : CallR X (.type Ty) r) (h : CallD X.K r R) (hg : Gl X x) (hm : X.mg x = none) (hv : bootBuiltins x = some (.type Ty)) (ha : DA X (e :: es) tl) (hn : x ≠ "__name__" := by decide) (hdb : (x == ("__debug__" : Str)) = false := by decide)
    (he : starEach (e :: es) X.env = (false, eval e X.env) :: starEach es X.env := by rfl) (hpl : (backTo pos (starEach es X.env)).any (·.1) = false := by rfl) : DE X (.Call (.Name x p) (e :: es) [] pos) (dCall R tl) :=
  pe_weak (pe_callTy hc hg hm hv ha hn hdb he hpl) (lift_call h)
end
def fLen (ts : List T) (Q : QE) (M : Mp) : Prop := match ts with
  | [x] => (match look x M with
    | .str z => z.length ≤ sizeLine ∧ Q (.int z.length) M
    | .lst xs => Q (.int xs.length) M
    | .scr xs => Q (.int xs.length) M
    | .tup xs => Q (.int xs.length) M
    | .dic kvs => Q (.int kvs.length) M
    | _ => False)
  | _ => False
theorem cd_len : CallD K (fun xs H Q => (∃ x n, xs = [x] ∧ LenV K x H n ∧ Q (.int n) H) ∨ ∃ a kvs, xs = [V.ref a] ∧ H a = some (.dK kvs) ∧ Q (.int kvs.length) H) fLen := by
  intro F O H M vs ts Q3 Q w rs q k
  unfold fLen at q
  split at q
  · cases rs with
    | cons rx rn =>
    cases rn
    have sx := rx.sees w
    split at q
    · rename_i e1; rw [e1] at sx; cases sx
      exact .inl ⟨_, _, rfl, ⟨q.1, rfl⟩, fin_flat w k (.int _) q.2⟩
    · rename_i e1; rw [e1] at sx
      cases sx with
      | lst hx px => exact .inl ⟨_, _, rfl, .inl ⟨_, .of hx, rfl⟩, px.length ▸ fin_flat w k (.int _) q⟩
    · rename_i e1; rw [e1] at sx
      cases sx with
      | scr hx px => exact .inl ⟨_, _, rfl, .inl ⟨_, hx, rfl⟩, px.length ▸ fin_flat w k (.int _) q⟩
    · rename_i e1; rw [e1] at sx
      cases sx with
      | tup hx px => exact .inl ⟨_, _, rfl, .inr ⟨_, w.ex.sqT hx, rfl⟩, px.length ▸ fin_flat w k (.int _) q⟩
    · rename_i e1; rw [e1] at sx
      cases sx with
      | dic hx px => exact .inr ⟨_, _, rfl, hx, px.length ▸ fin_flat w k (.int _) q⟩
    · exact q.elim
  · exact q.elim
theorem cr_len : CallR X (.builtin "len") (fun xs H Q => (∃ x n, xs = [x] ∧ LenV X.K x H n ∧ Q (.int n) H) ∨ ∃ a kvs, xs = [V.ref a] ∧ H a = some (.dK kvs) ∧ Q (.int kvs.length) H) := call_len.or call_lenD
/-- isinstance of a built-in type -/
def tyT : T → Option String
  | .non => some "NoneType" | .bl _ => some "bool" | .int _ => some "int" | .str _ => some "str"
  | .tup _ => some "tuple" | .lst _ => some "list" | .scr _ => some "list" | .dic _ => some "dict"
  | .raw _ => none
def fIsi (ts : List T) (Q : QE) (M : Mp) : Prop := match ts with
  | [x, .raw (.ty n)] => (match tyT (look x M) with
    | some m => (match kitB m n with | some b => Q (.bl b) M | none => False)
    | none => False)
  | _ => False
theorem Sees.ty {F O H : Hp} {M : Mp} (w : Wd K F O H M) {v : V} {t : T} {m : String} (s : Sees K F H v t) (h : tyT t = some m) : TyX K H v (.type m) := by
  cases s with
  | non => cases h; exact .base .non
  | bl b => cases h; exact .base (.bl b)
  | int i => cases h; exact .base (.int i)
  | str x => cases h; exact .base (.str x)
  | tup hx px =>
    cases h
    rcases w.ex.sqT hx with (e | ⟨o, e⟩) | ⟨o, its, n, e, c, _⟩
    · exact .base (.tup e)
    · exact .fTuple e
    · exact .kTuple e c
  | lst hx px => cases h; exact .base (.lst hx)
  | scr hx px =>
    cases h
    rcases hx with (e | ⟨o, e⟩) | ⟨o, its, n, e, c, _⟩
    · exact .base (.lst e)
    · exact .base (.frz e)
    · exact .kList e c
  | dic hx px => cases h; exact .base (.dK hx)
  | raw v => cases h
theorem cd_isi : CallD K (rIsi K) fIsi := by
  intro F O H M vs ts Q3 Q w rs q k
  unfold fIsi at q
  split at q
  · cases rs with
    | cons rx rn =>
    cases rn with
    | cons ry rn =>
    cases rn
    cases ry
    split at q
    · rename_i m e1
      split at q
      · rename_i b e2
        exact ⟨_, _, _, _, b, rfl, .ty _, (rx.sees w).ty w e1, kit_ty e2, fin_flat w k (.bl _) q⟩
      · exact q.elim
    · exact q.elim
  · exact q.elim
def fAbs (ts : List T) (Q : QE) (M : Mp) : Prop := match ts with
  | [.int i] => Q (.int (if i < 0 then -i else i)) M
  | _ => False
theorem cd_abs : CallD K (fun xs H Q => ∃ i, xs = [.int i] ∧ Q (.int (if i < 0 then -i else i)) H) fAbs := by
  intro F O H M vs ts Q3 Q w rs q k
  unfold fAbs at q
  split at q
  · cases rs with
    | cons rx rn =>
    cases rn
    cases rx
    exact ⟨_, rfl, fin_flat w k (.int _) q⟩
  · exact q.elim
/-- all(list of bools), any(..) -/
def bls : List T → Option (List Bool)
  | [] => some []
  | .bl b :: r => (bls r).map (b :: ·)
  | _ => none
theorem bls_eq : ∀ {ts : List T} {bs : List Bool}, bls ts = some bs → ts = bs.map T.bl
  | [], bs, h => by cases h; rfl
  | t :: r, bs, h => by
    unfold bls at h
    split at h
    · rename_i e; cases e
    · rename_i e
      cases e
      obtain ⟨cs, e1, e2⟩ := Option.map_eq_some_iff.mp h
      subst e2
      rw [List.map_cons, bls_eq e1]
    · cases h
def fBls (f : List Bool → Bool) (ts : List T) (Q : QE) (M : Mp) : Prop := match ts with
  | [x] => (match look x M with
    | .lst xs => (match bls xs with | some bs => Q (.bl (f bs)) M | none => False)
    | _ => False)
  | _ => False
theorem cd_bls {f : List Bool → Bool} : CallD K (fun vs H Q => ∃ (a : Addr) (bs : List Bool), vs = [V.ref a] ∧ SqL K H a (bs.map V.bl) ∧ Q (.bl (f bs)) H) (fBls f) := by
  intro F O H M vs ts Q3 Q w rs q k
  unfold fBls at q
  split at q
  · cases rs with
    | cons rx rn =>
    cases rn
    have sx := rx.sees w
    split at q
    · rename_i e1; rw [e1] at sx
      cases sx with
      | lst hx px =>
        split at q
        · rename_i bs e2
          have e3 := bls_eq e2
          subst e3
          have e4 := px.bls
          subst e4
          exact ⟨_, bs, rfl, .of hx, fin_flat w k (.bl _) q⟩
        · exact q.elim
    · exact q.elim
  · exact q.elim
theorem d_all {p : Pos} (hc : X.calm = true) (hg : Gl X "all") (hm : X.mg "all" = none) (ha : DA X [e] tl) (he : starEach [e] X.env = (false, eval e X.env) :: starEach [] X.env := by rfl) : DE X (.Call (.Name "all" p) [e] [] pos) (dCall (fBls (·.all id)) tl) :=
  d_callB (cr_all hc) cd_bls hg hm (by decide +kernel) ha (he := he)
theorem d_any {p : Pos} (hc : X.calm = true) (hg : Gl X "any") (hm : X.mg "any" = none) (ha : DA X [e] tl) (he : starEach [e] X.env = (false, eval e X.env) :: starEach [] X.env := by rfl) : DE X (.Call (.Name "any" p) [e] [] pos) (dCall (fBls (·.any id)) tl) :=
  d_callB (cr_any hc) cd_bls hg hm (by decide +kernel) ha (he := he)
theorem d_len {p : Pos} (hg : Gl X "len") (hm : X.mg "len" = none) (ha : DA X [e] tl) (he : starEach [e] X.env = (false, eval e X.env) :: starEach [] X.env := by rfl) : DE X (.Call (.Name "len" p) [e] [] pos) (dCall fLen tl) :=
  d_callB cr_len cd_len hg hm (by decide +kernel) ha (he := he)
theorem d_isi {p : Pos} {e2 : Expr} (hg : Gl X "isinstance") (hm : X.mg "isinstance" = none) (ha : DA X [e, e2] tl) (he : starEach [e, e2] X.env = (false, eval e X.env) :: starEach [e2] X.env := by rfl) (hpl : (backTo pos (starEach [e2] X.env)).any (·.1) = false := by rfl) :
    DE X (.Call (.Name "isinstance" p) [e, e2] [] pos) (dCall fIsi tl) :=
  d_callB call_isi cd_isi hg hm (by decide +kernel) ha (he := he) (hpl := hpl)
theorem d_abs {p : Pos} (hg : Gl X "abs") (hm : X.mg "abs" = none) (ha : DA X [e] tl) (he : starEach [e] X.env = (false, eval e X.env) :: starEach [] X.env := by rfl) : DE X (.Call (.Name "abs" p) [e] [] pos) (dCall fAbs tl) :=
  d_callB call_abs cd_abs hg hm (by decide +kernel) ha (he := he)
/-- list(xs), tuple(xs) -/
def seqOf : T → Option (List T)
  | .lst xs => some xs | .scr xs => some xs | .tup xs => some xs | _ => none
def fList (ts : List T) (Q : QE) (M : Mp) : Prop := match ts with
  | [x] => (match seqOf (look x M) with | some xs => Q (.lst xs) M | none => False)
  | _ => False
def fListM (ts : List T) (Q : QE) (M : Mp) : Prop := match ts with
  | [x] => (match seqOf (look x M) with | some xs => ∀ p, M p = none → Q (.raw (.ref p)) (mset M p (.lst xs)) | none => False)
  | _ => False
def fTuple (ts : List T) (Q : QE) (M : Mp) : Prop := match ts with
  | [x] => (match seqOf (look x M) with | some xs => Q (.tup xs) M | none => False)
  | _ => False
theorem Sees.seq {F O H : Hp} {M : Mp} (w : Wd K F O H M) {v : V} {t : T} {xs : List T} (s : Sees K F H v t) (h : seqOf t = some xs) : ∃ a vs, v = .ref a ∧ (SqL K H a vs ∨ SqT K H a vs) ∧ Reps K F vs xs := by
  cases s with
  | lst hx px => cases h; exact ⟨_, _, rfl, .inl (.of hx), px⟩
  | scr hx px => cases h; exact ⟨_, _, rfl, .inl hx, px⟩
  | tup hx px => cases h; exact ⟨_, _, rfl, .inr (w.ex.sqT hx), px⟩
  | _ => cases h
theorem cd_list : CallD K (fun xs H Q => ∃ p ys, xs = [.ref p] ∧ (SqL K H p ys ∨ SqT K H p ys) ∧ ∀ l, H l = none → Q (.ref l) (upd H l (.lst ys))) fList := by
  intro F O H M vs ts Q3 Q w rs q k
  unfold fList at q
  split at q
  · cases rs with
    | cons rx rn =>
    cases rn
    split at q
    · rename_i xs e1
      obtain ⟨a, us, rfl, h, px⟩ := (rx.sees w).seq w e1
      exact ⟨a, us, rfl, h, fin_new w k (fun F' p x e => .lst e (px.mono x)) q⟩
    · exact q.elim
  · exact q.elim
theorem cd_listM : CallD K (fun xs H Q => ∃ p ys, xs = [.ref p] ∧ (SqL K H p ys ∨ SqT K H p ys) ∧ ∀ l, H l = none → Q (.ref l) (upd H l (.lst ys))) fListM := by
  intro F O H M vs ts Q3 Q w rs q k
  unfold fListM at q
  split at q
  · cases rs with
    | cons rx rn =>
    cases rn
    split at q
    · rename_i xs e1
      obtain ⟨a, us, rfl, h, px⟩ := (rx.sees w).seq w e1
      exact ⟨a, us, rfl, h, fin_newM w k (.lst px) q⟩
    · exact q.elim
  · exact q.elim
theorem cd_tuple : CallD K (fun xs H Q => ∃ p ys, xs = [.ref p] ∧ ((SqL K H p ys ∧ ∀ l, H l = none → Q (.ref l) (upd H l (.tup ys))) ∨ (SqT K H p ys ∧ Q (.ref p) H))) fTuple := by
  intro F O H M vs ts Q3 Q w rs q k
  unfold fTuple at q
  split at q
  · cases rs with
    | cons rx rn =>
    cases rn
    have sx := rx.sees w
    split at q
    · rename_i xs e1
      cases hs : look _ M with
      | lst ys =>
        rw [hs] at sx e1
        cases e1
        cases sx with
        | lst hx px => exact ⟨_, _, rfl, .inl ⟨.of hx, fin_new w k (fun F' p x e => .tup (.of e) (px.mono x)) q⟩⟩
      | scr ys =>
        rw [hs] at sx e1
        cases e1
        cases sx with
        | scr hx px => exact ⟨_, _, rfl, .inl ⟨hx, fin_new w k (fun F' p x e => .tup (.of e) (px.mono x)) q⟩⟩
      | tup ys =>
        rw [hs] at sx e1
        cases e1
        cases sx with
        | tup hx px => exact ⟨_, _, rfl, .inr ⟨w.ex.sqT hx, fin_flat w k (.tup hx px) q⟩⟩
      | _ => rw [hs] at e1; cases e1
    · exact q.elim
  · exact q.elim
theorem d_list {p : Pos} (hg : Gl X "list") (hm : X.mg "list" = none) (ha : DA X [e] tl) (he : starEach [e] X.env = (false, eval e X.env) :: starEach [] X.env := by rfl) : DE X (.Call (.Name "list" p) [e] [] pos) (dCall fList tl) := d_callTy call_list_of cd_list hg hm (by decide +kernel) ha (he := he)
theorem d_listM {p : Pos} (hg : Gl X "list") (hm : X.mg "list" = none) (ha : DA X [e] tl) (he : starEach [e] X.env = (false, eval e X.env) :: starEach [] X.env := by rfl) : DE X (.Call (.Name "list" p) [e] [] pos) (dCall fListM tl) := d_callTy call_list_of cd_listM hg hm (by decide +kernel) ha (he := he)
theorem d_tuple {p : Pos} (hg : Gl X "tuple") (hm : X.mg "tuple" = none) (ha : DA X [e] tl) (he : starEach [e] X.env = (false, eval e X.env) :: starEach [] X.env := by rfl) : DE X (.Call (.Name "tuple" p) [e] [] pos) (dCall fTuple tl) := d_callTy call_tuple_of cd_tuple hg hm (by decide +kernel) ha (he := he)
/-- int(i), int(b) -/
def fInt (ts : List T) (Q : QE) (M : Mp) : Prop := match ts with
  | [.int i] => Q (.int i) M
  | [.bl b] => Q (.int (if b then 1 else 0)) M
  | _ => False
theorem cd_int : CallD K (fun xs H Q => (∃ i, xs = [.int i] ∧ Q (.int i) H) ∨ ∃ k, xs = [.bl k] ∧ Q (.int (if k then 1 else 0)) H) fInt := by
  intro F O H M vs ts Q3 Q w rs q k
  unfold fInt at q
  split at q
  · cases rs with
    | cons rx rn =>
    cases rn
    cases rx
    exact .inl ⟨_, rfl, fin_flat w k (.int _) q⟩
  · cases rs with
    | cons rx rn =>
    cases rn
    cases rx
    exact .inr ⟨_, rfl, fin_flat w k (.int _) q⟩
  · exact q.elim
theorem d_intc {p : Pos} (hg : Gl X "int") (hm : X.mg "int" = none) (ha : DA X [e] tl) (he : starEach [e] X.env = (false, eval e X.env) :: starEach [] X.env := by rfl) : DE X (.Call (.Name "int" p) [e] [] pos) (dCall fInt tl) := d_callTy call_int1 cd_int hg hm (by decide +kernel) ha (he := he)
end

/-! ### targets -/
inductive Pat where
  | nm (i : Nat) | tp (is : List Nat)
def setAll (ss : SS) : List Nat → List T → SS
  | i :: r, t :: ts => setAll (ss.set i (some t)) r ts
  | _, _ => ss
def Pat.set : Pat → T → SS → Option SS
  | .nm i, t, ss => some (ss.set i (some t))
  | .tp is, t, ss => match t with
    | .tup ts => if ts.length = is.length then some (setAll ss is ts) else none
    | _ => none
def gNames : List Nat → TGs
  | [] => gNil
  | i :: r => gCons (gName i) (gNames r)
def Pat.gV (K : PySem.W.Frag) : Pat → TG
  | .nm i => gName i
  | .tp is => gTup K is.length (gNames is)
def Pat.ixs : Pat → List Nat
  | .nm i => [i]
  | .tp is => is
abbrev DG (X : Cx) (tg : Expr) (P : Pat) : Prop := PG X tg (P.gV X.K)
section
variable {X : Cx} {K : PySem.W.Frag}
theorem wipe_set {σ : L2.St} {i : Nat} {v : Option V} : ∀ {vs : List Nat}, i ∈ vs → wipe (σ.set i v) vs = wipe σ vs
  | w :: vs, h => by
    unfold wipe
    by_cases e : i = w
    · subst e
      by_cases h2 : i ∈ vs
      · rw [wipe_set h2]
      · clear h
        have aux : ∀ vs : List Nat, wipe (σ.set i v) vs = wipe σ vs ∨ wipe (σ.set i v) vs = (wipe σ vs).set i v := by
          intro vs
          induction vs with
          | nil => exact .inr rfl
          | cons u us ih =>
            unfold wipe
            rcases ih with ih | ih
            · exact .inl (by rw [ih])
            · rw [ih]
              by_cases e2 : i = u
              · subst e2
                exact .inl (by rw [List.set_set])
              · exact .inr (by rw [List.set_comm _ _ e2])
        rcases aux vs with e | e
        · rw [e]
        · rw [e, List.set_set]
    · have h2 : i ∈ vs := by
        rcases List.mem_cons.mp h with z | z
        · exact absurd z e
        · exact z
      rw [wipe_set h2]
theorem gNames_run {F O H : Hp} {M : Mp} (w : Wd K F O H M) : ∀ {is : List Nat} {vs : List V} {ts : List T} {σ : L2.St} {ss : SS} {Q : L2.St → Hp → Prop} {ws : List Nat}, Reps K F vs ts → ts.length = is.length → SlR K F σ ss →
    (∀ σ', SlR K F σ' (setAll ss is ts) → ((∀ i ∈ is, i ∈ ws) → wipe σ' ws = wipe σ ws) → Q σ' H) → gNames is vs σ H Q
  | [], _, _, σ, ss, Q, ws, .nil, _, sl, q => ⟨rfl, q σ sl fun _ => rfl⟩
  | i :: is, _, _, σ, ss, Q, ws, .cons (v := v) (t := t) h r, e, sl, q => by
    refine ⟨_, _, rfl, gNames_run w (ws := ws) r (Nat.succ.inj e) (sl.set h i) fun σ' sl' e' => q σ' sl' fun hm => ?_⟩
    rw [e' fun j hj => hm j (List.mem_cons_of_mem _ hj)]
    exact wipe_set (hm i List.mem_cons_self)
theorem Pat.run {F O H : Hp} {M : Mp} (w : Wd K F O H M) {P : Pat} {v : V} {t : T} {σ : L2.St} {ss ss' : SS} {Q : L2.St → Hp → Prop} {ws : List Nat} (r : Rep K F v t) (sl : SlR K F σ ss) (e : P.set t ss = some ss')
    (q : ∀ σ', SlR K F σ' ss' → ((∀ i ∈ P.ixs, i ∈ ws) → wipe σ' ws = wipe σ ws) → Q σ' H) : P.gV K v σ H Q := by
  cases P with
  | nm i =>
    cases e
    exact q _ (sl.set r i) fun hm => wipe_set (hm i List.mem_cons_self)
  | tp is =>
    cases t with
    | tup ts =>
      have e' : (if ts.length = is.length then some (setAll ss is ts) else none) = some ss' := e
      split at e'
      · rename_i hl
        cases e'
        cases r with
        | tup h r => exact ⟨_, _, rfl, w.ex.sqT h, r.length.trans hl, gNames_run w r hl sl q⟩
      · cases e'
    | _ => exact nomatch e
theorem dg_nm (i : Nat) {x : Str} {pos : Pos} (hN : X.N.Nodup) (hi : X.N[i]? = some x) (hx : Loc X.env.scope x) (hf : X.fn x = true ∨ X.env.scope.names.lookup x = some .local := by first | exact .inl rfl | exact .inr rfl | assumption) : DG X (.Name x pos) (.nm i) := pg_name hN hi hx hf
end

/-! ### what is walked -/
structure Src where
  xs : List T
  ok : Mp → Prop
abbrev I3 := SS → Mp → (Src → Mp → Prop) → Prop
def SrcOk (K : PySem.W.Frag) (F : Hp) (J : It) (S : Src) : Prop :=
  ∀ (F' O' H' : Hp) (M' : Mp), Ex F F' → Wd K F' O' H' M' → S.ok M' → ∀ i : Nat, (S.xs.length ≤ i → J.stop i H') ∧
    ∀ t, S.xs[i]? = some t → J.go i H' ∧ ∀ x H'', J.yld i H' x H'' → ∃ F'', Ex F' F'' ∧ Wd K F'' O' H'' M' ∧ Rep K F'' x t
def liftI (K : PySem.W.Frag) (w3 : I3) : TI := fun σ H R => ∃ F O M ss R3, Wd K F O H M ∧ SlR K F σ ss ∧ w3 ss M R3 ∧
  ∀ (J : It) (H' F' : Hp) (M' : Mp) (S : Src), Ex F F' → Wd K F' O H' M' → SrcOk K F' J S → R3 S M' → R J H'
abbrev DI (X : Cx) (tg e : Expr) (w3 : I3) : Prop := PI X tg e (liftI X.K w3)
theorem pi_weak {X : Cx} {tg e : Expr} {t t' : TI} (h : PI X tg e t) (i : ∀ σ H Q, t' σ H Q → t σ H Q) : PI X tg e t' := ⟨fun pins s σ H Q I q => h.run pins s σ H Q I (i σ H Q q)⟩
section
variable {X : Cx} {K : PySem.W.Frag} {tg e : Expr} {te : E3}
def iL (te : E3) : I3 := fun ss M R => te ss M fun t M1 => match look t M1 with
  | .lst xs => R ⟨xs, fun M' => look t M' = .lst xs⟩ M1
  | .scr xs => R ⟨xs, fun M' => look t M' = .scr xs⟩ M1
  | _ => False
theorem srcL {F : Hp} {v : V} {t : T} {a : Addr} {xs : List T} (ev : v = .ref a) (r : Rep K F v t) {c : List T → T} (hc : ∀ F H v ys, Sees K F H v (c ys) → ∃ b us, v = .ref b ∧ SqL K H b us ∧ Reps K F us ys) : SrcOk K F (Itl K a) ⟨xs, fun M' => look t M' = c xs⟩ := by
  intro F' O' H' M' x w ok i
  have s := (r.mono x).sees w
  rw [show look t M' = c xs from ok] at s
  obtain ⟨b, us, e1, hx, px⟩ := hc _ _ _ _ s
  subst ev
  cases e1
  refine ⟨fun hl => ⟨us, hx, by rw [px.length]; exact hl⟩, fun t' e => ?_⟩
  obtain ⟨u, e2, r2⟩ := px.get e
  refine ⟨⟨us, u, hx, e2⟩, ?_⟩
  rintro y H'' ⟨rfl, f⟩
  have e3 := Option.some.inj ((f us hx).symm.trans e2)
  subst e3
  exact ⟨F', .refl, w, r2⟩
theorem di_list (he : DE X e te) : DI X tg e (iL te) := by
  refine pi_weak (pi_list he) ?_
  rintro σ H R ⟨F, O, M, ss, R3, w, sl, q, k⟩
  refine ⟨F, O, M, ss, _, w, sl, q, ?_⟩
  intro v H1 F1 M1 t x1 w1 r1 q1
  have sx := r1.sees w1
  split at q1
  · rename_i xs e1
    rw [e1] at sx
    cases sx with
    | lst hx px =>
    refine ⟨_, rfl, ⟨_, .of hx⟩, k _ H1 F1 M1 _ x1 w1 (srcL (c := .lst) rfl r1 ?_) q1⟩
    rintro F H v ys s
    cases s with
    | lst hx px => exact ⟨_, _, rfl, .of hx, px⟩
  · rename_i xs e1
    rw [e1] at sx
    cases sx with
    | scr hx px =>
    refine ⟨_, rfl, ⟨_, hx⟩, k _ H1 F1 M1 _ x1 w1 (srcL (c := .scr) rfl r1 ?_) q1⟩
    rintro F H v ys s
    cases s with
    | scr hx px => exact ⟨_, _, rfl, hx, px⟩
  · exact q1.elim
def iT (te : E3) : I3 := fun ss M R => te ss M fun t M1 => match t with
  | .tup xs => R ⟨xs, fun _ => True⟩ M1
  | _ => False
theorem di_tup (he : DE X e te) : DI X tg e (iT te) := by
  refine pi_weak (pi_tup he) ?_
  rintro σ H R ⟨F, O, M, ss, R3, w, sl, q, k⟩
  refine ⟨F, O, M, ss, _, w, sl, q, ?_⟩
  intro v H1 F1 M1 t x1 w1 r1 q1
  split at q1
  · cases r1 with
    | tup hx px =>
    refine ⟨_, rfl, ⟨_, w1.ex.sqT hx⟩, k _ H1 F1 M1 _ x1 w1 ?_ q1⟩
    intro F' O' H' M' x w2 _ i
    have hx' := w2.ex.sqT (x.sqT hx)
    refine ⟨fun hl => ⟨_, hx', by rw [px.length]; exact hl⟩, fun t' e => ?_⟩
    obtain ⟨u, e2, r2⟩ := px.get e
    refine ⟨⟨_, u, hx', e2⟩, ?_⟩
    rintro y H'' ⟨rfl, f⟩
    have e3 := Option.some.inj ((f _ hx').symm.trans e2)
    subst e3
    exact ⟨F', .refl, w2, r2.mono x⟩
  · exact q1.elim
def signsT (z : Str) : List T := z.cps.toList.map fun c => T.str ⟨#[c]⟩
def iS (te : E3) : I3 := fun ss M R => te ss M fun t M1 => match t with
  | .str z => R ⟨signsT z, fun _ => True⟩ M1
  | _ => False
theorem di_str (he : DE X e te) : DI X tg e (iS te) := by
  refine pi_weak (pi_str he) ?_
  rintro σ H R ⟨F, O, M, ss, R3, w, sl, q, k⟩
  refine ⟨F, O, M, ss, _, w, sl, q, ?_⟩
  intro v H1 F1 M1 t x1 w1 r1 q1
  split at q1
  · rename_i z
    cases r1
    refine ⟨_, rfl, k _ H1 F1 M1 _ x1 w1 ?_ q1⟩
    intro F' O' H' M' x w2 _ i
    have hlen : (signsT z).length = z.cps.size := by unfold signsT; rw [List.length_map, Array.length_toList]
    refine ⟨fun hl => by show z.cps.size ≤ i; rw [← hlen]; exact hl, fun t' e => ?_⟩
    have e' : (z.cps.toList.map fun c => T.str ⟨#[c]⟩)[i]? = some t' := e
    rw [List.getElem?_map, Array.getElem?_toList] at e'
    obtain ⟨c, e2, e3⟩ := Option.map_eq_some_iff.mp e'
    subst e3
    refine ⟨(Array.getElem?_eq_some_iff.mp e2).1, ?_⟩
    rintro y H'' ⟨rfl, c', e4, rfl⟩
    rw [e2] at e4
    cases e4
    exact ⟨F', .refl, w2, .str _⟩
  · exact q1.elim
def ups (lo : Int) (n : Nat) : List T := (List.range n).map fun (k : Nat) => T.int (lo + (k : Int))
def iR1 (te : E3) : I3 := fun ss M R => te ss M fun t M1 => match t with
  | .int j => (-(2 ^ 62) ≤ j ∧ j < 2 ^ 62) ∧ R ⟨ups 0 j.toNat, fun _ => True⟩ M1
  | _ => False
theorem src_range {F : Hp} (lo : Int) (n : Nat) : SrcOk K F (Itr lo n) ⟨ups lo n, fun _ => True⟩ := by
  intro F' O' H' M' x w2 _ i
  have hlen : (ups lo n).length = n := by unfold ups; rw [List.length_map, List.length_range]
  refine ⟨fun hl => by show n ≤ i; rw [← hlen]; exact hl, fun t' e => ?_⟩
  have e' : ((List.range n).map fun (k : Nat) => T.int (lo + (k : Int)))[i]? = some t' := e
  have hi : i < n := by
    have := (List.getElem?_eq_some_iff.mp e).1
    rw [hlen] at this
    exact this
  rw [List.getElem?_map, List.getElem?_range hi] at e'
  cases e'
  refine ⟨hi, ?_⟩
  rintro y H'' ⟨rfl, rfl⟩
  exact ⟨F', .refl, w2, .int _⟩
theorem di_range1 {a : Expr} {p pos : Pos} (hg : Gl X "range") (hm : X.mg "range" = none) (ha : DE X a te) (hs : starEach [a] X.env = [(false, eval a X.env)] := by rfl) : DI X tg (.Call (.Name "range" p) [a] [] pos) (iR1 te) := by
  refine pi_weak (pi_range1 hg hm (da_cons ha da_nil (by exact hs)) hs) ?_
  rintro σ H R ⟨F, O, M, ss, R3, w, sl, q, k⟩
  refine ⟨F, O, M, ss, fun ts M1 => match ts with
    | [t] => (match t with
      | .int j => (-(2 ^ 62) ≤ j ∧ j < 2 ^ 62) ∧ R3 ⟨ups 0 j.toNat, fun _ => True⟩ M1
      | _ => False)
    | _ => False, w, sl, q, ?_⟩
  intro vs H1 F1 M1 ts x1 w1 r1 q1
  split at q1
  · split at q1
    · cases r1 with
      | cons r rr =>
      cases rr
      cases r
      exact ⟨_, rfl, q1.1.1, q1.1.2, k _ H1 F1 M1 _ x1 w1 (src_range 0 _) q1.2⟩
    · exact q1.elim
  · exact q1.elim
def iR2 (ta tb : E3) : I3 := fun ss M R => ta ss M fun t M1 => tb ss M1 fun u M2 => match t, u with
  | .int i, .int j => (-(2 ^ 62) ≤ i ∧ i < 2 ^ 62 ∧ -(2 ^ 62) ≤ j ∧ j < 2 ^ 62) ∧ R ⟨ups i (j - i).toNat, fun _ => True⟩ M2
  | _, _ => False
theorem di_range2 {a b : Expr} {ta tb : E3} {p pos : Pos} (hg : Gl X "range") (hm : X.mg "range" = none) (ha : DE X a ta) (hb : DE X b tb) (hs : starEach [a, b] X.env = [(false, eval a X.env), (false, eval b X.env)] := by rfl)
    (h1 : starEach [a, b] X.env = (false, eval a X.env) :: starEach [b] X.env := by rfl) (h2 : starEach [b] X.env = (false, eval b X.env) :: starEach [] X.env := by rfl) : DI X tg (.Call (.Name "range" p) [a, b] [] pos) (iR2 ta tb) := by
  refine pi_weak (pi_range2 hg hm (da_cons ha (da_cons hb da_nil h2) h1) hs (hs2 := h2)) ?_
  rintro σ H R ⟨F, O, M, ss, R3, w, sl, q, k⟩
  refine ⟨F, O, M, ss, fun ts M1 => match ts with
    | [t, u] => (match t, u with
      | .int i, .int j => (-(2 ^ 62) ≤ i ∧ i < 2 ^ 62 ∧ -(2 ^ 62) ≤ j ∧ j < 2 ^ 62) ∧ R3 ⟨ups i (j - i).toNat, fun _ => True⟩ M1
      | _, _ => False)
    | _ => False, w, sl, q, ?_⟩
  intro vs H1 F1 M1 ts x1 w1 r1 q1
  split at q1
  · split at q1
    · cases r1 with
      | cons r rr =>
      cases rr with
      | cons r2 rr =>
      cases rr
      cases r
      cases r2
      exact ⟨_, _, rfl, q1.1, k _ H1 F1 M1 _ x1 w1 (src_range _ _) q1.2⟩
    · exact q1.elim
  · exact q1.elim
end

/-! ### for -/
def forL (ok : Mp → Prop) (P : Pat) (tb : S3) (D : Ends3) : List T → SS → Mp → Prop
  | [], ss, M => ok M ∧ D.nx ss M
  | t :: r, ss, M => ok M ∧ match P.set t ss with
    | some ss2 => tb { D with nx := forL ok P tb D r, ct := forL ok P tb D r, bk := D.nx } ss2 M
    | none => False
def sFor (w3 : I3) (P : Pat) (tb : S3) : S3 := fun D ss M => w3 ss M fun S M1 => forL S.ok P tb D S.xs ss M1
section
variable {X : Cx} {K : PySem.W.Frag} {tg iter e : Expr} {te : E3} {w3 : I3} {P : Pat} {tb : S3} {pos : Pos}
theorem ds_for {body : List Stmt} (hp : PassesOwn (model X.prog X.w) X.A X.env X.xe) (hc : X.calm = true) (hi : DI X tg iter w3) (hg : DG X tg P) (hb : DSs X body tb)
    (hs : ∀ x, foldedSetIterable iter X.env x = pure x := by intro _; rfl) : DS X (.For tg iter body [] pos) (sFor w3 P tb) := by
  refine ps_weak (ps_for hp hc hi hg hb hs) ?_
  rintro D σ H ⟨F, O, M, ss, D3, w, sl, q, k⟩
  refine ⟨F, O, M, ss, _, w, sl, q, ?_⟩
  intro J H1 F1 M1 S x1 w1 so q1
  refine ⟨fun i m σ' H' => m = S.xs.length - i ∧ i ≤ S.xs.length ∧ ∃ F' M' ss', Ex F1 F' ∧ Wd X.K F' O H' M' ∧ SlR X.K F' σ' ss' ∧ forL S.ok P tb D3 (S.xs.drop i) ss' M', ⟨S.xs.length, rfl, Nat.zero_le _, F1, M1, ss, .refl, w1, sl.mono x1, q1⟩, ?_⟩
  rintro i m σ' H' ⟨rfl, hi, F', M', ss', x2, w2, sl2, q2⟩
  by_cases hl : i < S.xs.length
  · rw [List.drop_eq_getElem_cons hl] at q2
    obtain ⟨ok, q2⟩ := q2
    obtain ⟨_, hgo⟩ := so F' O H' M' x2 w2 ok i
    obtain ⟨go, hy⟩ := hgo _ (List.getElem?_eq_getElem hl)
    refine .inr ⟨go, fun σ' H' => ∃ F' M' ss', Ex F1 F' ∧ Wd X.K F' O H' M' ∧ SlR X.K F' σ' ss' ∧ forL S.ok P tb D3 (S.xs.drop (i + 1)) ss' M', ?_, ?_⟩
    · rintro σ'' H'' hN
      exact ⟨S.xs.length - (i + 1), by omega, rfl, hl, hN⟩
    · intro x H'' y
      obtain ⟨F'', x3, w3', r3⟩ := hy x H'' y
      split at q2
      · rename_i ss2 e
        refine Pat.run w3' (ws := []) r3 (sl2.mono x3) e fun σ2 sl3 _ => ?_
        refine ⟨F'', O, M', ss2, _, w3', sl3, q2, ?_⟩
        have kk := k.mono (x1.trans (x2.trans x3))
        have nxt : LkS X.K F'' O (forL S.ok P tb D3 (S.xs.drop (i + 1))) fun σ' H' => ∃ F' M' ss', Ex F1 F' ∧ Wd X.K F' O H' M' ∧ SlR X.K F' σ' ss' ∧ forL S.ok P tb D3 (S.xs.drop (i + 1)) ss' M' :=
          fun σ3 H3 F3 M3 ss3 x4 w4 sl4 q4 => ⟨F3, M3, ss3, x2.trans (x3.trans x4), w4, sl4, q4⟩
        exact ⟨nxt, kk.rt, kk.nx, nxt⟩
      · exact q2.elim
  · rw [List.drop_of_length_le (by omega)] at q2
    obtain ⟨ok, q2⟩ := q2
    obtain ⟨hst, _⟩ := so F' O H' M' x2 w2 ok i
    exact .inl ⟨hst (by omega), k.nx σ' H' F' M' ss' (x1.trans x2) w2 sl2 q2⟩

/-! ### blocks and small statements -/
variable {st : Stmt} {rest : List Stmt} {t u : S3} {tt : T3} {c : Expr}
def sNext : S3 := fun D ss M => D.nx ss M
def sSeq (t u : S3) : S3 := fun D ss M => t { D with nx := u D } ss M
theorem dss_nil : DSs X [] sNext := by
  refine pss_weak pss_nil ?_
  rintro D σ H ⟨F, O, M, ss, D3, w, sl, q, k⟩
  exact k.nx σ H F M ss .refl w sl q
theorem dss_cons (h1 : DS X st t) (h2 : DSs X rest u) : DSs X (st :: rest) (sSeq t u) := by
  refine pss_weak (pss_cons h1 h2) ?_
  rintro D σ H ⟨F, O, M, ss, D3, w, sl, q, k⟩
  refine ⟨F, O, M, ss, _, w, sl, q, ?_, k.rt, k.bk, k.ct⟩
  intro σ' H' F' M' ss' x' w' sl' q'
  exact ⟨F', O, M', ss', D3, w', sl', q', k.mono x'⟩
theorem dss_one (h1 : DS X st t) : DSs X [st] t := pss_one h1
theorem ds_pass : DS X (.Pass pos) sNext := by
  refine ps_weak ps_pass ?_
  rintro D σ H ⟨F, O, M, ss, D3, w, sl, q, k⟩
  exact k.nx σ H F M ss .refl w sl q
def sBreak : S3 := fun D ss M => D.bk ss M
def sCont : S3 := fun D ss M => D.ct ss M
theorem ds_break : DS X (.Break pos) sBreak := by
  refine ps_weak ps_break ?_
  rintro D σ H ⟨F, O, M, ss, D3, w, sl, q, k⟩
  exact k.bk σ H F M ss .refl w sl q
theorem ds_cont : DS X (.Continue pos) sCont := by
  refine ps_weak ps_continue ?_
  rintro D σ H ⟨F, O, M, ss, D3, w, sl, q, k⟩
  exact k.ct σ H F M ss .refl w sl q
def sDrop (te : E3) : S3 := fun D ss M => te ss M fun _ M1 => D.nx ss M1
theorem ds_expr (he : DE X e te) (hs : swapsWith e none pos.line X.env = pure false := by rfl) : DS X (.Expr e pos) (sDrop te) := by
  refine ps_weak (ps_expr he hs) ?_
  rintro D σ H ⟨F, O, M, ss, D3, w, sl, q, k⟩
  refine ⟨F, O, M, ss, _, w, sl, q, ?_⟩
  intro v H1 F1 M1 t x1 w1 r1 q1
  exact k.nx σ H1 F1 M1 ss x1 w1 (sl.mono x1) q1
def sRet (te : E3) : S3 := fun D ss M => te ss M D.rt
theorem ds_ret (he : DE X e te) : DS X (.Return (some e) pos) (sRet te) := by
  refine ps_weak (ps_ret he) ?_
  rintro D σ H ⟨F, O, M, ss, D3, w, sl, q, k⟩
  exact ⟨F, O, M, ss, _, w, sl, q, k.rt⟩
def sRetN : S3 := fun D _ M => D.rt .non M
theorem ds_retN : DS X (.Return none pos) sRetN := by
  refine ps_weak ps_retN ?_
  rintro D σ H ⟨F, O, M, ss, D3, w, sl, q, k⟩
  exact k.rt _ H F M _ .refl w .non q
def sIf (tt : T3) (t u : S3) : S3 := fun D ss M => tt ss M fun b M1 => match b with
  | true => t D ss M1
  | false => u D ss M1
theorem ds_if {a b : List Stmt} (hc : DT X c tt) (ha : DSs X a t) (hb : DSs X b u) : DS X (.If c a b pos) (sIf tt t u) := by
  refine ps_weak (ps_if hc ha hb) ?_
  rintro D σ H ⟨F, O, M, ss, D3, w, sl, q, k⟩
  refine ⟨F, O, M, ss, _, w, sl, q, ?_⟩
  intro d H1 F1 M1 x1 w1 q1
  cases d with
  | true => exact ⟨F1, O, M1, ss, D3, w1, sl.mono x1, q1, k.mono x1⟩
  | false => exact ⟨F1, O, M1, ss, D3, w1, sl.mono x1, q1, k.mono x1⟩
def sNever : S3 := fun _ _ _ => False
theorem ds_never : DS X st sNever := ps_weak ps_never fun D σ H ⟨_, _, _, _, _, _, _, q, _⟩ => q
theorem dss_never {sts : List Stmt} : DSs X sts sNever := pss_weak pss_never fun D σ H ⟨_, _, _, _, _, _, _, q, _⟩ => q
/-- target = e -/
def sSet (P : Pat) (te : E3) : S3 := fun D ss M => te ss M fun t M1 => match P.set t ss with
  | some ss2 => D.nx ss2 M1
  | none => False
theorem lift_set {D : Ends} {σ : L2.St} {H : Hp} (h : liftS K (sSet P te) D σ H) : tAsg (liftE K te) (P.gV K) D σ H := by
  obtain ⟨F, O, M, ss, D3, w, sl, q, k⟩ := h
  refine ⟨F, O, M, ss, _, w, sl, q, ?_⟩
  intro v H1 F1 M1 t x1 w1 r1 q1
  split at q1
  · rename_i ss2 e
    exact Pat.run w1 (ws := []) r1 (sl.mono x1) e fun σ2 sl2 _ => k.nx σ2 H1 F1 M1 ss2 x1 w1 sl2 q1
  · exact q1.elim
theorem ds_set (i : Nat) {x : Str} {pos' : Pos} (hN : X.N.Nodup) (hi : X.N[i]? = some x) (hx : Loc X.env.scope x) (he : DE X e te) (hs : swapsWith e (some (.Name x pos')) pos.line X.env = pure false := by rfl)
    (hf : X.fn x = true ∨ X.env.scope.names.lookup x = some .local := by first | exact .inl rfl | exact .inr rfl | assumption) : DS X (.Assign [.Name x pos'] e pos) (sSet (.nm i) te) :=
  ps_weak (ps_set hN hi hx he hs hf) fun _ _ _ => lift_set (P := .nm i)
theorem ds_asg (he : DE X e te) (hg : DG X tg P) (hs : swapsWithSole [tg] e pos.line X.env = pure false := by rfl) (hw : swappedStores [tg] e X.env = pure none := by rfl)
    (h1 : (assignEach [tg] X.env).map (·.2) = [assign tg X.env] := by rfl) : DS X (.Assign [tg] e pos) (sSet P te) :=
  ps_weak (ps_asg he hg hs hw h1) fun _ _ _ => lift_set
/-- x, y = a, b -/
def sPar (i j : Nat) (ta tb : E3) : S3 := fun D ss M => ta ss M fun t M1 => tb ss M1 fun u M2 => D.nx ((ss.set i (some t)).set j (some u)) M2
theorem ds_par (i j : Nat) {x y : Str} {a b : Expr} {ta tb : E3} {px py pt : Pos} {kt k2 pt2} (hc : X.calm = true) (hN : X.N.Nodup) (hi : X.N[i]? = some x) (hj : X.N[j]? = some y) (hij : i ≠ j)
    (hx : X.env.scope.names.lookup x = some .local) (hy : X.env.scope.names.lookup y = some .local) (ha : DE X a ta) (hb : DE X b tb)
    (h1 : starEach [a, b] X.env = (false, eval a X.env) :: starEach [b] X.env := by rfl) (h2 : starEach [b] X.env = (false, eval b X.env) :: starEach [] X.env := by rfl)
    (hw : swappedStores [.Tuple [.Name x px, .Name y py] kt pt] (.Tuple [a, b] k2 pt2) X.env = pure (some [x, y]) := by rfl)
    (hs : swapsWithSole [.Tuple [.Name x px, .Name y py] kt pt] (.Tuple [a, b] k2 pt2) pos.line X.env = pure false := by rfl) :
    DS X (.Assign [.Tuple [.Name x px, .Name y py] kt pt] (.Tuple [a, b] k2 pt2) pos) (sPar i j ta tb) := by
  refine ps_weak (ps_par hc hN hi hj hij hx hy (da_cons ha (da_cons hb da_nil h2) h1) hw hs) ?_
  rintro D σ H ⟨F, O, M, ss, D3, w, sl, q, k⟩
  refine ⟨F, O, M, ss, fun ts M1 => match ts with
    | [t, u] => D3.nx ((ss.set i (some t)).set j (some u)) M1
    | _ => False, w, sl, q, ?_⟩
  intro vs H1 F1 M1 ts x1 w1 r1 q1
  split at q1
  · cases r1 with
    | cons r rr =>
    cases rr with
    | cons r2 rr =>
    cases rr
    exact ⟨_, _, rfl, k.nx _ H1 F1 M1 _ x1 w1 (((sl.mono x1).set r i).set r2 j) q1⟩
  · exact q1.elim
end

/-! ### comprehensions -/
def compL (ok : Mp → Prop) (P : Pat) (tt : T3) (te : E3) (vs : List Nat) (ss0 : SS) (Q : List T → Mp → Prop) : List T → List T → Mp → Prop
  | [], acc, M => ok M ∧ Q acc M
  | t :: r, acc, M => ok M ∧ match P.set t (wipe3 ss0 vs) with
    | some ss2 => tt ss2 M fun b M3 => match b with
      | true => te ss2 M3 fun y M4 => acc.length < sizeLine ∧ compL ok P tt te vs ss0 Q r (acc ++ [y]) M4
      | false => compL ok P tt te vs ss0 Q r acc M3
    | none => False
def dYes : T3 := fun _ M Q => Q true M
def dComp (w3 : I3) (P : Pat) (tt : T3) (te : E3) (vs : List Nat) (fin : List T → QE → Mp → Prop) : E3 := fun ss M Q => w3 ss M fun S M1 => compL S.ok P tt te vs ss (fun acc M2 => fin acc Q M2) S.xs [] M1
/-- the list never changes any more -/
def finL : List T → QE → Mp → Prop := fun acc Q M => Q (.lst acc) M
def finM : List T → QE → Mp → Prop := fun acc Q M => ∀ p, M p = none → Q (.raw (.ref p)) (mset M p (.lst acc))
section
variable {X : Cx} {K : PySem.W.Frag}
theorem Wd.keepO {F O H : Hp} {M : Mp} {D : Addr} {o : HO} (w : Wd K F O H M) (h : H D = none) : Wd K F (upd O D o) (upd H D o) M := by
  have hF := w.fF h
  have hM := w.fM h
  refine ⟨fun a u e => ?_, fun a u e => ?_, fun a m e => ?_⟩
  · rw [upd_ne (ne_of_none e hF)]
    exact w.sub a u e
  · by_cases hp : a = D
    · subst hp
      rw [upd_same] at e ⊢
      exact ⟨e, hF⟩
    · rw [upd_ne hp] at e ⊢
      exact w.oth a u e
  · obtain ⟨e1, e2, u, e3, q⟩ := w.mo a m e
    have hp : a ≠ D := ne_of_none e3 h
    exact ⟨e1, by rw [upd_ne hp]; exact e2, u, by rw [upd_ne hp]; exact e3, q⟩
theorem Wd.turnO {F O H : Hp} {M : Mp} {D : Addr} {o o' : HO} (w : Wd K F (upd O D o) H M) : Wd K F (upd O D o') (upd H D o') M := by
  obtain ⟨hD, hF⟩ := w.oth D o upd_same
  refine ⟨fun a u e => ?_, fun a u e => ?_, fun a m e => ?_⟩
  · rw [upd_ne (ne_of_none e hF)]
    exact w.sub a u e
  · by_cases hp : a = D
    · subst hp
      rw [upd_same] at e ⊢
      exact ⟨e, hF⟩
    · rw [upd_ne hp] at e ⊢
      exact w.oth a u (by rw [upd_ne hp]; exact e)
  · obtain ⟨e1, e2, u, e3, q⟩ := w.mo a m e
    have hp : a ≠ D := by
      intro z
      rw [z, upd_same] at e2
      cases e2
    rw [upd_ne hp] at e2
    exact ⟨e1, by rw [upd_ne hp]; exact e2, u, by rw [upd_ne hp]; exact e3, q⟩
theorem Wd.freeO {F O H : Hp} {M : Mp} {D : Addr} {o : HO} (w : Wd K F (upd O D o) H M) (hO : O D = none) : Wd K (upd F D o) O H M := by
  obtain ⟨hD, hF⟩ := w.oth D o upd_same
  refine ⟨fun a u e => ?_, fun a u e => ?_, fun a m e => ?_⟩
  · by_cases hp : a = D
    · subst hp
      rw [upd_same] at e
      cases e
      exact hD
    · rw [upd_ne hp] at e
      exact w.sub a u e
  · have hp : a ≠ D := ne_of_none e hO
    rw [upd_ne hp]
    exact w.oth a u (by rw [upd_ne hp]; exact e)
  · obtain ⟨e1, e2, u, e3, q⟩ := w.mo a m e
    have hp : a ≠ D := by
      intro z
      rw [z, upd_same] at e2
      cases e2
    rw [upd_ne hp] at e2
    exact ⟨by rw [upd_ne hp]; exact e1, e2, u, e3, q.mono (.upd hF)⟩
theorem Wd.freeOM {F O H : Hp} {M : Mp} {D : Addr} {o : HO} {m : MO} (w : Wd K F (upd O D o) H M) (hO : O D = none) (r : RepO K F o m) : M D = none ∧ Wd K F O H (mset M D m) := by
  obtain ⟨hD, hF⟩ := w.oth D o upd_same
  have hM : M D = none := by
    cases e : M D with
    | none => rfl
    | some m' =>
      have := (w.mo D m' e).2.1
      rw [upd_same] at this
      cases this
  refine ⟨hM, fun a u e => w.sub a u e, fun a u e => ?_, fun a m' e => ?_⟩
  · have hp : a ≠ D := ne_of_none e hO
    exact w.oth a u (by rw [upd_ne hp]; exact e)
  · by_cases hp : a = D
    · subst hp
      rw [mset_same] at e
      cases e
      exact ⟨hF, hO, o, hD, r⟩
    · rw [mset_ne hp] at e
      obtain ⟨e1, e2, u, e3, q⟩ := w.mo a m' e
      rw [upd_ne hp] at e2
      exact ⟨e1, e2, u, e3, q⟩
def FinOk (K : PySem.W.Frag) (fin : List T → QE → Mp → Prop) : Prop := ∀ (F O H : Hp) (M : Mp) (D : Addr) (vs : List V) (ts : List T) (Q3 : QE) (Q : VK), Wd K F (upd O D (.lst vs)) H M → O D = none → Reps K F vs ts → fin ts Q3 M → LkV K F O Q3 Q → Q (.ref D) H
theorem fin_L : FinOk K finL := by
  intro F O H M D vs ts Q3 Q w hO r q k
  have w' := w.freeO hO
  have x : Ex F (upd F D (.lst vs)) := .upd (w.oth D _ upd_same).2
  exact k _ H _ M _ x w' (.lst upd_same (r.mono x)) q
theorem fin_M : FinOk K finM := by
  intro F O H M D vs ts Q3 Q w hO r q k
  obtain ⟨h1, w'⟩ := w.freeOM (m := .lst ts) hO (.lst r)
  exact k _ H _ _ _ .refl w' (.raw _) (q D h1)
variable {elt tg iter : Expr} {ifs : List Expr} {scope : Scope} {own : List (Str × Nat)} {pos : Pos} {w3 : I3} {P : Pat} {tt : T3} {te : E3} {fin : List T → QE → Mp → Prop}
theorem lift_comp {vs : List Nat} (hf : FinOk K fin) (hP : ∀ i ∈ P.ixs, i ∈ vs) : ∀ σ H Q, liftE K (dComp w3 P tt te vs fin) σ H Q → tLc (liftI K w3) (P.gV K) (liftT K tt) (liftE K te) vs σ H Q := by
  rintro σ H Q ⟨F, O, M, ss, Q3, w, sl, q, k⟩
  refine ⟨F, O, M, ss, _, w, sl, q, ?_⟩
  intro J H1 F1 M1 S x1 w1 so q1
  intro D hD
  have hO := w1.fO hD
  refine ⟨fun i m H' => m = S.xs.length - i ∧ i ≤ S.xs.length ∧ ∃ F' M' us acc, Ex F1 F' ∧ Wd K F' (upd O D (.lst us)) H' M' ∧ Reps K F' us acc ∧
    compL S.ok P tt te vs ss (fun acc M2 => fin acc Q3 M2) (S.xs.drop i) acc M', ⟨S.xs.length, rfl, Nat.zero_le _, F1, M1, [], [], .refl, w1.keepO hD, .nil, q1⟩, ?_⟩
  rintro i m H' ⟨rfl, hi, F', M', us, acc, x2, w2, ra, q2⟩
  have hD' := (w2.oth D _ upd_same).1
  by_cases hl : i < S.xs.length
  · rw [List.drop_eq_getElem_cons hl] at q2
    obtain ⟨ok, q2⟩ := q2
    obtain ⟨_, hgo⟩ := so F' _ H' M' x2 w2 ok i
    obtain ⟨go, hy⟩ := hgo _ (List.getElem?_eq_getElem hl)
    refine .inr ⟨go, fun H' => ∃ F' M' us acc, Ex F1 F' ∧ Wd K F' (upd O D (.lst us)) H' M' ∧ Reps K F' us acc ∧ compL S.ok P tt te vs ss (fun acc M2 => fin acc Q3 M2) (S.xs.drop (i + 1)) acc M', ?_, ?_⟩
    · rintro H'' hN
      exact ⟨S.xs.length - (i + 1), by omega, rfl, hl, hN⟩
    · intro x H'' y
      obtain ⟨F'', x3, w3', r3⟩ := hy x H'' y
      split at q2
      · rename_i ss2 e
        refine Pat.run w3' (ws := vs) r3 ((sl.mono (x1.trans (x2.trans x3))).wipe vs) e fun σ2 sl3 hw => ?_
        have wiped : wipe (wipe σ vs) vs = wipe σ vs := by
          clear hw sl3 e
          have aux : ∀ us : List Nat, (∀ i ∈ us, i ∈ vs) → wipe (wipe σ us) vs = wipe σ vs := by
            intro us
            induction us with
            | nil => intro _; rfl
            | cons u us ih =>
              intro h
              show wipe ((wipe σ us).set u none) vs = wipe σ vs
              rw [wipe_set (h u List.mem_cons_self)]
              exact ih fun j hj => h j (List.mem_cons_of_mem _ hj)
          exact aux vs fun _ h => h
        refine ⟨(hw hP).trans wiped, F'', _, M', ss2, _, w3', sl3, q2, ?_⟩
        intro b H3 F3 M3 x4 w4 q4
        cases b with
        | true =>
          rw [if_pos rfl]
          refine ⟨F3, _, M3, ss2, _, w4, sl3.mono x4, q4, ?_⟩
          intro v H4 F4 M4 t x5 w5 r5 q5
          refine ⟨us, (w5.oth D _ upd_same).1, ra.length ▸ q5.1, F4, M4, us ++ [v], acc ++ [t], x2.trans (x3.trans (x4.trans x5)), w5.turnO, ?_, q5.2⟩
          exact (ra.mono (x3.trans (x4.trans x5))).append (.cons r5 .nil)
        | false =>
          rw [if_neg Bool.false_ne_true]
          exact ⟨F3, M3, us, acc, x2.trans (x3.trans x4), w4, ra.mono (x3.trans x4), q4⟩
      · exact q2.elim
  · rw [List.drop_of_length_le (by omega)] at q2
    obtain ⟨ok, q2⟩ := q2
    obtain ⟨hst, _⟩ := so F' _ H' M' x2 w2 ok i
    exact .inl ⟨hst (by omega), hf F' O H' M' D us acc Q3 Q w2 hO ra q2 (k.mono (x1.trans x2))⟩
abbrev DTs (X : Cx) (ifs : List Expr) (tt : T3) : Prop := PTs X ifs (liftT X.K tt)
theorem dts_nil : DTs X [] dYes := ⟨fun pins s σ H Q I h => pts_nil.run pins s σ H Q I (by
  obtain ⟨F, O, M, ss, Q3, w, sl, q, k⟩ := h
  exact k true H F M .refl w q)⟩
theorem dts_one {c : Expr} (h : DT X c tt) : DTs X [c] tt := pts_one h
/-- [elt for tg in iter if ..] -/
theorem d_comp (own : List (Str × Nat)) (hf : FinOk X.K fin) (hc : X.calm = true) (hN : X.N.Nodup) (hi : DI X tg iter w3) (ok : blkC X.N X.env.scope scope own = true)
    (hg : ∀ (s : Shared) (H : Hp) (C : Addr) (cl : List (Str × Addr)) (fp : List Addr), DG (X.blk s H scope (compEnvC scope cl C X.env) fp) tg P)
    (ht : ∀ (s : Shared) (H : Hp) (C : Addr) (cl : List (Str × Addr)) (fp : List Addr), DTs (X.blk s H scope (compEnvC scope cl C X.env) fp) ifs tt)
    (he : ∀ (s : Shared) (H : Hp) (C : Addr) (cl : List (Str × Addr)) (fp : List Addr), DE (X.blk s H scope (compEnvC scope cl C X.env) fp) elt te)
    (hP : ∀ i ∈ P.ixs, i ∈ own.map (·.2) := by decide) (hs : ∀ x, foldedSetIterable iter X.env x = pure x := by intro _; rfl) :
    DE X (.ListComp elt [⟨tg, iter, ifs, 0⟩] scope pos) (dComp w3 P tt te (own.map (·.2)) fin) :=
  pe_weak (pe_lc hc hN hi (blkOk_by ok) hg ht he hs) (lift_comp hf hP)
/-- name = [..] on one line -/
theorem ds_setComp (i : Nat) {y : Str} {py spos : Pos} (own : List (Str × Nat)) (hf : FinOk X.K fin) (hc : X.calm = true) (hN : X.N.Nodup) (hy : X.N[i]? = some y) (hyl : X.env.scope.names.lookup y = some .local)
    (hsw : swapsWith (.ListComp elt [⟨tg, iter, ifs, 0⟩] scope pos) (some (.Name y py)) spos.line X.env = pure true) (hi : DI X tg iter w3) (ok : blkC X.N X.env.scope scope own = true)
    (hg : ∀ (s : Shared) (H : Hp) (C : Addr) (cl : List (Str × Addr)) (fp : List Addr), DG (X.blk s H scope (compEnvC scope cl C X.env) fp) tg P)
    (ht : ∀ (s : Shared) (H : Hp) (C : Addr) (cl : List (Str × Addr)) (fp : List Addr), DTs (X.blk s H scope (compEnvC scope cl C X.env) fp) ifs tt)
    (he : ∀ (s : Shared) (H : Hp) (C : Addr) (cl : List (Str × Addr)) (fp : List Addr), DE (X.blk s H scope (compEnvC scope cl C X.env) fp) elt te)
    (hP : ∀ i ∈ P.ixs, i ∈ own.map (·.2) := by decide) (hs : ∀ x, foldedSetIterable iter X.env x = pure x := by intro _; rfl) :
    DS X (.Assign [.Name y py] (.ListComp elt [⟨tg, iter, ifs, 0⟩] scope pos) spos) (sSet (.nm i) (dComp w3 P tt te (own.map (·.2)) fin)) := by
  refine ps_weak (ps_setLc (g := P.gV X.K) (tt := liftT X.K tt) (te := liftE X.K te) hc hN hy hyl hsw hi (blkOk_by ok) hg ht he hs) ?_
  intro D σ H h
  obtain ⟨F, O, M, ss, D3, w, sl, q, k⟩ := h
  refine lift_comp hf hP σ H _ ⟨F, O, M, ss, fun t M1 => D3.nx (ss.set i (some t)) M1, w, sl, q, ?_⟩
  intro v H1 F1 M1 t x1 w1 r1 q1
  exact k.nx _ H1 F1 M1 _ x1 w1 ((sl.mono x1).set r1 i) q1
end
end L3

set_option maxHeartbeats 1000000
/-! L3E: dicts, methods of lists and texts, repr, calls of defs, a def's promise. -/
namespace L3
open PySem PySem.Spec PyProof.Rows L2

/-! ### dicts -/
def getT (kvs : List (Key × T)) (k : Key) : Option T := (kvs.find? fun kv => decide (kv.1 = k)).map (·.2)
def putT (kvs : List (Key × T)) (k : Key) (v : T) : List (Key × T) :=
  if (kvs.any fun kv => decide (kv.1 = k)) = true then kvs.map (fun kv => if kv.1 = k then (kv.1, v) else kv) else kvs ++ [(k, v)]
def mergeT (kvs more : List (Key × T)) : List (Key × T) := more.foldl (fun acc kv => putT acc kv.1 kv.2) kvs
def keyT : T → Option Key
  | .int i => some (.inl i)
  | .str s => some (.inr s)
  | _ => none
section
variable {K : PySem.W.Frag} {F O H : Hp} {M : Mp}
theorem keyT_ok {x : V} {t : T} {k : Key} (r : Rep K F x t) (h : keyT t = some k) : x = kV k := by
  unfold keyT at h
  split at h
  · cases r; cases h; rfl
  · cases r; cases h; rfl
  · cases h
theorem RepKV.get : ∀ {vs : List (Key × V)} {ts : List (Key × T)} {k : Key}, RepKV K F vs ts → (∀ {t : T}, getT ts k = some t → ∃ v, valV vs k = some v ∧ Rep K F v t) ∧ (getT ts k = none → valV vs k = none)
  | _, _, k, .nil => ⟨fun h => (nomatch h), fun _ => rfl⟩
  | _, _, k, .cons (k := j) (v := v) (t := t) (vs := us) (ts := ws) h r => by
    by_cases e : j = k
    · have e1 : getT ((j, t) :: ws) k = some t := by unfold getT; rw [List.find?_cons_of_pos (by simpa using e)]; rfl
      rw [e1]
      refine ⟨fun {t'} h' => ?_, fun h' => nomatch h'⟩
      cases h'
      exact ⟨v, valV_pos e, h⟩
    · have e1 : getT ((j, t) :: ws) k = getT ws k := by unfold getT; rw [List.find?_cons_of_neg (by simpa using e)]
      have ih := RepKV.get (k := k) r
      rw [e1, valV_neg (show ¬ (j, v).1 = k from e)]
      exact ih
theorem RepKV.any : ∀ {vs : List (Key × V)} {ts : List (Key × T)} {k : Key}, RepKV K F vs ts → (vs.any fun kv => decide (kv.1 = k)) = (ts.any fun kv => decide (kv.1 = k))
  | _, _, k, .nil => rfl
  | _, _, k, .cons h r => by
    rw [List.any_cons, List.any_cons, RepKV.any r]
theorem RepKV.repl {v : V} {t : T} (q : Rep K F v t) : ∀ {vs : List (Key × V)} {ts : List (Key × T)} {k : Key}, RepKV K F vs ts → RepKV K F (vs.map fun kv => if kv.1 = k then (kv.1, v) else kv) (ts.map fun kv => if kv.1 = k then (kv.1, t) else kv)
  | _, _, k, .nil => .nil
  | _, _, k, .cons (k := j) h r => by
    rw [List.map_cons, List.map_cons]
    by_cases e : j = k
    · rw [if_pos e, if_pos e]
      exact .cons q (RepKV.repl q r)
    · rw [if_neg e, if_neg e]
      exact .cons h (RepKV.repl q r)
theorem RepKV.snoc {k : Key} {v : V} {t : T} (q : Rep K F v t) : ∀ {vs : List (Key × V)} {ts : List (Key × T)}, RepKV K F vs ts → RepKV K F (vs ++ [(k, v)]) (ts ++ [(k, t)])
  | _, _, .nil => .cons q .nil
  | _, _, .cons h r => .cons h (RepKV.snoc q r)
theorem RepKV.put {v : V} {t : T} (q : Rep K F v t) {vs : List (Key × V)} {ts : List (Key × T)} {k : Key} (r : RepKV K F vs ts) : RepKV K F (putK vs k v) (putT ts k t) := by
  unfold putK putT
  rw [r.any]
  split
  · exact r.repl q
  · exact r.snoc q
theorem RepKV.merge : ∀ {more : List (Key × V)} {mt : List (Key × T)} {vs : List (Key × V)} {ts : List (Key × T)}, RepKV K F more mt → RepKV K F vs ts → RepKV K F (mergeK vs more) (mergeT ts mt)
  | _, _, _, _, .nil, q => q
  | _, _, _, _, .cons (k := k) (v := v) (t := t) (vs := more) (ts := mt) h r, q => by
    show RepKV K F (mergeK (putK _ k v) more) (mergeT (putT _ k t) mt)
    exact RepKV.merge r (q.put h)
end
section
variable {X : Cx} {K : PySem.W.Frag} {o i e value : Expr} {es : List Expr} {td ty tv te ta : E3} {tl : A3} {pos pos' : Pos}
def oDGet (x y : T) (Q : QE) (M : Mp) : Prop := match look x M, keyT y with
  | .dic kvs, some k => (match getT kvs k with | some t => Q t M | none => False)
  | _, _ => False
theorem d_dget (hu : X.A.units + 1 < cLine) (ho : DE X o td) (hi : DE X i ty) (hs : NoSl i) : DE X (.Subscript o i pos) (dOp2 oDGet td ty) := by
  refine pe_weak (pe_dget hu ho hi hs) ?_
  rintro σ H Q ⟨F, O, M, ss, Q3, w, sl, q, k⟩
  refine ⟨F, O, M, ss, _, w, sl, q, ?_⟩
  intro v H1 F1 M1 t x1 w1 r1 q1
  refine ⟨F1, O, M1, ss, _, w1, sl.mono x1, q1, ?_⟩
  intro u H2 F2 M2 t2 x2 w2 r2 q2
  unfold oDGet at q2
  have sx := (r1.mono x2).sees w2
  split at q2
  · rename_i kvs kk e1 e2
    rw [e1] at sx
    split at q2
    · rename_i t' e3
      cases sx with
      | dic hx px =>
      obtain ⟨v', e4, r4⟩ := (px.get (k := kk)).1 e3
      have := keyT_ok r2 e2
      subst this
      exact ⟨_, v', rfl, e4 ▸ DGet.k hx, fin_flat w2 (k.mono (x1.trans x2)) r4 q2⟩
    · exact q2.elim
  · exact q2.elim
/-- y in d, y not in d, d a dict -/
def oDIn (neg : Bool) (y x : T) (Q : QE) (M : Mp) : Prop := match look x M, keyT y with
  | .dic kvs, some k => Q (.bl (if neg then !(getT kvs k).isSome else (getT kvs k).isSome)) M
  | _, _ => False
theorem RepKV.some_eq {F : Hp} {vs : List (Key × V)} {ts : List (Key × T)} {k : Key} (r : RepKV K F vs ts) : (valV vs k).isSome = (getT ts k).isSome := by
  cases e : getT ts k with
  | none => rw [(r.get (k := k)).2 e]; rfl
  | some t => obtain ⟨v, e2, _⟩ := (r.get (k := k)).1 e; rw [e2]; rfl
theorem d_din (hu : X.A.units + 1 < cLine) (hi : DE X i ty) (ho : DE X o td) (hm : behindInMarks .In o = false) : DE X (.Compare i [.In] [o] pos) (dOp2 (oDIn false) ty td) := by
  refine pe_weak (pe_cmp (pc_din hu hi ho) hm) ?_
  rintro σ H Q ⟨F, O, M, ss, Q3, w, sl, q, k⟩
  refine ⟨F, O, M, ss, _, w, sl, q, ?_⟩
  intro v H1 F1 M1 t x1 w1 r1 q1
  refine ⟨F1, O, M1, ss, _, w1, sl.mono x1, q1, ?_⟩
  intro u H2 F2 M2 t2 x2 w2 r2 q2
  unfold oDIn at q2
  have sx := r2.sees w2
  split at q2
  · rename_i kvs kk e1 e2
    rw [e1] at sx
    cases sx with
    | dic hx px =>
    have := keyT_ok (r1.mono x2) e2
    subst this
    refine ⟨_, _, rfl, DGet.k hx, fin_flat w2 (k.mono (x1.trans x2)) (.bl _) ?_⟩
    rw [px.some_eq]
    exact q2
  · exact q2.elim
theorem d_dnotin (hu : X.A.units + 1 < cLine) (hi : DE X i ty) (ho : DE X o td) (hm : behindInMarks .NotIn o = false) : DE X (.Compare i [.NotIn] [o] pos) (dOp2 (oDIn true) ty td) := by
  refine pe_weak (pe_cmp (pc_dnotin hu hi ho) hm) ?_
  rintro σ H Q ⟨F, O, M, ss, Q3, w, sl, q, k⟩
  refine ⟨F, O, M, ss, _, w, sl, q, ?_⟩
  intro v H1 F1 M1 t x1 w1 r1 q1
  refine ⟨F1, O, M1, ss, _, w1, sl.mono x1, q1, ?_⟩
  intro u H2 F2 M2 t2 x2 w2 r2 q2
  unfold oDIn at q2
  have sx := r2.sees w2
  split at q2
  · rename_i kvs kk e1 e2
    rw [e1] at sx
    cases sx with
    | dic hx px =>
    have := keyT_ok (r1.mono x2) e2
    subst this
    refine ⟨_, _, rfl, DGet.k hx, fin_flat w2 (k.mono (x1.trans x2)) (.bl _) ?_⟩
    rw [px.some_eq]
    exact q2
  · exact q2.elim
/-- d[y] = v -/
def sPut (td ty tv : E3) : S3 := fun D ss M => tv ss M fun v M1 => td ss M1 fun x M2 => ty ss M2 fun y M3 => match x, keyT y with
  | .raw (.ref a), some k => (match M3 a with
    | some (.dct kvs) => kvs.length < sizeLine ∧ D.nx ss (mset M3 a (.dct (putT kvs k v)))
    | _ => False)
  | _, _ => False
theorem ds_dput (hu : X.A.units + 1 < cLine) (ho : DE X o td) (hi : DE X i ty) (hv : DE X value tv) (hs : swapsWith value (some (.Subscript o i pos')) pos.line X.env = pure false := by rfl) :
    DS X (.Assign [.Subscript o i pos'] value pos) (sPut td ty tv) := by
  refine ps_weak (ps_dput hu ho hi hv hs) ?_
  rintro D σ H ⟨F, O, M, ss, D3, w, sl, q, k⟩
  refine ⟨F, O, M, ss, _, w, sl, q, ?_⟩
  intro v H1 F1 M1 t x1 w1 r1 q1
  refine ⟨F1, O, M1, ss, _, w1, sl.mono x1, q1, ?_⟩
  intro u H2 F2 M2 t2 x2 w2 r2 q2
  refine ⟨F2, O, M2, ss, _, w2, sl.mono (x1.trans x2), q2, ?_⟩
  intro y H3 F3 M3 t3 x3 w3 r3 q3
  split at q3
  · rename_i a kk e2
    split at q3
    · rename_i kvs e3
      cases r2
      have := keyT_ok r3 e2
      subst this
      obtain ⟨_, _, ho, e4, ro⟩ := w3.mo a _ e3
      cases ro with
      | dct rk =>
      exact ⟨a, _, rfl, DPut.k e4 (by rw [rk.length]; exact q3.1), k.nx σ _ F3 _ ss (x1.trans (x2.trans x3)) (w3.write e3 (.dct (rk.put (r1.mono (x2.trans x3))))) (sl.mono (x1.trans (x2.trans x3))) q3.2⟩
    · exact q3.elim
  · exact q3.elim
/-- the pairs of a display -/
def dPairs : List (E3 × E3) → SS → Mp → (List (T × T) → Mp → Prop) → Prop
  | [], _, M, Q => Q [] M
  | (tk, tv) :: r, ss, M, Q => tk ss M fun x M1 => tv ss M1 fun y M2 => dPairs r ss M2 fun ps M3 => Q ((x, y) :: ps) M3
def keysT : List (T × T) → Option (List (Key × T))
  | [] => some []
  | (x, y) :: r => match keyT x, keysT r with
    | some k, some s => some ((k, y) :: s)
    | _, _ => none
def dDisp (trs : List (E3 × E3)) : E3 := fun ss M Q => dPairs trs ss M fun ps M1 => match keysT ps with
  | some kvs => kvs.length ≤ 15 ∧ Q (.dic (mergeT [] kvs)) M1
  | none => False
def dDispM (trs : List (E3 × E3)) : E3 := fun ss M Q => dPairs trs ss M fun ps M1 => match keysT ps with
  | some kvs => kvs.length ≤ 15 ∧ ∀ p, M1 p = none → Q (.raw (.ref p)) (mset M1 p (.dct (mergeT [] kvs)))
  | none => False
inductive RepPs (K : PySem.W.Frag) (F : Hp) : List (V × V) → List (T × T) → Prop
  | nil : RepPs K F [] []
  | cons {x y : V} {t u : T} {ps : List (V × V)} {ts : List (T × T)} : Rep K F x t → Rep K F y u → RepPs K F ps ts → RepPs K F ((x, y) :: ps) ((t, u) :: ts)
theorem RepPs.keys {F : Hp} : ∀ {ps : List (V × V)} {ts : List (T × T)} {kvs : List (Key × T)}, RepPs K F ps ts → keysT ts = some kvs → ∃ vs : List (Key × V), ps = vs.map (fun kv => (kV kv.1, kv.2)) ∧ RepKV K F vs kvs
  | _, _, kvs, .nil, h => by cases h; exact ⟨[], rfl, .nil⟩
  | _, _, kvs, .cons hx hy r, h => by
    unfold keysT at h
    split at h
    · rename_i k s e1 e2
      cases h
      obtain ⟨vs, e3, r3⟩ := RepPs.keys r e2
      have := keyT_ok hx e1
      subst this
      subst e3
      exact ⟨(k, _) :: vs, rfl, .cons hy r3⟩
    · cases h
theorem lift_pairs {F0 O : Hp} {σ : L2.St} {ss : SS} {R : List (V × V) → Hp → Prop} : ∀ {trs : List (E3 × E3)} {F H : Hp} {M : Mp} {Q3 : List (T × T) → Mp → Prop}, Ex F0 F → Wd K F O H M → SlR K F σ ss → dPairs trs ss M Q3 →
    (∀ ps H' F' M' ts, Ex F F' → Wd K F' O H' M' → RepPs K F' ps ts → Q3 ts M' → R ps H') → tPairs (trs.map fun p => (liftE K p.1, liftE K p.2)) σ H R
  | [], F, H, M, Q3, x, w, sl, q, k => k [] H F M [] .refl w .nil q
  | (tk, tv) :: r, F, H, M, Q3, x, w, sl, q, k => by
    refine ⟨F, O, M, ss, _, w, sl, q, ?_⟩
    intro v H1 F1 M1 t x1 w1 r1 q1
    refine ⟨F1, O, M1, ss, _, w1, sl.mono x1, q1, ?_⟩
    intro u H2 F2 M2 t2 x2 w2 r2 q2
    refine lift_pairs (x.trans (x1.trans x2)) w2 (sl.mono (x1.trans x2)) q2 ?_
    intro ps H3 F3 M3 ts x3 w3 r3 q3
    exact k _ H3 F3 M3 _ (x1.trans (x2.trans x3)) w3 (.cons (r1.mono (x2.trans x3)) (r2.mono x3) r3) q3
abbrev DPs (X : Cx) (pos : Pos) (keys : List (Option Expr)) (values : List Expr) (trs : List (E3 × E3)) : Prop := PPs X pos keys values (trs.map fun p => (liftE X.K p.1, liftE X.K p.2))
theorem dps_nil : DPs X pos [] [] [] := pps_nil
theorem dps_cons {k v : Expr} {ks : List (Option Expr)} {vs : List Expr} {tk tv : E3} {trs : List (E3 × E3)} (hk : DE X k tk) (hv : DE X v tv) (hr : DPs X pos ks vs trs) : DPs X pos (some k :: ks) (v :: vs) ((tk, tv) :: trs) := pps_cons hk hv hr
theorem Wd.freeW {F O H : Hp} {M : Mp} {D : Addr} {o o' : HO} (w : Wd K F (upd O D o) H M) (hO : O D = none) : Wd K (upd F D o') O (upd H D o') M := (w.turnO (o' := o')).freeO hO
theorem d_disp {keys : List (Option Expr)} {values : List Expr} {trs : List (E3 × E3)} (h : DPs X pos keys values trs) (hall : keys.all (·.isSome) = true := by rfl) (hl : keys.length = values.length := by rfl) (h0 : keys ≠ [] := by intro z; cases z)
    (h15 : keys.length ≤ 15 := by decide) : DE X (.Dict keys values pos) (dDisp trs) := by
  refine pe_weak (pe_disp h hall hl h0 h15) ?_
  rintro σ H Q ⟨F, O, M, ss, Q3, w, sl, q, k⟩ p hp
  have hO := w.fO hp
  refine lift_pairs .refl (w.keepO hp) sl q ?_
  intro ps H1 F1 M1 ts x1 w1 r1 q1
  split at q1
  · rename_i kvs e1
    obtain ⟨vs, e2, r2⟩ := r1.keys e1
    obtain ⟨hD, hF⟩ := w1.oth p _ upd_same
    refine ⟨hD, vs, e2, by rw [r2.length]; exact q1.1, ?_⟩
    have x2 : Ex F1 (upd F1 p (.dK (mergeK [] vs))) := .upd hF
    exact k _ _ _ M1 _ (x1.trans x2) (w1.freeW hO) (.dic upd_same (RepKV.mono x2 (RepKV.merge r2 .nil))) q1.2
  · exact q1.elim
theorem d_dispM {keys : List (Option Expr)} {values : List Expr} {trs : List (E3 × E3)} (h : DPs X pos keys values trs) (hall : keys.all (·.isSome) = true := by rfl) (hl : keys.length = values.length := by rfl) (h0 : keys ≠ [] := by intro z; cases z)
    (h15 : keys.length ≤ 15 := by decide) : DE X (.Dict keys values pos) (dDispM trs) := by
  refine pe_weak (pe_disp h hall hl h0 h15) ?_
  rintro σ H Q ⟨F, O, M, ss, Q3, w, sl, q, k⟩ p hp
  have hO := w.fO hp
  refine lift_pairs .refl (w.keepO hp) sl q ?_
  intro ps H1 F1 M1 ts x1 w1 r1 q1
  split at q1
  · rename_i kvs e1
    obtain ⟨vs, e2, r2⟩ := r1.keys e1
    obtain ⟨hD, hF⟩ := w1.oth p _ upd_same
    refine ⟨hD, vs, e2, by rw [r2.length]; exact q1.1, ?_⟩
    obtain ⟨h3, w3⟩ := (w1.turnO (o' := .dK (mergeK [] vs))).freeOM hO (.dct (RepKV.merge r2 .nil))
    exact k _ _ _ _ _ x1 w3 (.raw _) (q1.2 p h3)
  · exact q1.elim
/-- {} -/
def dNewD : E3 := fun _ M Q => Q (.dic []) M
def dNewDM : E3 := fun _ M Q => ∀ p, M p = none → Q (.raw (.ref p)) (mset M p (.dct []))
theorem d_newD : DE X (.Dict [] [] pos) dNewD := by
  refine pe_weak pe_dnewK ?_
  rintro σ H Q ⟨F, O, M, ss, Q3, w, sl, q, k⟩
  exact fin_new w k (fun F' p x e => .dic e .nil) q
theorem d_newDM : DE X (.Dict [] [] pos) dNewDM := by
  refine pe_weak pe_dnewK ?_
  rintro σ H Q ⟨F, O, M, ss, Q3, w, sl, q, k⟩
  exact fin_newM w k (.dct .nil) q

/-! ### methods of lists -/
def isL (x : T) (M : Mp) : Prop := match look x M with | .lst _ => True | _ => False
/-- o.m(e, ..) of a list that changes -/
def dLm (R : T → List T → QE → Mp → Prop) (te : E3) (tl : A3) : E3 := fun ss M Q => te ss M fun x M1 => isL x M1 ∧ tl ss M1 fun ts M2 => R x ts Q M2
def mAppend (x : T) (ts : List T) (Q : QE) (M : Mp) : Prop := match x, ts with
  | .raw (.ref a), [y] => (match M a with
    | some (.lst xs) => xs.length < sizeLine ∧ Q .non (mset M a (.lst (xs ++ [y])))
    | _ => False)
  | _, _ => False
def MtD (K : PySem.W.Frag) (r : V → List V → Hp → VK → Prop) (R : T → List T → QE → Mp → Prop) : Prop :=
  ∀ (F O H : Hp) (M : Mp) (x : V) (t : T) (vs : List V) (ts : List T) (Q3 : QE) (Q : VK), Wd K F O H M → Rep K F x t → Reps K F vs ts → R t ts Q3 M → LkV K F O Q3 Q → r x vs H Q
theorem isL_ok {F O H : Hp} {M : Mp} (w : Wd K F O H M) {v : V} {t : T} (r : Rep K F v t) (h : isL t M) : tyV K "list" v H := by
  unfold isL at h
  have s := r.sees w
  split at h
  · rename_i e
    rw [e] at s
    cases s with
    | lst hx px => exact .inl ⟨rfl, _, .of hx⟩
  · exact h.elim
theorem d_lm {name : Str} {id : String} {apos cpos : Pos} {r : V → List V → Hp → VK → Prop} {R : T → List T → QE → Mp → Prop} (slot : Slot "list" name id) (hty : typeOf (.builtin id) = pure (.type "method_descriptor")) (hm : MtR X id r) (h : MtD X.K r R)
    (ho : DE X o te) (ha : DA X (e :: es) tl) (hbase : attributeBase o name X.env (eval o X.env) = eval o X.env := by rfl)
    (hfew : ((backTo cpos (starEach (e :: es) X.env)).all (fun x => !x.1) && (backToKw cpos (keywordEach [] X.env)).all (fun x => x.1.isSome)
      && decide ((e :: es).length + ([] : List Keyword).length + (if ([] : List Keyword).isEmpty then 0 else 1) < 30)) = true := by rfl)
    (hline : (apos.endLine == cpos.line) = true := by rfl) (hs : starEach (e :: es) X.env = (false, eval e X.env) :: starEach es X.env := by rfl) (hplain : (backTo cpos (starEach es X.env)).any (·.1) = false := by rfl) :
    DE X (.Call (.Attribute o name apos) (e :: es) [] cpos) (dLm R te tl) := by
  refine pe_weak (pe_bm PySem.F.plainAttrs_list slot hty hm ho ha hbase hfew hline hs hplain) ?_
  rintro σ H Q ⟨F, O, M, ss, Q3, w, sl, q, k⟩
  refine ⟨F, O, M, ss, _, w, sl, q, ?_⟩
  rintro v H1 F1 M1 t x1 w1 r1 ⟨c1, q1⟩
  refine ⟨isL_ok w1 r1 c1, F1, O, M1, ss, _, w1, sl.mono x1, q1, ?_⟩
  intro vs H2 F2 M2 ts x2 w2 r2 q2
  exact h F2 O H2 M2 v t vs ts Q3 Q w2 (r1.mono x2) r2 q2 (k.mono (x1.trans x2))
/-- o.m() -/
def dLm0 (R : T → List T → QE → Mp → Prop) (te : E3) : E3 := fun ss M Q => te ss M fun x M1 => isL x M1 ∧ R x [] Q M1
theorem d_lm0 {name : Str} {id : String} {apos cpos : Pos} {r : V → List V → Hp → VK → Prop} {R : T → List T → QE → Mp → Prop} (slot : Slot "list" name id) (hty : typeOf (.builtin id) = pure (.type "method_descriptor")) (hm : MtR X id r) (h : MtD X.K r R)
    (ho : DE X o te) (hbase : attributeBase o name X.env (eval o X.env) = eval o X.env := by rfl) (hline : (apos.endLine == cpos.line) = true := by rfl) :
    DE X (.Call (.Attribute o name apos) [] [] cpos) (dLm0 R te) := by
  refine pe_weak (pe_bm0 PySem.F.plainAttrs_list slot hty hm ho hbase hline) ?_
  rintro σ H Q ⟨F, O, M, ss, Q3, w, sl, q, k⟩
  refine ⟨F, O, M, ss, _, w, sl, q, ?_⟩
  rintro v H1 F1 M1 t x1 w1 r1 ⟨c1, q1⟩
  exact ⟨isL_ok w1 r1 c1, h F1 O H1 M1 v t [] [] Q3 Q w1 r1 .nil q1 (k.mono x1)⟩
theorem md_append : MtD K rAppend mAppend := by
  intro F O H M x t vs ts Q3 Q w rx rs q k
  unfold mAppend at q
  split at q
  · rename_i a y
    cases rx
    cases rs with
    | cons ry rn =>
    cases rn
    split at q
    · rename_i xs e1
      obtain ⟨_, _, ho, e2, ro⟩ := w.mo a _ e1
      cases ro with
      | lst rl =>
      exact ⟨a, _, _, rfl, rfl, e2, by rw [rl.length]; exact q.1, k _ _ F _ _ .refl (w.write e1 (.lst (rl.append (.cons ry .nil)))) .non q.2⟩
    · exact q.elim
  · exact q.elim
def mPop (x : T) (ts : List T) (Q : QE) (M : Mp) : Prop := match x, ts with
  | .raw (.ref a), [] => (match M a with
    | some (.lst xs) => (match xs[xs.length - 1]? with | some t => Q t (mset M a (.lst xs.dropLast)) | none => False)
    | _ => False)
  | _, _ => False
theorem Reps.dropLast {F : Hp} {vs : List V} {ts : List T} (r : Reps K F vs ts) : Reps K F vs.dropLast ts.dropLast := by
  rw [List.dropLast_eq_take, List.dropLast_eq_take, r.length]
  exact r.take _
theorem md_pop : MtD K rPop mPop := by
  intro F O H M x t vs ts Q3 Q w rx rs q k
  unfold mPop at q
  split at q
  · rename_i a
    cases rx
    cases rs
    split at q
    · rename_i xs e1
      obtain ⟨_, _, ho, e2, ro⟩ := w.mo a _ e1
      cases ro with
      | lst rl =>
      split at q
      · rename_i t' e3
        obtain ⟨v, e4, rv⟩ := rl.get e3
        exact ⟨a, _, v, rfl, rfl, e2, by rw [rl.length]; exact e4, k _ _ F _ _ .refl (w.write e1 (.lst rl.dropLast)) rv q⟩
      · exact q.elim
    · exact q.elim
  · exact q.elim
theorem d_append {apos cpos : Pos} (ho : DE X o te) (ha : DA X [e] tl) (hbase : attributeBase o "append" X.env (eval o X.env) = eval o X.env := by rfl)
    (hfew : ((backTo cpos (starEach [e] X.env)).all (fun x => !x.1) && (backToKw cpos (keywordEach [] X.env)).all (fun x => x.1.isSome)
      && decide (([e] : List Expr).length + ([] : List Keyword).length + (if ([] : List Keyword).isEmpty then 0 else 1) < 30)) = true := by rfl)
    (hline : (apos.endLine == cpos.line) = true := by rfl) (hs : starEach [e] X.env = (false, eval e X.env) :: starEach [] X.env := by rfl) :
    DE X (.Call (.Attribute o "append" apos) [e] [] cpos) (dLm mAppend te tl) := d_lm PySem.F.slot_list_append PySem.F.type_list_append mt_append md_append ho ha hbase hfew hline hs rfl
theorem d_pop {apos cpos : Pos} (ho : DE X o te) (hbase : attributeBase o "pop" X.env (eval o X.env) = eval o X.env := by rfl) (hline : (apos.endLine == cpos.line) = true := by rfl) :
    DE X (.Call (.Attribute o "pop" apos) [] [] cpos) (dLm0 mPop te) := d_lm0 PySem.F.slot_list_pop PySem.F.type_list_pop mt_pop md_pop ho hbase hline
/-! ### methods of texts -/
def isS (x : T) : Prop := match x with | .str _ => True | _ => False
def dSm (R : T → List T → QE → Mp → Prop) (te : E3) (tl : A3) : E3 := fun ss M Q => te ss M fun x M1 => isS x ∧ tl ss M1 fun ts M2 => R x ts Q M2
theorem isS_ok {F H : Hp} {v : V} {t : T} (r : Rep K F v t) (h : isS t) : tyV K "str" v H := by
  unfold isS at h
  split at h
  · cases r; rfl
  · exact h.elim
theorem d_sm {name : Str} {id : String} {apos cpos : Pos} {r : V → List V → Hp → VK → Prop} {R : T → List T → QE → Mp → Prop} (slot : Slot "str" name id) (hty : typeOf (.builtin id) = pure (.type "method_descriptor")) (hm : MtR X id r) (h : MtD X.K r R)
    (ho : DE X o te) (ha : DA X (e :: es) tl) (hbase : attributeBase o name X.env (eval o X.env) = eval o X.env := by rfl)
    (hfew : ((backTo cpos (starEach (e :: es) X.env)).all (fun x => !x.1) && (backToKw cpos (keywordEach [] X.env)).all (fun x => x.1.isSome)
      && decide ((e :: es).length + ([] : List Keyword).length + (if ([] : List Keyword).isEmpty then 0 else 1) < 30)) = true := by rfl)
    (hline : (apos.endLine == cpos.line) = true := by rfl) (hs : starEach (e :: es) X.env = (false, eval e X.env) :: starEach es X.env := by rfl) (hplain : (backTo cpos (starEach es X.env)).any (·.1) = false := by rfl) :
    DE X (.Call (.Attribute o name apos) (e :: es) [] cpos) (dSm R te tl) := by
  refine pe_weak (pe_bm PySem.F.plainAttrs_str slot hty hm ho ha hbase hfew hline hs hplain) ?_
  rintro σ H Q ⟨F, O, M, ss, Q3, w, sl, q, k⟩
  refine ⟨F, O, M, ss, _, w, sl, q, ?_⟩
  rintro v H1 F1 M1 t x1 w1 r1 ⟨c1, q1⟩
  refine ⟨isS_ok r1 c1, F1, O, M1, ss, _, w1, sl.mono x1, q1, ?_⟩
  intro vs H2 F2 M2 ts x2 w2 r2 q2
  exact h F2 O H2 M2 v t vs ts Q3 Q w2 (r1.mono x2) r2 q2 (k.mono (x1.trans x2))
def strsT : List T → Option (List Str)
  | [] => some []
  | .str b :: r => (strsT r).map (b :: ·)
  | _ => none
theorem strs_eq : ∀ {ts : List T} {bs : List Str}, strsT ts = some bs → ts = bs.map T.str
  | [], bs, h => by cases h; rfl
  | t :: r, bs, h => by
    unfold strsT at h
    split at h
    · rename_i e; cases e
    · rename_i e
      cases e
      obtain ⟨cs, e1, e2⟩ := Option.map_eq_some_iff.mp h
      subst e2
      rw [List.map_cons, strs_eq e1]
    · cases h
def mJoin (x : T) (ts : List T) (Q : QE) (M : Mp) : Prop := match x, ts with
  | .str a, [y] => (match seqOf (look y M) with
    | some xs => (match strsT xs with | some ys => (ys.map (·.length)).sum + ys.length * a.length ≤ 16777216 ∧ Q (.str (Txt.join a ys)) M | none => False)
    | none => False)
  | _, _ => False
theorem md_join : MtD K (fun x xs H Q => ∃ a p, ∃ ys : List Str, x = .str a ∧ xs = [.ref p] ∧ (SqL K H p (ys.map V.str) ∨ SqT K H p (ys.map V.str)) ∧
    (ys.map (·.length)).sum + ys.length * a.length ≤ 16777216 ∧ Q (.str (Txt.join a ys)) H) mJoin := by
  intro F O H M x t vs ts Q3 Q w rx rs q k
  unfold mJoin at q
  split at q
  · rename_i a y
    cases rx
    cases rs with
    | cons ry rn =>
    cases rn
    split at q
    · rename_i xs e1
      split at q
      · rename_i ys e2
        obtain ⟨p, us, rfl, hq, px⟩ := (ry.sees w).seq w e1
        have e3 := strs_eq e2
        subst e3
        have e4 := px.strs
        subst e4
        exact ⟨a, p, ys, rfl, rfl, hq, q.1, fin_flat w k (.str _) q.2⟩
      · exact q.elim
    · exact q.elim
  · exact q.elim
theorem d_join {apos cpos : Pos} (ho : DE X o te) (ha : DA X [e] tl) (hbase : attributeBase o "join" X.env (eval o X.env) = eval o X.env := by rfl)
    (hfew : ((backTo cpos (starEach [e] X.env)).all (fun x => !x.1) && (backToKw cpos (keywordEach [] X.env)).all (fun x => x.1.isSome)
      && decide (([e] : List Expr).length + ([] : List Keyword).length + (if ([] : List Keyword).isEmpty then 0 else 1) < 30)) = true := by rfl)
    (hline : (apos.endLine == cpos.line) = true := by rfl) (hs : starEach [e] X.env = (false, eval e X.env) :: starEach [] X.env := by rfl) :
    DE X (.Call (.Attribute o "join" apos) [e] [] cpos) (dSm mJoin te tl) := d_sm PySem.F.slot_str_join PySem.F.type_str_join mt_join md_join ho ha hbase hfew hline hs rfl
end

/-! ### in, not in: a sign in a text, a flat value in a list or tuple -/
section
variable {X : Cx} {K : PySem.W.Frag} {a b : Expr} {ta tb : E3} {pos : Pos}
def oInS (neg : Bool) (x y : T) (Q : QE) (M : Mp) : Prop := match x, y with
  | .str s, .str z => (match s.cps.toList with | [c] => Q (.bl (if neg then !decide (c ∈ z.cps.toList) else decide (c ∈ z.cps.toList))) M | _ => False)
  | _, _ => False
theorem one_sign {s : Str} {c : Nat} (h : s.cps.toList = [c]) : s = ⟨#[c]⟩ := by
  obtain ⟨⟨l⟩⟩ := s
  have h' : l = [c] := h
  subst h'
  rfl
theorem od_inS : OpD K (fun x y H Q => ∃ (c : Nat) (z : Str), x = .str ⟨#[c]⟩ ∧ y = .str z ∧ Q (.bl (decide (c ∈ z.cps.toList))) H) (oInS false) := by
  intro F O H M x y t u Q3 Q w rx ry q k
  unfold oInS at q
  split at q
  · split at q
    · rename_i c e
      cases rx; cases ry
      exact ⟨c, _, by rw [one_sign e], rfl, fin_flat w k (.bl _) q⟩
    · exact q.elim
  · exact q.elim
theorem od_ninS : OpD K (fun x y H Q => ∃ (c : Nat) (z : Str), x = .str ⟨#[c]⟩ ∧ y = .str z ∧ Q (.bl (!decide (c ∈ z.cps.toList))) H) (oInS true) := by
  intro F O H M x y t u Q3 Q w rx ry q k
  unfold oInS at q
  split at q
  · split at q
    · rename_i c e
      cases rx; cases ry
      exact ⟨c, _, by rw [one_sign e], rfl, fin_flat w k (.bl _) q⟩
    · exact q.elim
  · exact q.elim
theorem d_inS (ha : DE X a ta) (hb : DE X b tb) (hm : behindInMarks .In b = false) : DE X (.Compare a [.In] [b] pos) (dOp2 (oInS false) ta tb) := d_cmp op_in_sign od_inS ha hb hm
theorem d_ninS (ha : DE X a ta) (hb : DE X b tb) (hm : behindInMarks .NotIn b = false) : DE X (.Compare a [.NotIn] [b] pos) (dOp2 (oInS true) ta tb) := d_cmp op_notIn_sign od_ninS ha hb hm
/-- a flat value among flat values -/
def eqF : T → T → Bool
  | .non, .non => true
  | .bl a, .bl b => a == b
  | .bl a, .int j => (if a then 1 else 0) == j
  | .int i, .bl b => i == (if b then 1 else 0)
  | .int i, .int j => i == j
  | .str a, .str b => a == b
  | _, _ => false
def flatT : T → Bool
  | .non => true | .bl _ => true | .int _ => true | .str _ => true | _ => false
theorem flatT_ok {F O H : Hp} {M : Mp} {v : V} {t : T} (r : Rep K F v t) (h : flatT t = true) : flatV v = true := by
  cases r <;> first | rfl | cases h
theorem eqF_ok {F : Hp} {v u : V} {t s : T} (r : Rep K F v t) (q : Rep K F u s) (h : flatT t = true) (h' : flatT s = true) : eqV v u = eqF t s := by
  cases r <;> first | (cases h; done) | (cases q <;> first | rfl | (cases h'; done))
def inT (x : T) (xs : List T) : Bool := xs.any fun y => eqF y x
theorem inT_ok {F : Hp} {x : V} {t : T} (r : Rep K F x t) (h : flatT t = true) : ∀ {vs : List V} {ts : List T}, Reps K F vs ts → ts.all flatT = true → vs.all flatV = true ∧ inV x vs = inT t ts
  | _, _, .nil, _ => ⟨rfl, rfl⟩
  | _, _, .cons q rs, e => by
    rw [List.all_cons, Bool.and_eq_true] at e
    obtain ⟨h1, h2⟩ := inT_ok r h rs e.2
    refine ⟨by rw [List.all_cons, flatT_ok (F := F) (O := F) (H := F) (M := fun _ => none) q e.1, h1]; rfl, ?_⟩
    unfold inV inT at *
    rw [List.any_cons, List.any_cons, eqF_ok q r e.1 h, h2]
def oIn (neg : Bool) (x y : T) (Q : QE) (M : Mp) : Prop := match seqOf (look y M) with
  | some xs => flatT x = true ∧ xs.all flatT = true ∧ Q (.bl (if neg then !inT x xs else inT x xs)) M
  | none => False
theorem od_in {neg : Bool} : OpD K (rIn K neg) (oIn neg) := by
  intro F O H M x y t u Q3 Q w rx ry q k
  unfold oIn at q
  split at q
  · rename_i xs e
    obtain ⟨p, us, rfl, hq, px⟩ := (ry.sees w).seq w e
    obtain ⟨f1, f2, q⟩ := q
    obtain ⟨h1, h2⟩ := inT_ok rx f1 px f2
    exact ⟨p, us, rfl, hq, flatT_ok (F := F) (O := O) (H := H) (M := M) rx f1, h1, by rw [h2]; exact fin_flat w k (.bl _) q⟩
  · exact q.elim
theorem d_in (ha : DE X a ta) (hb : DE X b tb) (hm : behindInMarks .In b = false) : DE X (.Compare a [.In] [b] pos) (dOp2 (oIn false) ta tb) := d_cmp op_in_seq od_in ha hb hm
theorem d_nin (ha : DE X a ta) (hb : DE X b tb) (hm : behindInMarks .NotIn b = false) : DE X (.Compare a [.NotIn] [b] pos) (dOp2 (oIn true) ta tb) := d_cmp op_notIn_seq od_in ha hb hm
theorem dt_in (ha : DE X a ta) (hb : DE X b tb) (hm : behindInMarks .In b = false) : DT X (.Compare a [.In] [b] pos) (dB (dOp2 (oIn false) ta tb)) := dt_cmp op_in_seq od_in ha hb hm
theorem dt_nin (ha : DE X a ta) (hb : DE X b tb) (hm : behindInMarks .NotIn b = false) : DT X (.Compare a [.NotIn] [b] pos) (dB (dOp2 (oIn true) ta tb)) := dt_cmp op_notIn_seq od_in ha hb hm

/-! ### repr -/
section
variable {pins : List (Addr × Obj)} {σ : L2.St} {s : Shared} {F O H : Hp} {M : Mp}
theorem list_apart (I : Inv X pins σ H s) (hy : SysAt X.base) {p : Addr} {o : Obj} {its : Array Value} {n : Nat} (e : s.heap.get? p = some o) (d : o.data = .seq its n) : sysModules ≠ p := by
  obtain ⟨o', es, ep, e1, d1⟩ := hy
  intro z
  have e2 := I.bk _ _ e1
  rw [z, e] at e2
  cases e2
  rw [d] at d1
  cases d1
mutual
theorem Rep.reads (I : Inv X pins σ H s) (w : Wd X.K F O H M) (hy : SysAt X.base) : ∀ {v : V} {t : T} {d : PyData} {u : Value}, Rep X.K F v t → t.py = some d → RelV v u → ∃ as, Reads s.heap u d as ∧ sysModules ∉ as
  | _, _, _, _, .non, e, r => by cases e; cases r; exact ⟨[], .none, List.not_mem_nil⟩
  | _, _, _, _, .bl b, e, r => by cases e; cases r; exact ⟨[], .bool b, List.not_mem_nil⟩
  | _, _, _, _, .int i, e, r => by cases e; obtain ⟨t, rfl⟩ := r; exact ⟨[], .int i t, List.not_mem_nil⟩
  | _, _, _, _, .str x, e, r => by cases e; obtain ⟨t, rfl⟩ := r; exact ⟨[], .str x t, List.not_mem_nil⟩
  | _, _, _, _, .tup h rs, e, r => by
    rw [T.py] at e
    obtain ⟨ds, e1, e2⟩ := Option.map_eq_some_iff.mp e
    subst e2
    cases r
    obtain ⟨its, rv, ⟨o, e3, c, n, dd⟩, _⟩ := I.tuple (w.ex.sqT h)
    obtain ⟨as, h1, h2⟩ := Reps.reads I w hy rs e1 rv
    exact ⟨as, .tuple e3 c dd h1, h2⟩
  | _, _, _, _, .lst h rs, e, r => by
    rw [T.py] at e
    obtain ⟨ds, e1, e2⟩ := Option.map_eq_some_iff.mp e
    subst e2
    cases r
    obtain ⟨its, rv, ⟨o, n, e3, c, _, dd⟩, _⟩ := I.list (.of (w.sub _ _ h))
    obtain ⟨as, h1, h2⟩ := Reps.reads I w hy rs e1 rv
    exact ⟨_, .list e3 c dd h1, fun z => (List.mem_cons.mp z).elim (list_apart I hy e3 dd) h2⟩
  | _, _, _, _, .scr h rs, e, r => by
    rw [T.py] at e
    obtain ⟨ds, e1, e2⟩ := Option.map_eq_some_iff.mp e
    subst e2
    cases r
    obtain ⟨its, rv, ⟨o, n, e3, c, _, dd⟩, _⟩ := I.list (w.ex.sqL h)
    obtain ⟨as, h1, h2⟩ := Reps.reads I w hy rs e1 rv
    exact ⟨_, .list e3 c dd h1, fun z => (List.mem_cons.mp z).elim (list_apart I hy e3 dd) h2⟩
  | _, _, _, _, .dic (kvs := kvs) h rs, e, r => by
    rw [T.py] at e
    obtain ⟨ds, e1, e2⟩ := Option.map_eq_some_iff.mp e
    subst e2
    cases r
    obtain ⟨_, ne, vs, rk, o, es, ep, e3, ex, dd, _, pr, _⟩ := dk_of I.hok (w.sub _ _ h)
    obtain ⟨as, bs, h1, h2, h3, h4⟩ := RepKV.reads I w hy rs e1 rk pr
    refine ⟨_, .dict e3 ex.1 dd h1 h2, fun z => ?_⟩
    rcases List.mem_append.mp z with z | z
    · rcases List.mem_cons.mp z with z | z
      · rw [← z] at ne
        exact absurd ne (by decide)
      · exact h3 z
    · exact h4 z
  | _, _, _, _, .raw _, e, _ => by cases e
theorem Reps.reads (I : Inv X pins σ H s) (w : Wd X.K F O H M) (hy : SysAt X.base) : ∀ {vs : List V} {ts : List T} {ds : List PyData} {us : List Value}, Reps X.K F vs ts → T.pys ts = some ds → Vals vs us → ∃ as, ReadsAll s.heap us ds as ∧ sysModules ∉ as
  | _, _, _, _, .nil, e, r => by cases e; cases r; exact ⟨[], .nil, List.not_mem_nil⟩
  | _, _, _, _, .cons h rs, e, r => by
    rw [T.pys] at e
    split at e
    · rename_i e1 e2
      cases e
      cases r with
      | cons r1 r2 =>
      obtain ⟨as, h1, h2⟩ := Rep.reads I w hy h e1 r1
      obtain ⟨bs, h3, h4⟩ := Reps.reads I w hy rs e2 r2
      exact ⟨as ++ bs, .cons h1 h3, fun z => (List.mem_append.mp z).elim h2 h4⟩
    · cases e
theorem RepKV.reads (I : Inv X pins σ H s) (w : Wd X.K F O H M) (hy : SysAt X.base) : ∀ {vs : List (Key × V)} {ts : List (Key × T)} {ds : List (PyData × PyData)} {us : List (Key × Value)} {es : List DictEntry}, RepKV X.K F vs ts → T.pyKV ts = some ds → KV vs us →
    Pairs (mixKind X.prog X.w) es us → ∃ as bs, ReadsAll s.heap (es.map (·.key)) (ds.map (·.1)) as ∧ ReadsAll s.heap (es.map (·.val)) (ds.map (·.2)) bs ∧ sysModules ∉ as ∧ sysModules ∉ bs
  | _, _, _, _, _, .nil, e, r, p => by cases e; cases r; cases p; exact ⟨[], [], .nil, .nil, List.not_mem_nil, List.not_mem_nil⟩
  | _, _, _, _, _, .cons (k := k) h rs, e, r, p => by
    rw [T.pyKV.eq_def] at e
    dsimp only at e
    split at e
    · rename_i e1 e2
      cases e
      cases r with
      | cons r1 r2 =>
      cases p with
      | cons p1 p2 p3 =>
      obtain ⟨as, h1, h2⟩ := Rep.reads I w hy h e1 r1.2
      obtain ⟨as', bs, g1, g2, g3, g4⟩ := RepKV.reads I w hy rs e2 r2 p3
      have hk := r1.1
      rw [← hk] at p1
      refine ⟨[] ++ as', as ++ bs, ?_, ?_, g3, fun z => (List.mem_append.mp z).elim h2 g4⟩
      · refine ReadsAll.cons ?_ g1
        rcases keyIs_shape (show keyIs k _ = true from p1) with ⟨i, t, e3, e4⟩ | ⟨x, t, e3, e4⟩
        · subst e3
          dsimp only
          rw [e4]
          exact .int i t
        · subst e3
          dsimp only
          rw [e4]
          exact .str x t
      · refine ReadsAll.cons ?_ g2
        dsimp only
        rw [p2]
        exact h1
    · cases e
end
theorem Sees.reads (I : Inv X pins σ H s) (w : Wd X.K F O H M) (hy : SysAt X.base) {v : V} {t : T} {d : PyData} {u : Value} (r : Sees X.K F H v t) (e : t.py = some d) (rv : RelV v u) : ∃ as, Reads s.heap u d as ∧ sysModules ∉ as := by
  cases r with
  | non => exact Rep.reads I w hy .non e rv
  | bl b => exact Rep.reads I w hy (.bl b) e rv
  | int i => exact Rep.reads I w hy (.int i) e rv
  | str x => exact Rep.reads I w hy (.str x) e rv
  | tup h r => exact Rep.reads I w hy (.tup h r) e rv
  | lst h rs =>
    rw [T.py] at e
    obtain ⟨ds, e1, e2⟩ := Option.map_eq_some_iff.mp e
    subst e2
    cases rv
    obtain ⟨its, rv, ⟨o, n, e3, c, _, dd⟩, _⟩ := I.list (.of h)
    obtain ⟨as, h1, h2⟩ := Reps.reads I w hy rs e1 rv
    exact ⟨_, .list e3 c dd h1, fun z => (List.mem_cons.mp z).elim (list_apart I hy e3 dd) h2⟩
  | scr h rs =>
    rw [T.py] at e
    obtain ⟨ds, e1, e2⟩ := Option.map_eq_some_iff.mp e
    subst e2
    cases rv
    obtain ⟨its, rv, ⟨o, n, e3, c, _, dd⟩, _⟩ := I.list h
    obtain ⟨as, h1, h2⟩ := Reps.reads I w hy rs e1 rv
    exact ⟨_, .list e3 c dd h1, fun z => (List.mem_cons.mp z).elim (list_apart I hy e3 dd) h2⟩
  | dic h rs =>
    rw [T.py] at e
    obtain ⟨ds, e1, e2⟩ := Option.map_eq_some_iff.mp e
    subst e2
    cases rv
    obtain ⟨_, ne, vs, rk, o, es, ep, e3, ex, dd, _, pr, _⟩ := dk_of I.hok h
    obtain ⟨as, bs, h1, h2, h3, h4⟩ := RepKV.reads I w hy rs e1 rk pr
    refine ⟨_, .dict e3 ex.1 dd h1 h2, fun z => ?_⟩
    rcases List.mem_append.mp z with z | z
    · rcases List.mem_cons.mp z with z | z
      · rw [← z] at ne
        exact absurd ne (by decide)
      · exact h3 z
    · exact h4 z
  | raw v => cases e
end
/-- what repr shows, if it can be shown -/
def Shows (d : PyData) : Prop := d.showable = true ∧ d.depth ≤ 60 ∧ d.shown.length ≤ sizeLine
def fRepr (ts : List T) (Q : QE) (M : Mp) : Prop := match ts with
  | [x] => (match (look x M).py with | some d => Shows d ∧ Q (.str d.shown) M | none => False)
  | _ => False
theorem d_repr {e : Expr} {tl : A3} {p pos : Pos} (hgd : X.A.guards = some []) (hu : X.A.units + 64 < cLine) (hy : SysAt X.base) (hg : Gl X "repr") (hm : X.mg "repr" = none) (ha : DA X [e] tl)
    (he : starEach [e] X.env = (false, eval e X.env) :: starEach [] X.env := by rfl) : DE X (.Call (.Name "repr" p) [e] [] pos) (dCall fRepr tl) := by
  constructor
  rintro pins s σ H Q I ⟨F, O, M, ss, Q3, w, sl, q, k⟩
  refine wpAny_Call_Name_kw (ld_blt I hg hm (u := .builtin "repr") (by decide +kernel) ?_)
  refine PyProof.Rows.callWith_builtin1 (thn (ha.run pos pins s σ H (fun vs H1 => ∃ F1 M1 ts, Ex F F1 ∧ Wd X.K F1 O H1 M1 ∧ Reps X.K F1 vs ts ∧ fRepr ts Q3 M1) I
    ⟨F, O, M, ss, _, w, sl, q, fun vs H1 F1 M1 ts x1 w1 r1 q1 => ⟨F1, M1, ts, x1, w1, r1, q1⟩⟩) ?_) he rfl
  rintro us s1 ⟨vs, H1, I1, rv, F1, M1, ts, x1, w1, rs, q1⟩
  unfold fRepr at q1
  split at q1
  · rename_i x
    cases rs with
    | cons rx rn =>
    cases rn
    cases rv with
    | cons rv rn =>
    cases rn
    split at q1
    · rename_i d e1
      obtain ⟨⟨c1, c2, c3⟩, q1⟩ := q1
      have kk : ∀ (tk : Nat) (t : Tok), EP X pins σ Q (.str d.shown t) { s1 with toks := tk } := fun tk t => ⟨.str d.shown, H1, I1.tok _, ⟨_, rfl⟩, k _ H1 F1 M1 _ x1 w1 (.str _) q1⟩
      have sx := rx.sees w1
      obtain ⟨as, hr, hs⟩ := sx.reads I1 w1 hy e1 rv
      cases hr with
      | none => exact P.repr_of_none (kk _ _)
      | bool b => exact P.repr_of_bool (kk _ _)
      | int i t => exact P.repr_of_int (by simpa [PyData.showable] using c1) (kk _ _)
      | str x t => exact P.repr_of_str (kk _ _) (by simpa [PyData.shown] using c3)
      | list h1 h2 h3 h4 =>
        exact repr_of_reads' (.list h1 h2 h3 h4) c1 (fun _ => hs) hgd (by omega) (fun _ _ z => z) (fun h' u tk hk => ⟨.str _, H1, I1.kept (t' := tk) hk, ⟨_, rfl⟩, k _ H1 F1 M1 _ x1 w1 (.str _) q1⟩) c3
      | tuple h1 h2 h3 h4 =>
        exact repr_of_reads' (.tuple h1 h2 h3 h4) c1 (fun _ => hs) hgd (by omega) (fun _ _ z => z) (fun h' u tk hk => ⟨.str _, H1, I1.kept (t' := tk) hk, ⟨_, rfl⟩, k _ H1 F1 M1 _ x1 w1 (.str _) q1⟩) c3
      | dict h1 h2 h3 h4 h5 =>
        exact repr_of_reads' (.dict h1 h2 h3 h4 h5) c1 (fun _ => hs) hgd (by omega) (fun _ _ z => z) (fun h' u tk hk => ⟨.str _, H1, I1.kept (t' := tk) hk, ⟨_, rfl⟩, k _ H1 F1 M1 _ x1 w1 (.str _) q1⟩) c3
    · exact q1.elim
  · exact q1.elim
end
end L3

set_option maxHeartbeats 1000000
/-! L3F: promises of defs over trees, calls, the law's end. -/
namespace L3
open PySem PySem.Spec PyProof.Rows L2

/-- a def's promise: its arguments, what may change, what is wanted behind it -/
abbrev Sp3 := List T → Mp → QE → Prop
def liftSp (K : PySem.W.Frag) (sp : Sp3) : Sp := fun vs H Q _ => ∃ F O M ts Q3, Wd K F O H M ∧ Reps K F vs ts ∧ sp ts M Q3 ∧ LkV K F O Q3 Q
abbrev FnD (P : Program) (w : World) (K : PySem.W.Frag) (mg : Str → Option Value) (base : Heap) (k : Nat) (f : Addr) (fd : FuncData) (ps : List Str) (sp : Sp3) : Prop :=
  FnG P w K mg base CX0 k f fd ps (liftSp K sp)
def start3 (N : List Str) (ts : List T) : SS := ts.map some ++ List.replicate (N.length - ts.length) none

theorem slr_start {K : PySem.W.Frag} {F : Hp} {N : List Str} {vs : List V} {ts : List T} (r : Reps K F vs ts) : SlR K F (L2.start N vs) (start3 N ts) := by
  have hl := r.length
  refine ⟨?_, fun i t e => ?_⟩
  · unfold L2.start start3
    rw [List.length_append, List.length_append, List.length_map, List.length_map, List.length_replicate, List.length_replicate, hl]
  · unfold start3 at e
    unfold L2.start
    by_cases hi : i < ts.length
    · rw [List.getElem?_append_left (by rw [List.length_map]; exact hi), List.getElem?_map] at e
      obtain ⟨t', e1, e2⟩ := Option.map_eq_some_iff.mp e
      cases e2
      obtain ⟨v, e3, r3⟩ := r.get e1
      refine ⟨v, ?_, r3⟩
      rw [List.getElem?_append_left (by rw [List.length_map]; omega), List.getElem?_map, e3]
      rfl
    · rw [List.getElem?_append_right (by rw [List.length_map]; omega), List.getElem?_replicate] at e
      split at e <;> cases e

theorem okD {P : Program} {w : World} {K : PySem.W.Frag} {mg : Str → Option Value} {base : Heap} {x qual : Str} {st : Stmt} {f : Addr}
    {fd : FuncData} {N ps : List Str} {k : Nat} {sp : Sp3} (F : Fun K x qual st f fd) (S : FnScope N ps (defScope st))
    (len : ∀ ts M Q, sp ts M Q → ts.length = ps.length)
    (hbody : ∀ (cdv : Value) (A : Around) (outer : List Env) (s : Shared) (H : Hp) (E : XK),
      Room k (A.deeper (envOfC qual (defScope st) s.heap.objs.size f cdv)) → (A.deeper (envOfC qual (defScope st) s.heap.objs.size f cdv)).guards = some [] →
      ∃ t : S3, DSs (cxOf CX0 P w K mg base N qual (defScope st) f cdv A outer s H E).nox (defBody st) t ∧
        ∀ (ts : List T) (M : Mp) (Q : QE), sp ts M Q → t { nx := fun _ M' => Q .non M', rt := Q } (start3 N ts) M) :
    FnD P w K mg base (k + 1) f fd ps sp := by
  refine okG F S ?_ ?_
  · rintro vs H Q E ⟨F, O, M, ts, Q3, w, r, h, _⟩
    exact r.length.trans (len ts M Q3 h)
  · rintro cdv A outer s H vs Q E hr hg ⟨F0, O, M, ts, Q3, w0, r, h, lk⟩
    obtain ⟨t, ht, hq⟩ := hbody cdv A outer s H E hr hg
    refine ⟨_, ht.nox, F0, O, M, start3 N ts, _, w0, slr_start r, hq ts M Q3 h, ?_, lk, ?_, ?_⟩
    · intro σ' H' F' M' ss' x' w' sl' q'
      exact lk _ H' F' M' _ x' w' .non q'
    · intro _ _ _ _ _ _ _ _ q
      exact q
    · intro _ _ _ _ _ _ _ _ q
      exact q

/-- arguments in the parameters' order: n positional ones, m by name, then defaults -/
def pick {α : Type} (n m : Nat) (perm : List Nat) (ds us ws : List α) : List α :=
  if us.length = n ∧ ws.length = m then perm.filterMap fun i => (us ++ ws ++ ds)[i]? else []
def Rel2 {α β : Type} (R : α → β → Prop) : List α → List β → Prop
  | [], [] => True
  | a :: as, b :: bs => R a b ∧ Rel2 R as bs
  | _, _ => False
theorem pick_vals {n m : Nat} {perm : List Nat} {dvs : List V} {ds : List Value} (hd : Vals dvs ds) {vs zs : List V} {us ws : List Value} (r : Vals vs us) (q : Vals zs ws) : Vals (pick n m perm dvs vs zs) (pick n m perm ds us ws) := by
  unfold pick
  rw [r.length, q.length]
  split
  · have a := (r.append q).append hd
    induction perm with
    | nil => exact .nil
    | cons i is ih =>
      rw [List.filterMap_cons, List.filterMap_cons]
      cases e : (vs ++ zs ++ dvs)[i]? with
      | none => rw [a.none_of e]; exact ih
      | some v =>
        obtain ⟨u, e2, r2⟩ := a.get e
        rw [e2]
        exact .cons r2 ih
  · exact .nil
theorem pick_reps {K : PySem.W.Frag} {F : Hp} {n m : Nat} {perm : List Nat} {dvs : List V} {ds : List T} (hd : Reps K F dvs ds) {vs zs : List V} {us ws : List T} (r : Reps K F vs us) (q : Reps K F zs ws) : Reps K F (pick n m perm dvs vs zs) (pick n m perm ds us ws) := by
  unfold pick
  rw [r.length, q.length]
  split
  · have a := (r.append q).append hd
    induction perm with
    | nil => exact .nil
    | cons i is ih =>
      rw [List.filterMap_cons, List.filterMap_cons]
      cases e : (us ++ ws ++ ds)[i]? with
      | none =>
        have e2 : (vs ++ zs ++ dvs)[i]? = none := by
          rw [List.getElem?_eq_none_iff] at e ⊢
          rw [a.length]
          exact e
        rw [e2]
        exact ih
      | some t =>
        obtain ⟨v, e2, r2⟩ := a.get e
        rw [e2]
        exact .cons r2 ih
  · exact .nil

section
variable {X : Cx} {k : Nat} {f : Addr} {fd : FuncData} {ps ks : List Str} {sp : Sp3} {x : Str} {p pos : Pos} {e : Expr} {es : List Expr} {kws : List Keyword} {tl tk : A3} {n m : Nat} {perm : List Nat} {ds : List Value} {dvs : List V} {dts : List T}
/-- how the call's arguments come to the parameters -/
structure KB (K : PySem.W.Frag) (fd : FuncData) (ps ks : List Str) (n m : Nat) (perm : List Nat) (ds : List Value) (dvs : List V) (dts : List T) : Prop where
  to : ∀ (s : Shared) (us ws : List Value), K.In s.heap → us.length = n → ws.length = m → BindsTo s fd ⟨us, ks.zip ws⟩ (ps.zip (pick n m perm ds us ws))
  rel : Vals dvs ds
  rep : ∀ F, Reps K F dvs dts
  ne : ps ≠ []
theorem KB.kb {K : PySem.W.Frag} (h : KB K fd ps ks n m perm ds dvs dts) : KBinds K fd ps ks (pick n m perm ds) (pick n m perm dvs) := by
  refine ⟨fun s us ws hk hl => ?_, fun r q => pick_vals h.rel r q⟩
  by_cases c : us.length = n ∧ ws.length = m
  · exact h.to s us ws hk c.1 c.2
  · unfold pick at hl
    rw [if_neg c] at hl
    exact absurd (List.length_eq_zero_iff.mp hl.symm) h.ne
/-- no defaults -/
theorem KB.mk0 {K : PySem.W.Frag} {x qual : Str} {st : Stmt} (F : Fun K x qual st f fd) (ne : ps ≠ [])
    (h : ∀ (kV doc pm : Value) (an : Option Addr) (cdv ct : Value) (us ws : List Value), us.length = n → ws.length = m →
      bindArgs (PySem.W.fnOf x qual (defArgs st) (defBody st) (defScope st) .none kV doc pm an cdv ct) ⟨us, ks.zip ws⟩ = pure (ps.zip (pick n m perm [] us ws))) : KB K fd ps ks n m perm [] [] [] := by
  obtain ⟨oc, od, kV, doc, pm, an, cdv, ct, osl, rfl, lk, hcd⟩ := F.ex
  exact ⟨fun s us ws _ hn hm => .of_eq (h kV doc pm an cdv ct us ws hn hm), .nil, fun _ => .nil, ne⟩
def dFn (sp : Sp3) (n m : Nat) (perm : List Nat) (dts : List T) (tl tk : A3) : E3 := fun ss M Q => tl ss M fun ts M1 => tk ss M1 fun us M2 => sp (pick n m perm dts ts us) M2 Q
theorem lift_fn {K : PySem.W.Frag} (rep : ∀ F, Reps K F dvs dts) : ∀ σ H Q, liftE K (dFn sp n m perm dts tl tk) σ H Q → tCallK (liftSp K sp) (pick n m perm dvs) (fun _ _ _ => False) (liftA K tl) (liftA K tk) σ H Q := by
  rintro σ H Q ⟨F, O, M, ss, Q3, w, sl, q, k⟩
  refine ⟨F, O, M, ss, _, w, sl, q, ?_⟩
  intro vs H1 F1 M1 ts x1 w1 r1 q1
  refine ⟨F1, O, M1, ss, _, w1, sl.mono x1, q1, ?_⟩
  intro zs H2 F2 M2 us x2 w2 r2 q2
  exact ⟨F2, O, M2, _, Q3, w2, pick_reps (rep F2) (r1.mono x2) r2, q2, k.mono (x1.trans x2)⟩
theorem d_fn (F : FnD X.prog X.w X.K X.mg X.base k f fd ps sp) (hr : Room k X.A) (hgd : X.A.guards = some []) (hg : Gl X x) (hm : X.mg x = some (.ref f))
    (hk : PySem.W.keepIn X.K (.ref f) = true) (hb : KB X.K fd ps ks n m perm ds dvs dts) (ha : DA X (e :: es) tl) (hkw : DK X kws tk)
    (hall : (backToKw pos (keywordEach kws X.env)).all (·.1.isSome) = true := by rfl) (hks : (backToKw pos (keywordEach kws X.env)).filterMap (·.1) = ks := by rfl)
    (hdb : (x == ("__debug__" : Str)) = false := by decide) (he : starEach (e :: es) X.env = (false, eval e X.env) :: starEach es X.env := by rfl)
    (hpl : ((backTo pos (starEach (e :: es) X.env)).any (·.1) || (backToKw pos (keywordEach kws X.env)).any (·.1.isNone)) = false := by rfl) :
    DE X (.Call (.Name x p) (e :: es) kws pos) (dFn sp n m perm dts tl tk) :=
  pe_weak (pe_callG (E := fun _ _ _ => False) F hr hgd hg hm hk hb.kb (fun _ _ _ _ _ _ _ h => h.elim) ha hkw hall hks hdb he hpl) (lift_fn hb.rep)
theorem d_fnK (F : FnD X.prog X.w X.K X.mg X.base k f fd ps sp) (hr : Room k X.A) (hgd : X.A.guards = some []) (hg : Gl X x) (hm : X.mg x = some (.ref f))
    (hk : PySem.W.keepIn X.K (.ref f) = true) (hb : KB X.K fd ps ks n m perm ds dvs dts) (hkw : DK X kws tk)
    (hall : (backToKw pos (keywordEach kws X.env)).all (·.1.isSome) = true := by rfl) (hks : (backToKw pos (keywordEach kws X.env)).filterMap (·.1) = ks := by rfl)
    (hdb : (x == ("__debug__" : Str)) = false := by decide) (hpl : ((backTo pos (starEach [] X.env)).any (·.1) || (backToKw pos (keywordEach kws X.env)).any (·.1.isNone)) = false := by rfl) :
    DE X (.Call (.Name x p) [] kws pos) (dFn sp n m perm dts dNil tk) := by
  refine pe_weak (pe_callGk (E := fun _ _ _ => False) F hr hgd hg hm hk hb.kb (fun _ _ _ _ _ _ _ h => h.elim) hkw hall hks hdb hpl) ?_
  rintro σ H Q ⟨F, O, M, ss, Q3, w, sl, q, k⟩
  refine ⟨F, O, M, ss, _, w, sl, q, ?_⟩
  intro zs H2 F2 M2 us x2 w2 r2 q2
  exact ⟨F2, O, M2, _, Q3, w2, pick_reps (hb.rep F2) .nil r2, q2, k.mono x2⟩
/-- f() of a def without parameters -/
def dFn0 (sp : Sp3) : E3 := fun _ M Q => sp [] M Q
theorem kb_none {K : PySem.W.Frag} {x qual : Str} {st : Stmt} (F : Fun K x qual st f fd)
    (h : ∀ (kV doc pm : Value) (an : Option Addr) (cdv ct : Value), bindArgs (PySem.W.fnOf x qual (defArgs st) (defBody st) (defScope st) .none kV doc pm an cdv ct) ⟨[], []⟩ = pure []) :
    KBinds K fd [] [] (fun us _ => us) (fun vs _ => vs) := by
  obtain ⟨oc, od, kV, doc, pm, an, cdv, ct, osl, rfl, lk, hcd⟩ := F.ex
  refine ⟨fun s us ws _ hl => ?_, fun r _ => r⟩
  obtain rfl := List.length_eq_zero_iff.mp hl
  exact .of_eq (h kV doc pm an cdv ct)
theorem d_fn0 (F : FnD X.prog X.w X.K X.mg X.base k f fd [] sp) (hr : Room k X.A) (hgd : X.A.guards = some []) (hg : Gl X x) (hm : X.mg x = some (.ref f))
    (hk : PySem.W.keepIn X.K (.ref f) = true) (hb : KBinds X.K fd [] [] (fun us _ => us) (fun vs _ => vs)) (hdb : (x == ("__debug__" : Str)) = false := by decide) :
    DE X (.Call (.Name x p) [] [] pos) (dFn0 sp) := by
  refine pe_weak (pe_callG0 (E := fun _ _ _ => False) F hr hgd hg hm hk hb (fun _ _ _ _ _ _ _ h => h.elim) hdb) ?_
  rintro σ H Q ⟨F, O, M, ss, Q3, w, sl, q, k⟩
  exact ⟨F, O, M, [], Q3, w, .nil, q, k⟩
end

/-! ### the end -/
/-- the script, as the law gets it -/
theorem law_start {K : PySem.W.Frag} {sp : Sp3} {H : Hp} {a : Addr} {ns : List Int} (hO : Only H) (hS : SqL K H a (ns.map V.int))
    (h : sp [.scr (ns.map T.int)] (fun _ => none) fun t _ => t = .bl true) : liftSp K sp [.ref a] H (fun v _ => v = .bl true) fun _ _ _ => False := by
  refine ⟨H, fun _ => none, fun _ => none, _, _, ⟨fun _ _ e => e, fun _ _ e => (nomatch e), fun _ _ e => (nomatch e)⟩, .cons (.scr hS (Reps.of_ints ns)) .nil, h, ?_⟩
  intro v H' F' M' t x w r e
  subst e
  cases r
  rfl
theorem walkD {l : PySem.W.OpenLaw} {n k : Nat} {q : Program} {loose : List Str} {XP : (Str → Option Value) → Heap → Prop} {YP : World → Heap → Prop} {d : DefRec}
    {K : Params → PySem.W.Frag} {sp : Sp3} {x : Str} (hn : l.most = some n) (hn2 : n ≤ sizeLine) (hdf : d.params.defaults = []) (hr : Room k callerA) (him : importsNone q = true)
    (hY : ∀ (w : World) (h : Heap), YP w h → (K w.params).In h)
    (F : ∀ (w : World) (mg : Str → Option Value) (fa : Addr) (h : Heap), (K w.params).In h → h.Ns mainGlobals mg → XP mg h → mg d.name = some (.ref fa) →
      ∃ fd : FuncData, (∀ (s : Shared) (u : Value), BindsTo s fd ⟨[u], []⟩ [(x, u)]) ∧
        ∀ base : Heap, (K w.params).In base → base.Ns mainGlobals mg → SysAt base → FnD l.prog w (K w.params) mg base k fa fd [x] sp)
    (hsp : ∀ ns : List Int, ns.length ≤ n → sp [.scr (ns.map T.int)] (fun _ => none) fun t _ => t = .bl true) :
    PySem.W.WalkO q loose XP YP l.row.toRowW d [] (fun f vs => PySem.call f vs) :=
  walkG (CX := fun _ => CX0) (sp := fun w => liftSp (K w.params) sp) hn hn2 hdf hr him hY F (fun w H a ns hl hO hS => law_start hO hS (hsp ns hl)) (fun _ _ _ _ _ h => h.elim)
end L3

set_option maxHeartbeats 1000000
/-! L3G: constants of the module, targets, the deck of draws. -/
namespace L3
open PySem PySem.Spec PyProof.Rows L2
/-- a constant of the module: a flat value -/
def GC (mg : Str → Option Value) (x : Str) (v : V) : Prop := ∃ u, mg x = some u ∧ RelV v u
def flatOf : V → T
  | .non => .non | .bl b => .bl b | .int i => .int i | .str x => .str x | v => .raw v
theorem flatOf_rep {K : PySem.W.Frag} {F : Hp} (v : V) : Rep K F v (flatOf v) := by
  cases v <;> first | exact .raw _ | constructor
section
variable {X : Cx} {K : PySem.W.Frag} {a b c e : Expr} {es : List Expr} {te ta tb tc : E3} {pos : Pos}
theorem d_gc {x : Str} {v : V} {pos : Pos} (hg : Gl X x) (h : GC X.mg x v) (hd : (x == ("__debug__" : Str)) = false := by decide) : DE X (.Name x pos) (dC (flatOf v)) := by
  obtain ⟨u, hm, r⟩ := h
  exact d_glob hg hm r (fun F => flatOf_rep v) hd
theorem dg_tp (is : List Nat) {k : Nat} (hc : X.calm = true) (h : PGs X es (gNames is)) (hn : (assignEach es X.env).length = is.length := by rfl) (hst : (assignEach es X.env).findIdx? (·.1) = none := by rfl) : DG X (.Tuple es k pos) (.tp is) :=
  pg_tup hc h hn hst
theorem dt_chain {op op' : CmpOp} {r r' : R2} {R R' : T → T → QE → Mp → Prop} (ho : OpR X (compareOp op) r) (h : OpD X.K r R) (ho' : OpR X (compareOp op') r') (h' : OpD X.K r' R') (ha : DE X a ta) (hb : DE X b tb) (hc : DE X c tc)
    (hm : lastMarks [op, op'] [b, c] = false) : DT X (.Compare a [op, op'] [b, c] pos) (dB (dChain R R' ta tb tc)) := by
  refine pt_weak (pt_chain ho ho' ha hb hc hm) ?_
  intro σ H Q hh
  obtain ⟨F, O, M, ss, Q3, w, sl, q, k⟩ := lift_bool hh
  show tChain r r' (liftE X.K ta) (liftE X.K tb) (liftE X.K tc) σ H _
  refine ⟨F, O, M, ss, _, w, sl, q, ?_⟩
  intro v H1 F1 M1 t x1 w1 r1 q1
  refine ⟨F1, O, M1, ss, _, w1, sl.mono x1, q1, ?_⟩
  intro u H2 F2 M2 t2 x2 w2 r2 q2
  refine h F2 O H2 M2 v u t t2 _ _ w2 (r1.mono x2) r2 q2 ?_
  intro z H3 F3 M3 t3 x3 w3 r3 q3
  split at q3
  · cases r3
    refine ⟨true, rfl, ?_⟩
    rw [if_pos rfl]
    refine ⟨F3, O, M3, ss, _, w3, sl.mono (x1.trans (x2.trans x3)), q3, ?_⟩
    intro z' H4 F4 M4 t4 x4 w4 r4 q4
    exact h' F4 O H4 M4 u z' t2 t4 Q3 _ w4 (r2.mono (x3.trans x4)) r4 q4 (k.mono (x1.trans (x2.trans (x3.trans x4))))
  · cases r3
    refine ⟨false, rfl, ?_⟩
    rw [if_neg Bool.false_ne_true]
    exact k _ H3 F3 M3 _ (x1.trans (x2.trans x3)) w3 (.bl _) q3
  · exact q3.elim
theorem dt_lele (ha : DE X a ta) (hb : DE X b tb) (hc : DE X c tc) (hm : lastMarks [.LtE, .LtE] [b, c] = false := by with_unfolding_all rfl) : DT X (.Compare a [.LtE, .LtE] [b, c] pos) (dB (dChain oLe oLe ta tb tc)) := dt_chain (op_le.or op_le_str) od_ord (op_le.or op_le_str) od_ord ha hb hc hm
theorem dt_ltlt (ha : DE X a ta) (hb : DE X b tb) (hc : DE X c tc) (hm : lastMarks [.Lt, .Lt] [b, c] = false := by with_unfolding_all rfl) : DT X (.Compare a [.Lt, .Lt] [b, c] pos) (dB (dChain oLt oLt ta tb tc)) := dt_chain (op_lt.or op_lt_str) od_ord (op_lt.or op_lt_str) od_ord ha hb hc hm
end

/-! ### the deck of draws -/
def deckD (c : Addr) (t k : Int) : MO := .dct [(.inr "cells", .raw (.ref c)), (.inr "total", .int t), (.inr "draws", .int k)]
/-- a deck at dk with its cells at c, from which at most n draws were made -/
structure DeckAt (dk c : Addr) (M : Mp) (n : Nat) : Prop where
  ne : dk ≠ c
  at_ : ∃ (ns : List Int) (t k : Int), M dk = some (deckD c t k) ∧ M c = some (.lst (ns.map T.int)) ∧ ns.length ≤ 63 ∧ 0 ≤ k ∧ k ≤ n
theorem DeckAt.le {dk c : Addr} {M : Mp} {n m : Nat} (h : DeckAt dk c M n) (l : n ≤ m) : DeckAt dk c M m :=
  ⟨h.ne, let ⟨ns, t, k, a, b, d, e, f⟩ := h.at_; ⟨ns, t, k, a, b, d, e, by omega⟩⟩
/-- nothing but the deck has changed -/
def Fr2 (dk c : Addr) (M M' : Mp) : Prop := ∀ a, a ≠ dk → a ≠ c → M' a = M a
theorem Fr2.refl {dk c : Addr} {M : Mp} : Fr2 dk c M M := fun _ _ _ => rfl
theorem Fr2.trans {dk c : Addr} {M M' M'' : Mp} (a : Fr2 dk c M M') (b : Fr2 dk c M' M'') : Fr2 dk c M M'' := fun x h1 h2 => (b x h1 h2).trans (a x h1 h2)
def spDraw : Sp3 := fun ts M Q => ∃ (dk c : Addr) (n : Nat) (many : Int), ts = [.raw (.ref dk), .int many] ∧ DeckAt dk c M n ∧ n < 2 ^ 60 ∧ 0 < many ∧ many < 2 ^ 60 ∧
  ∀ M' r, DeckAt dk c M' (n + 1) → Fr2 dk c M M' → 0 ≤ r → r < many → Q (.int r) M'
/-- what may be picked from -/
def itemsOf : T → List T
  | .lst xs => xs | .scr xs => xs | .tup xs => xs | .str z => signsT z | _ => []
def spPick : Sp3 := fun ts M Q => ∃ (dk c : Addr) (n : Nat) (x : T), ts = [.raw (.ref dk), x] ∧ DeckAt dk c M n ∧ n < 2 ^ 60 ∧ 0 < (itemsOf x).length ∧ (itemsOf x).length ≤ sizeLine ∧
  ∀ M' t, DeckAt dk c M' (n + 1) → Fr2 dk c M M' → t ∈ itemsOf x → Q t M'
/-- a new deck -/
def spDeck : Sp3 := fun ts M Q => ∃ ns : List Int, ts = [.scr (ns.map T.int)] ∧ ns.length ≤ 63 ∧ ∀ dk c M', M dk = none → M c = none → DeckAt dk c M' 0 → Fr2 dk c M M' → Q (.raw (.ref dk)) M'
end L3
namespace L3
open PySem PySem.Spec PyProof.Rows L2
theorem st_ct : ¬ (("cells" : Str) = "total") := by decide +kernel
theorem st_cd : ¬ (("cells" : Str) = "draws") := by decide +kernel
theorem st_td : ¬ (("total" : Str) = "draws") := by decide +kernel
theorem st_tc : ¬ (("total" : Str) = "cells") := by decide +kernel
theorem st_dc : ¬ (("draws" : Str) = "cells") := by decide +kernel
theorem st_dt : ¬ (("draws" : Str) = "total") := by decide +kernel
theorem getT_hit {k : Key} {t : T} {r : List (Key × T)} : getT ((k, t) :: r) k = some t := by
  unfold getT
  rw [List.find?_cons_of_pos (by simp)]
  rfl
theorem getT_miss {k j : Key} {t : T} {r : List (Key × T)} (h : ¬ j = k) : getT ((j, t) :: r) k = getT r k := by
  unfold getT
  rw [List.find?_cons_of_neg (by simpa using h)]
theorem inr_ne {a b : Str} (h : ¬ a = b) : ¬ (Sum.inr a : Key) = Sum.inr b := fun e => h (Sum.inr.inj e)
variable {c : Addr} {t k j : Int} {x : T}
def deckL (c : Addr) (t k : Int) : List (Key × T) := [(.inr "cells", .raw (.ref c)), (.inr "total", .int t), (.inr "draws", .int k)]
theorem deckD_eq : deckD c t k = .dct (deckL c t k) := rfl
theorem deck_cells : getT (deckL c t k) (.inr "cells") = some (.raw (.ref c)) := getT_hit
theorem deck_total : getT (deckL c t k) (.inr "total") = some (.int t) := (getT_miss (inr_ne st_ct)).trans getT_hit
theorem deck_draws : getT (deckL c t k) (.inr "draws") = some (.int k) := (getT_miss (inr_ne st_cd)).trans ((getT_miss (inr_ne st_td)).trans getT_hit)
theorem deck_put : putT (deckL c t k) (.inr "draws") (.int j) = deckL c t j := by
  unfold putT deckL
  simp [st_cd, st_td]
theorem deck_len : (deckL c t k).length = 3 := rfl
theorem deck_mk : mergeT [] [(.inr "cells", .raw (.ref c)), (.inr "total", .int t), (.inr "draws", .int k)] = deckL c t k := by
  unfold mergeT deckL putT
  simp [st_ct, st_cd, st_td]
end L3
namespace L3
open PySem PySem.Spec PyProof.Rows L2
theorem pys_ints : ∀ ns : List Int, T.pys (ns.map T.int) = some (ns.map PyData.int)
  | [] => by rw [List.map_nil, List.map_nil, T.pys]
  | n :: ns => by rw [List.map_cons, List.map_cons, T.pys, T.py, pys_ints ns]
theorem py_ints (ns : List Int) : (T.lst (ns.map T.int)).py = some (.list (ns.map PyData.int)) := by rw [T.py, pys_ints]; rfl
theorem py_nil : (T.lst []).py = some (.list []) := by rw [T.py, T.pys]; rfl
theorem lay_ints : ∀ ns : List Int, PyData.canLayAll0 (ns.map PyData.int) = true
  | [] => by rw [List.map_nil, PyData.canLayAll0]
  | n :: ns => by rw [List.map_cons, PyData.canLayAll0, PyData.canLay0, lay_ints ns]; rfl
theorem dep_ints : ∀ ns : List Int, PyData.depthAll (ns.map PyData.int) = 0
  | [] => by rw [List.map_nil, PyData.depthAll]
  | n :: ns => by rw [List.map_cons, PyData.depthAll, PyData.depth, dep_ints ns]; rfl
theorem shaped_ints (ns : List Int) : SeqAt.shaped (.list (ns.map PyData.int)) = true := by
  unfold SeqAt.shaped
  rw [PyData.canLay0, lay_ints, PyData.depth, dep_ints]
  rfl
theorem shaped_nil : SeqAt.shaped (.list []) = true := shaped_ints []
theorem eqv_nil (ns : List Int) : PyData.eqv (.list (ns.map PyData.int)) (.list []) = decide (ns = []) := by
  cases ns with
  | nil => rw [List.map_nil, PyData.eqv, PyData.eqvAll]; rfl
  | cons n r => rw [List.map_cons, PyData.eqv, PyData.eqvAll]; rfl
theorem last_get (l : List Int) (x : Int) : ((l ++ [x]).map T.int)[((l ++ [x]).map T.int).length - 1]? = some (.int x) := by
  rw [List.map_append, List.length_append]
  simp
theorem last_drop (l : List Int) (x : Int) : ((l ++ [x]).map T.int).dropLast = l.map T.int := by
  rw [List.map_append]
  simp
theorem small_mul {i j : Int} (h : j.natAbs < 2 ^ 64) : IntMulOk i j := .of_right (intBits_le_64 (by omega) (by omega))
theorem small_mulL {i j : Int} (h : i.natAbs < 2 ^ 64) : IntMulOk i j := .of_left (intBits_le_64 (by omega) (by omega))
theorem small_div {i j : Int} (h : 0 < j) (h2 : j < 2 ^ 60) : CDivW i j := wide_div (b := 60) h (by omega) (by decide) (by decide)
theorem sz {n : Nat} (h : n ≤ 100000) : n ≤ sizeLine := Nat.le_trans h (by decide)
theorem sz' {n : Nat} (h : n ≤ 100000) : n < sizeLine := Nat.lt_of_le_of_lt h (by decide)
end L3
namespace L3
open PySem PySem.Spec PyProof.Rows L2
/-! ### slices -/
section
variable {α : Type} {xs : List α}
theorem cut_to (k : Nat) : cutT xs none (some (k : Int)) = xs.take k := by
  unfold cutT
  rw [HT.sIx_none, show HT.sIx xs.length xs.length (some (k : Int)) = min k xs.length from HT.sIx_nat xs.length xs.length k, List.drop_zero, Nat.sub_zero]
  by_cases h : k ≤ xs.length
  · rw [Nat.min_eq_left h]
  · rw [Nat.min_eq_right (by omega), List.take_length, List.take_of_length_le (by omega)]
theorem cut_from (k : Nat) : cutT xs (some (k : Int)) none = xs.drop k := by
  unfold cutT
  rw [HT.sIx_none, show HT.sIx xs.length 0 (some (k : Int)) = min k xs.length from HT.sIx_nat xs.length 0 k]
  by_cases h : k ≤ xs.length
  · rw [Nat.min_eq_left h, List.take_of_length_le (by rw [List.length_drop]; omega)]
  · rw [Nat.min_eq_right (by omega), Nat.sub_self, List.take_zero, List.drop_of_length_le (by omega)]
theorem cut_map {β : Type} (f : α → β) (lo hi : Option Int) : cutT (xs.map f) lo hi = (cutT xs lo hi).map f := by
  unfold cutT
  rw [List.length_map, List.map_take, List.map_drop]
end
theorem atI_ok {α : Type} {xs : List α} {i : Int} (h0 : 0 ≤ i) (h1 : i < xs.length) : ∃ t, atI xs i = some t ∧ t ∈ xs := by
  have hi : i.toNat < xs.length := by omega
  refine ⟨xs[i.toNat], ?_, List.getElem_mem hi⟩
  unfold atI ixN
  rw [if_pos h0, if_pos h1, Option.bind_some, List.getElem?_eq_getElem hi]
theorem signs_len (z : Str) : (signsT z).length = z.length := by
  unfold signsT
  rw [List.length_map, Array.length_toList]
  rfl
theorem atI_signs {z : Str} {i : Int} (h0 : 0 ≤ i) (h1 : i < (z.length : Int)) : ∃ c, atI z.cps.toList i = some c ∧ T.str ⟨#[c]⟩ ∈ signsT z := by
  obtain ⟨c, e, m⟩ := atI_ok (xs := z.cps.toList) h0 (by rw [Array.length_toList]; exact h1)
  exact ⟨c, e, List.mem_map.mpr ⟨c, m, rfl⟩⟩
end L3

set_option maxHeartbeats 1000000
/-! L3H: how long a text repr makes; the order of tuples. -/
namespace L3
open PySem PySem.Spec PyProof.Rows L2

/-- t is shown within n signsT, at most k deep -/
def Fine (t : T) (n k : Nat) : Prop := ∃ d, t.py = some d ∧ d.showable = true ∧ d.shown.length ≤ n ∧ d.depth ≤ k
theorem Fine.mono {t : T} {n k n' k' : Nat} (h : Fine t n k) (a : n ≤ n') (b : k ≤ k') : Fine t n' k' :=
  let ⟨d, e, s, l, p⟩ := h; ⟨d, e, s, by omega, by omega⟩
theorem Fine.shows {t : T} {n k : Nat} (h : Fine t n k) (a : n ≤ 16000000) (b : k ≤ 60) : ∃ d, t.py = some d ∧ Shows d :=
  let ⟨d, e, s, l, p⟩ := h; ⟨d, e, s, by omega, by rw [sizeLine_eq]; omega⟩
theorem fine_non : Fine .non 4 0 := ⟨.none, rfl, rfl, by decide +kernel, Nat.le_refl _⟩
theorem fine_bl (b : Bool) : Fine (.bl b) 5 0 := ⟨.bool b, rfl, rfl, by cases b <;> decide +kernel, Nat.le_refl _⟩
theorem fine_int {i : Int} (h : i.natAbs < 10 ^ 60) : Fine (.int i) 61 0 := by
  refine ⟨.int i, rfl, ?_, ?_, Nat.le_refl _⟩
  · have : i.natAbs.log2 < 1920 := PySem.Flt.log2_lt_of (by decide) (Nat.lt_of_lt_of_le h (by decide))
    simpa [PyData.showable] using this
  · have e := int_text_length_le10 (k := 60) (by decide) h
    show (Str.ofString (toString i)).length ≤ 61
    rw [PySem.ofString_length]
    exact e
/-- signsT that repr shows in at most ten -/
def Low (z : Str) : Prop := ∀ c ∈ z.cps.toList, c < 0x110000
theorem fine_str {z : Str} (h : Low z) : Fine (.str z) (10 * z.length + 2) 0 := by
  refine ⟨.str z, rfl, rfl, ?_, Nat.le_refl _⟩
  rw [PyData.shown]
  exact PySem.StrLaws.reprText_len z fun c hc => Nat.lt_trans (h c hc) (by decide)
theorem fine_all {n k : Nat} : ∀ {xs : List T}, (∀ x ∈ xs, Fine x n k) → ∃ ds, T.pys xs = some ds ∧ PyData.showableAll ds = true ∧ ((PyData.shownAll ds).map (·.length)).sum ≤ xs.length * n ∧ (PyData.shownAll ds).length = xs.length ∧ PyData.depthAll ds ≤ k
  | [], _ => ⟨[], rfl, rfl, by rw [PyData.shownAll]; exact Nat.zero_le _, by rw [PyData.shownAll]; rfl, by rw [PyData.depthAll]; exact Nat.zero_le _⟩
  | x :: xs, h => by
    obtain ⟨d, e, s, l, p⟩ := h x List.mem_cons_self
    obtain ⟨ds, e', s', l', q', p'⟩ := fine_all fun y hy => h y (List.mem_cons_of_mem _ hy)
    refine ⟨d :: ds, by rw [T.pys, e, e'], by rw [PyData.showableAll, s, s']; rfl, ?_, ?_, ?_⟩
    · rw [PyData.shownAll, List.map_cons, List.sum_cons, List.length_cons, Nat.succ_mul]
      omega
    · rw [PyData.shownAll, List.length_cons, List.length_cons, q']
    · rw [PyData.depthAll]
      omega
theorem fine_tup {n k : Nat} {xs : List T} (h : ∀ x ∈ xs, Fine x n k) : Fine (.tup xs) (xs.length * (n + 2) + 3) (k + 1) := by
  obtain ⟨ds, e, s, l, q, p⟩ := fine_all h
  refine ⟨.tuple ds, by rw [T.py, e]; rfl, by rw [PyData.showable]; exact s, ?_, by rw [PyData.depth]; omega⟩
  rw [PyData.shown]
  have := tupleText_len_le (PyData.shownAll ds)
  rw [q] at this
  rw [Nat.mul_add]
  omega
theorem fine_lst {n k : Nat} {xs : List T} (h : ∀ x ∈ xs, Fine x n k) : Fine (.lst xs) (xs.length * (n + 2) + 3) (k + 1) := by
  obtain ⟨ds, e, s, l, q, p⟩ := fine_all h
  refine ⟨.list ds, by rw [T.py, e]; rfl, by rw [PyData.showable]; exact s, ?_, by rw [PyData.depth]; omega⟩
  rw [PyData.shown]
  have := listText_len_le (PyData.shownAll ds)
  rw [q] at this
  rw [Nat.mul_add]
  omega
theorem fine_dic1 {n k : Nat} {z : Str} {x : T} (hz : Low z) (h : Fine x n k) : Fine (.dic [(.inr z, x)]) (10 * z.length + n + 20) (k + 1) := by
  obtain ⟨d, e, s, l, p⟩ := h
  have ek : T.pyKV [((.inr z : Key), x)] = some [(PyData.str z, d)] := by
    rw [T.pyKV.eq_def]
    dsimp only
    rw [e, T.pyKV.eq_def]
  refine ⟨.dict [(.str z, d)], by rw [T.py, ek]; rfl, ?_, ?_, ?_⟩
  · rw [PyData.showable, PyData.showableKv, s, PyData.showableKv]
    rfl
  · rw [PyData.shown]
    have h1 := dictText_len_le (PyData.shownKv [(PyData.str z, d)])
    have h2 : ((PyData.shownKv [(PyData.str z, d)]).map (·.length)).sum = (PyData.shown (.str z)).length + 2 + d.shown.length := by
      rw [PyData.shownKv, PyData.shownKv, List.map_cons, List.map_nil, List.sum_cons, List.sum_nil]
      have e1 : ∀ a b : Str, (a ++ b).length = a.length + b.length := fun a b => by
        show (a.cps ++ b.cps).size = _
        rw [Array.size_append]
        rfl
      rw [e1, e1]
      rfl
    have h3 : (PyData.shownKv [(PyData.str z, d)]).length = 1 := by rw [PyData.shownKv, PyData.shownKv]; rfl
    have h4 : (PyData.shown (.str z)).length ≤ 10 * z.length + 2 := by
      rw [PyData.shown]
      exact PySem.StrLaws.reprText_len z fun c hc => Nat.lt_trans (hz c hc) (by decide)
    omega
  · rw [PyData.depth, PyData.depthKv, PyData.depthKv, PyData.depth]
    omega
theorem fine_dic0 : Fine (.dic []) 3 1 := by
  refine ⟨.dict [], by rw [T.py, T.pyKV]; rfl, by rw [PyData.showable, PyData.showableKv], ?_, by rw [PyData.depth, PyData.depthKv]; exact Nat.le_refl _⟩
  rw [PyData.shown, PyData.shownKv]
  exact dictText_len_le []
theorem Fine.repr {t : T} {n k : Nat} {Q : QE} {M : Mp} (h : Fine t n k) (a : n ≤ 16000000) (b : k ≤ 60) (hl : look t M = t) (q : ∀ d, t.py = some d → Q (.str d.shown) M) : fRepr [t] Q M := by
  obtain ⟨d, e, s⟩ := h.shows a b
  unfold fRepr
  dsimp only
  rw [hl, e]
  exact ⟨s, q d e⟩

/-! ### the order of tuples -/
def eqT (x y : T) : Option Bool := match x.py, y.py with
  | some d, some e => if SeqAt.shaped d && SeqAt.shaped e then some (PyData.eqv d e) else none
  | _, _ => none
def ltL (f : T → T → Option Bool) : List T → List T → Option Bool
  | [], [] => some false
  | [], _ :: _ => some true
  | _ :: _, [] => some false
  | x :: xs, y :: ys => match eqT x y, ltL f xs ys with
    | some true, some r => some r
    | some false, some _ => f x y
    | _, _ => none
/-- one value ahead of another, tuples at most so deep -/
def ltN : Nat → T → T → Option Bool
  | 0, x, y => (match x, y with
    | .int i, .int j => some (decide (i < j))
    | .str a, .str b => some (ltS a b)
    | _, _ => none)
  | k + 1, x, y => (match x, y with
    | .int i, .int j => some (decide (i < j))
    | .str a, .str b => some (ltS a b)
    | .tup xs, .tup ys => ltL (ltN k) xs ys
    | _, _ => none)
section
variable {X : Cx} {K : PySem.W.Frag} {pins : List (Addr × Obj)} {σ : L2.St} {s : Shared} {F O H : Hp} {M : Mp}
theorem eqT_at (I : Inv X pins σ H s) (w : Wd X.K F O H M) (hy : SysAt X.base) {A : Around} (hu : A.units + 64 < cLine) {x y : V} {t u : T} {v z : Value} {b : Bool} (rx : Rep X.K F x t) (ry : Rep X.K F y u) (vx : RelV x v) (vy : RelV y z) (h : eqT t u = some b) :
    SeqAt.EqAt A s v z b := by
  unfold eqT at h
  split at h
  · rename_i d e e1 e2
    split at h
    · rename_i hs
      cases h
      rw [Bool.and_eq_true] at hs
      obtain ⟨as, r1, _⟩ := Rep.reads I w hy rx e1 vx
      obtain ⟨bs, r2, _⟩ := Rep.reads I w hy ry e2 vy
      exact SeqAt.eqAt_reads d e A s v z as bs r1 r2 (SeqAt.canLay_of_shaped hs.1) (SeqAt.canLay_of_shaped hs.2) (SeqAt.room_of_shaped hs.1 hu)
    · cases h
  · cases h
/-- what the items say of two lists of trees -/
theorem ltL_eq {f : T → T → Option Bool} : ∀ {xs ys : List T} {b : Bool}, ltL f xs ys = some b → ∃ e r : Nat → Bool, (∀ j x y, xs[j]? = some x → ys[j]? = some y → eqT x y = some (e j) ∧ (e j = false → f x y = some (r j))) ∧
    ∀ i0, Ob.lexAt (fun j => e (j - i0)) (fun j => r (j - i0)) (decide (xs.length < ys.length)) i0 (min xs.length ys.length) = b
  | [], [], b, h => by
    rw [ltL] at h
    cases h
    exact ⟨fun _ => true, fun _ => true, fun j x y h => (nomatch h), fun _ => rfl⟩
  | [], _ :: _, b, h => by
    rw [ltL] at h
    cases h
    exact ⟨fun _ => true, fun _ => true, fun j x y h => (nomatch h), fun _ => by rw [List.length_nil, Nat.zero_min]; rfl⟩
  | _ :: _, [], b, h => by
    rw [ltL] at h
    cases h
    exact ⟨fun _ => true, fun _ => true, fun j x y _ h => (nomatch h), fun _ => by rw [List.length_nil, Nat.min_zero]; rfl⟩
  | x :: xs, y :: ys, b, h => by
    rw [ltL] at h
    have hm : min (x :: xs).length (y :: ys).length = min xs.length ys.length + 1 := by
      rw [List.length_cons, List.length_cons]
      omega
    have hd : decide ((x :: xs).length < (y :: ys).length) = decide (xs.length < ys.length) := by
      rw [List.length_cons, List.length_cons]
      simp
    split at h
    · rename_i r0 e0 e1
      cases h
      obtain ⟨e, r, h1, h2⟩ := ltL_eq e1
      refine ⟨fun j => match j with | 0 => true | j + 1 => e j, fun j => match j with | 0 => true | j + 1 => r j, ?_, fun i0 => ?_⟩
      · intro j a c ha hc
        cases j with
        | zero =>
          cases ha; cases hc
          exact ⟨e0, fun z => (nomatch z)⟩
        | succ j => exact h1 j a c ha hc
      · rw [hm, hd, Ob.lexAt_succ, Nat.sub_self, if_pos rfl, ← h2 (i0 + 1)]
        have aux : ∀ (k i : Nat), i0 + 1 ≤ i → Ob.lexAt (fun j => match j - i0 with | 0 => true | j + 1 => e j) (fun j => match j - i0 with | 0 => true | j + 1 => r j) (decide (xs.length < ys.length)) i k = Ob.lexAt (fun j => e (j - (i0 + 1))) (fun j => r (j - (i0 + 1))) (decide (xs.length < ys.length)) i k := by
          intro k
          induction k with
          | zero => intro i _; rfl
          | succ k ih =>
            intro i hi
            have e1 : i - i0 = (i - (i0 + 1)) + 1 := by omega
            rw [Ob.lexAt_succ, Ob.lexAt_succ, ih (i + 1) (by omega), e1]
        exact aux _ _ (Nat.le_refl _)
    · rename_i r0 e0 e1
      obtain ⟨e, r, h1, h2⟩ := ltL_eq e1
      refine ⟨fun j => match j with | 0 => false | j + 1 => e j, fun j => match j with | 0 => b | j + 1 => r j, ?_, fun i0 => ?_⟩
      · intro j a c ha hc
        cases j with
        | zero =>
          cases ha; cases hc
          exact ⟨e0, fun _ => h⟩
        | succ j => exact h1 j a c ha hc
      · rw [hm, Ob.lexAt_succ, Nat.sub_self, if_neg Bool.false_ne_true]
    · cases h
theorem ltN_ok (I : Inv X pins σ H s) (w : Wd X.K F O H M) (hy : SysAt X.base) : ∀ (n : Nat) {t u : T} {b : Bool} {A : Around} {x y : V} {v z : Value}, A.units + 64 + n < cLine → Rep X.K F x t → Rep X.K F y u → RelV x v → RelV y z → ltN n t u = some b → Ob.RcOp .Lt A s v z b := by
  have flat : ∀ {t u : T} {b : Bool} {A : Around} {x y : V} {v z : Value}, Rep X.K F x t → Rep X.K F y u → RelV x v → RelV y z → (match t, u with
    | .int i, .int j => some (decide (i < j))
    | .str a, .str b => some (ltS a b)
    | _, _ => none) = some b → Ob.RcOp .Lt A s v z b := by
    intro t u b A x y v z rx ry vx vy h
    split at h
    · cases h
      cases rx; cases ry
      obtain ⟨_, rfl⟩ := vx
      obtain ⟨_, rfl⟩ := vy
      exact Ob.RcOp.lt_int _ _ _ _
    · cases h
      cases rx; cases ry
      obtain ⟨_, rfl⟩ := vx
      obtain ⟨_, rfl⟩ := vy
      exact fun _ _ _ _ q => PyProof.Rows.lt_str q
    · cases h
  intro n
  induction n with
  | zero =>
    intro t u b A x y v z hu rx ry vx vy h
    exact flat rx ry vx vy h
  | succ n ih =>
    intro t u b A x y v z hu rx ry vx vy h
    rw [ltN.eq_def] at h
    dsimp only at h
    split at h
    · exact flat (t := .int _) (u := .int _) rx ry vx vy h
    · exact flat (t := .str _) (u := .str _) rx ry vx vy h
    · rename_i xs ys
      cases rx with
      | tup h1 r1 =>
      cases ry with
      | tup h2 r2 =>
      cases vx; cases vy
      obtain ⟨its, q1, p1, _⟩ := I.tuple (w.ex.sqT h1)
      obtain ⟨its2, q2, p2, _⟩ := I.tuple (w.ex.sqT h2)
      obtain ⟨e, r, k1, k2⟩ := ltL_eq h
      have l1 : its.toArray.size = xs.length := by rw [List.size_toArray, ← q1.length, r1.length]
      have l2 : its2.toArray.size = ys.length := by rw [List.size_toArray, ← q2.length, r2.length]
      have at_ : ∀ {its : List Value} {us : List V} {xs : List T}, Vals us its → Reps X.K F us xs → ∀ j, (h1 : j < its.toArray.size) → ∃ t v, xs[j]? = some t ∧ Rep X.K F v t ∧ RelV v its.toArray[j] := fun {its us xs} q1 r1 j hj => by
        have hj' : j < xs.length := by
          rw [List.size_toArray, ← q1.length, r1.length] at hj
          exact hj
        obtain ⟨v, e1, rv⟩ := r1.get (List.getElem?_eq_getElem hj')
        obtain ⟨u, e2, ru⟩ := q1.get e1
        refine ⟨_, v, List.getElem?_eq_getElem hj', rv, ?_⟩
        have e3 : its.toArray[j] = u := by
          obtain ⟨_, e4⟩ := List.getElem?_eq_some_iff.mp e2
          simpa using e4
        rw [e3]
        exact ru
      have R := Ob.RcOp.tuples_lt (A := A) (e := e) (r := r) p1 p2 (by omega) (fun j j1 j2 => by
        obtain ⟨t, v, e1, r1, v1⟩ := at_ q1 r1 j j1
        obtain ⟨u, z, e2, r2, v2⟩ := at_ q2 r2 j j2
        exact eqT_at I w hy (A := A.in1) (by show A.units + 1 + 64 < cLine; omega) r1 r2 v1 v2 (k1 j t u e1 e2).1) (fun j j1 j2 ej => by
        obtain ⟨t, v, e1, r1, v1⟩ := at_ q1 r1 j j1
        obtain ⟨u, z, e2, r2, v2⟩ := at_ q2 r2 j j2
        exact ih (A := A.in1) (by show A.units + 1 + 64 + n < cLine; omega) r1 r2 v1 v2 ((k1 j t u e1 e2).2 ej))
      rw [l1, l2] at R
      have k3 := k2 0
      simp only [Nat.sub_zero] at k3
      rw [k3] at R
      exact R
    · cases h
end
section
variable {X : Cx} {a b : Expr} {ta tb : E3} {pos : Pos}
def oLtT (n : Nat) (x y : T) (Q : QE) (M : Mp) : Prop := match ltN n x y with
  | some b => Q (.bl b) M
  | none => False
def rLtN (X : Cx) (n : Nat) : R2 := fun x y H Q => ∃ F O M t u b, Wd X.K F O H M ∧ Rep X.K F x t ∧ Rep X.K F y u ∧ ltN n t u = some b ∧ Q (.bl b) H
theorem op_ltN (hy : SysAt X.base) {n : Nat} (hu : X.A.units + 64 + n < cLine) : OpR X (compareOp .Lt) (rLtN X n) := by
  intro pins s σ H x y v u Q I rx ry h
  obtain ⟨F, O, M, t, t', b, w, r1, r2, e, q⟩ := h
  have R := ltN_ok I w hy n hu r1 r2 rx ry e
  have z : wpAny (model X.prog X.w) X.A (compareOp .Lt v u) (EP X pins σ Q) X.xe s := R X.prog X.w X.xe (EP X pins σ Q) ⟨.bl _, H, I, rfl, q⟩
  exact z
theorem d_ltT (hu : X.A.units + 84 < cLine) (hy : SysAt X.base) (ha : DE X a ta) (hb : DE X b tb) : DE X (.Compare a [.Lt] [b] pos) (dOp2 (oLtT 20) ta tb) :=
  d_cmp (op_ltN hy hu) (by
    intro F O H M x y t u Q3 Q w rx ry q k
    unfold oLtT at q
    split at q
    · rename_i b e
      exact ⟨F, O, M, t, u, b, w, rx, ry, e, fin_flat w k (.bl _) q⟩
    · exact q.elim) ha hb (nomark _)
end
end L3

set_option maxHeartbeats 1000000
/-! L3I: comprehensions by what their element gives; data. -/
namespace L3
open PySem PySem.Spec PyProof.Rows L2
theorem hu84 {A : Around} {k : Nat} (hr : Room k A) : A.units + 84 < cLine := by
  have := hr.un
  omega
/-- not a bare reference -/
def Dat (t : T) : Prop := (tyT t).isSome = true
theorem look_dat {t : T} {M : Mp} (h : Dat t) : look t M = t := by
  cases t <;> first | rfl | cases h
section
variable {ok : Mp → Prop} {P : Pat} {tt : T3} {te : E3} {vs : List Nat} {ss0 : SS} {Q : List T → Mp → Prop}
/-- elements that change nothing -/
theorem compL_map {f : T → T} {keep : T → Bool} {M : Mp} (hok : ok M) : ∀ {xs acc : List T}, (∀ t ∈ xs, ∃ ss2, P.set t (wipe3 ss0 vs) = some ss2 ∧ (∀ R : Bool → Mp → Prop, R (keep t) M → tt ss2 M R) ∧ (keep t = true → ∀ R : QE, R (f t) M → te ss2 M R)) →
    acc.length + xs.length ≤ sizeLine → Q (acc ++ (xs.filter keep).map f) M → compL ok P tt te vs ss0 Q xs acc M
  | [], acc, _, _, q => ⟨hok, by simpa using q⟩
  | t :: xs, acc, h, hz, q => by
    obtain ⟨ss2, e, h1, h2⟩ := h t List.mem_cons_self
    refine ⟨hok, ?_⟩
    rw [e]
    refine h1 _ ?_
    rw [List.length_cons] at hz
    cases hk : keep t with
    | true =>
      refine h2 hk _ ⟨by omega, compL_map hok (fun u hu => h u (List.mem_cons_of_mem _ hu)) (by rw [List.length_append, List.length_singleton]; omega) ?_⟩
      rw [List.filter_cons_of_pos hk, List.map_cons] at q
      rw [List.append_assoc]
      exact q
    | false =>
      refine compL_map hok (fun u hu => h u (List.mem_cons_of_mem _ hu)) (by omega) ?_
      rw [List.filter_cons_of_neg (by rw [hk]; decide)] at q
      exact q
/-- elements that keep an invariant and are as Pd says -/
theorem compL_inv (Iv : Nat → Mp → Prop) (Pd : T → Prop) (hok : ∀ i M, Iv i M → ok M) : ∀ {xs acc : List T} {M : Mp} (i : Nat), Iv i M →
    (∀ j t M, xs[j]? = some t → Iv (i + j) M → ∃ ss2, P.set t (wipe3 ss0 vs) = some ss2 ∧ ∀ R : QE, (∀ y M4, Pd y → Iv (i + j + 1) M4 → R y M4) → te ss2 M R) →
    acc.length + xs.length ≤ sizeLine → (∀ ys M', ys.length = xs.length → (∀ y ∈ ys, Pd y) → Iv (i + xs.length) M' → Q (acc ++ ys) M') → compL ok P dYes te vs ss0 Q xs acc M
  | [], acc, M, i, h0, _, _, q => ⟨hok i M h0, by simpa using q [] M rfl (fun _ h => (nomatch h)) h0⟩
  | t :: xs, acc, M, i, h0, h, hz, q => by
    obtain ⟨ss2, e, h1⟩ := h 0 t M rfl h0
    refine ⟨hok i M h0, ?_⟩
    rw [e]
    show te ss2 M _
    rw [List.length_cons] at hz
    refine h1 _ fun y M4 hy h4 => ⟨by omega, compL_inv Iv Pd hok (i + 1) h4 (fun j u M5 hu h5 => ?_) (by rw [List.length_append, List.length_singleton]; omega) fun ys M' hl hp hI => ?_⟩
    · have h6 := h (j + 1) u M5 hu (by rw [show i + (j + 1) = i + 1 + j by omega]; exact h5)
      rw [show i + (j + 1) + 1 = i + 1 + j + 1 by omega] at h6
      exact h6
    · rw [List.append_assoc]
      refine q (y :: ys) M' (by rw [List.length_cons, List.length_cons, hl]) (fun z hz => ?_) (by rw [List.length_cons, show i + (xs.length + 1) = i + 1 + xs.length by omega]; exact hI)
      rcases List.mem_cons.mp hz with rfl | hz
      · exact hy
      · exact hp z hz
end
theorem ups_len (lo : Int) (n : Nat) : (ups lo n).length = n := by unfold ups; rw [List.length_map, List.length_range]
theorem bls_map (bs : List Bool) : bls (bs.map T.bl) = some bs := by
  induction bs with
  | nil => rfl
  | cons b r ih => rw [List.map_cons, bls, ih]; rfl
theorem bls_map' {α : Type} (f : α → Bool) (xs : List α) : bls (xs.map fun x => T.bl (f x)) = some (xs.map f) := by
  induction xs with
  | nil => rfl
  | cons x r ih => rw [List.map_cons, bls, ih]; rfl
theorem strsT_map (bs : List Str) : strsT (bs.map T.str) = some bs := by
  induction bs with
  | nil => rfl
  | cons b r ih => rw [List.map_cons, strsT, ih]; rfl
end L3
namespace L3
open PySem PySem.Spec PyProof.Rows L2
theorem kit_NoneType_str : kitB "NoneType" "str" = some false := by decide +kernel
theorem kit_bool_str : kitB "bool" "str" = some false := by decide +kernel
theorem kit_int_str : kitB "int" "str" = some false := by decide +kernel
theorem kit_str_str : kitB "str" "str" = some true := by decide +kernel
theorem kit_tuple_str : kitB "tuple" "str" = some false := by decide +kernel
theorem kit_list_str : kitB "list" "str" = some false := by decide +kernel
theorem kit_dict_str : kitB "dict" "str" = some false := by decide +kernel
theorem kit_NoneType_int : kitB "NoneType" "int" = some false := by decide +kernel
theorem kit_bool_int : kitB "bool" "int" = some true := by decide +kernel
theorem kit_int_int : kitB "int" "int" = some true := by decide +kernel
theorem kit_str_int : kitB "str" "int" = some false := by decide +kernel
theorem kit_tuple_int : kitB "tuple" "int" = some false := by decide +kernel
theorem kit_list_int : kitB "list" "int" = some false := by decide +kernel
theorem kit_dict_int : kitB "dict" "int" = some false := by decide +kernel
theorem kit_NoneType_bool : kitB "NoneType" "bool" = some false := by decide +kernel
theorem kit_bool_bool : kitB "bool" "bool" = some true := by decide +kernel
theorem kit_int_bool : kitB "int" "bool" = some false := by decide +kernel
theorem kit_str_bool : kitB "str" "bool" = some false := by decide +kernel
theorem kit_tuple_bool : kitB "tuple" "bool" = some false := by decide +kernel
theorem kit_list_bool : kitB "list" "bool" = some false := by decide +kernel
theorem kit_dict_bool : kitB "dict" "bool" = some false := by decide +kernel
theorem kit_NoneType_tuple : kitB "NoneType" "tuple" = some false := by decide +kernel
theorem kit_bool_tuple : kitB "bool" "tuple" = some false := by decide +kernel
theorem kit_int_tuple : kitB "int" "tuple" = some false := by decide +kernel
theorem kit_str_tuple : kitB "str" "tuple" = some false := by decide +kernel
theorem kit_tuple_tuple : kitB "tuple" "tuple" = some true := by decide +kernel
theorem kit_list_tuple : kitB "list" "tuple" = some false := by decide +kernel
theorem kit_dict_tuple : kitB "dict" "tuple" = some false := by decide +kernel
theorem kit_NoneType_list : kitB "NoneType" "list" = some false := by decide +kernel
theorem kit_bool_list : kitB "bool" "list" = some false := by decide +kernel
theorem kit_int_list : kitB "int" "list" = some false := by decide +kernel
theorem kit_str_list : kitB "str" "list" = some false := by decide +kernel
theorem kit_tuple_list : kitB "tuple" "list" = some false := by decide +kernel
theorem kit_list_list : kitB "list" "list" = some true := by decide +kernel
theorem kit_dict_list : kitB "dict" "list" = some false := by decide +kernel
theorem kit_NoneType_dict : kitB "NoneType" "dict" = some false := by decide +kernel
theorem kit_bool_dict : kitB "bool" "dict" = some false := by decide +kernel
theorem kit_int_dict : kitB "int" "dict" = some false := by decide +kernel
theorem kit_str_dict : kitB "str" "dict" = some false := by decide +kernel
theorem kit_tuple_dict : kitB "tuple" "dict" = some false := by decide +kernel
theorem kit_list_dict : kitB "list" "dict" = some false := by decide +kernel
theorem kit_dict_dict : kitB "dict" "dict" = some true := by decide +kernel
end L3
namespace L3
theorem filter_tt {α : Type} (xs : List α) : xs.filter (fun _ => true) = xs := List.filter_eq_self.mpr fun _ _ => rfl
end L3
namespace L3
open PySem PySem.Spec PyProof.Rows L2
theorem low_ok {z : Str} (h : Low z) : PyData.strOk z = true := by
  unfold PyData.strOk
  rw [← Array.all_toList, List.all_eq_true]
  exact fun c hc => decide_eq_true (h c hc)
theorem shaped_str {z : Str} (h : Low z) : SeqAt.shaped (.str z) = true := by
  unfold SeqAt.shaped
  rw [PyData.canLay0, low_ok h]
  rfl
theorem shaped_int (i : Int) : SeqAt.shaped (.int i) = true := rfl
theorem hu65 {A : Around} {k : Nat} (hr : Room k A) : A.units + 65 < cLine := by
  have := hr.un
  omega
section
variable {X : Cx} {K : PySem.W.Frag} {a b : Expr} {ta tb : E3} {pos : Pos}
/-- a value among the items of a list, a tuple, whatever they are -/
def rInT (K : PySem.W.Frag) (neg : Bool) : R2 := fun x y H Q => ∃ d ds, Dp K H x d ∧ (Dp K H y (.list ds) ∨ Dp K H y (.tuple ds)) ∧ SeqAt.shaped d = true ∧ SeqAt.shaped (.list ds) = true ∧
  Q (.bl (if neg then !ds.any fun z => PyData.eqv z d else ds.any fun z => PyData.eqv z d)) H
theorem op_inT (hu : X.A.units + 65 < cLine) : OpR X (compareOp .In) (rInT X.K false) := by
  intro pins s σ H x y v u Q I rx ry h
  obtain ⟨d, ds, hd, he, sd, se, q⟩ := h
  obtain ⟨as, r1⟩ := Dp.reads I d x v hd rx
  have room := PyProof.Rows.room_in_shaped (xs := ds) sd hu
  have lay : PyData.canLayAll0 ds = true := by simpa only [PyData.canLay0] using SeqAt.canLay_of_shaped se
  rcases he with he | he
  · obtain ⟨bs, r2⟩ := Dp.reads I (.list ds) y u he ry
    exact SeqAt.in_list_reads r2 r1 lay (SeqAt.canLay_of_shaped sd) room ⟨.bl _, H, I, rfl, q⟩
  · obtain ⟨bs, r2⟩ := Dp.reads I (.tuple ds) y u he ry
    exact SeqAt.in_tuple_reads r2 r1 lay (SeqAt.canLay_of_shaped sd) room ⟨.bl _, H, I, rfl, q⟩
theorem op_ninT (hu : X.A.units + 65 < cLine) : OpR X (compareOp .NotIn) (rInT X.K true) := by
  intro pins s σ H x y v u Q I rx ry h
  obtain ⟨d, ds, hd, he, sd, se, q⟩ := h
  obtain ⟨as, r1⟩ := Dp.reads I d x v hd rx
  have room := PyProof.Rows.room_in_shaped (xs := ds) sd hu
  have lay : PyData.canLayAll0 ds = true := by simpa only [PyData.canLay0] using SeqAt.canLay_of_shaped se
  rcases he with he | he
  · obtain ⟨bs, r2⟩ := Dp.reads I (.list ds) y u he ry
    exact SeqAt.notIn_list_reads r2 r1 lay (SeqAt.canLay_of_shaped sd) room ⟨.bl _, H, I, rfl, q⟩
  · obtain ⟨bs, r2⟩ := Dp.reads I (.tuple ds) y u he ry
    exact SeqAt.notIn_tuple_reads r2 r1 lay (SeqAt.canLay_of_shaped sd) room ⟨.bl _, H, I, rfl, q⟩
def oInD (neg : Bool) (x y : T) (Q : QE) (M : Mp) : Prop := match (look x M).py, (look y M).py with
  | some d, some (.list ds) => SeqAt.shaped d = true ∧ SeqAt.shaped (.list ds) = true ∧ Q (.bl (if neg then !ds.any fun z => PyData.eqv z d else ds.any fun z => PyData.eqv z d)) M
  | some d, some (.tuple ds) => SeqAt.shaped d = true ∧ SeqAt.shaped (.list ds) = true ∧ Q (.bl (if neg then !ds.any fun z => PyData.eqv z d else ds.any fun z => PyData.eqv z d)) M
  | _, _ => False
theorem shaped_tl (ds : List PyData) : SeqAt.shaped (.tuple ds) = SeqAt.shaped (.list ds) := by
  unfold SeqAt.shaped
  rw [PyData.canLay0, PyData.canLay0, PyData.depth, PyData.depth]
theorem od_inD {neg : Bool} : OpD K (rInT K neg) (oInD neg) := by
  intro F O H M x y t u Q3 Q w rx ry q k
  unfold oInD at q
  split at q
  · rename_i d ds e1 e2
    exact ⟨d, ds, (rx.sees w).dp w e1 (SeqAt.canLay_of_shaped q.1), .inl ((ry.sees w).dp w e2 (SeqAt.canLay_of_shaped q.2.1)), q.1, q.2.1, fin_flat w k (.bl _) q.2.2⟩
  · rename_i d ds e1 e2
    exact ⟨d, ds, (rx.sees w).dp w e1 (SeqAt.canLay_of_shaped q.1), .inr ((ry.sees w).dp w e2 (SeqAt.canLay_of_shaped (by rw [shaped_tl]; exact q.2.1))), q.1, q.2.1, fin_flat w k (.bl _) q.2.2⟩
  · exact q.elim
theorem d_inD (hu : X.A.units + 65 < cLine) (ha : DE X a ta) (hb : DE X b tb) (hm : behindInMarks .In b = false) : DE X (.Compare a [.In] [b] pos) (dOp2 (oInD false) ta tb) := d_cmp (op_inT hu) od_inD ha hb hm
theorem d_ninD (hu : X.A.units + 65 < cLine) (ha : DE X a ta) (hb : DE X b tb) (hm : behindInMarks .NotIn b = false) : DE X (.Compare a [.NotIn] [b] pos) (dOp2 (oInD true) ta tb) := d_cmp (op_ninT hu) od_inD ha hb hm
theorem dt_inD (hu : X.A.units + 65 < cLine) (ha : DE X a ta) (hb : DE X b tb) (hm : behindInMarks .In b = false) : DT X (.Compare a [.In] [b] pos) (dB (dOp2 (oInD false) ta tb)) := dt_cmp (op_inT hu) od_inD ha hb hm
theorem dt_ninD (hu : X.A.units + 65 < cLine) (ha : DE X a ta) (hb : DE X b tb) (hm : behindInMarks .NotIn b = false) : DT X (.Compare a [.NotIn] [b] pos) (dB (dOp2 (oInD true) ta tb)) := dt_cmp (op_ninT hu) od_inD ha hb hm
end
end L3
namespace L3
open PySem PySem.Spec PyProof.Rows L2
theorem sz_1 : (1 ≤ sizeLine) = True := eq_true (by decide)
theorem sz_2 : (2 ≤ sizeLine) = True := eq_true (by decide)
theorem sz_3 : (3 ≤ sizeLine) = True := eq_true (by decide)
theorem sz_4 : (4 ≤ sizeLine) = True := eq_true (by decide)
theorem sz_5 : (5 ≤ sizeLine) = True := eq_true (by decide)
theorem sz_6 : (6 ≤ sizeLine) = True := eq_true (by decide)
theorem sz_7 : (7 ≤ sizeLine) = True := eq_true (by decide)
theorem sz_8 : (8 ≤ sizeLine) = True := eq_true (by decide)
theorem sz_9 : (9 ≤ sizeLine) = True := eq_true (by decide)
theorem sz_10 : (10 ≤ sizeLine) = True := eq_true (by decide)
theorem sz_11 : (11 ≤ sizeLine) = True := eq_true (by decide)
theorem sz_12 : (12 ≤ sizeLine) = True := eq_true (by decide)
theorem sz_13 : (13 ≤ sizeLine) = True := eq_true (by decide)
theorem sz_14 : (14 ≤ sizeLine) = True := eq_true (by decide)
theorem sz_15 : (15 ≤ sizeLine) = True := eq_true (by decide)
theorem sz_16 : (16 ≤ sizeLine) = True := eq_true (by decide)
theorem sz_17 : (17 ≤ sizeLine) = True := eq_true (by decide)
theorem sz_18 : (18 ≤ sizeLine) = True := eq_true (by decide)
theorem sz_19 : (19 ≤ sizeLine) = True := eq_true (by decide)
theorem sz_20 : (20 ≤ sizeLine) = True := eq_true (by decide)
theorem sz_21 : (21 ≤ sizeLine) = True := eq_true (by decide)
theorem sz_22 : (22 ≤ sizeLine) = True := eq_true (by decide)
theorem sz_23 : (23 ≤ sizeLine) = True := eq_true (by decide)
theorem sz_24 : (24 ≤ sizeLine) = True := eq_true (by decide)
theorem sz_25 : (25 ≤ sizeLine) = True := eq_true (by decide)
theorem sz_26 : (26 ≤ sizeLine) = True := eq_true (by decide)
theorem sz_27 : (27 ≤ sizeLine) = True := eq_true (by decide)
theorem sz_28 : (28 ≤ sizeLine) = True := eq_true (by decide)
theorem sz_29 : (29 ≤ sizeLine) = True := eq_true (by decide)
theorem sz_30 : (30 ≤ sizeLine) = True := eq_true (by decide)
theorem sz_31 : (31 ≤ sizeLine) = True := eq_true (by decide)
theorem sz_32 : (32 ≤ sizeLine) = True := eq_true (by decide)
theorem sz_33 : (33 ≤ sizeLine) = True := eq_true (by decide)
theorem sz_34 : (34 ≤ sizeLine) = True := eq_true (by decide)
theorem sz_35 : (35 ≤ sizeLine) = True := eq_true (by decide)
theorem sz_36 : (36 ≤ sizeLine) = True := eq_true (by decide)
theorem sz_37 : (37 ≤ sizeLine) = True := eq_true (by decide)
theorem sz_38 : (38 ≤ sizeLine) = True := eq_true (by decide)
theorem sz_39 : (39 ≤ sizeLine) = True := eq_true (by decide)
theorem sz_40 : (40 ≤ sizeLine) = True := eq_true (by decide)
theorem sz_41 : (41 ≤ sizeLine) = True := eq_true (by decide)
theorem sz_42 : (42 ≤ sizeLine) = True := eq_true (by decide)
theorem sz_43 : (43 ≤ sizeLine) = True := eq_true (by decide)
theorem sz_44 : (44 ≤ sizeLine) = True := eq_true (by decide)
theorem sz_45 : (45 ≤ sizeLine) = True := eq_true (by decide)
theorem sz_46 : (46 ≤ sizeLine) = True := eq_true (by decide)
theorem sz_47 : (47 ≤ sizeLine) = True := eq_true (by decide)
theorem sz_0 : (0 ≤ sizeLine) = True := eq_true (Nat.zero_le _)
section
variable {α : Type} {a b c d e : α} {r : List α}
theorem atI_c0 : atI (a :: r) 0 = some a := by
  unfold atI ixN
  rw [if_pos (by decide), if_pos (by rw [List.length_cons]; omega)]
  rfl
theorem atI_c1 : atI (a :: b :: r) 1 = some b := by
  unfold atI ixN
  rw [if_pos (by decide), if_pos (by rw [List.length_cons, List.length_cons]; omega)]
  rfl
theorem atI_c2 : atI (a :: b :: c :: r) 2 = some c := by
  unfold atI ixN
  rw [if_pos (by decide), if_pos (by rw [List.length_cons, List.length_cons, List.length_cons]; omega)]
  rfl
theorem atI_c3 : atI (a :: b :: c :: d :: r) 3 = some d := by
  unfold atI ixN
  rw [if_pos (by decide), if_pos (by rw [List.length_cons, List.length_cons, List.length_cons, List.length_cons]; omega)]
  rfl
theorem atI_c4 : atI (a :: b :: c :: d :: e :: r) 4 = some e := by
  unfold atI ixN
  rw [if_pos (by decide), if_pos (by rw [List.length_cons, List.length_cons, List.length_cons, List.length_cons, List.length_cons]; omega)]
  rfl
end
end L3

set_option maxHeartbeats 1000000
/-! L3J: drawing and picking, texts of low signs. -/
namespace L3
open PySem PySem.Spec PyProof.Rows L2
theorem draw_of {dk c : Addr} {n : Nat} {m : Int} {M : Mp} {Q : QE} (hD : DeckAt dk c M n) (hn : n < 2 ^ 59) (h0 : 0 < m) (h1 : m < 2 ^ 60) (k : ∀ M' r, DeckAt dk c M' (n + 1) → 0 ≤ r → r < m → Q (.int r) M') :
    spDraw [.raw (.ref dk), .int m] M Q := ⟨dk, c, n, m, rfl, hD, by omega, h0, h1, fun M' r d _ a b => k M' r d a b⟩
theorem pick_of {dk c : Addr} {n : Nat} {x : T} {M : Mp} {Q : QE} (hD : DeckAt dk c M n) (hn : n < 2 ^ 59) (h0 : 0 < (itemsOf x).length) (h1 : (itemsOf x).length ≤ 100000) (k : ∀ M' t, DeckAt dk c M' (n + 1) → t ∈ itemsOf x → Q t M') :
    spPick [.raw (.ref dk), x] M Q := ⟨dk, c, n, x, rfl, hD, by omega, h0, sz h1, fun M' t d _ a => k M' t d a⟩
/-- no call at all -/
def spNo : Sp3 := fun _ _ _ => False
theorem fnd_no {P : Program} {w : World} {K : PySem.W.Frag} {mg : Str → Option Value} {base : Heap} {k : Nat} {f : Addr} {fd : FuncData} {ps : List Str} : FnD P w K mg base k f fd ps spNo :=
  ⟨fun _ _ _ _ ⟨_, _, _, _, _, _, _, h, _⟩ => h.elim, fun _ _ _ _ _ _ _ _ _ _ _ _ _ _ ⟨_, _, _, _, _, _, _, h, _⟩ => h.elim⟩
theorem str_len (z : Str) : z.cps.toList.length = z.length := Array.length_toList
theorem app_cps (a b : Str) : (a ++ b).cps.toList = a.cps.toList ++ b.cps.toList := by
  show (a.cps ++ b.cps).toList = _
  rw [Array.toList_append]
theorem app_len (a b : Str) : (a ++ b).length = a.length + b.length := Str.length_append a b
theorem low_app {a b : Str} (ha : Low a) (hb : Low b) : Low (a ++ b) := by
  intro c hc
  rw [app_cps] at hc
  rcases List.mem_append.mp hc with h | h
  · exact ha c h
  · exact hb c h
theorem low_cut {a : Str} (ha : Low a) (lo hi : Option Int) : Low (cutS a lo hi) := by
  intro c hc
  unfold cutS at hc
  exact ha c (List.mem_of_mem_drop (List.mem_of_mem_take hc))
theorem low_sign {z : Str} (hz : Low z) {t : T} (h : t ∈ signsT z) : ∃ c : Nat, t = .str ⟨#[c]⟩ ∧ Low ⟨#[c]⟩ := by
  unfold signsT at h
  obtain ⟨c, hc, e⟩ := List.mem_map.mp h
  refine ⟨c, e.symm, fun d hd => ?_⟩
  rw [List.mem_singleton] at hd
  exact hd ▸ hz c hc
theorem low_of {z : Str} (h : (z.cps.toList.all fun c => decide (c < 0x110000)) = true) : Low z := fun c hc => of_decide_eq_true (List.all_eq_true.mp h c hc)
theorem low_empty : Low Str.empty := fun _ h => nomatch h
theorem low_joinE : ∀ {xs : List Str}, (∀ x ∈ xs, Low x) → Low (Str.join "" xs)
  | [], _ => low_empty
  | [x], h => h x List.mem_cons_self
  | x :: y :: r, h => low_app (low_app (h x List.mem_cons_self) low_empty) (low_joinE fun z hz => h z (List.mem_cons_of_mem _ hz))
theorem low_join {xs : List Str} (h : ∀ x ∈ xs, Low x) : Low (Txt.join "" xs) := by
  show Low (Builtin.Str.glued "" xs)
  rw [StrLaws.glued_eq_join]
  exact low_joinE h
theorem join_len (xs : List Str) : (Txt.join "" xs).length ≤ (xs.map (·.length)).sum := by
  show (Builtin.Str.glued "" xs).length ≤ _
  rw [StrLaws.glued_eq_join]
  have h := StrLaws.join_length_le "" xs
  exact Nat.le_trans h (Nat.le_of_eq (by rw [show (("" : Str)).length = 0 from rfl, Nat.mul_zero, Nat.add_zero]))
theorem cut_len (a : Str) (lo hi : Option Int) : (cutS a lo hi).length ≤ a.length := cutS_length a lo hi
theorem cut_len_to (a : Str) (k : Nat) : (cutS a none (some (k : Int))).length ≤ k := by
  rw [← str_len]
  show (cutT a.cps.toList none (some (k : Int))).length ≤ k
  rw [cut_to, List.length_take]
  omega
theorem mul_fold (x : Array Nat) : ∀ (n : Nat) (acc : Array Nat), ((List.replicate n x).foldl (· ++ ·) acc).toList = acc.toList ++ (List.replicate n x.toList).flatten
  | 0, acc => by simp
  | n + 1, acc => by
    rw [List.replicate_succ, List.foldl_cons, mul_fold x n, Array.toList_append, List.replicate_succ, List.flatten_cons, List.append_assoc]
theorem low_mul {z : Str} (hz : Low z) (n : Int) : Low (Txt.mul z n) := by
  unfold Txt.mul
  split
  · exact low_empty
  · split
    · exact hz
    · intro c hc
      show c < _
      have e := mul_fold z.cps n.toNat #[]
      rw [show (Str.mk ((List.replicate n.toNat z.cps).foldl (· ++ ·) #[])).cps.toList = ((List.replicate n.toNat z.cps).foldl (· ++ ·) #[]).toList from rfl, e] at hc
      simp only [List.nil_append, List.mem_flatten, List.mem_replicate] at hc
      obtain ⟨l, ⟨_, rfl⟩, h⟩ := hc
      exact hz c h
theorem mul_len (z : Str) (n : Int) : (Txt.mul z n).length ≤ z.length * n.toNat := by
  unfold Txt.mul
  split
  · exact Nat.zero_le _
  · rename_i h1
    split
    · exact Nat.le_mul_of_pos_right _ (by omega)
    · have e := mul_fold z.cps n.toNat #[]
      rw [← str_len]
      rw [show (Str.mk ((List.replicate n.toNat z.cps).foldl (· ++ ·) #[])).cps.toList = ((List.replicate n.toNat z.cps).foldl (· ++ ·) #[]).toList from rfl, e]
      simp only [List.nil_append, List.length_flatten, List.map_replicate, List.sum_replicate_nat]
      rw [str_len, Nat.mul_comm]
      exact Nat.le_refl _
theorem tooLong_of {n : Nat} (h : n ≤ 100000) : Builtin.Str.tooLong n = false := by
  unfold Builtin.Str.tooLong
  exact decide_eq_false (by have := sz h; omega)
theorem mul_ok {z : Str} {n : Int} (hz : z.length ≤ 10000) (hn : 0 ≤ n) (h : n ≤ 100000) (hm : z.length * n.toNat ≤ 100000) : MulOk z n := by
  refine ⟨?_, ?_, ?_⟩
  · rw [Bool.or_eq_false_iff]
    exact ⟨decide_eq_false (by omega), decide_eq_false (by omega)⟩
  · intro h1 _ h2
    have h3 : (10000000000000 : Int) ≤ (2 ^ 63 - 1) / n := by
      rw [Int.le_ediv_iff_mul_le (by omega)]
      omega
    omega
  · intro _ _
    exact tooLong_of hm
end L3

set_option maxHeartbeats 1000000
/-! L3K: loops by an invariant; the order of triples; reprs of lists of flat values. -/
namespace L3
open PySem PySem.Spec PyProof.Rows L2
theorem forL_inv {ok : Mp → Prop} {P : Pat} {tb : S3} {D : Ends3} (Iv : Nat → SS → Mp → Prop) (hok : ∀ i ss M, Iv i ss M → ok M) : ∀ {xs : List T} {ss : SS} {M : Mp} (i : Nat), Iv i ss M →
    (∀ j t ss M, xs[j]? = some t → Iv (i + j) ss M → ∃ ss2, P.set t ss = some ss2 ∧ ∀ N : SS → Mp → Prop, (∀ ss' M', Iv (i + j + 1) ss' M' → N ss' M') → tb { nx := N, rt := D.rt, bk := D.nx, ct := N } ss2 M) →
    (∀ ss M, Iv (i + xs.length) ss M → D.nx ss M) → forL ok P tb D xs ss M
  | [], ss, M, i, h0, _, q => ⟨hok i ss M h0, q ss M h0⟩
  | t :: xs, ss, M, i, h0, h, q => by
    obtain ⟨ss2, e, h1⟩ := h 0 t ss M rfl h0
    refine ⟨hok i ss M h0, ?_⟩
    rw [e]
    refine h1 _ fun ss' M' h2 => forL_inv Iv hok (i + 1) h2 (fun j u ss3 M3 hu h3 => ?_) fun ss3 M3 h3 => ?_
    · have h6 := h (j + 1) u ss3 M3 hu (by rw [show i + (j + 1) = i + 1 + j by omega]; exact h3)
      rw [show i + (j + 1) + 1 = i + 1 + j + 1 by omega] at h6
      exact h6
    · exact q ss3 M3 (by rw [List.length_cons, show i + (xs.length + 1) = i + 1 + xs.length by omega]; exact h3)
theorem pys_map {α : Type} (f : α → T) (g : α → PyData) (h : ∀ a, (f a).py = some (g a)) : ∀ xs : List α, T.pys (xs.map f) = some (xs.map g)
  | [] => by rw [List.map_nil, List.map_nil, T.pys]
  | n :: ns => by rw [List.map_cons, List.map_cons, T.pys, h, pys_map f g h ns]
theorem lst_py {α : Type} (f : α → T) (g : α → PyData) (h : ∀ a, (f a).py = some (g a)) (xs : List α) : (T.lst (xs.map f)).py = some (.list (xs.map g)) := by rw [T.py, pys_map f g h]; rfl
theorem str_py (z : Str) : (T.str z).py = some (.str z) := rfl
theorem int_py (i : Int) : (T.int i).py = some (.int i) := rfl
theorem bl_py (b : Bool) : (T.bl b).py = some (.bool b) := rfl
theorem eqv_empty (xs : List PyData) : PyData.eqv (.list xs) (.list []) = decide (xs = []) := by
  cases xs with
  | nil => rw [PyData.eqv, PyData.eqvAll]; rfl
  | cons n r => rw [PyData.eqv, PyData.eqvAll]; rfl
theorem shaped_flats {xs : List PyData} (h : ∀ x ∈ xs, PyData.canLay0 x = true ∧ PyData.depth x = 0) : SeqAt.shaped (.list xs) = true := by
  have h1 : PyData.canLayAll0 xs = true ∧ PyData.depthAll xs = 0 := by
    induction xs with
    | nil => exact ⟨by rw [PyData.canLayAll0], by rw [PyData.depthAll]⟩
    | cons x r ih =>
      obtain ⟨a, b⟩ := h x List.mem_cons_self
      obtain ⟨c, d⟩ := ih fun y hy => h y (List.mem_cons_of_mem _ hy)
      exact ⟨by rw [PyData.canLayAll0, a, c]; rfl, by rw [PyData.depthAll, b, d]; rfl⟩
  unfold SeqAt.shaped
  rw [PyData.canLay0, h1.1, PyData.depth, h1.2]
  rfl
theorem shaped_strs {bs : List Str} (h : ∀ b ∈ bs, Low b) : SeqAt.shaped (.list (bs.map PyData.str)) = true := by
  refine shaped_flats fun x hx => ?_
  obtain ⟨b, hb, rfl⟩ := List.mem_map.mp hx
  exact ⟨by rw [PyData.canLay0, low_ok (h b hb)], rfl⟩
/-- [texts] == [] -/
theorem eq_strs_nil {bs : List Str} (h : ∀ b ∈ bs, Low b) {neg : Bool} {Q : QE} {M : Mp} (q : Q (.bl (if neg then !decide (bs = []) else decide (bs = []))) M) : oEqB neg (.lst (bs.map T.str)) (.lst []) Q M := by
  have e : PyData.eqv (.list (bs.map PyData.str)) (.list []) = decide (bs = []) := by
    rw [eqv_empty]
    exact decide_eq_decide.mpr List.map_eq_nil_iff
  unfold oEqB look
  dsimp only [scalT]
  rw [lst_py T.str PyData.str str_py, py_nil]
  refine ⟨shaped_strs h, shaped_nil, ?_⟩
  rw [e]
  exact q
theorem eq_nil_nil {neg : Bool} {Q : QE} {M : Mp} (q : Q (.bl (!neg)) M) : oEqB neg (.lst []) (.lst []) Q M := eq_strs_nil (bs := []) (fun _ h => nomatch h) (by cases neg <;> exact q)
theorem ltS_irr (a : Str) : ltS a a = false := decide_eq_false (List.lt_irrefl _)
theorem eqT_int (i j : Int) : eqT (.int i) (.int j) = some (decide (i = j)) := by
  unfold eqT
  rw [int_py, int_py]
  dsimp only
  rw [if_pos (show (SeqAt.shaped (.int i) && SeqAt.shaped (.int j)) = true from rfl), PyData.eqv]
  rfl
theorem eqT_str {a b : Str} (ha : Low a) (hb : Low b) : eqT (.str a) (.str b) = some (decide (a = b)) := by
  unfold eqT
  rw [str_py, str_py]
  dsimp only
  rw [shaped_str ha, shaped_str hb, if_pos (show (true && true) = true from rfl), PyData.eqv]
  rfl
/-- (int, int, text) ahead of another -/
theorem lt_iis (n : Nat) (a b x y : Int) {c z : Str} (hc : Low c) (hz : Low z) : ltN (n + 2) (.tup [.int a, .int b, .str c]) (.tup [.int x, .int y, .str z]) = some (if a = x then if b = y then ltS c z else decide (b < y) else decide (a < x)) := by
  have e : ltL (ltN (n + 1)) [.int a, .int b, .str c] [.int x, .int y, .str z] = some (if a = x then if b = y then ltS c z else decide (b < y) else decide (a < x)) := by
    rw [ltL, ltL, ltL, ltL, eqT_int, eqT_int, eqT_str hc hz]
    have f1 : ltN (n + 1) (.str c) (.str z) = some (ltS c z) := rfl
    have f2 : ltN (n + 1) (.int b) (.int y) = some (decide (b < y)) := rfl
    have f3 : ltN (n + 1) (.int a) (.int x) = some (decide (a < x)) := rfl
    rw [f1, f2, f3]
    by_cases h1 : a = x <;> by_cases h2 : b = y <;> by_cases h3 : c = z <;> simp [h1, h2, h3, ltS_irr]
  exact e
theorem lt_iisO (a b x y : Int) {c z : Str} (hc : Low c) (hz : Low z) {Q : QE} {M : Mp} (q : Q (.bl (if a = x then if b = y then ltS c z else decide (b < y) else decide (a < x))) M) : oLtT 20 (.tup [.int a, .int b, .str c]) (.tup [.int x, .int y, .str z]) Q M := by
  unfold oLtT
  rw [lt_iis 18 a b x y hc hz]
  exact q
def shT (t : T) : Str := (t.py.map PyData.shown).getD ""
theorem Fine.rep {t : T} {n k : Nat} {Q : QE} {M : Mp} (h : Fine t n k) (a : n ≤ 16000000) (b : k ≤ 60) (hl : look t M = t) (q : Q (.str (shT t)) M) : fRepr [t] Q M :=
  h.repr a b hl fun d e => by
    unfold shT at q
    rw [e] at q
    exact q
theorem fine_bls {bs : List Bool} (h : bs.length ≤ 1000) : Fine (.lst (bs.map T.bl)) 7003 1 :=
  (fine_lst (n := 5) (k := 0) (xs := bs.map T.bl) fun x hx => by
    obtain ⟨b, _, rfl⟩ := List.mem_map.mp hx
    exact fine_bl b).mono (by rw [List.length_map]; omega) (Nat.le_refl _)
theorem eq_strB {a b : Str} {neg : Bool} {Q : QE} {M : Mp} (q : Q (.bl (if neg then !decide (a = b) else decide (a = b))) M) : oEqB neg (.str a) (.str b) Q M := q
end L3

set_option maxHeartbeats 1000000
/-! L3L: starred displays, split, sorted of texts and of tuples that begin with a text. -/
namespace L3
open PySem PySem.Spec PyProof.Rows L2
section
variable {X : Cx} {K : PySem.W.Frag} {e o : Expr} {es : List Expr} {te : E3} {tl : A3} {p pos : Pos}
/-- *e ahead of more -/
def dStar (te : E3) (tl : A3) : A3 := fun ss M Q => te ss M fun x M1 => match seqOf (look x M1) with
  | some xs => tl ss M1 fun ys M2 => Q (xs ++ ys) M2
  | none => False
theorem da_star (he : DE X e te) (hr : DA X es tl) (hs : starEach (.Starred e p :: es) X.env = (true, eval e X.env) :: starEach es X.env := by rfl) : DA X (.Starred e p :: es) (dStar te tl) := by
  refine pa_weak (StX.pa_star he hr hs) ?_
  rintro σ H Q ⟨F, O, M, ss, Q3, w, sl, q, k⟩
  refine ⟨F, O, M, ss, _, w, sl, q, ?_⟩
  intro v H1 F1 M1 t x1 w1 r1 q1
  split at q1
  · rename_i xs e1
    obtain ⟨a, us, rfl, h, px⟩ := (r1.sees w1).seq w1 e1
    refine ⟨a, us, rfl, h.symm, F1, O, M1, ss, _, w1, sl.mono x1, q1, ?_⟩
    intro vs H2 F2 M2 ts x2 w2 r2 q2
    exact k _ H2 F2 M2 _ (x1.trans x2) w2 ((px.mono x2).append r2) q2
  · exact q1.elim
/-- s.split(sep) -/
def mSplit (x : T) (ts : List T) (Q : QE) (M : Mp) : Prop := match x, ts with
  | .str a, [.str b] => (b.length == 0) = false ∧ a.length + 2 ≤ sizeLine ∧ Q (.lst ((Txt.split a b).map T.str)) M
  | _, _ => False
theorem md_split : MtD K (fun x xs H Q => ∃ a b, x = .str a ∧ xs = [.str b] ∧ (b.length == 0) = false ∧ a.length + 2 ≤ sizeLine ∧ rNewStrs (Txt.split a b) H Q) mSplit := by
  intro F O H M x t vs ts Q3 Q w rx rs q k
  unfold mSplit at q
  split at q
  · cases rx
    cases rs with
    | cons ry rn =>
    cases rn
    cases ry
    exact ⟨_, _, rfl, rfl, q.1, q.2.1, fin_new w k (fun F' p x e => .lst e (Reps.of_strs _)) q.2.2⟩
  · exact q.elim
theorem d_split {apos cpos : Pos} (ho : DE X o te) (ha : DA X [e] tl) (hbase : attributeBase o "split" X.env (eval o X.env) = eval o X.env := by rfl)
    (hfew : ((backTo cpos (starEach [e] X.env)).all (fun x => !x.1) && (backToKw cpos (keywordEach [] X.env)).all (fun x => x.1.isSome)
      && decide (([e] : List Expr).length + ([] : List Keyword).length + (if ([] : List Keyword).isEmpty then 0 else 1) < 30)) = true := by rfl)
    (hline : (apos.endLine == cpos.line) = true := by rfl) (hs : starEach [e] X.env = (false, eval e X.env) :: starEach [] X.env := by rfl) :
    DE X (.Call (.Attribute o "split" apos) [e] [] cpos) (dSm mSplit te tl) := d_sm PySem.F.slot_str_split PySem.F.type_str_split mt_split md_split ho ha hbase hfew hline hs rfl
/-- sorted of texts -/
def fSortS (ts : List T) (Q : QE) (M : Mp) : Prop := match ts with
  | [x] => (match look x M with
    | .lst xs => (match strsT xs with
      | some bs => bs.length < 64 ∧ ∀ ys : List Str, ys.Perm bs → sortedS ys = true → Q (.lst (ys.map T.str)) M
      | none => False)
    | _ => False)
  | _ => False
theorem cd_sortS : CallD K (rSortedS K) fSortS := by
  intro F O H M vs ts Q3 Q w rs q k
  unfold fSortS at q
  split at q
  · cases rs with
    | cons rx rn =>
    cases rn
    have sx := rx.sees w
    split at q
    · rename_i e1
      rw [e1] at sx
      cases sx with
      | lst hx px =>
      split at q
      · rename_i bs e2
        have e3 := strs_eq e2
        subst e3
        have e4 := px.strs
        subst e4
        exact ⟨_, bs, rfl, .of hx, q.1, fun ys p h1 h2 hp => fin_new w k (fun F' p x e => .lst e (Reps.of_strs _)) (q.2 ys h1 h2) p hp⟩
      · exact q.elim
    · exact q.elim
  · exact q.elim
theorem d_sortedS {p : Pos} (hg : Gl X "sorted") (hm : X.mg "sorted" = none) (ha : DA X [e] tl) (he : starEach [e] X.env = (false, eval e X.env) :: starEach [] X.env := by rfl) : DE X (.Call (.Name "sorted" p) [e] [] pos) (dCall fSortS tl) := d_callB cr_sortedS cd_sortS hg hm (by decide +kernel) ha (he := he)
end

/-! ### sorted of tuples -/
section
variable {X : Cx} {pins : List (Addr × Obj)} {σ : L2.St} {s : Shared} {F O H : Hp} {M : Mp}
theorem katlex_of (I : Inv X pins σ H s) (w : Wd X.K F O H M) (hy : SysAt X.base) {A : Around} {n : Nat} (hu : A.units + 64 + n < cLine) {prog : Program} {wo : World} {fin : Bool} : ∀ {xs ys : List T} {us zs : List V} {vs ws : List Value} {b : Bool} (i : Nat),
    Reps X.K F us xs → Reps X.K F zs ys → Vals us vs → Vals zs ws → ltL (ltN n) xs ys = some b → (i = 0 → (∀ t, xs.head? = some t → ∃ z, t = .str z) ∧ ∀ t, ys.head? = some t → ∃ z, t = .str z) → fin = decide (xs.length < ys.length) →
    PySem.W.KatLex prog wo A true fin (fun r s' => s' = s ∧ r = b) (vs.zip ws) i s
  | [], [], _, _, _, _, b, i, .nil, .nil, .nil, .nil, h, _, hf => by
    rw [ltL] at h
    cases h
    exact PySem.W.kat_nil ⟨rfl, hf⟩
  | [], y :: ys, _, _, _, _, b, i, .nil, .cons _ _, .nil, .cons _ _, h, _, hf => by
    rw [ltL] at h
    cases h
    exact PySem.W.kat_nil ⟨rfl, hf.trans (decide_eq_true (by rw [List.length_nil, List.length_cons]; omega))⟩
  | x :: xs, [], _, _, _, _, b, i, .cons _ _, .nil, .cons _ _, .nil, h, _, hf => by
    rw [ltL] at h
    cases h
    exact PySem.W.kat_nil ⟨rfl, hf.trans (decide_eq_false (by rw [List.length_nil]; omega))⟩
  | x :: xs, y :: ys, _, _, _, _, b, i, .cons rx rxs, .cons ry rys, .cons vx vxs, .cons vy vys, h, h0, hf => by
    rw [ltL] at h
    split at h
    · rename_i r0 e0 e1
      cases h
      refine PySem.W.kat_cons (eqT_at I w hy (by omega) rx ry vx vy e0 _ _ _ _ (PySem.W.kat_yes ?_))
      refine katlex_of I w hy hu (i + 1) rxs rys vxs vys e1 (fun z => absurd z (Nat.succ_ne_zero i)) (hf.trans ?_)
      rw [List.length_cons, List.length_cons]
      exact decide_eq_decide.mpr Nat.succ_lt_succ_iff
    · rename_i r0 e0 e1
      refine PySem.W.kat_cons (eqT_at I w hy (by omega) rx ry vx vy e0 _ _ _ _ (PySem.W.kat_no ?_))
      cases i with
      | zero =>
        obtain ⟨z1, e2⟩ := (h0 rfl).1 x rfl
        obtain ⟨z2, e3⟩ := (h0 rfl).2 y rfl
        subst e2
        subst e3
        cases rx; cases ry
        obtain ⟨_, rfl⟩ := vx
        obtain ⟨_, rfl⟩ := vy
        have e4 : ltN n (.str z1) (.str z2) = some (ltS z1 z2) := by cases n <;> rfl
        rw [e4] at h
        cases h
        exact oneLt_any_str ⟨rfl, rfl⟩
      | succ i =>
        exact PySem.W.kat_one _ _ (ltN_ok I w hy n hu rx ry vx vy h _ _ _ _ ⟨rfl, rfl⟩)
    · cases h
end
def tupS : T → Bool
  | .tup (.str _ :: _) => true
  | _ => false
/-- all of them can be compared -/
def cmpAll (n : Nat) (xs : List T) : Prop := ∀ x ∈ xs, tupS x = true ∧ ∀ y ∈ xs, (ltN (n + 1) x y).isSome = true
def fSortT (ts : List T) (Q : QE) (M : Mp) : Prop := match ts with
  | [x] => (match look x M with
    | .lst xs => cmpAll 12 xs ∧ ∀ ys : List T, ys.Perm xs → Q (.lst ys) M
    | _ => False)
  | _ => False
def rSortT (X : Cx) : List V → Hp → VK → Prop := fun vs H Q => ∃ (a : Addr) (F O : Hp) (M : Mp) (us : List V) (xs : List T), vs = [V.ref a] ∧ SqL X.K H a us ∧ Wd X.K F O H M ∧ Reps X.K F us xs ∧ cmpAll 12 xs ∧
  ∀ ys p, ys.Perm us → H p = none → Q (.ref p) (upd H p (.lst ys))
theorem Reps.perm {K : PySem.W.Frag} {F : Hp} {us vs : List V} (p : us.Perm vs) : ∀ {ts : List T}, Reps K F us ts → ∃ ss, Reps K F vs ss ∧ ss.Perm ts := by
  induction p with
  | nil => intro ts h; cases h; exact ⟨[], .nil, .nil⟩
  | cons x _ ih =>
    intro ts h
    cases h with
    | cons r rs =>
    obtain ⟨ss, h1, h2⟩ := ih rs
    exact ⟨_ :: ss, .cons r h1, h2.cons _⟩
  | swap x y l =>
    intro ts h
    cases h with
    | cons r rs =>
    cases rs with
    | cons r2 rs =>
    exact ⟨_, .cons r2 (.cons r rs), List.Perm.swap _ _ _⟩
  | trans _ _ ih1 ih2 =>
    intro ts h
    obtain ⟨ss, h1, h2⟩ := ih1 h
    obtain ⟨rr, h3, h4⟩ := ih2 h1
    exact ⟨rr, h3, h4.trans h2⟩
section
variable {X : Cx} {e : Expr} {tl : A3} {pos : Pos}
theorem cr_sortT (hy : SysAt X.base) (hu : X.A.units + 84 < cLine) : CallR X (.builtin "sorted") (rSortT X) := by
  intro pins s σ H vs us Q I r h
  obtain ⟨a, F, O, M, xs, ts, rfl, hs, wd, rp, hc, q⟩ := h
  obtain ⟨its, rv, hl, hz⟩ := I.list hs
  obtain ⟨u, rfl, ru⟩ := vals1 r
  obtain rfl : u = Value.ref a := ru
  have hit : ∀ v ∈ its, ∃ (x : V) (t : T), RelV x v ∧ Rep X.K F x t ∧ t ∈ ts := by
    intro v hv
    obtain ⟨j, hj, e⟩ := List.getElem_of_mem hv
    have hj2 : j < xs.length := by rw [rv.length]; exact hj
    obtain ⟨u2, e2, r2⟩ := rv.get (List.getElem?_eq_getElem hj2)
    rw [List.getElem?_eq_getElem hj, e] at e2
    cases e2
    obtain ⟨t, e3, r3⟩ := rp.get' (List.getElem?_eq_getElem hj2)
    exact ⟨_, t, r2, r3, List.mem_of_getElem? e3⟩
  have hrefs : ∀ x ∈ xs, ∃ a, x = V.ref a := by
    intro x hx
    obtain ⟨j, hj, e⟩ := List.getElem_of_mem hx
    obtain ⟨t, e3, r3⟩ := rp.get' (List.getElem?_eq_getElem hj)
    rw [e] at r3
    have := (hc t (List.mem_of_getElem? e3)).1
    cases r3 with
    | tup h _ => exact ⟨_, rfl⟩
    | _ => cases this
  obtain ⟨e1, e2⟩ := refs_back rv hrefs
  have data : ∀ v ∈ its, ∃ (p : Addr) (o : Obj) (vs' : List Value) (n : Nat) (us' : List V) (xs' : List T), v = .ref p ∧ s.heap.get? p = some o ∧ o.cls = .type "tuple" ∧ o.data = .seq vs'.toArray n ∧ Vals us' vs' ∧ Reps X.K F us' xs' ∧ T.tup xs' ∈ ts := by
    intro v hv
    obtain ⟨x, t, rx, rt, ht⟩ := hit v hv
    have ht1 := (hc t ht).1
    cases rt with
    | tup h1 r1 =>
      cases rx
      obtain ⟨vs', q1, p1, _⟩ := I.tuple (wd.ex.sqT h1)
      obtain ⟨o, ho, hcl, n, hd⟩ := p1
      exact ⟨_, o, vs', n, _, _, rfl, ho, hcl, hd, q1, r1, ht⟩
    | _ => cases ht1
  refine Srt.sorted_any hl.isList (by rw [← rv.length]; exact hz) (fun h2 h₁ b hb kk h' keep => ?_) fun out hp => ?_
  · have kk' : ∀ c o, s.heap.get? c = some o → h'.get? c = some o := fun c o e => keep c o (kk c o e).1 (kk c o e).2
    have I2 : Inv X pins σ H { s with heap := h' } := I.kept (t' := s.toks) kk'
    refine ⟨tuples' true, fun Q E hq => ?_, ?_⟩
    · have firsts : ∀ l : List Value, (∀ v ∈ l, v ∈ its) → ∃ fs : List Value, PySem.W.KatTups h' l fs ∧ fs.length = l.length ∧ ∀ f ∈ fs, ∃ x t, f = Value.str x t := by
        intro l
        induction l with
        | nil => exact fun _ => ⟨[], PySem.W.KatTups.nil, rfl, fun _ hm => nomatch hm⟩
        | cons v r ih =>
          intro hv
          obtain ⟨fs, k1, k2, k3⟩ := ih fun y hy' => hv y (List.mem_cons_of_mem _ hy')
          obtain ⟨p, o, vs', n, us', xs', rfl, ho, hcl, hd, q1, r1, ht⟩ := data v (hv v List.mem_cons_self)
          have t1 := (hc _ ht).1
          cases r1 with
          | nil => cases t1
          | cons rr rrs =>
            cases rr with
            | str z =>
              cases q1 with
              | cons q0 q1 =>
              obtain ⟨tk, rfl⟩ := q0
              refine ⟨.str z tk :: fs, PySem.W.KatTups.cons (kk' _ _ ho) hcl hd rfl k1, by rw [List.length_cons, List.length_cons, k2], fun f hm => ?_⟩
              rcases List.mem_cons.mp hm with rfl | hm
              · exact ⟨z, tk, rfl⟩
              · exact k3 f hm
            | _ => cases t1
      obtain ⟨fs, k1, k2, k3⟩ := firsts its fun _ h => h
      refine PySem.W.kat_kind (T := .type "str") (s := { s with heap := h' }) k1 (by omega) (fun f hm => ?_) (by rfl) ?_
      · obtain ⟨x, t, rfl⟩ := k3 f hm
        exact PySem.W.Looks.now
      · have e : (Value.type "str" != Value.type "tuple") = true := by first | decide +kernel | rfl | decide
        rw [e]
        exact hq
    · intro p q hm hm'
      obtain ⟨a1, o1, v1, n1, u1, x1, e1', ho1, hc1, hd1, q1, r1, t1⟩ := data _ hm
      obtain ⟨a2, o2, v2, n2, u2, x2, e2', ho2, hc2, hd2, q2, r2, t2⟩ := data _ hm'
      rw [e1', e2']
      obtain ⟨b, hb2⟩ := Option.isSome_iff_exists.mp ((hc _ t1).2 _ t2)
      have hb3 : ltL (ltN 12) x1 x2 = some b := hb2
      refine ⟨b, PySem.W.kat_lt (kk' _ _ ho1) hd1 (kk' _ _ ho2) hd2 ?_⟩
      have s1 := (hc _ t1).1
      have s2 := (hc _ t2).1
      refine katlex_of I2 wd hy (n := 12) (A := _) (by show X.A.units + 1 + 1 + 64 + 12 < cLine; omega) 0 r1 r2 q1 q2 hb3 (fun _ => ⟨fun t ht => ?_, fun t ht => ?_⟩) ?_
      · cases x1 with
        | nil => cases ht
        | cons z r =>
          cases ht
          cases t with
          | str z => exact ⟨z, rfl⟩
          | _ => cases s1
      · cases x2 with
        | nil => cases ht
        | cons z r =>
          cases ht
          cases t with
          | str z => exact ⟨z, rfl⟩
          | _ => cases s2
      · rw [List.size_toArray, List.size_toArray, ← q1.length, ← q2.length, r1.length, r2.length]
  · have h3 : ∀ u ∈ out, ∃ a, u = Value.ref a := fun u hu => e2 u (hp.mem_iff.mp hu)
    obtain ⟨n, hn⟩ := PyProof.Rows.sortedAll_at s.heap its out.toArray
    refine ⟨.ref _, upd H (s.heap.objs.size + 1) (.lst (out.map backV)), I.laid (t' := s.toks) (fun _ _ => PyProof.Rows.sortedAll_old) (Nat.le_succ _) ⟨?_, out, n, vals_back h3, hn⟩, rfl, q _ _ ?_ (I.hok.fresh (Nat.le_succ _))⟩
    · rw [List.length_map, hp.length_eq, ← rv.length]; exact hz
    · rw [e1]; exact hp.map backV
theorem cd_sortT : ∀ (F O H : Hp) (M : Mp) (vs : List V) (ts : List T) (Q3 : QE) (Q : VK), Wd X.K F O H M → Reps X.K F vs ts → fSortT ts Q3 M → LkV X.K F O Q3 Q → rSortT X vs H Q := by
  intro F O H M vs ts Q3 Q w rs q k
  unfold fSortT at q
  split at q
  · cases rs with
    | cons rx rn =>
    cases rn
    have sx := rx.sees w
    split at q
    · rename_i e1
      rw [e1] at sx
      cases sx with
      | lst hx px =>
      refine ⟨_, F, O, M, _, _, rfl, .of hx, w, px, q.1, fun ys p hp hn => ?_⟩
      obtain ⟨ss, h1, h2⟩ := px.perm hp.symm
      exact fin_new w k (fun F' p x e => .lst e (h1.mono x)) (q.2 ss h2) p hn
    · exact q.elim
  · exact q.elim
theorem d_sortedT {p : Pos} (hu : X.A.units + 84 < cLine) (hy : SysAt X.base) (hg : Gl X "sorted") (hm : X.mg "sorted" = none) (ha : DA X [e] tl) (he : starEach [e] X.env = (false, eval e X.env) :: starEach [] X.env := by rfl) : DE X (.Call (.Name "sorted" p) [e] [] pos) (dCall fSortT tl) := d_callB (cr_sortT hy hu) cd_sortT hg hm (by decide +kernel) ha (he := he)
end
end L3

set_option maxHeartbeats 1000000
/-! L3M: enumerate of a tuple, of a list. -/
namespace EnT
open PySem
open Sem (wp)
open AutoSeq1 (wpAny_loadPart')
abbrev tIt (l : Addr) : Obj := { cls := .type "tuple_iterator", data := .fields #[.ref l, .int 0 0] }
abbrev eOb (k : Addr) : Obj := { cls := .type "enumerate", data := .fields #[.none, .bool false, .ref k, rawInt 0, .none, .none] }
theorem meets_new (l : Addr) (xs : Array Value) (n : Nat) (d₀ : Option Addr) (z₀ : Array (Option Value)) :
    Meets (Builtin.«enumerate.__new__» ⟨[.type "enumerate", .ref l], []⟩) (fun _ R s => s.heap.get? l = some { cls := .type "tuple", dict := d₀, data := .seq xs n, slots := z₀ } ∧
      R (.ok (.ret (.ref (s.heap.push (tIt l)).objs.size))) { s with heap := (s.heap.push (tIt l)).push (eOb s.heap.objs.size) }) :=
  .of_wp fun P wo A R s h => by
    obtain ⟨hp, g, dd, tk, os⟩ := s
    obtain ⟨hl, h⟩ := h
    have hsb := sub_enumerate
    have hT : Heap.IsTuple (Shared.heap ⟨hp, g, dd, tk, os⟩) l xs := ⟨_, hl, rfl, n, rfl⟩
    wp_walk using wpAny_loadPart' hl
    refine wpAny_stack_any fun _ => wpAny_pure ?_
    split
    · rename_i c _ _ _ _ _
      cases (c == Value.type "enumerate") <;> wp_walk using wpAny_loadPart' hl, wpAny_pyIter_tuple hT
      all_goals exact ⟨_, rfl, h⟩
    · wp_walk using wpAny_loadPart' hl, wpAny_pyIter_tuple hT
      exact ⟨_, rfl, h⟩
section
variable {prog : Program} {w : World} {A : Around} {E : Value → Shared → Prop} {s : Shared}
theorem call_tup {l : Addr} {xs : Array Value} {Q : Value → Shared → Prop} (hL : s.heap.IsTuple l xs)
    (h : ∀ h', IsEnum h' (s.heap.objs.size + 1) s.heap.objs.size 0 .none → h'.IsTupleIter s.heap.objs.size l 0 → (∀ b o, s.heap.get? b = some o → h'.get? b = some o) → Q (.ref (s.heap.objs.size + 1)) { s with heap := h' }) :
    wpAny (model prog w) A (call (.type "enumerate") [.ref l]) Q E s := by
  obtain ⟨⟨c, d₀, dt, z₀⟩, hl, hc, n, hd⟩ := hL
  cases (show c = .type "tuple" from hc)
  cases (show dt = .seq xs n from hd)
  refine callType_new F.called_enumerate (by decide) (F.typeCall_enumerate_1 _) (F.newCall_enumerate_1 _) (fun o => F.args_object_init_2 o _) F.entry_enumerate_new (meets_new l xs n d₀ z₀) ⟨hl, ?_⟩
  have hz : (s.heap.push (tIt l)).objs.size = s.heap.objs.size + 1 := Heap.size_push ..
  show _ ∧ _
  rw [hz]
  have he : IsEnum ((s.heap.push (tIt l)).push (eOb s.heap.objs.size)) (s.heap.objs.size + 1) s.heap.objs.size 0 .none := by
    have k := Heap.get?_push_size (s.heap.push (tIt l)) (o := eOb s.heap.objs.size) rfl
    rw [hz] at k
    exact k
  exact ⟨⟨_, he, rfl⟩, h _ he ⟨_, Heap.get?_push_of_some _ (Heap.get?_push_size _ rfl), rfl, rfl⟩ fun b o x => Heap.get?_push_of_some _ (Heap.get?_push_of_some _ x)⟩
/-- the next item of a tuple's iterator -/
theorem next_item {k l : Addr} {i : Nat} {xs : Array Value} {x : Value} {Q : Value → Shared → Prop} (ht : s.heap.IsTupleIter k l i) (hl : s.heap.IsTuple l xs) (hx : xs[i]? = some x)
    (q : ∀ h', h'.IsTupleIter k l (i + 1) → Heap.SameBut k s.heap h' → Q x { s with heap := h' }) : wpAny (model prog w) A (Builtin.SmallTypes.nextOf (.ref k)) Q E s := by
  obtain ⟨o, ho, hc, hd⟩ := id ht
  obtain ⟨u, hu, _, m, hm⟩ := hl
  unfold Builtin.SmallTypes.nextOf
  refine wpAny_bind (wpAny_callSpecial?_slot (name := Str.ofString "__next__") ht.typeIs F.slot_tuple_iterator_next (wpAny_call_entry F.slot_tuple_iterator_next ht.typeIs F.entry_tuple_iterator_next ?_ (F.args_tuple_iterator_next_1 _)))
  show wpAny _ _ (field (.ref k) 0 >>= _) _ _ s
  refine wpAny_bind (wpAny_field ho hd (x := .ref l) rfl ?_)
  show wpAny _ _ (if (Value.ref l == Value.none) = true then _ else _) _ _ s
  rw [if_neg (show ¬ ((Value.ref l == Value.none) = true) from Bool.false_ne_true)]
  show wpAny _ _ (field (.ref k) 1 >>= _) _ _ s
  refine wpAny_bind (wpAny_field ho hd (x := .int i 0) rfl ?_)
  show wpAny _ _ (seqItems? (.ref l) >>= _) _ _ s
  refine wpAny_bind (wpAny_seqItems hu hm ?_)
  simp only [Int.toNat_natCast, hx]
  refine wpAny_bind (wpAny_setField ho hd (by simp) (wpAny_pure ⟨x, rfl, wpAny_pure (q _ ⟨_, Heap.get?_update_self _ ho (Obj.isFreed_of_fields (Obj.data_mapFields hd _)), (Obj.cls_mapFields ..).trans hc, ?_⟩ (Heap.SameBut.update ..))⟩))
  rw [Obj.data_mapFields hd]
  simp [rawInt]
theorem next_end {k l : Addr} {i : Nat} {xs : Array Value} {Q : Value → Shared → Prop} (hh : A.handled = none) (ht : s.heap.IsTupleIter k l i) (hl : s.heap.IsTuple l xs) (hx : xs[i]? = none)
    (q : ∀ h' e, Heap.ExtBut k s.heap h' → (∃ o, h'.get? e = some o ∧ o.cls = .type "StopIteration") → E (.ref e) { s with heap := h' }) : wpAny (model prog w) A (Builtin.SmallTypes.nextOf (.ref k)) Q E s := by
  obtain ⟨o, ho, hc, hd⟩ := id ht
  obtain ⟨u, hu, _, m, hm⟩ := hl
  unfold Builtin.SmallTypes.nextOf
  refine wpAny_bind (wpAny_callSpecial?_slot (name := Str.ofString "__next__") ht.typeIs F.slot_tuple_iterator_next (wpAny_call_entry F.slot_tuple_iterator_next ht.typeIs F.entry_tuple_iterator_next ?_ (F.args_tuple_iterator_next_1 _)))
  show wpAny _ _ (field (.ref k) 0 >>= _) _ _ s
  refine wpAny_bind (wpAny_field ho hd (x := .ref l) rfl ?_)
  show wpAny _ _ (if (Value.ref l == Value.none) = true then _ else _) _ _ s
  rw [if_neg (show ¬ ((Value.ref l == Value.none) = true) from Bool.false_ne_true)]
  show wpAny _ _ (field (.ref k) 1 >>= _) _ _ s
  refine wpAny_bind (wpAny_field ho hd (x := .int i 0) rfl ?_)
  show wpAny _ _ (seqItems? (.ref l) >>= _) _ _ s
  refine wpAny_bind (wpAny_seqItems hu hm ?_)
  simp only [Int.toNat_natCast, hx]
  refine wpAny_bind (wpAny_rule (wpAny_bind (wpAny_setField ho hd (by simp) ?_)))
  show wpAny _ _ (newExc (.type "StopIteration") [] >>= _) _ _ _
  refine wpAny_bind ?_
  simp only [newExc, newTuple]
  refine wpAny_bind (wpAny_newObj_type ?_ (by size_fits))
  refine wpAny_bind (m := firstArgMember _ _) (wpAny_of_eq (a := Value.none) (by first | rfl | (simp only [firstArgMember]; rfl)) (wpAny_newObj_type ?_ (by size_fits)))
  simp only [raiseNew]
  refine wpAny_bind (wpAny_handled ?_)
  first | rw [show A.in1.handled = none from hh] | rw [hh]
  exact wpAny_bind (wpAny_pure (wpAny_throw (q _ _ (((Heap.SameBut.update ..).extBut.push _).push _) ⟨_, Heap.get?_push_size _ rfl, rfl⟩)))
theorem draws_tup (hh : A.handled = none) (k l : Addr) (xs : Array Value) : Draws prog w A k [k, l] xs.size (fun i v => xs[i]? = some v) (fun i h => h.IsTupleIter k l i ∧ h.IsTuple l xs) where
  live := fun _ _ st => st.1.imp fun _ h => h.1
  frame := fun _ _ _ st hk => ⟨st.1.imp fun o h => ⟨hk k (by simp) o h.1, h.2⟩, st.2.imp fun o h => ⟨hk l (by simp) o h.1, h.2⟩⟩
  item := fun i s Q E hi st q => by
    have hne : l ≠ k := by
      rintro rfl
      obtain ⟨o, h1, h2, _⟩ := st.1
      obtain ⟨u, h3, h4, _⟩ := st.2
      rw [h1] at h3
      cases h3
      rw [h2] at h4
      exact absurd (Value.type.inj h4) (by decide)
    exact next_item st.1 st.2 (x := xs[i]) (by simp [hi]) fun h' a b => q _ h' s.toks (by simp [hi]) ⟨a, st.2.extBut b.extBut hne⟩ b
  done := fun s Q E st q => next_end hh st.1 st.2 (by simp) q
theorem draws_end (hh : A.handled = none) (k l : Addr) (xs : Array Value) (n : Nat) (hx : xs[n]? = none) : Draws prog w A k [k, l] n (fun _ _ => False) (fun i h => i = n ∧ h.IsTupleIter k l n ∧ h.IsTuple l xs) where
  live := fun _ _ st => st.2.1.imp fun _ h => h.1
  frame := fun _ _ _ st hk => ⟨st.1, st.2.1.imp fun o h => ⟨hk k (by simp) o h.1, h.2⟩, st.2.2.imp fun o h => ⟨hk l (by simp) o h.1, h.2⟩⟩
  item := fun i s Q E hi st q => absurd st.1 (Nat.ne_of_lt hi)
  done := fun s Q E st q => next_end hh st.2.1 st.2.2 hx q
theorem apart_of {h : Heap} {a b : Addr} {o u : Obj} (ha : h.get? a = some o) (hb : h.get? b = some u) (ne : o.cls ≠ u.cls) : a ≠ b := by
  rintro rfl
  rw [ha] at hb
  cases hb
  exact ne rfl
end
end EnT
namespace L3
open PySem PySem.Spec PyProof.Rows L2
/-- the tuple at a, n items, each in a new pair -/
def IteT (K : PySem.W.Frag) (a : Addr) : It :=
  ⟨fun i H => ∃ (xs : List V) (x : V), SqT K H a xs ∧ xs[i]? = some x, fun i H v H' => ∃ q x, v = .ref q ∧ H q = none ∧ H' = upd H q (.tup [.int (i : Nat), x]) ∧ ∀ xs, SqT K H a xs → xs[i]? = some x,
    fun i H => ∃ xs : List V, SqT K H a xs ∧ xs.length ≤ i⟩
theorem turn_enT {P : Program} {w : World} {K : PySem.W.Frag} {elts : List Expr} {kk : Nat} {tpos : Pos} (a e k : Addr) :
    Turn P w K (.Tuple elts kk tpos) (IteT K a) [e, k] e (fun i h => (∃ old, IsEnum h e k ((i : Nat) : Int) old) ∧ h.IsTupleIter k a i ∧ e ≠ k) where
  mem := List.mem_cons_self
  obj := fun i h st b hb => by
    obtain ⟨⟨old, he⟩, ⟨o, ho, hc, hd⟩, _⟩ := st
    rcases List.mem_cons.mp hb with z | z
    · rw [z]
      exact ⟨_, he, fun v q => nomatch q⟩
    · rw [List.mem_singleton.mp z]
      exact ⟨o, ho, fun v q => by rw [hd] at q; cases q⟩
  keep := fun i h h' st f => by
    obtain ⟨⟨old, he⟩, ⟨o, ho, hr⟩, hne⟩ := st
    exact ⟨⟨old, f e List.mem_cons_self _ he⟩, ⟨o, f k (List.mem_cons_of_mem _ List.mem_cons_self) _ ho, hr⟩, hne⟩
  item := by
    intro X hP hw hK hc i pins s σ H E I hf st hg
    subst hP hw hK
    obtain ⟨⟨old, he⟩, hit, hne⟩ := st
    obtain ⟨vs, x, hq, hx⟩ := hg
    obtain ⟨its, rv, p, hz⟩ := I.tuple hq
    have p' : s.heap.IsTuple a its.toArray := p
    obtain ⟨u, hu, ru⟩ := rv.get hx
    have hel : e < s.heap.objs.size := Heap.lt_size he
    have hil : k < s.heap.objs.size := by
      obtain ⟨_, q, _⟩ := hit
      exact Heap.lt_size q
    have hea : e ≠ a := by
      obtain ⟨o, h1, h2, _⟩ := p'
      exact EnT.apart_of he h1 (by rw [h2]; exact fun z => absurd (Value.type.inj z) (by decide))
    have hhd : X.A.in1.handled = none := I.ok.hd hc
    have hi : i < its.toArray.size := by
      rw [List.size_toArray]
      exact (List.getElem?_eq_some_iff.mp hu).1
    refine wpAny_pyNext_enum_itemD (EnT.draws_tup hhd k a its.toArray) he ⟨hit, p'⟩ hi hne (by simp [hne, hea]) fun x' h1 tk hx' ho hst hT hsz hk => ?_
    have ex : x' = u := by
      have z : its[i]? = some x' := by simpa using hx'
      rw [hu] at z
      exact (Option.some.inj z).symm
    subst ex
    refine ⟨_, rfl, wpAny_letOwnedTupleGo_enum (s := { s with heap := h1, toks := tk + 1 }) ho fun h2 he' sb => ?_⟩
    have hT2 : h2.get? s.heap.objs.size = some { cls := .type "tuple", data := .seq #[.int i tk, x'] } := (sb.2 _ (Nat.ne_of_gt hel)).trans hT
    have new : ObjOk X.prog X.w (upd H s.heap.objs.size (.tup [.int (i : Nat), x])) h2 s.heap.objs.size (.tup [.int (i : Nat), x]) :=
      ⟨(by decide : 2 ≤ sizeLine), [.int i tk, x'], .cons ⟨_, rfl⟩ (.cons ru .nil), ⟨_, hT2, rfl, _, rfl⟩⟩
    have J : Inv X pins σ (upd H s.heap.objs.size (.tup [.int (i : Nat), x])) { s with heap := h2, toks := tk + 1 } :=
      I.turnedNew (ch := [e, k]) (fun b ob hb q => (sb.2 b (fun z => hb (by simp [z]))).trans (hk b ob (fun z => hb (by simp [z])) (fun z => hb (by simp [z])) q)) hf (Nat.le_refl _) new
    refine ⟨.ref s.heap.objs.size, _, J, rfl, ⟨_, x, rfl, I.hok.fresh (Nat.le_refl _), rfl, fun ys hy => by rw [I.tuple_inj hy hq]; exact hx⟩, ⟨⟨x', ?_⟩, ?_, hne⟩, fun b hb => ?_⟩
    · rw [show ((i + 1 : Nat) : Int) = (i : Int) + 1 by omega]
      exact he'
    · obtain ⟨o, z1, z2⟩ := hst.1
      exact ⟨o, (sb.2 k (Ne.symm hne)).trans z1, z2⟩
    · have hb' : b < s.heap.objs.size := by
        rcases List.mem_cons.mp hb with z | z
        · exact z ▸ hel
        · exact (List.mem_singleton.mp z) ▸ hil
      rw [upd_ne (Nat.ne_of_lt hb')]
      exact (hf b hb).1
  done := by
    intro X hP hw hK hc i pins s σ H E I hf st hg
    subst hP hw hK
    obtain ⟨⟨old, he⟩, hit, hne⟩ := st
    obtain ⟨vs, hq, hx⟩ := hg
    obtain ⟨its, rv, p, hz⟩ := I.tuple hq
    have p' : s.heap.IsTuple a its.toArray := p
    have hhd : X.A.in1.handled = none := I.ok.hd hc
    have hn : its.toArray[i]? = none := by
      have := rv.length
      simp
      omega
    obtain ⟨f0, f1, f2, f3, f4, f5⟩ := hf k (List.mem_cons_of_mem _ List.mem_cons_self)
    exact wpAny_pyNext_enum_endD (EnT.draws_end hhd k a its.toArray i hn) he ⟨rfl, hit, p'⟩ fun h1 eb => ⟨rfl, I.turned (t' := s.toks) (fun b o hb q => eb b o hb q) f0 f1 f3 f4 f5⟩
  self := fun A i s Q E st h => let ⟨⟨_, he⟩, _⟩ := st; wpAny_pyIter_enum he h
section
variable {X : Cx} {K : PySem.W.Frag} {e : Expr} {te : E3} {p pos tpos : Pos} {elts : List Expr} {kk : Nat}
theorem pi_enT {ta : TA} (hg : Gl X "enumerate") (hm : X.mg "enumerate" = none) (ha : PA X [e] ta) (hs : starEach [e] X.env = [(false, eval e X.env)] := by rfl) :
    PI X (.Tuple elts kk tpos) (.Call (.Name "enumerate" p) [e] [] pos) (fun σ H R => ta σ H fun vs H1 => ∃ a xs, vs = [.ref a] ∧ SqT X.K H1 a xs ∧ R (IteT X.K a) H1) := by
  refine ⟨fun pins s σ H R I h => ?_⟩
  refine Call_ (ld_blt I hg hm boot_enumerate (PyProof.Rows.callWith_type1 (thn (ha.run pos pins s σ H _ I h) fun us s1 ⟨vs, H1, J, r1, q1⟩ => ?_) hs rfl))
  obtain ⟨a, xs, rfl, hq, q⟩ := q1
  obtain ⟨u, rfl, ru⟩ := vals1 r1
  obtain rfl : u = Value.ref a := ru
  obtain ⟨its, rv, p', hz⟩ := J.tuple hq
  refine EnT.call_tup (show s1.heap.IsTuple a its.toArray from p') fun h1 he hit hk => wpAny_pyIter_enum he ?_
  have J2 : Inv X pins σ H1 { s1 with heap := h1 } := J.kept (t' := s1.toks) hk
  refine ⟨s1.heap.objs.size + 1, [s1.heap.objs.size + 1, s1.heap.objs.size], _, _, H1, rfl, J2, turn_enT a (s1.heap.objs.size + 1) s1.heap.objs.size, ⟨⟨.none, he⟩, hit, Nat.succ_ne_self _⟩, fun b hb => ?_, q⟩
  have hle : s1.heap.objs.size ≤ b := by
    rcases List.mem_cons.mp hb with z | z
    · exact z ▸ Nat.le_succ _
    · exact Nat.le_of_eq (List.mem_singleton.mp z).symm
  exact J.fpOk hle (J.hok.fresh hle)
def enumT (xs : List T) : List T := xs.mapIdx fun i x => .tup [.int (i : Nat), x]
def iEnT (tl : A3) : I3 := fun ss M R => tl ss M fun ts M1 => match ts with
  | [.tup xs] => R ⟨enumT xs, fun _ => True⟩ M1
  | _ => False
theorem di_enumT {tl : A3} (hg : Gl X "enumerate") (hm : X.mg "enumerate" = none) (ha : DA X [e] tl) (hs : starEach [e] X.env = [(false, eval e X.env)] := by rfl) :
    DI X (.Tuple elts kk tpos) (.Call (.Name "enumerate" p) [e] [] pos) (iEnT tl) := by
  refine pi_weak (pi_enT hg hm ha hs) ?_
  rintro σ H R ⟨F, O, M, ss, R3, w, sl, q, k⟩
  refine ⟨F, O, M, ss, _, w, sl, q, ?_⟩
  intro vs H1 F1 M1 ts x1 w1 r1 q1
  split at q1
  · rename_i xs
    cases r1 with
    | cons rx rn =>
    cases rn
    cases rx with
    | tup hx px =>
    refine ⟨_, _, rfl, w1.ex.sqT hx, k _ H1 F1 M1 _ x1 w1 ?_ q1⟩
    intro F' O' H' M' x w2 _ i
    have hx' := w2.ex.sqT (x.sqT hx)
    have hlen : (enumT xs).length = xs.length := List.length_mapIdx ..
    refine ⟨fun hl => ⟨_, hx', by rw [px.length, ← hlen]; exact hl⟩, fun t' e => ?_⟩
    have e' : (xs.mapIdx fun i x => T.tup [.int (i : Nat), x])[i]? = some t' := e
    rw [List.getElem?_mapIdx] at e'
    obtain ⟨t, e1, e2⟩ := Option.map_eq_some_iff.mp e'
    subst e2
    obtain ⟨u, e3, r3⟩ := px.get e1
    refine ⟨⟨_, u, hx', e3⟩, ?_⟩
    rintro y H'' ⟨b, v, rfl, hb, rfl, f⟩
    have e4 := Option.some.inj ((f _ hx').symm.trans e3)
    subst e4
    have x3 : Ex F' (upd F' b (.tup [.int (i : Nat), v])) := .upd (w2.fF hb)
    exact ⟨_, x3, w2.newF hb _, .tup (.of upd_same) (.cons (.int _) (.cons ((r3.mono x).mono x3) .nil))⟩
  · exact q1.elim
end
end L3

set_option maxHeartbeats 1000000
/-! L3N: conditions and questions as trees: places, parts, what is drawn of them. -/
namespace L3
open PySem PySem.Spec PyProof.Rows L2
/-! ### places -/
def partAt : T → List Nat → Option T
  | t, [] => some t
  | .tup xs, i :: r => (match xs[i]? with | some x => partAt x r | none => none)
  | _, _ :: _ => none
def withPart : T → List Nat → T → T
  | _, [], p => p
  | .tup xs, i :: r, p => .tup (xs.take i ++ withPart (xs.getD i .non) r p :: xs.drop (i + 1))
  | t, _ :: _, _ => t
theorem partAt_nil (t : T) : partAt t [] = some t := by cases t <;> rfl
theorem withPart_nil (t p : T) : withPart t [] p = p := by cases t <;> rfl
theorem partAt_cons {t p : T} {i : Nat} {r : List Nat} (h : partAt t (i :: r) = some p) : ∃ xs x, t = .tup xs ∧ xs[i]? = some x ∧ partAt x r = some p := by
  cases t with
  | tup xs =>
    rw [partAt] at h
    split at h
    · rename_i x e
      exact ⟨xs, x, rfl, e, h⟩
    · cases h
  | _ => cases h
theorem partAt_tup {xs : List T} {x : T} {i : Nat} {r : List Nat} (h : xs[i]? = some x) : partAt (.tup xs) (i :: r) = partAt x r := by
  rw [partAt, h]
theorem withPart_tup {xs : List T} {x p : T} {i : Nat} {r : List Nat} (h : xs[i]? = some x) : withPart (.tup xs) (i :: r) p = .tup (xs.take i ++ withPart x r p :: xs.drop (i + 1)) := by
  rw [withPart, List.getD_eq_getElem?_getD, h]
  rfl
theorem spot_at {α : Type} {xs : List α} {i : Nat} {x y : α} (h : xs[i]? = some x) : (xs.take i ++ y :: xs.drop (i + 1))[i]? = some y := by
  obtain ⟨hi, _⟩ := List.getElem?_eq_some_iff.mp h
  rw [List.getElem?_append_right (by rw [List.length_take]; omega), List.length_take, Nat.min_eq_left (by omega), Nat.sub_self]
  rfl
theorem spot_take {α : Type} {xs : List α} {i : Nat} {x y : α} (h : xs[i]? = some x) : (xs.take i ++ y :: xs.drop (i + 1)).take i = xs.take i := by
  obtain ⟨hi, _⟩ := List.getElem?_eq_some_iff.mp h
  rw [List.take_append_of_le_length (by rw [List.length_take]; omega), List.take_take, Nat.min_self]
theorem spot_drop {α : Type} {xs : List α} {i : Nat} {x y : α} (h : xs[i]? = some x) : (xs.take i ++ y :: xs.drop (i + 1)).drop (i + 1) = xs.drop (i + 1) := by
  obtain ⟨hi, _⟩ := List.getElem?_eq_some_iff.mp h
  rw [List.drop_append, List.length_take, Nat.min_eq_left (by omega), List.drop_of_length_le (by rw [List.length_take]; omega)]
  rw [show i + 1 - i = 1 by omega]
  rfl
theorem spot_self {α : Type} {xs : List α} {i : Nat} {x : α} (h : xs[i]? = some x) : xs.take i ++ x :: xs.drop (i + 1) = xs := by
  obtain ⟨hi, e⟩ := List.getElem?_eq_some_iff.mp h
  subst e
  rw [List.getElem_cons_drop, List.take_append_drop]
theorem partAt_app : ∀ {l r : List Nat} {t c : T}, partAt t l = some c → partAt t (l ++ r) = partAt c r
  | [], r, t, c, h => by
    rw [partAt_nil] at h
    cases h
    rfl
  | i :: l, r, t, c, h => by
    obtain ⟨xs, x, rfl, e, h2⟩ := partAt_cons h
    rw [List.cons_append, partAt_tup e]
    exact partAt_app h2
theorem withPart_app : ∀ {l r : List Nat} {t c q : T}, partAt t l = some c → withPart t (l ++ r) q = withPart t l (withPart c r q)
  | [], r, t, c, q, h => by
    rw [partAt_nil] at h
    cases h
    rw [List.nil_append, withPart_nil]
  | i :: l, r, t, c, q, h => by
    obtain ⟨xs, x, rfl, e, h2⟩ := partAt_cons h
    rw [List.cons_append, withPart_tup e, withPart_tup e, withPart_app h2]
theorem partAt_with : ∀ {l : List Nat} {t c q : T}, partAt t l = some c → partAt (withPart t l q) l = some q
  | [], t, c, q, _ => by rw [withPart_nil, partAt_nil]
  | i :: l, t, c, q, h => by
    obtain ⟨xs, x, rfl, e, h2⟩ := partAt_cons h
    rw [withPart_tup e, partAt_tup (spot_at e)]
    exact partAt_with h2
theorem with_with : ∀ {l : List Nat} {t c p q : T}, partAt t l = some c → withPart (withPart t l p) l q = withPart t l q
  | [], t, c, p, q, _ => by rw [withPart_nil, withPart_nil]
  | i :: l, t, c, p, q, h => by
    obtain ⟨xs, x, rfl, e, h2⟩ := partAt_cons h
    rw [withPart_tup e, withPart_tup (spot_at e), spot_take e, spot_drop e, with_with h2, withPart_tup e]
theorem with_self : ∀ {l : List Nat} {t c : T}, partAt t l = some c → withPart t l c = t
  | [], t, c, h => by
    rw [partAt_nil] at h
    cases h
    rw [withPart_nil]
  | i :: l, t, c, h => by
    obtain ⟨xs, x, rfl, e, h2⟩ := partAt_cons h
    rw [withPart_tup e, with_self h2, spot_self e]
/-- a place, as a tuple of ints -/
def plc (l : List Nat) : T := .tup (l.map fun i => .int (i : Nat))

/-! ### parts -/
def Nm (z : Str) : Prop := z.length ≤ 8 ∧ Low z
theorem nm_of {z : Str} (h : (decide (z.length ≤ 8) && z.cps.toList.all fun c => decide (c < 0x110000)) = true) : Nm z := by
  rw [Bool.and_eq_true, decide_eq_true_eq] at h
  exact ⟨h.1, low_of h.2⟩
def FlatV (t : T) : Prop := t = .non ∨ (∃ i : Int, t = .int i ∧ i.natAbs < 10 ^ 60) ∨ ∃ z, t = .str z ∧ Nm z
theorem FlatV.fine {t : T} (h : FlatV t) : Fine t 82 0 := by
  rcases h with rfl | ⟨i, rfl, hi⟩ | ⟨z, rfl, hz⟩
  · exact fine_non.mono (by decide) (Nat.le_refl _)
  · exact (fine_int hi).mono (by decide) (Nat.le_refl _)
  · exact (fine_str hz.2).mono (by have := hz.1; omega) (Nat.le_refl _)
theorem FlatV.str {z : Str} (h : Nm z) : FlatV (.str z) := Or.inr (Or.inr ⟨z, rfl, h⟩)
theorem FlatV.int {i : Int} (h : i.natAbs < 10 ^ 60) : FlatV (.int i) := Or.inr (Or.inl ⟨i, rfl, h⟩)
abbrev prT (p : Str × Str) : T := .tup [.str p.1, .str p.2]
/-- pairs of names -/
def OwnT (k : Nat) (t : T) : Prop := ∃ l : List (Str × Str), t = .tup (l.map prT) ∧ l.length ≤ k ∧ ∀ p ∈ l, Nm p.1 ∧ Nm p.2
inductive Part : Nat → T → Prop
  | col {n : Nat} {a b : Str} : Nm a → Nm b → Part n (.tup [.str "column", .str a, .str b])
  | val {n : Nat} {v : T} : FlatV v → Part n (.tup [.str "value", v])
  | plus {n : Nat} {w : Str} {x v : T} : (w = "plus" ∨ w = "is") → Part n x → FlatV v → Part (n + 1) (.tup [.str w, x, v])
  | not {n : Nat} {x : T} : Part n x → Part (n + 1) (.tup [.str "not", x])
  | two {n : Nat} {w : Str} {x y : T} : (w = "less" ∨ w = "most" ∨ w = "same" ∨ w = "and" ∨ w = "or") → Part n x → Part n y → Part (n + 1) (.tup [.str w, x, y])
  | exists {n : Nat} {o x : T} : OwnT 2 o → Part n x → Part (n + 1) (.tup [.str "exists", .tup [o, x]])
  | only {n : Nat} {w : Str} {o x y : T} : (w = "only" ∨ w = "first") → OwnT 2 o → Part n x → Part n y → Part (n + 1) (.tup [.str w, .tup [o, x], y])
theorem Part.succ {n : Nat} {t : T} (h : Part n t) : Part (n + 1) t := by
  induction h with
  | col a b => exact .col a b
  | val v => exact .val v
  | plus a _ c ih => exact .plus a ih c
  | not _ ih => exact .not ih
  | two a _ _ i1 i2 => exact .two a i1 i2
  | «exists» a _ ih => exact .exists a ih
  | only a b _ _ i1 i2 => exact .only a b i1 i2
theorem Part.mono {n m : Nat} {t : T} (h : Part n t) (l : n ≤ m) : Part m t := by
  induction l with
  | refl => exact h
  | step _ ih => exact ih.succ
def fz : Nat → Nat
  | 0 => 400
  | n + 1 => 2 * fz n + 1000
theorem fine3 {a b c : T} {n k : Nat} (h1 : Fine a n k) (h2 : Fine b n k) (h3 : Fine c n k) : Fine (.tup [a, b, c]) (3 * n + 9) (k + 1) :=
  (fine_tup (xs := [a, b, c]) (n := n) (k := k) fun x hx => by
    simp only [List.mem_cons, List.not_mem_nil, or_false] at hx
    rcases hx with rfl | rfl | rfl <;> assumption).mono (by show 3 * (n + 2) + 3 ≤ _; omega) (Nat.le_refl _)
inductive FA (k : Nat) : List T → List Nat → Prop
  | nil : FA k [] []
  | cons {x : T} {n : Nat} {xs : List T} {ns : List Nat} : Fine x n k → FA k xs ns → FA k (x :: xs) (n :: ns)
/-- shown lengths add up -/
theorem fine_sum {k : Nat} : ∀ {xs : List T} {ns : List Nat}, FA k xs ns → Fine (.tup xs) (ns.sum + 2 * xs.length + 3) (k + 1) := by
  intro xs ns h
  have key : ∃ ds, T.pys xs = some ds ∧ PyData.showableAll ds = true ∧ ((PyData.shownAll ds).map (·.length)).sum ≤ ns.sum ∧ (PyData.shownAll ds).length = xs.length ∧ PyData.depthAll ds ≤ k := by
    induction h with
    | nil => exact ⟨[], rfl, rfl, by rw [PyData.shownAll]; exact Nat.zero_le _, by rw [PyData.shownAll]; rfl, by rw [PyData.depthAll]; exact Nat.zero_le _⟩
    | cons hx _ ih =>
      obtain ⟨d, e, s, l, p⟩ := hx
      obtain ⟨ds, e', s', l', q', p'⟩ := ih
      refine ⟨d :: ds, by rw [T.pys, e, e'], by rw [PyData.showableAll, s, s']; rfl, ?_, ?_, ?_⟩
      · rw [PyData.shownAll, List.map_cons, List.sum_cons, List.sum_cons]
        omega
      · rw [PyData.shownAll, List.length_cons, List.length_cons, q']
      · rw [PyData.depthAll]
        omega
  obtain ⟨ds, e, s, l, q, p⟩ := key
  refine ⟨.tuple ds, by rw [T.py, e]; rfl, by rw [PyData.showable]; exact s, ?_, by rw [PyData.depth]; omega⟩
  rw [PyData.shown]
  have := tupleText_len_le (PyData.shownAll ds)
  rw [q] at this
  omega
theorem fine_word {w : Str} (h : Nm w) (k : Nat) : Fine (.str w) 82 k := (FlatV.str h).fine.mono (Nat.le_refl _) (Nat.zero_le _)
theorem OwnT.fine {k : Nat} {t : T} (h : OwnT k t) : Fine t (180 * k + 3) 2 := by
  obtain ⟨l, rfl, hl, hn⟩ := h
  refine (fine_tup (n := 171) (k := 1) fun x hx => ?_).mono (by rw [List.length_map]; have := Nat.mul_le_mul_right 173 hl; omega) (Nat.le_refl _)
  obtain ⟨p, hp, rfl⟩ := List.mem_map.mp hx
  obtain ⟨h1, h2⟩ := hn p hp
  exact (fine_sum (.cons (fine_word h1 0) (.cons (fine_word h2 0) .nil))).mono (by simp) (Nat.le_refl _)
theorem Part.fine {n : Nat} {t : T} (h : Part n t) : Fine t (fz n) (2 * n + 3) := by
  have wd : ∀ {w : Str} {k : Nat}, (decide (w.length ≤ 8) && w.cps.toList.all fun c => decide (c < 0x110000)) = true → Fine (.str w) 82 k := fun h => fine_word (nm_of h) _
  have f0 : ∀ n, 400 ≤ fz n := fun n => by
    induction n with
    | zero => exact Nat.le_refl _
    | succ n ih => rw [fz]; omega
  induction h with
  | @col n a b ha hb => exact (fine_sum (.cons (wd (by decide +kernel)) (.cons (fine_word ha 0) (.cons (fine_word hb 0) .nil)))).mono (by have := f0 n; simp; omega) (by omega)
  | @val n v hv => exact (fine_sum (.cons (wd (by decide +kernel)) (.cons hv.fine .nil))).mono (by have := f0 n; simp; omega) (by omega)
  | @plus n w x v hw _ hv ih =>
    have h1 : Fine (.str w) 82 (2 * n + 3) := by rcases hw with rfl | rfl <;> exact wd (by decide +kernel)
    exact (fine_sum (.cons h1 (.cons ih (.cons (hv.fine.mono (Nat.le_refl _) (Nat.zero_le _)) .nil)))).mono (by rw [fz]; simp; omega) (by omega)
  | @not n x _ ih => exact (fine_sum (.cons (wd (by decide +kernel)) (.cons ih .nil))).mono (by rw [fz]; simp; omega) (by omega)
  | @two n w x y hw _ _ i1 i2 =>
    have h1 : Fine (.str w) 82 (2 * n + 3) := by rcases hw with rfl | rfl | rfl | rfl | rfl <;> exact wd (by decide +kernel)
    exact (fine_sum (.cons h1 (.cons i1 (.cons i2 .nil)))).mono (by rw [fz]; simp; omega) (by omega)
  | @«exists» n o x ho _ ih =>
    have h2 : Fine (.tup [o, x]) (363 + fz n + 7) (2 * n + 4) := (fine_sum (.cons (ho.fine.mono (Nat.le_refl _) (by omega)) (.cons ih .nil))).mono (by simp <;> omega) (Nat.le_refl _)
    exact (fine_sum (.cons (wd (by decide +kernel)) (.cons h2 .nil))).mono (by rw [fz]; simp; omega) (by omega)
  | @only n w o x y hw ho _ _ i1 i2 =>
    have h1 : Fine (.str w) 82 (2 * n + 4) := by rcases hw with rfl | rfl <;> exact wd (by decide +kernel)
    have h2 : Fine (.tup [o, x]) (363 + fz n + 7) (2 * n + 4) := (fine_sum (.cons (ho.fine.mono (Nat.le_refl _) (by omega)) (.cons i1 .nil))).mono (by simp <;> omega) (Nat.le_refl _)
    exact (fine_sum (.cons h1 (.cons h2 (.cons (i2.mono (Nat.le_refl _) (by omega)) .nil)))).mono (by rw [fz]; simp; omega) (by omega)

/-- c stands in p at l, and another part may stand there -/
structure Hole (G : T → Prop) (p : T) (l : List Nat) (m : Nat) (c : T) : Prop where
  at_ : partAt p l = some c
  part : Part m c
  fill : ∀ q, Part m q → G (withPart p l q)
theorem Hole.trans {G : T → Prop} {p c d : T} {l r : List Nat} {m k : Nat} (a : Hole G p l m c) (b : Hole (Part m) c r k d) : Hole G p (l ++ r) k d :=
  ⟨(partAt_app a.at_).trans b.at_, b.part, fun q hq => by rw [withPart_app a.at_]; exact a.fill _ (b.fill q hq)⟩
theorem Hole.root {n : Nat} {p : T} (h : Part n p) : Hole (Part n) p [] n p := ⟨partAt_nil p, h, fun q hq => by rw [withPart_nil]; exact hq⟩
/-- a place and what stands there -/
def enc (x : List Nat × T) : T := .tup [plc x.1, x.2]
/-! ### questions -/
structure Q5 (n : Nat) (t : T) : Prop where
  ex : ∃ refs wh hs ord lim, t = .tup [refs, wh, .tup hs, ord, lim] ∧ OwnT 4 refs ∧ (wh = .non ∨ Part n wh) ∧ hs.length ≤ 4 ∧ (∀ h ∈ hs, Part n h) ∧ (∃ os, ord = .tup os ∧ os.length ≤ 3 ∧ ∀ o ∈ os, Part 0 o) ∧ FlatV lim
theorem Q5.fine {n : Nat} {t : T} (h : Q5 n t) : Fine t (6 * fz n + 5000) (2 * n + 6) := by
  obtain ⟨refs, wh, hs, ord, lim, rfl, h1, h2, h3, h4, ⟨os, rfl, h5, h6⟩, h7⟩ := h.ex
  have f2 : Fine wh (fz n + 4) (2 * n + 5) := by
    rcases h2 with rfl | h2
    · exact fine_non.mono (by omega) (Nat.zero_le _)
    · exact h2.fine.mono (by omega) (by omega)
  have f3 : Fine (.tup hs) (4 * fz n + 11) (2 * n + 5) := (fine_tup (n := fz n) (k := 2 * n + 3) fun x hx => (h4 x hx).fine).mono (by have := Nat.mul_le_mul_right (fz n + 2) h3; omega) (by omega)
  have f4 : Fine (.tup os) 1300 (2 * n + 5) := (fine_tup (n := fz 0) (k := 3) fun x hx => (h6 x hx).fine).mono (by have e : fz 0 = 400 := rfl; rw [e]; omega) (by omega)
  exact (fine_sum (.cons (h1.fine.mono (Nat.le_refl _) (by omega)) (.cons f2 (.cons f3 (.cons f4 (.cons (h7.fine.mono (Nat.le_refl _) (Nat.zero_le _)) .nil)))))).mono (by simp; omega) (by omega)
end L3

set_option maxHeartbeats 1000000
/-! L3O: the world that questions are drawn over; what the functions that draw them promise. -/
namespace L3
open PySem PySem.Spec PyProof.Rows L2
theorem strs_of {P : Str → Prop} : ∀ {ys : List T}, (∀ y ∈ ys, ∃ z, y = .str z ∧ P z) → ∃ al : List Str, ys = al.map T.str ∧ ∀ a ∈ al, P a
  | [], _ => ⟨[], rfl, fun _ h => nomatch h⟩
  | y :: r, h => by
    obtain ⟨z, rfl, hz⟩ := h y List.mem_cons_self
    obtain ⟨al, rfl, ha⟩ := strs_of fun x hx => h x (List.mem_cons_of_mem _ hx)
    refine ⟨z :: al, rfl, fun a hm => ?_⟩
    rcases List.mem_cons.mp hm with rfl | hm
    · exact hz
    · exact ha a hm
abbrev KVs := List (Key × T)
/-- the table has columns -/
def HasC (kvs : KVs) (nm : Str) : Prop := ∃ cols : List Str, getT kvs (.inr nm) = some (.lst (cols.map T.str)) ∧ 0 < cols.length ∧ cols.length ≤ 20 ∧ ∀ c ∈ cols, Nm c
/-- a table's row of the schema -/
def TabT (t : T) (nm : Str) : Prop := Nm nm ∧ ∃ cs : List (Str × T), ∃ a b, t = .tup [.str nm, .tup (cs.map fun p => .tup [.str p.1, p.2]), a, b] ∧ 0 < cs.length ∧ cs.length ≤ 20 ∧ ∀ p ∈ cs, Nm p.1
structure Gen (dk c wd cd : Addr) (S : List T) (kvs : KVs) (n : Nat) (M : Mp) : Prop where
  deck : DeckAt dk c M n
  world : M wd = some (.dct [(.inr "tables", .tup S), (.inr "columns", .raw (.ref cd))])
  cols : M cd = some (.dct kvs)
  w1 : wd ≠ dk
  w2 : wd ≠ c
  c1 : cd ≠ dk
  c2 : cd ≠ c
  s0 : 0 < S.length
  s1 : S.length ≤ 20
  has : ∀ t ∈ S, ∃ nm, TabT t nm ∧ HasC kvs nm
theorem Gen.fr {dk c wd cd : Addr} {S : List T} {kvs : KVs} {n m : Nat} {M M' : Mp} (g : Gen dk c wd cd S kvs n M) (d : DeckAt dk c M' m) (f : Fr2 dk c M M') : Gen dk c wd cd S kvs m M' :=
  { g with deck := d, world := (f wd g.w1 g.w2).trans g.world, cols := (f cd g.c1 g.c2).trans g.cols }
theorem Gen.le {dk c wd cd : Addr} {S : List T} {kvs : KVs} {n m : Nat} {M : Mp} (g : Gen dk c wd cd S kvs n M) (h : n ≤ m) : Gen dk c wd cd S kvs m M := { g with deck := g.deck.le h }
theorem gdraw {dk c wd cd : Addr} {S : List T} {kvs : KVs} {n : Nat} {m : Int} {M : Mp} {Q : QE} (g : Gen dk c wd cd S kvs n M) (hn : n < 2 ^ 59) (h0 : 0 < m) (h1 : m < 2 ^ 60)
    (k : ∀ M' r, Gen dk c wd cd S kvs (n + 1) M' → Fr2 dk c M M' → 0 ≤ r → r < m → Q (.int r) M') : spDraw [.raw (.ref dk), .int m] M Q := ⟨dk, c, n, m, rfl, g.deck, by omega, h0, h1, fun M' r d f a b => k M' r (g.fr d f) f a b⟩
theorem gpick {dk c wd cd : Addr} {S : List T} {kvs : KVs} {n : Nat} {x : T} {M : Mp} {Q : QE} (g : Gen dk c wd cd S kvs n M) (hn : n < 2 ^ 59) (h0 : 0 < (itemsOf x).length) (h1 : (itemsOf x).length ≤ 100000)
    (k : ∀ M' t, Gen dk c wd cd S kvs (n + 1) M' → Fr2 dk c M M' → t ∈ itemsOf x → Q t M') : spPick [.raw (.ref dk), x] M Q := ⟨dk, c, n, x, rfl, g.deck, by omega, h0, sz h1, fun M' t d f a => k M' t (g.fr d f) f a⟩
/-- pairs of names, the second of which is a table -/
def RefT (kvs : KVs) (k : Nat) (t : T) : Prop := ∃ l : List (Str × Str), t = .tup (l.map prT) ∧ 0 < l.length ∧ l.length ≤ k ∧ ∀ p ∈ l, Nm p.1 ∧ Nm p.2 ∧ HasC kvs p.2
theorem RefT.own {kvs : KVs} {k : Nat} {t : T} (h : RefT kvs k t) : OwnT k t :=
  let ⟨l, e, _, h2, h3⟩ := h; ⟨l, e, h2, fun p hp => ⟨(h3 p hp).1, (h3 p hp).2.1⟩⟩
theorem RefT.app {kvs : KVs} {k j : Nat} {t u : List T} (h : RefT kvs k (.tup t)) (h' : RefT kvs j (.tup u)) : RefT kvs (k + j) (.tup (t ++ u)) := by
  obtain ⟨l, e, a, b, d⟩ := h
  obtain ⟨m, e', a', b', d'⟩ := h'
  cases e
  cases e'
  refine ⟨l ++ m, by rw [List.map_append], by rw [List.length_append]; omega, by rw [List.length_append]; omega, fun p hp => ?_⟩
  rcases List.mem_append.mp hp with h | h
  · exact d p h
  · exact d' p h
theorem RefT.mono {kvs : KVs} {k j : Nat} {t : T} (h : RefT kvs k t) (l : k ≤ j) : RefT kvs j t :=
  let ⟨m, e, a, b, d⟩ := h; ⟨m, e, a, by omega, d⟩
/-! what the functions promise; K is a cost in draws -/
def spCol : Sp3 := fun ts M Q => ∃ dk c wd cd S kvs n refs, ts = [.raw (.ref dk), .raw (.ref wd), refs] ∧ Gen dk c wd cd S kvs n M ∧ n < 2 ^ 58 + 1000 ∧ RefT kvs 40 refs ∧
  ∀ M' a b, Gen dk c wd cd S kvs (n + 2) M' → Fr2 dk c M M' → Nm a → Nm b → Q (.tup [.str "column", .str a, .str b]) M'
def spAny : Sp3 := fun ts M Q => ∃ dk c wd cd S kvs n, ∃ ks : List Str, ts = [.raw (.ref dk), .tup (ks.map T.str)] ∧ Gen dk c wd cd S kvs n M ∧ n < 2 ^ 58 + 1000 ∧ 0 < ks.length ∧ ks.length ≤ 10 ∧
  ∀ M' v, Gen dk c wd cd S kvs (n + 2) M' → Fr2 dk c M M' → FlatV v → Q v M'
/-- terms at most d - 1 deep; 0: none -/
def spTermAt : Nat → Sp3
  | 0 => spNo
  | d + 1 => fun ts M Q => ∃ dk c wd cd S kvs n refs i, ts = [.raw (.ref dk), .raw (.ref wd), refs, .int i] ∧ 0 ≤ i ∧ i ≤ (d : Int) ∧ Gen dk c wd cd S kvs n M ∧ n + (4 * d + 4) < 2 ^ 58 + 950 ∧ d ≤ 10 ∧ RefT kvs 40 refs ∧
    ∀ M' t, Gen dk c wd cd S kvs (n + (4 * d + 4)) M' → Fr2 dk c M M' → Part d t → Q t M'
def spLeaf (d : Nat) : Sp3 := fun ts M Q => ∃ dk c wd cd S kvs n refs, ∃ i : Int, ts = [.raw (.ref dk), .raw (.ref wd), refs, .int i] ∧ i = (d : Int) ∧ Gen dk c wd cd S kvs n M ∧ n < 2 ^ 58 + 500 ∧ RefT kvs 40 refs ∧
  ∀ M' t, Gen dk c wd cd S kvs (n + (8 * d + 12)) M' → Fr2 dk c M M' → Part (d + 1) t → Q t M'
def spInner : Sp3 := fun ts M Q => ∃ dk c wd cd S kvs n refs, ∃ al : List Str, ts = [.raw (.ref dk), .raw (.ref wd), refs, .lst (al.map T.str)] ∧ Gen dk c wd cd S kvs n M ∧ n < 2 ^ 58 + 300 ∧ RefT kvs 10 refs ∧ 0 < al.length ∧ al.length ≤ 10 ∧ (∀ a ∈ al, Nm a) ∧
  ∀ M' o t, Gen dk c wd cd S kvs (n + 50) M' → Fr2 dk c M M' → RefT kvs 2 o → Part 3 t → Q (.tup [o, t]) M'
/-- the pool of names at pl -/
def Pool (pl : Addr) (k : Nat) (M : Mp) : Prop := ∃ al : List Str, M pl = some (.lst (al.map T.str)) ∧ al.length ≤ 30 ∧ k ≤ al.length ∧ ∀ a ∈ al, Nm a
/-- nothing but the deck and the pool has changed -/
def Fr3 (dk c pl : Addr) (M M' : Mp) : Prop := ∀ a, a ≠ dk → a ≠ c → a ≠ pl → M' a = M a
theorem Fr3.of2 {dk c pl : Addr} {M M' : Mp} (f : Fr2 dk c M M') : Fr3 dk c pl M M' := fun a h1 h2 _ => f a h1 h2
theorem Fr3.trans {dk c pl : Addr} {M M' M'' : Mp} (a : Fr3 dk c pl M M') (b : Fr3 dk c pl M' M'') : Fr3 dk c pl M M'' := fun x h1 h2 h3 => (b x h1 h2 h3).trans (a x h1 h2 h3)
theorem Pool.fr {dk c pl : Addr} {k : Nat} {M M' : Mp} (h : Pool pl k M) (f : Fr2 dk c M M') (a : pl ≠ dk) (b : pl ≠ c) : Pool pl k M' :=
  let ⟨al, e, r⟩ := h; ⟨al, (f pl a b).trans e, r⟩
def ccd : Nat → Nat
  | 0 => 200
  | d + 1 => 2 * ccd d + 200
/-- conditions at most d - 1 deep; 0: none -/
def spCondAt : Nat → Sp3
  | 0 => spNo
  | d + 1 => fun ts M Q => ∃ dk c wd cd S kvs n refs i pl, ts = [.raw (.ref dk), .raw (.ref wd), refs, .raw (.ref pl), .int i] ∧ 0 ≤ i ∧ i ≤ (d : Int) ∧ Gen dk c wd cd S kvs n M ∧ n + ccd d ≤ 2 ^ 58 ∧ RefT kvs 8 refs ∧
    Pool pl 0 M ∧ pl ≠ dk ∧ pl ≠ c ∧ pl ≠ wd ∧ pl ≠ cd ∧
    ∀ M' t, Gen dk c wd cd S kvs (n + ccd d) M' → Fr3 dk c pl M M' → Pool pl 0 M' → Part (d + 5) t → Q t M'
theorem Gen.pop {dk c wd cd pl : Addr} {S : List T} {kvs : KVs} {n : Nat} {M : Mp} {o : MO} (g : Gen dk c wd cd S kvs n M) (h1 : pl ≠ dk) (h2 : pl ≠ c) (h3 : pl ≠ wd) (h4 : pl ≠ cd) : Gen dk c wd cd S kvs n (mset M pl o) :=
  { g with
    deck := ⟨g.deck.ne, let ⟨ns, t, k, a, b, d, e, f⟩ := g.deck.at_; ⟨ns, t, k, (mset_ne h1.symm).trans a, (mset_ne h2.symm).trans b, d, e, f⟩⟩
    world := (mset_ne h3.symm).trans g.world
    cols := (mset_ne h4.symm).trans g.cols }
def spDrawn : Sp3 := fun ts M Q => ∃ dk c wd cd S kvs n, ∃ al : List Str, ∃ i : Int, ts = [.raw (.ref dk), .raw (.ref wd), .lst (al.map T.str), .int i] ∧ 0 < i ∧ i ≤ 4 ∧ i ≤ al.length ∧ al.length ≤ 20 ∧ (∀ a ∈ al, Nm a) ∧ Gen dk c wd cd S kvs n M ∧ n + 2000 ≤ 2 ^ 58 ∧
  ∀ M' refs wh hs ord lim, Gen dk c wd cd S kvs (n + 2000) M' → RefT kvs 4 refs → (wh = .non ∨ Part 7 wh) → (0 < hs.length ∧ hs.length ≤ 2) → (∀ h ∈ hs, Part 1 h) → (∃ os, ord = .tup os ∧ os.length ≤ 2 ∧ ∀ o ∈ os, Part 0 o) → FlatV lim →
    Q (.tup [refs, wh, .tup hs, ord, lim]) M'
end L3
namespace L3
open PySem PySem.Spec PyProof.Rows L2
theorem st_tabcol : ¬ (("tables" : Str) = "columns") := by decide +kernel
theorem w_cols {a b : T} : getT [(.inr "tables", a), (.inr "columns", b)] (.inr "columns") = some b := (getT_miss (inr_ne st_tabcol)).trans getT_hit
theorem w_tabs {a b : T} : getT [(.inr "tables", a), (.inr "columns", b)] (.inr "tables") = some a := getT_hit
end L3
namespace L3
open PySem PySem.Spec PyProof.Rows L2
theorem maps_of {α : Type} {f : α → T} {P : α → Prop} : ∀ {ys : List T}, (∀ y ∈ ys, ∃ a, y = f a ∧ P a) → ∃ l : List α, ys = l.map f ∧ ∀ a ∈ l, P a
  | [], _ => ⟨[], rfl, fun _ h => nomatch h⟩
  | y :: r, h => by
    obtain ⟨z, rfl, hz⟩ := h y List.mem_cons_self
    obtain ⟨al, rfl, ha⟩ := maps_of fun x hx => h x (List.mem_cons_of_mem _ hx)
    refine ⟨z :: al, rfl, fun a hm => ?_⟩
    rcases List.mem_cons.mp hm with rfl | hm
    · exact hz
    · exact ha a hm
theorem ups_at {j n : Nat} {t : T} (h : (ups 0 n)[j]? = some t) : j < n ∧ t = .int j := by
  unfold ups at h
  rw [List.getElem?_map] at h
  obtain ⟨a, h1, rfl⟩ := Option.map_eq_some_iff.mp h
  obtain ⟨h2, h3⟩ := List.getElem?_eq_some_iff.mp h1
  rw [List.getElem_range] at h3
  subst h3
  rw [List.length_range] at h2
  exact ⟨h2, by simp⟩
end L3
namespace L3
theorem ccd_ge (d : Nat) : 200 ≤ ccd d := by
  induction d with
  | zero => exact Nat.le_refl _
  | succ d ih => rw [ccd]; omega
end L3
namespace L3
open PySem PySem.Spec PyProof.Rows L2
theorem lastS_get (l : List Str) (x : Str) : ((l ++ [x]).map T.str)[(l ++ [x]).length - 1]? = some (.str x) := by
  rw [List.map_append, List.length_append]
  simp
theorem lastS_drop (l : List Str) (x : Str) : ((l ++ [x]).map T.str).dropLast = l.map T.str := by
  rw [List.map_append]
  simp
theorem last_split {α : Type} {l : List α} (h : 0 < l.length) : ∃ k x, l = k ++ [x] := by
  rcases List.eq_nil_or_concat l with rfl | ⟨k, x, e⟩
  · exact absurd h (Nat.lt_irrefl 0)
  · exact ⟨k, x, by rw [e, List.concat_eq_append]⟩
end L3
namespace L3
open PySem PySem.Spec PyProof.Rows L2
theorem term2 {dk c wd cd : Addr} {S : List T} {kvs : KVs} {n : Nat} {refs : T} {M : Mp} {Q : QE} (g : Gen dk c wd cd S kvs n M) (hn : n < 2 ^ 58 + 900) (r : RefT kvs 40 refs)
    (k : ∀ M' t, Gen dk c wd cd S kvs (n + 8) M' → Fr2 dk c M M' → Part 1 t → Q t M') : spTermAt 2 [.raw (.ref dk), .raw (.ref wd), refs, .int 1] M Q :=
  ⟨dk, c, wd, cd, S, kvs, n, refs, 1, rfl, by decide, by decide, g, by show n + 8 < _; omega, by decide, r, k⟩
end L3

set_option maxHeartbeats 1000000
/-! L3P: tuples of texts can be compared. -/
namespace L3
open PySem PySem.Spec PyProof.Rows L2
def Shk (k : Nat) (t : T) : Prop := ∃ d, t.py = some d ∧ d.canLay0 = true ∧ d.depth ≤ k
theorem Shk.sh {k : Nat} {t : T} (h : Shk k t) (hk : k ≤ 20) : ∃ d, t.py = some d ∧ SeqAt.shaped d = true := by
  obtain ⟨d, e, a, b⟩ := h
  refine ⟨d, e, ?_⟩
  unfold SeqAt.shaped
  rw [a, Bool.true_and]
  exact decide_eq_true (by omega)
theorem shk_str {z : Str} (h : Low z) (k : Nat) : Shk k (.str z) := ⟨.str z, rfl, by rw [PyData.canLay0]; exact low_ok h, Nat.zero_le _⟩
theorem shk_all {k : Nat} : ∀ {xs : List T}, (∀ x ∈ xs, Shk k x) → ∃ ds, T.pys xs = some ds ∧ PyData.canLayAll0 ds = true ∧ PyData.depthAll ds ≤ k
  | [], _ => ⟨[], rfl, by rw [PyData.canLayAll0], by rw [PyData.depthAll]; exact Nat.zero_le _⟩
  | x :: xs, h => by
    obtain ⟨d, e, a, b⟩ := h x List.mem_cons_self
    obtain ⟨ds, e', a', b'⟩ := shk_all fun y hy => h y (List.mem_cons_of_mem _ hy)
    exact ⟨d :: ds, by rw [T.pys, e, e'], by rw [PyData.canLayAll0, a, a']; rfl, by rw [PyData.depthAll]; omega⟩
theorem shk_tup {k : Nat} {xs : List T} (h : ∀ x ∈ xs, Shk k x) : Shk (k + 1) (.tup xs) := by
  obtain ⟨ds, e, a, b⟩ := shk_all h
  exact ⟨.tuple ds, by rw [T.py, e]; rfl, by rw [PyData.canLay0]; exact a, by rw [PyData.depth]; omega⟩
theorem eqT_some {k : Nat} {x y : T} (hx : Shk k x) (hy : Shk k y) (hk : k ≤ 20) : (eqT x y).isSome = true := by
  obtain ⟨d, e1, s1⟩ := hx.sh hk
  obtain ⟨e, e2, s2⟩ := hy.sh hk
  unfold eqT
  rw [e1, e2]
  dsimp only
  rw [s1, s2]
  rfl
/-- x, y of one kind: compared somehow -/
def Cm (n k : Nat) (x y : T) : Prop := Shk k x ∧ Shk k y ∧ (ltN n x y).isSome = true
inductive CmL (n k : Nat) : List T → List T → Prop
  | nilL {ys : List T} : CmL n k [] ys
  | nilR {xs : List T} : CmL n k xs []
  | cons {x y : T} {xs ys : List T} : Cm n k x y → CmL n k xs ys → CmL n k (x :: xs) (y :: ys)
theorem ltL_some {n k : Nat} (hk : k ≤ 20) : ∀ {xs ys : List T}, CmL n k xs ys → (ltL (ltN n) xs ys).isSome = true
  | [], [], _ => by rw [ltL]; rfl
  | [], _ :: _, _ => by rw [ltL]; rfl
  | _ :: _, [], _ => by rw [ltL]; rfl
  | x :: xs, y :: ys, .cons h r => by
    obtain ⟨b, hb⟩ := Option.isSome_iff_exists.mp (eqT_some h.1 h.2.1 hk)
    obtain ⟨c, hc⟩ := Option.isSome_iff_exists.mp (ltL_some hk r)
    rw [ltL, hb, hc]
    cases b with
    | true => rfl
    | false => exact h.2.2
theorem cm_str {n k : Nat} {a b : Str} (ha : Low a) (hb : Low b) : Cm n k (.str a) (.str b) := ⟨shk_str ha k, shk_str hb k, by cases n <;> rfl⟩
theorem cm_tup {n k : Nat} (hk : k ≤ 20) {xs ys : List T} (hx : ∀ x ∈ xs, Shk k x) (hy : ∀ y ∈ ys, Shk k y) (h : CmL n k xs ys) : Cm (n + 1) (k + 1) (.tup xs) (.tup ys) :=
  ⟨shk_tup hx, shk_tup hy, ltL_some hk h⟩
theorem cmL_all {n k : Nat} {P : T → Prop} (h : ∀ x y, P x → P y → Cm n k x y) : ∀ {xs ys : List T}, (∀ x ∈ xs, P x) → (∀ y ∈ ys, P y) → CmL n k xs ys
  | [], _, _, _ => .nilL
  | _ :: _, [], _, _ => .nilR
  | x :: xs, y :: ys, hx, hy => .cons (h x y (hx x List.mem_cons_self) (hy y List.mem_cons_self)) (cmL_all h (fun z hz => hx z (List.mem_cons_of_mem _ hz)) fun z hz => hy z (List.mem_cons_of_mem _ hz))
theorem Shk.mono {k j : Nat} {t : T} (h : Shk k t) (l : k ≤ j) : Shk j t := let ⟨d, e, a, b⟩ := h; ⟨d, e, a, by omega⟩
theorem Cm.up {n k : Nat} {x y : T} (h : Cm n k x y) {k' : Nat} (l : k ≤ k') : Cm n k' x y := ⟨h.1.mono l, h.2.1.mono l, h.2.2⟩
/-- a tuple of texts -/
def TS (t : T) : Prop := ∃ bs : List Str, t = .tup (bs.map T.str) ∧ ∀ b ∈ bs, Low b
theorem cm_ts {n : Nat} {x y : T} (hx : TS x) (hy : TS y) : Cm (n + 1) 1 x y := by
  obtain ⟨as, rfl, ha⟩ := hx
  obtain ⟨bs, rfl, hb⟩ := hy
  have sh : ∀ {cs : List Str}, (∀ c ∈ cs, Low c) → ∀ x ∈ cs.map T.str, ∃ z, x = .str z ∧ Low z := fun h x hx => by
    obtain ⟨z, hz, rfl⟩ := List.mem_map.mp hx
    exact ⟨z, rfl, h z hz⟩
  have s0 : ∀ {cs : List Str}, (∀ c ∈ cs, Low c) → ∀ x ∈ cs.map T.str, Shk 0 x := fun h x hx => by
    obtain ⟨z, rfl, l⟩ := sh h x hx
    exact shk_str l 0
  exact cm_tup (by decide) (s0 ha) (s0 hb) (cmL_all (P := fun x => ∃ z, x = .str z ∧ Low z) (fun x y hx hy => by
    obtain ⟨a, rfl, l⟩ := hx
    obtain ⟨b, rfl, m⟩ := hy
    exact cm_str l m) (sh ha) (sh hb))
/-- a name and a tuple of texts -/
def ColT (t : T) : Prop := ∃ (a : Str) (s : T), t = .tup [.str a, s] ∧ Nm a ∧ TS s
theorem cm_col {n : Nat} {x y : T} (hx : ColT x) (hy : ColT y) : Cm (n + 2) 2 x y := by
  obtain ⟨a, s, rfl, na, hs⟩ := hx
  obtain ⟨b, u, rfl, nb, hu⟩ := hy
  have c1 : Cm (n + 1) 1 s u := cm_ts hs hu
  refine cm_tup (by decide) ?_ ?_ (.cons (cm_str na.2 nb.2) (.cons c1 .nilL))
  · intro x hx
    simp only [List.mem_cons, List.not_mem_nil, or_false] at hx
    rcases hx with rfl | rfl
    · exact shk_str na.2 1
    · exact c1.1
  · intro x hx
    simp only [List.mem_cons, List.not_mem_nil, or_false] at hx
    rcases hx with rfl | rfl
    · exact shk_str nb.2 1
    · exact c1.2.1
/-- a row of the schema -/
def TabS (t : T) : Prop := ∃ (nm : Str) (cs : List T) (a b : T), t = .tup [.str nm, .tup cs, a, b] ∧ Nm nm ∧ 0 < cs.length ∧ cs.length ≤ 20 ∧ (∀ x ∈ cs, ColT x) ∧ TS a ∧ TS b
theorem TabS.tab {t : T} (h : TabS t) : ∃ nm, TabT t nm := by
  obtain ⟨nm, cs, a, b, rfl, h1, h2, h3, h4, _⟩ := h
  obtain ⟨l, rfl, hl⟩ := maps_of (f := fun p : Str × T => T.tup [.str p.1, p.2]) (P := fun p => Nm p.1) (ys := cs) fun x hx => by
    obtain ⟨a, s, e, na, _⟩ := h4 x hx
    exact ⟨(a, s), e, na⟩
  rw [List.length_map] at h2 h3
  exact ⟨nm, h1, l, a, b, rfl, h2, h3, hl⟩
theorem cm_tab {n : Nat} {x y : T} (hx : TabS x) (hy : TabS y) : Cm (n + 4) 4 x y := by
  obtain ⟨a, cs, k, i, rfl, na, _, _, hc, hk, hi⟩ := hx
  obtain ⟨b, ds, l, j, rfl, nb, _, _, hd, hl, hj⟩ := hy
  have c2 : Cm (n + 3) 3 (.tup cs) (.tup ds) := cm_tup (by decide) (fun x hx => (cm_col (n := n) (hc x hx) (hc x hx)).1) (fun x hx => (cm_col (n := n) (hd x hx) (hd x hx)).1) (cmL_all (P := ColT) (fun x y hx hy => cm_col hx hy) hc hd)
  have c3 : Cm (n + 3) 3 k l := (cm_ts hk hl).up (by decide)
  have c4 : Cm (n + 3) 3 i j := (cm_ts hi hj).up (by decide)
  refine cm_tup (by decide) ?_ ?_ (.cons (cm_str na.2 nb.2) (.cons c2 (.cons c3 (.cons c4 .nilL))))
  · intro x hx
    simp only [List.mem_cons, List.not_mem_nil, or_false] at hx
    rcases hx with rfl | rfl | rfl | rfl
    · exact shk_str na.2 3
    · exact c2.1
    · exact c3.1
    · exact c4.1
  · intro x hx
    simp only [List.mem_cons, List.not_mem_nil, or_false] at hx
    rcases hx with rfl | rfl | rfl | rfl
    · exact shk_str nb.2 3
    · exact c2.2.1
    · exact c3.2.1
    · exact c4.2.1
theorem cmp_tabs {xs : List T} (h : ∀ x ∈ xs, TabS x) : cmpAll 12 xs := by
  intro x hx
  refine ⟨?_, fun y hy => (cm_tab (n := 9) (h x hx) (h y hy)).2.2⟩
  obtain ⟨nm, cs, a, b, rfl, _⟩ := h x hx
  rfl
def spSchema : Sp3 := fun ts M Q => ∃ dk c n, ∃ al : List Str, ∃ many : Int, ts = [.raw (.ref dk), .lst (al.map T.str), .int many] ∧ DeckAt dk c M n ∧ n < 2 ^ 58 + 500 ∧ 12 ≤ al.length ∧ al.length ≤ 30 ∧ (∀ a ∈ al, Nm a) ∧ 0 < many ∧ many ≤ 4 ∧
  ∀ M' S, DeckAt dk c M' (n + 100) → (∀ t ∈ S, TabS t) → S.length = many.toNat → Q (.tup S) M'
end L3
namespace L3
open PySem PySem.Spec PyProof.Rows L2
section
variable {ok : Mp → Prop} {P : Pat} {tt : T3} {te : E3} {vs : List Nat} {ss0 : SS} {Q : List T → Mp → Prop}
/-- a test that changes things, an element that does not -/
theorem compL_invT (Iv : Nat → Mp → Prop) (Pd : T → Prop) (hok : ∀ i M, Iv i M → ok M) : ∀ {xs acc : List T} {M : Mp} (i : Nat), Iv i M →
    (∀ j t M, xs[j]? = some t → Iv (i + j) M → ∃ ss2, P.set t (wipe3 ss0 vs) = some ss2 ∧ ∀ R : Bool → Mp → Prop, (∀ b M3, Iv (i + j + 1) M3 → R b M3) → (tt ss2 M R ∧ ∀ (M3 : Mp) (R' : QE), (∀ y, Pd y → R' y M3) → te ss2 M3 R')) →
    acc.length + xs.length ≤ sizeLine → (∀ ys M', ys.length ≤ xs.length → (∀ y ∈ ys, Pd y) → Iv (i + xs.length) M' → Q (acc ++ ys) M') → compL ok P tt te vs ss0 Q xs acc M
  | [], acc, M, i, h0, _, _, q => ⟨hok i M h0, by simpa using q [] M (Nat.le_refl _) (fun _ h => (nomatch h)) h0⟩
  | t :: xs, acc, M, i, h0, h, hz, q => by
    obtain ⟨ss2, e, h1⟩ := h 0 t M rfl h0
    have rec_ : ∀ {acc : List T} {M : Mp}, Iv (i + 1) M → acc.length + xs.length ≤ sizeLine → (∀ ys M', ys.length ≤ xs.length → (∀ y ∈ ys, Pd y) → Iv (i + 1 + xs.length) M' → Q (acc ++ ys) M') → compL ok P tt te vs ss0 Q xs acc M := fun h4 hz' q' =>
      compL_invT Iv Pd hok (i + 1) h4 (fun j u M5 hu h5 => by
        have h6 := h (j + 1) u M5 hu (by rw [show i + (j + 1) = i + 1 + j by omega]; exact h5)
        rw [show i + (j + 1) + 1 = i + 1 + j + 1 by omega] at h6
        exact h6) hz' q'
    refine ⟨hok i M h0, ?_⟩
    rw [e]
    rw [List.length_cons] at hz
    have eq : i + (t :: xs).length = i + 1 + xs.length := by rw [List.length_cons]; omega
    rw [eq] at q
    have two := (h1 (fun _ _ => True) fun _ _ _ => trivial).2
    refine (h1 _ fun b M3 h4 => ?_).1
    cases b with
    | true =>
      refine two _ _ fun y hy => ⟨by omega, rec_ h4 (by rw [List.length_append, List.length_singleton]; omega) fun ys M' hl hp hI => ?_⟩
      rw [List.append_assoc]
      refine q (y :: ys) M' (by rw [List.length_cons, List.length_cons]; omega) (fun z hz => ?_) hI
      rcases List.mem_cons.mp hz with rfl | hz
      · exact hy
      · exact hp z hz
    | false => exact rec_ h4 (by omega) fun ys M' hl hp hI => q ys M' (by rw [List.length_cons]; omega) hp hI
end
theorem cut_mem {α : Type} {xs : List α} {lo hi : Option Int} {x : α} (h : x ∈ cutT xs lo hi) : x ∈ xs := List.mem_of_mem_drop (List.mem_of_mem_take h)
theorem cut_mid {α : Type} {xs : List α} {a b : Nat} (h : a < b) (h2 : a < xs.length) : 0 < (cutT xs (some (a : Int)) (some (b : Int))).length ∧ (cutT xs (some (a : Int)) (some (b : Int))).length ≤ b - a := by
  unfold cutT
  rw [show HT.sIx xs.length 0 (some (a : Int)) = min a xs.length from HT.sIx_nat xs.length 0 a, show HT.sIx xs.length xs.length (some (b : Int)) = min b xs.length from HT.sIx_nat xs.length xs.length b, List.length_take, List.length_drop]
  omega
end L3
namespace L3
open PySem PySem.Spec PyProof.Rows L2
theorem draw_fr {dk c : Addr} {n : Nat} {m : Int} {M : Mp} {Q : QE} (hD : DeckAt dk c M n) (hn : n < 2 ^ 59) (h0 : 0 < m) (h1 : m < 2 ^ 60) (k : ∀ M' r, DeckAt dk c M' (n + 1) → Fr2 dk c M M' → 0 ≤ r → r < m → Q (.int r) M') :
    spDraw [.raw (.ref dk), .int m] M Q := ⟨dk, c, n, m, rfl, hD, by omega, h0, h1, k⟩
theorem pick_fr {dk c : Addr} {n : Nat} {x : T} {M : Mp} {Q : QE} (hD : DeckAt dk c M n) (hn : n < 2 ^ 59) (h0 : 0 < (itemsOf x).length) (h1 : (itemsOf x).length ≤ 100000) (k : ∀ M' t, DeckAt dk c M' (n + 1) → Fr2 dk c M M' → t ∈ itemsOf x → Q t M') :
    spPick [.raw (.ref dk), x] M Q := ⟨dk, c, n, x, rfl, hD, by omega, h0, sz h1, k⟩
theorem ts_of (bs : List Str) (h : (bs.all fun z => z.cps.toList.all fun c => decide (c < 0x110000)) = true) : TS (.tup (bs.map T.str)) :=
  ⟨bs, rfl, fun b hb => low_of (List.all_eq_true.mp h b hb)⟩
end L3
namespace L3
open PySem PySem.Spec PyProof.Rows L2
theorem atN {α : Type} {xs : List α} {i : Nat} {x : α} (h : xs[i]? = some x) : atI xs (i : Int) = some x := by
  obtain ⟨hi, _⟩ := List.getElem?_eq_some_iff.mp h
  unfold atI ixN
  rw [if_pos (by omega), if_pos (by omega), Option.bind_some]
  simpa using h
theorem shaped_tup_ints (l : List Nat) : SeqAt.shaped (.tuple (l.map fun i => PyData.int (i : Nat))) = true := by
  rw [shaped_tl]
  refine shaped_flats fun x hx => ?_
  obtain ⟨i, _, rfl⟩ := List.mem_map.mp hx
  exact ⟨by rw [PyData.canLay0], rfl⟩
theorem plc_py (l : List Nat) : (T.tup (l.map fun i => .int (i : Nat))).py = some (.tuple (l.map fun i => PyData.int (i : Nat))) := by
  rw [T.py, pys_map (fun i : Nat => T.int (i : Nat)) (fun i => PyData.int (i : Nat)) (fun _ => rfl)]
  rfl
theorem tup_eq_nil {Q : QE} {M : Mp} : oEqB false (.tup []) (.tup []) Q M = Q (.bl true) M := by
  have e := plc_py []
  unfold oEqB look
  dsimp only [scalT]
  rw [List.map_nil] at e
  rw [e]
  have e2 : PyData.eqv (.tuple []) (.tuple []) = true := by rw [PyData.eqv, PyData.eqvAll]
  simp only [List.map_nil, if_neg Bool.false_ne_true, e2, shaped_tup_ints []]
  have e3 := shaped_tup_ints []
  rw [List.map_nil] at e3
  simp [e3]
theorem tup_ne_nil {i : Nat} {r : List Nat} {Q : QE} {M : Mp} : oEqB false (.tup (.int (i : Nat) :: r.map fun i => .int (i : Nat))) (.tup []) Q M = Q (.bl false) M := by
  have e := plc_py (i :: r)
  have e0 := plc_py []
  rw [List.map_nil] at e0
  rw [List.map_cons] at e
  have s1 := shaped_tup_ints (i :: r)
  have s0 := shaped_tup_ints []
  unfold oEqB look
  dsimp only [scalT]
  rw [e, e0]
  have e2 : PyData.eqv (.tuple ((i :: r).map fun i => PyData.int (i : Nat))) (.tuple []) = false := by rw [List.map_cons, PyData.eqv, PyData.eqvAll]
  rw [List.map_cons] at s1 e2
  simp only [List.map_nil] at s0 ⊢
  simp [s1, s0, e2]
end L3

set_option maxHeartbeats 1000000
/-! L3Q: words among words (printed by wip/words.py); parts below parts. -/
namespace L3
open PySem PySem.Spec PyProof.Rows L2
theorem wi_column_0 : inT (.str "column") [.str "column", .str "value"] = true := by decide +kernel
theorem wi_column_1 : inT (.str "column") [.str "plus", .str "is", .str "not"] = false := by decide +kernel
theorem wi_column_2 : inT (.str "column") [.str "only", .str "first"] = false := by decide +kernel
theorem wi_column_3 : inT (.str "column") [.str "and", .str "or"] = false := by decide +kernel
theorem wi_column_4 : inT (.str "column") [.str "less", .str "most", .str "same", .str "is", .str "exists"] = false := by decide +kernel
theorem wi_column_5 : inT (.str "column") [.str "exists", .str "only", .str "first"] = false := by decide +kernel
theorem wi_column_6 : inT (.str "column") [.str "less", .str "most", .str "same"] = false := by decide +kernel
theorem wi_column_7 : inT (.str "column") [.str "not", .str "and", .str "or"] = false := by decide +kernel
theorem we_column_exists : decide (("column" : Str) = "exists") = false := by decide +kernel
theorem we_column_not : decide (("column" : Str) = "not") = false := by decide +kernel
theorem we_column_and : decide (("column" : Str) = "and") = false := by decide +kernel
theorem we_column_or : decide (("column" : Str) = "or") = false := by decide +kernel
theorem wi_value_0 : inT (.str "value") [.str "column", .str "value"] = true := by decide +kernel
theorem wi_value_1 : inT (.str "value") [.str "plus", .str "is", .str "not"] = false := by decide +kernel
theorem wi_value_2 : inT (.str "value") [.str "only", .str "first"] = false := by decide +kernel
theorem wi_value_3 : inT (.str "value") [.str "and", .str "or"] = false := by decide +kernel
theorem wi_value_4 : inT (.str "value") [.str "less", .str "most", .str "same", .str "is", .str "exists"] = false := by decide +kernel
theorem wi_value_5 : inT (.str "value") [.str "exists", .str "only", .str "first"] = false := by decide +kernel
theorem wi_value_6 : inT (.str "value") [.str "less", .str "most", .str "same"] = false := by decide +kernel
theorem wi_value_7 : inT (.str "value") [.str "not", .str "and", .str "or"] = false := by decide +kernel
theorem we_value_exists : decide (("value" : Str) = "exists") = false := by decide +kernel
theorem we_value_not : decide (("value" : Str) = "not") = false := by decide +kernel
theorem we_value_and : decide (("value" : Str) = "and") = false := by decide +kernel
theorem we_value_or : decide (("value" : Str) = "or") = false := by decide +kernel
theorem wi_plus_0 : inT (.str "plus") [.str "column", .str "value"] = false := by decide +kernel
theorem wi_plus_1 : inT (.str "plus") [.str "plus", .str "is", .str "not"] = true := by decide +kernel
theorem wi_plus_2 : inT (.str "plus") [.str "only", .str "first"] = false := by decide +kernel
theorem wi_plus_3 : inT (.str "plus") [.str "and", .str "or"] = false := by decide +kernel
theorem wi_plus_4 : inT (.str "plus") [.str "less", .str "most", .str "same", .str "is", .str "exists"] = false := by decide +kernel
theorem wi_plus_5 : inT (.str "plus") [.str "exists", .str "only", .str "first"] = false := by decide +kernel
theorem wi_plus_6 : inT (.str "plus") [.str "less", .str "most", .str "same"] = false := by decide +kernel
theorem wi_plus_7 : inT (.str "plus") [.str "not", .str "and", .str "or"] = false := by decide +kernel
theorem we_plus_exists : decide (("plus" : Str) = "exists") = false := by decide +kernel
theorem we_plus_not : decide (("plus" : Str) = "not") = false := by decide +kernel
theorem we_plus_and : decide (("plus" : Str) = "and") = false := by decide +kernel
theorem we_plus_or : decide (("plus" : Str) = "or") = false := by decide +kernel
theorem wi_is_0 : inT (.str "is") [.str "column", .str "value"] = false := by decide +kernel
theorem wi_is_1 : inT (.str "is") [.str "plus", .str "is", .str "not"] = true := by decide +kernel
theorem wi_is_2 : inT (.str "is") [.str "only", .str "first"] = false := by decide +kernel
theorem wi_is_3 : inT (.str "is") [.str "and", .str "or"] = false := by decide +kernel
theorem wi_is_4 : inT (.str "is") [.str "less", .str "most", .str "same", .str "is", .str "exists"] = true := by decide +kernel
theorem wi_is_5 : inT (.str "is") [.str "exists", .str "only", .str "first"] = false := by decide +kernel
theorem wi_is_6 : inT (.str "is") [.str "less", .str "most", .str "same"] = false := by decide +kernel
theorem wi_is_7 : inT (.str "is") [.str "not", .str "and", .str "or"] = false := by decide +kernel
theorem we_is_exists : decide (("is" : Str) = "exists") = false := by decide +kernel
theorem we_is_not : decide (("is" : Str) = "not") = false := by decide +kernel
theorem we_is_and : decide (("is" : Str) = "and") = false := by decide +kernel
theorem we_is_or : decide (("is" : Str) = "or") = false := by decide +kernel
theorem wi_not_0 : inT (.str "not") [.str "column", .str "value"] = false := by decide +kernel
theorem wi_not_1 : inT (.str "not") [.str "plus", .str "is", .str "not"] = true := by decide +kernel
theorem wi_not_2 : inT (.str "not") [.str "only", .str "first"] = false := by decide +kernel
theorem wi_not_3 : inT (.str "not") [.str "and", .str "or"] = false := by decide +kernel
theorem wi_not_4 : inT (.str "not") [.str "less", .str "most", .str "same", .str "is", .str "exists"] = false := by decide +kernel
theorem wi_not_5 : inT (.str "not") [.str "exists", .str "only", .str "first"] = false := by decide +kernel
theorem wi_not_6 : inT (.str "not") [.str "less", .str "most", .str "same"] = false := by decide +kernel
theorem wi_not_7 : inT (.str "not") [.str "not", .str "and", .str "or"] = true := by decide +kernel
theorem we_not_exists : decide (("not" : Str) = "exists") = false := by decide +kernel
theorem we_not_not : decide (("not" : Str) = "not") = true := by decide +kernel
theorem we_not_and : decide (("not" : Str) = "and") = false := by decide +kernel
theorem we_not_or : decide (("not" : Str) = "or") = false := by decide +kernel
theorem wi_less_0 : inT (.str "less") [.str "column", .str "value"] = false := by decide +kernel
theorem wi_less_1 : inT (.str "less") [.str "plus", .str "is", .str "not"] = false := by decide +kernel
theorem wi_less_2 : inT (.str "less") [.str "only", .str "first"] = false := by decide +kernel
theorem wi_less_3 : inT (.str "less") [.str "and", .str "or"] = false := by decide +kernel
theorem wi_less_4 : inT (.str "less") [.str "less", .str "most", .str "same", .str "is", .str "exists"] = true := by decide +kernel
theorem wi_less_5 : inT (.str "less") [.str "exists", .str "only", .str "first"] = false := by decide +kernel
theorem wi_less_6 : inT (.str "less") [.str "less", .str "most", .str "same"] = true := by decide +kernel
theorem wi_less_7 : inT (.str "less") [.str "not", .str "and", .str "or"] = false := by decide +kernel
theorem we_less_exists : decide (("less" : Str) = "exists") = false := by decide +kernel
theorem we_less_not : decide (("less" : Str) = "not") = false := by decide +kernel
theorem we_less_and : decide (("less" : Str) = "and") = false := by decide +kernel
theorem we_less_or : decide (("less" : Str) = "or") = false := by decide +kernel
theorem wi_most_0 : inT (.str "most") [.str "column", .str "value"] = false := by decide +kernel
theorem wi_most_1 : inT (.str "most") [.str "plus", .str "is", .str "not"] = false := by decide +kernel
theorem wi_most_2 : inT (.str "most") [.str "only", .str "first"] = false := by decide +kernel
theorem wi_most_3 : inT (.str "most") [.str "and", .str "or"] = false := by decide +kernel
theorem wi_most_4 : inT (.str "most") [.str "less", .str "most", .str "same", .str "is", .str "exists"] = true := by decide +kernel
theorem wi_most_5 : inT (.str "most") [.str "exists", .str "only", .str "first"] = false := by decide +kernel
theorem wi_most_6 : inT (.str "most") [.str "less", .str "most", .str "same"] = true := by decide +kernel
theorem wi_most_7 : inT (.str "most") [.str "not", .str "and", .str "or"] = false := by decide +kernel
theorem we_most_exists : decide (("most" : Str) = "exists") = false := by decide +kernel
theorem we_most_not : decide (("most" : Str) = "not") = false := by decide +kernel
theorem we_most_and : decide (("most" : Str) = "and") = false := by decide +kernel
theorem we_most_or : decide (("most" : Str) = "or") = false := by decide +kernel
theorem wi_same_0 : inT (.str "same") [.str "column", .str "value"] = false := by decide +kernel
theorem wi_same_1 : inT (.str "same") [.str "plus", .str "is", .str "not"] = false := by decide +kernel
theorem wi_same_2 : inT (.str "same") [.str "only", .str "first"] = false := by decide +kernel
theorem wi_same_3 : inT (.str "same") [.str "and", .str "or"] = false := by decide +kernel
theorem wi_same_4 : inT (.str "same") [.str "less", .str "most", .str "same", .str "is", .str "exists"] = true := by decide +kernel
theorem wi_same_5 : inT (.str "same") [.str "exists", .str "only", .str "first"] = false := by decide +kernel
theorem wi_same_6 : inT (.str "same") [.str "less", .str "most", .str "same"] = true := by decide +kernel
theorem wi_same_7 : inT (.str "same") [.str "not", .str "and", .str "or"] = false := by decide +kernel
theorem we_same_exists : decide (("same" : Str) = "exists") = false := by decide +kernel
theorem we_same_not : decide (("same" : Str) = "not") = false := by decide +kernel
theorem we_same_and : decide (("same" : Str) = "and") = false := by decide +kernel
theorem we_same_or : decide (("same" : Str) = "or") = false := by decide +kernel
theorem wi_and_0 : inT (.str "and") [.str "column", .str "value"] = false := by decide +kernel
theorem wi_and_1 : inT (.str "and") [.str "plus", .str "is", .str "not"] = false := by decide +kernel
theorem wi_and_2 : inT (.str "and") [.str "only", .str "first"] = false := by decide +kernel
theorem wi_and_3 : inT (.str "and") [.str "and", .str "or"] = true := by decide +kernel
theorem wi_and_4 : inT (.str "and") [.str "less", .str "most", .str "same", .str "is", .str "exists"] = false := by decide +kernel
theorem wi_and_5 : inT (.str "and") [.str "exists", .str "only", .str "first"] = false := by decide +kernel
theorem wi_and_6 : inT (.str "and") [.str "less", .str "most", .str "same"] = false := by decide +kernel
theorem wi_and_7 : inT (.str "and") [.str "not", .str "and", .str "or"] = true := by decide +kernel
theorem we_and_exists : decide (("and" : Str) = "exists") = false := by decide +kernel
theorem we_and_not : decide (("and" : Str) = "not") = false := by decide +kernel
theorem we_and_and : decide (("and" : Str) = "and") = true := by decide +kernel
theorem we_and_or : decide (("and" : Str) = "or") = false := by decide +kernel
theorem wi_or_0 : inT (.str "or") [.str "column", .str "value"] = false := by decide +kernel
theorem wi_or_1 : inT (.str "or") [.str "plus", .str "is", .str "not"] = false := by decide +kernel
theorem wi_or_2 : inT (.str "or") [.str "only", .str "first"] = false := by decide +kernel
theorem wi_or_3 : inT (.str "or") [.str "and", .str "or"] = true := by decide +kernel
theorem wi_or_4 : inT (.str "or") [.str "less", .str "most", .str "same", .str "is", .str "exists"] = false := by decide +kernel
theorem wi_or_5 : inT (.str "or") [.str "exists", .str "only", .str "first"] = false := by decide +kernel
theorem wi_or_6 : inT (.str "or") [.str "less", .str "most", .str "same"] = false := by decide +kernel
theorem wi_or_7 : inT (.str "or") [.str "not", .str "and", .str "or"] = true := by decide +kernel
theorem we_or_exists : decide (("or" : Str) = "exists") = false := by decide +kernel
theorem we_or_not : decide (("or" : Str) = "not") = false := by decide +kernel
theorem we_or_and : decide (("or" : Str) = "and") = false := by decide +kernel
theorem we_or_or : decide (("or" : Str) = "or") = true := by decide +kernel
theorem wi_exists_0 : inT (.str "exists") [.str "column", .str "value"] = false := by decide +kernel
theorem wi_exists_1 : inT (.str "exists") [.str "plus", .str "is", .str "not"] = false := by decide +kernel
theorem wi_exists_2 : inT (.str "exists") [.str "only", .str "first"] = false := by decide +kernel
theorem wi_exists_3 : inT (.str "exists") [.str "and", .str "or"] = false := by decide +kernel
theorem wi_exists_4 : inT (.str "exists") [.str "less", .str "most", .str "same", .str "is", .str "exists"] = true := by decide +kernel
theorem wi_exists_5 : inT (.str "exists") [.str "exists", .str "only", .str "first"] = true := by decide +kernel
theorem wi_exists_6 : inT (.str "exists") [.str "less", .str "most", .str "same"] = false := by decide +kernel
theorem wi_exists_7 : inT (.str "exists") [.str "not", .str "and", .str "or"] = false := by decide +kernel
theorem we_exists_exists : decide (("exists" : Str) = "exists") = true := by decide +kernel
theorem we_exists_not : decide (("exists" : Str) = "not") = false := by decide +kernel
theorem we_exists_and : decide (("exists" : Str) = "and") = false := by decide +kernel
theorem we_exists_or : decide (("exists" : Str) = "or") = false := by decide +kernel
theorem wi_only_0 : inT (.str "only") [.str "column", .str "value"] = false := by decide +kernel
theorem wi_only_1 : inT (.str "only") [.str "plus", .str "is", .str "not"] = false := by decide +kernel
theorem wi_only_2 : inT (.str "only") [.str "only", .str "first"] = true := by decide +kernel
theorem wi_only_3 : inT (.str "only") [.str "and", .str "or"] = false := by decide +kernel
theorem wi_only_4 : inT (.str "only") [.str "less", .str "most", .str "same", .str "is", .str "exists"] = false := by decide +kernel
theorem wi_only_5 : inT (.str "only") [.str "exists", .str "only", .str "first"] = true := by decide +kernel
theorem wi_only_6 : inT (.str "only") [.str "less", .str "most", .str "same"] = false := by decide +kernel
theorem wi_only_7 : inT (.str "only") [.str "not", .str "and", .str "or"] = false := by decide +kernel
theorem we_only_exists : decide (("only" : Str) = "exists") = false := by decide +kernel
theorem we_only_not : decide (("only" : Str) = "not") = false := by decide +kernel
theorem we_only_and : decide (("only" : Str) = "and") = false := by decide +kernel
theorem we_only_or : decide (("only" : Str) = "or") = false := by decide +kernel
theorem wi_first_0 : inT (.str "first") [.str "column", .str "value"] = false := by decide +kernel
theorem wi_first_1 : inT (.str "first") [.str "plus", .str "is", .str "not"] = false := by decide +kernel
theorem wi_first_2 : inT (.str "first") [.str "only", .str "first"] = true := by decide +kernel
theorem wi_first_3 : inT (.str "first") [.str "and", .str "or"] = false := by decide +kernel
theorem wi_first_4 : inT (.str "first") [.str "less", .str "most", .str "same", .str "is", .str "exists"] = false := by decide +kernel
theorem wi_first_5 : inT (.str "first") [.str "exists", .str "only", .str "first"] = true := by decide +kernel
theorem wi_first_6 : inT (.str "first") [.str "less", .str "most", .str "same"] = false := by decide +kernel
theorem wi_first_7 : inT (.str "first") [.str "not", .str "and", .str "or"] = false := by decide +kernel
theorem we_first_exists : decide (("first" : Str) = "exists") = false := by decide +kernel
theorem we_first_not : decide (("first" : Str) = "not") = false := by decide +kernel
theorem we_first_and : decide (("first" : Str) = "and") = false := by decide +kernel
theorem we_first_or : decide (("first" : Str) = "or") = false := by decide +kernel
end L3

namespace L3
open PySem PySem.Spec PyProof.Rows L2
section
variable {n : Nat} {w : Str} {x y v o q : T}
theorem hole_plus (hw : w = "plus" ∨ w = "is") (hx : Part n x) (hv : FlatV v) : Hole (Part (n + 1)) (.tup [.str w, x, v]) [1] n x :=
  ⟨by rw [partAt_tup (x := x) rfl, partAt_nil], hx, fun q hq => by rw [withPart_tup (x := x) rfl, withPart_nil]; exact .plus hw hq hv⟩
theorem hole_not (hx : Part n x) : Hole (Part (n + 1)) (.tup [.str "not", x]) [1] n x :=
  ⟨by rw [partAt_tup (x := x) rfl, partAt_nil], hx, fun q hq => by rw [withPart_tup (x := x) rfl, withPart_nil]; exact .not hq⟩
theorem hole_two1 (hw : w = "less" ∨ w = "most" ∨ w = "same" ∨ w = "and" ∨ w = "or") (hx : Part n x) (hy : Part n y) : Hole (Part (n + 1)) (.tup [.str w, x, y]) [1] n x :=
  ⟨by rw [partAt_tup (x := x) rfl, partAt_nil], hx, fun q hq => by rw [withPart_tup (x := x) rfl, withPart_nil]; exact .two hw hq hy⟩
theorem hole_two2 (hw : w = "less" ∨ w = "most" ∨ w = "same" ∨ w = "and" ∨ w = "or") (hx : Part n x) (hy : Part n y) : Hole (Part (n + 1)) (.tup [.str w, x, y]) [2] n y :=
  ⟨by rw [partAt_tup (x := y) rfl, partAt_nil], hy, fun q hq => by rw [withPart_tup (x := y) rfl, withPart_nil]; exact .two hw hx hq⟩
theorem hole_ex (ho : OwnT 2 o) (hx : Part n x) : Hole (Part (n + 1)) (.tup [.str "exists", .tup [o, x]]) [1, 1] n x :=
  ⟨by rw [partAt_tup (x := .tup [o, x]) rfl, partAt_tup (x := x) rfl, partAt_nil], hx, fun q hq => by rw [withPart_tup (x := .tup [o, x]) rfl, withPart_tup (x := x) rfl, withPart_nil]; exact .exists ho hq⟩
theorem hole_on1 (hw : w = "only" ∨ w = "first") (ho : OwnT 2 o) (hx : Part n x) (hy : Part n y) : Hole (Part (n + 1)) (.tup [.str w, .tup [o, x], y]) [1, 1] n x :=
  ⟨by rw [partAt_tup (x := .tup [o, x]) rfl, partAt_tup (x := x) rfl, partAt_nil], hx, fun q hq => by rw [withPart_tup (x := .tup [o, x]) rfl, withPart_tup (x := x) rfl, withPart_nil]; exact .only hw ho hq hy⟩
theorem hole_on2 (hw : w = "only" ∨ w = "first") (ho : OwnT 2 o) (hx : Part n x) (hy : Part n y) : Hole (Part (n + 1)) (.tup [.str w, .tup [o, x], y]) [2] n y :=
  ⟨by rw [partAt_tup (x := y) rfl, partAt_nil], hy, fun q hq => by rw [withPart_tup (x := y) rfl, withPart_nil]; exact .only hw ho hx hq⟩
end
def spBelow : Sp3 := fun ts M Q => ∃ n p, ts = [p] ∧ Part n p ∧ ∀ ws : List (List Nat × T), ws.length ≤ 2 → (∀ x ∈ ws, ∃ m, n = m + 1 ∧ x.1.length ≤ 2 ∧ Hole (Part n) p x.1 m x.2) → Q (.lst (ws.map enc)) M
def cntP : Nat → Nat
  | 0 => 1
  | n + 1 => 2 * cntP n + 1
/-- parts less than so deep -/
def spAllAt : Nat → Sp3
  | 0 => spNo
  | n + 1 => fun ts M Q => ∃ p l, ts = [p, plc l] ∧ n ≤ 12 ∧ l.length + 2 * n ≤ 60 ∧ Part n p ∧ ∀ ws : List (List Nat × T), ws.length ≤ cntP n → (∀ x ∈ ws, ∃ r m, x.1 = l ++ r ∧ r.length ≤ 2 * n ∧ Hole (Part n) p r m x.2) → Q (.lst (ws.map enc)) M
def spEvery (n : Nat) : Sp3 := fun ts M Q => ∃ t, ts = [t] ∧ Q5 n t ∧ ∀ ws : List (List Nat × T), ws.length ≤ 5 * cntP n → (∀ x ∈ ws, ∃ m, x.1.length ≤ 2 * n + 2 ∧ Hole (Q5 n) t x.1 m x.2) → Q (.lst (ws.map enc)) M
theorem cnt_le {n m : Nat} (h : n ≤ m) : cntP n ≤ cntP m := by
  induction h with
  | refl => exact Nat.le_refl _
  | step _ ih => rw [cntP]; omega
theorem cnt12 {n : Nat} (h : n ≤ 12) : cntP n ≤ 8191 := Nat.le_trans (cnt_le h) (by decide)
theorem Q5.hole1 {n : Nat} {a wh b c d : T} (h : Q5 n (.tup [a, wh, b, c, d])) (p : Part n wh) : Hole (Q5 n) (.tup [a, wh, b, c, d]) [1] n wh :=
  ⟨by rw [partAt_tup (x := wh) rfl, partAt_nil], p, fun q hq => by
    rw [withPart_tup (x := wh) rfl, withPart_nil]
    obtain ⟨refs, w', hs, ord, lim, e, h1, h2, h3, h4, h5, h6⟩ := h.ex
    cases e
    exact ⟨_, _, _, _, _, rfl, h1, Or.inr hq, h3, h4, h5, h6⟩⟩
theorem Q5.hole2 {n k : Nat} {a wh c d x : T} {hs : List T} (h : Q5 n (.tup [a, wh, .tup hs, c, d])) (e : hs[k]? = some x) : Hole (Q5 n) (.tup [a, wh, .tup hs, c, d]) [2, k] n x := by
  obtain ⟨refs, w', hs', ord, lim, e', h1, h2, h3, h4, h5, h6⟩ := h.ex
  cases e'
  refine ⟨by rw [partAt_tup (x := .tup hs) rfl, partAt_tup e, partAt_nil], h4 x (List.mem_of_getElem? e), fun q hq => ?_⟩
  rw [withPart_tup (x := .tup hs) rfl, withPart_tup e, withPart_nil]
  obtain ⟨hi, _⟩ := List.getElem?_eq_some_iff.mp e
  refine ⟨_, _, _, _, _, rfl, h1, h2, by simp; omega, fun y hy => ?_, h5, h6⟩
  rcases List.mem_append.mp hy with hy | hy
  · exact h4 y (List.mem_of_mem_take hy)
  · rcases List.mem_cons.mp hy with rfl | hy
    · exact hq
    · exact h4 y (List.mem_of_mem_drop hy)
end L3
namespace L3
open PySem PySem.Spec PyProof.Rows L2
theorem Part.head {n : Nat} {p : T} (h : Part n p) : ∃ w a r, p = .tup (.str w :: a :: r) := by
  cases h <;> exact ⟨_, _, _, rfl⟩
theorem cut_mid_len {α : Type} {xs : List α} {a b : Nat} (h : a ≤ b) (h2 : b ≤ xs.length) : (cutT xs (some (a : Int)) (some (b : Int))).length = b - a := by
  unfold cutT
  rw [show HT.sIx xs.length 0 (some (a : Int)) = min a xs.length from HT.sIx_nat xs.length 0 a, show HT.sIx xs.length xs.length (some (b : Int)) = min b xs.length from HT.sIx_nat xs.length xs.length b, List.length_take, List.length_drop]
  omega
def spDeeper : Sp3 := fun ts M Q => ∃ dk c wd cd S kvs n refs wh hs ord lim, ∃ al : List Str, ts = [.raw (.ref dk), .raw (.ref wd), .tup [refs, wh, .tup hs, ord, lim], .lst (al.map T.str)] ∧ Gen dk c wd cd S kvs n M ∧ n + 200 ≤ 2 ^ 58 ∧
  RefT kvs 4 refs ∧ (wh = .non ∨ Part 7 wh) ∧ (0 < hs.length ∧ hs.length ≤ 2) ∧ (∀ h ∈ hs, Part 1 h) ∧ (∃ os, ord = .tup os ∧ os.length ≤ 2 ∧ ∀ o ∈ os, Part 0 o) ∧ FlatV lim ∧ 0 < al.length ∧ al.length ≤ 20 ∧ (∀ a ∈ al, Nm a) ∧
  ∀ M' t, Gen dk c wd cd S kvs (n + 120) M' → Q5 8 t → Q t M'
end L3
namespace L3
section
variable {a b c d e : T}
theorem c25 : cutT [a, b, c, d, e] none (some 2) = [a, b] := cut_to 2
theorem c35 : cutT [a, b, c, d, e] (some 3) none = [d, e] := cut_from 3
theorem c51 : cutT [a, b, c, d, e] none (some 1) = [a] := cut_to 1
theorem c52 : cutT [a, b, c, d, e] (some 2) none = [c, d, e] := cut_from 2
end
end L3
namespace L3
open PySem PySem.Spec PyProof.Rows L2
theorem getT_put {k j : Key} {v : T} : ∀ {kvs : KVs}, getT (putT kvs k v) j = if k = j then some v else getT kvs j := by
  intro kvs
  unfold putT
  split
  · rename_i h
    induction kvs with
    | nil => cases h
    | cons x r ih =>
      obtain ⟨a, b⟩ := x
      rw [List.map_cons]
      by_cases ha : a = k
      · subst ha
        by_cases hj : a = j
        · subst hj
          simp [getT]
        · have hr : ∀ r : KVs, getT (r.map fun kv => if kv.1 = a then (kv.1, v) else kv) j = getT r j := by
            intro r
            induction r with
            | nil => rfl
            | cons y s ih2 =>
              rw [List.map_cons]
              by_cases hy : y.1 = a
              · rw [if_pos hy, getT_miss (by rw [hy]; exact hj), ih2]
                exact (getT_miss (t := y.2) (by rw [hy]; exact hj)).symm
              · rw [if_neg hy]
                obtain ⟨y1, y2⟩ := y
                by_cases hz : y1 = j
                · subst hz
                  rw [getT_hit, getT_hit]
                · rw [getT_miss hz, getT_miss hz, ih2]
          simp only [if_true]
          rw [getT_miss hj, hr, if_neg hj, getT_miss hj]
      · have h2 : (r.any fun kv => decide (kv.1 = k)) = true := by
          rw [List.any_cons] at h
          simpa [ha] using h
        rw [if_neg ha]
        by_cases hz : a = j
        · subst hz
          rw [getT_hit, getT_hit, if_neg (fun e => ha e.symm)]
        · rw [getT_miss hz, getT_miss hz, ih h2]
  · rename_i h
    by_cases hj : k = j
    · subst hj
      rw [if_pos rfl]
      induction kvs with
      | nil => exact getT_hit
      | cons x r ih =>
        obtain ⟨a, b⟩ := x
        have ha : ¬ a = k := fun e => h (by simp [e])
        rw [List.cons_append, getT_miss ha]
        exact ih fun e => h (by rw [List.any_cons, e, Bool.or_true])
    · rw [if_neg hj]
      clear h
      induction kvs with
      | nil => exact getT_miss hj
      | cons x r ih =>
        obtain ⟨a, b⟩ := x
        rw [List.cons_append]
        by_cases hz : a = j
        · subst hz
          rw [getT_hit, getT_hit]
        · rw [getT_miss hz, getT_miss hz, ih]
theorem putT_len {k : Key} {v : T} {kvs : KVs} : (putT kvs k v).length ≤ kvs.length + 1 := by
  unfold putT
  split
  · rw [List.length_map]
    exact Nat.le_succ _
  · rw [List.length_append, List.length_singleton]
    exact Nat.le_refl _
theorem HasC.put {kvs : KVs} {nm x : Str} (h : HasC kvs x) {cols : List Str} (c0 : 0 < cols.length) (c1 : cols.length ≤ 20) (cN : ∀ c ∈ cols, Nm c) : HasC (putT kvs (.inr nm) (.lst (cols.map T.str))) x := by
  by_cases e : (Sum.inr nm : Key) = .inr x
  · exact ⟨cols, by rw [getT_put, if_pos e], c0, c1, cN⟩
  · obtain ⟨d, h1, h2⟩ := h
    exact ⟨d, by rw [getT_put, if_neg e]; exact h1, h2⟩
theorem HasC.new {kvs : KVs} {nm : Str} {cols : List Str} (c0 : 0 < cols.length) (c1 : cols.length ≤ 20) (cN : ∀ c ∈ cols, Nm c) : HasC (putT kvs (.inr nm) (.lst (cols.map T.str))) nm :=
  ⟨cols, by rw [getT_put, if_pos rfl], c0, c1, cN⟩
theorem w_merge {a b : T} : mergeT [] [(.inr "tables", a), (.inr "columns", b)] = [(.inr "tables", a), (.inr "columns", b)] := by
  unfold mergeT putT
  simp [st_tabcol]
/-- no tuple in a question is long -/
theorem take_mem_succ {α : Type} {xs : List α} {j : Nat} {x t : α} (e : xs[j]? = some x) (h : t ∈ xs.take (j + 1)) : t ∈ xs.take j ∨ t = x := by
  rw [List.take_succ, e] at h
  rcases List.mem_append.mp h with h | h
  · exact Or.inl h
  · exact Or.inr (by simpa using h)
end L3
namespace L3
open PySem PySem.Spec PyProof.Rows L2
def Small (t : T) : Prop := ∀ r x, partAt t r = some (.tup x) → x.length ≤ 100
theorem small_str (z : Str) : Small (.str z) := fun r x h => by cases r <;> cases h
theorem small_flat {t : T} (h : FlatV t) : Small t := by
  rcases h with rfl | ⟨i, rfl, _⟩ | ⟨z, rfl, _⟩ <;> exact fun r x h => by cases r <;> cases h
theorem small_tup {xs : List T} (hl : xs.length ≤ 100) (h : ∀ y ∈ xs, Small y) : Small (.tup xs) := by
  intro r x e
  cases r with
  | nil =>
    rw [partAt_nil] at e
    cases e
    exact hl
  | cons i r =>
    obtain ⟨ys, y, e1, e2, e3⟩ := partAt_cons e
    cases e1
    exact h y (List.mem_of_getElem? e2) r x e3
theorem small2 {a b : T} (ha : Small a) (hb : Small b) : Small (.tup [a, b]) := small_tup (by simp) fun y hy => by
  simp only [List.mem_cons, List.not_mem_nil, or_false] at hy
  rcases hy with rfl | rfl <;> assumption
theorem small3 {a b c : T} (ha : Small a) (hb : Small b) (hc : Small c) : Small (.tup [a, b, c]) := small_tup (by simp) fun y hy => by
  simp only [List.mem_cons, List.not_mem_nil, or_false] at hy
  rcases hy with rfl | rfl | rfl <;> assumption
theorem OwnT.small {k : Nat} {t : T} (h : OwnT k t) (hk : k ≤ 100) : Small t := by
  obtain ⟨l, rfl, hl, _⟩ := h
  refine small_tup (by rw [List.length_map]; omega) fun y hy => ?_
  obtain ⟨p, _, rfl⟩ := List.mem_map.mp hy
  exact small2 (small_str _) (small_str _)
theorem Part.small {n : Nat} {t : T} (h : Part n t) : Small t := by
  induction h with
  | col a b => exact small3 (small_str _) (small_str _) (small_str _)
  | val v => exact small2 (small_str _) (small_flat v)
  | plus a _ c ih => exact small3 (small_str _) ih (small_flat c)
  | not _ ih => exact small2 (small_str _) ih
  | two a _ _ i1 i2 => exact small3 (small_str _) i1 i2
  | «exists» a _ ih => exact small2 (small_str _) (small2 (a.small (by decide)) ih)
  | only a b _ _ i1 i2 => exact small3 (small_str _) (small2 (b.small (by decide)) i1) i2
theorem Q5.small {n : Nat} {t : T} (h : Q5 n t) : Small t := by
  obtain ⟨refs, wh, hs, ord, lim, rfl, h1, h2, h3, h4, ⟨os, rfl, h5, h6⟩, h7⟩ := h.ex
  refine small_tup (by simp) fun y hy => ?_
  simp only [List.mem_cons, List.not_mem_nil, or_false] at hy
  rcases hy with rfl | rfl | rfl | rfl | rfl
  · exact h1.small (by decide)
  · rcases h2 with rfl | h2
    · exact small_flat (Or.inl rfl)
    · exact h2.small
  · exact small_tup (by omega) fun z hz => (h4 z hz).small
  · exact small_tup (by omega) fun z hz => (h6 z hz).small
  · exact small_flat h7
theorem Q5.rep {t : T} {Q : QE} {M : Mp} (h : Q5 8 t) (q : Q (.str (shT t)) M) : fRepr [t] Q M := by
  obtain ⟨_, _, _, _, _, e, _⟩ := h.ex
  exact h.fine.rep (by decide) (by decide) (by rw [e]; rfl) q
end L3

set_option maxHeartbeats 1000000
/-! L3R: while loops, list.extend. -/
namespace L3
open PySem PySem.Spec PyProof.Rows L2
/-- at most so many turns -/
def whileL (tt : T3) (tb : S3) (D : Ends3) : Nat → SS → Mp → Prop
  | 0 => fun _ _ => False
  | n + 1 => fun ss M => tt ss M fun b M1 => match b with
    | true => tb { D with nx := whileL tt tb D n, ct := whileL tt tb D n, bk := D.nx } ss M1
    | false => D.nx ss M1
def sWhile (tt : T3) (tb : S3) : S3 := fun D ss M => ∃ n, whileL tt tb D n ss M
section
variable {X : Cx} {K : PySem.W.Frag} {c e o : Expr} {te : E3} {tl : A3} {tt : T3} {tb : S3} {pos : Pos}
theorem ds_while {body : List Stmt} (hp : PassesOwn (model X.prog X.w) X.A X.env X.xe) (hc : DT X c tt) (hb : DSs X body tb) : DS X (.While c body [] pos) (sWhile tt tb) := by
  refine ps_weak (ps_while hp hc hb) ?_
  rintro D σ H ⟨F, O, M, ss, D3, w, sl, ⟨n, q⟩, k⟩
  refine ⟨fun m σ' H' => ∃ F' M' ss', Ex F F' ∧ Wd X.K F' O H' M' ∧ SlR X.K F' σ' ss' ∧ whileL tt tb D3 m ss' M', ⟨n, F, M, ss, .refl, w, sl, q⟩, ?_⟩
  rintro m σ' H' ⟨F', M', ss', x, w', sl', q'⟩
  cases m with
  | zero => exact q'.elim
  | succ m =>
    refine ⟨F', O, M', ss', _, w', sl', q', ?_⟩
    intro d H1 F1 M1 x1 w1 q1
    cases d with
    | true =>
      rw [if_pos rfl]
      refine ⟨fun σ2 H2 => ∃ F2 M2 ss2, Ex F F2 ∧ Wd X.K F2 O H2 M2 ∧ SlR X.K F2 σ2 ss2 ∧ whileL tt tb D3 m ss2 M2, fun σ2 H2 h => ⟨m, Nat.lt_succ_self m, h⟩, F1, O, M1, ss', _, w1, sl'.mono x1, q1, ?_⟩
      have kk := k.mono (x.trans x1)
      have nxt : LkS X.K F1 O (whileL tt tb D3 m) fun σ2 H2 => ∃ F2 M2 ss2, Ex F F2 ∧ Wd X.K F2 O H2 M2 ∧ SlR X.K F2 σ2 ss2 ∧ whileL tt tb D3 m ss2 M2 :=
        fun σ3 H3 F3 M3 ss3 x4 w4 sl4 q4 => ⟨F3, M3, ss3, x.trans (x1.trans x4), w4, sl4, q4⟩
      exact ⟨nxt, kk.rt, kk.nx, nxt⟩
    | false =>
      rw [if_neg Bool.false_ne_true]
      exact k.nx σ' H1 F1 M1 ss' (x.trans x1) w1 (sl'.mono x1) q1
/-- a loop by a measure -/
theorem whileL_of {D : Ends3} (Pv : Nat → SS → Mp → Prop) (hs : ∀ n ss M, Pv n ss M → ∀ N : SS → Mp → Prop, (∀ m ss' M', m < n → Pv m ss' M' → N ss' M') →
    tt ss M fun b M1 => match b with
      | true => tb { D with nx := N, ct := N, bk := D.nx } ss M1
      | false => D.nx ss M1) : ∀ (f n : Nat) {ss : SS} {M : Mp}, n < f → Pv n ss M → whileL tt tb D f ss M
  | 0, n, _, _, h, _ => absurd h (Nat.not_lt_zero n)
  | f + 1, n, ss, M, h, p => hs n ss M p _ fun m ss' M' hm hp => whileL_of Pv hs f m (by omega) hp
/-- xs.extend(ys), ys a list -/
def mExtend (x : T) (ts : List T) (Q : QE) (M : Mp) : Prop := match x, ts with
  | .raw (.ref a), [.lst ys] => (match M a with
    | some (.lst xs) => xs.length + ys.length ≤ sizeLine ∧ Q .non (mset M a (.lst (xs ++ ys)))
    | _ => False)
  | _, _ => False
theorem md_extend : MtD K rExtend mExtend := by
  intro F O H M x t vs ts Q3 Q w rx rs q k
  unfold mExtend at q
  split at q
  · rename_i a y
    cases rx
    cases rs with
    | cons ry rn =>
    cases rn
    split at q
    · rename_i xs e1
      obtain ⟨_, _, ho, e2, ro⟩ := w.mo a _ e1
      cases ro with
      | lst rl =>
      cases ry with
      | lst hy ry =>
      exact ⟨a, _, _, _, rfl, rfl, e2, w.ex _ _ hy, by rw [rl.length, ry.length]; exact q.1, k _ _ F _ _ .refl (w.write e1 (.lst (rl.append ry))) .non q.2⟩
    · exact q.elim
  · exact q.elim
theorem d_extend {apos cpos : Pos} (ho : DE X o te) (ha : DA X [e] tl) (hbase : attributeBase o "extend" X.env (eval o X.env) = eval o X.env := by rfl)
    (hfew : ((backTo cpos (starEach [e] X.env)).all (fun x => !x.1) && (backToKw cpos (keywordEach [] X.env)).all (fun x => x.1.isSome)
      && decide (([e] : List Expr).length + ([] : List Keyword).length + (if ([] : List Keyword).isEmpty then 0 else 1) < 30)) = true := by rfl)
    (hline : (apos.endLine == cpos.line) = true := by rfl) (hs : starEach [e] X.env = (false, eval e X.env) :: starEach [] X.env := by rfl) :
    DE X (.Call (.Attribute o "extend" apos) [e] [] cpos) (dLm mExtend te tl) := d_lm PySem.F.slot_list_extend PySem.F.type_list_extend mt_extend md_extend ho ha hbase hfew hline hs rfl
end
end L3

set_option maxHeartbeats 1000000
/-! L3S: constants of the module that are tuples or dicts with text keys. -/
namespace L3
open PySem PySem.Spec PyProof.Rows L2
/-- a constant of the module, as a tree -/
def GV (mg : Str → Option Value) (K : PySem.W.Frag) (x : Str) (t : T) : Prop := ∃ u v, mg x = some u ∧ RelV v u ∧ ∀ F, Rep K F v t
/-- a value written in the heap's written part -/
def KV1 (K : PySem.W.Frag) (u : Value) (t : T) : Prop := ∃ v, RelV v u ∧ ∀ F, Rep K F v t
def KVs1 (K : PySem.W.Frag) (us : List Value) (ts : List T) : Prop := ∃ vs, Vals vs us ∧ ∀ F, Reps K F vs ts
section
variable {K : PySem.W.Frag} {mg : Str → Option Value}
theorem kv_str (z : Str) (t : Tok) : KV1 K (.str z t) (.str z) := ⟨.str z, ⟨t, rfl⟩, fun _ => .str z⟩
theorem kv_int (i : Int) (t : Tok) : KV1 K (.int i t) (.int i) := ⟨.int i, ⟨t, rfl⟩, fun _ => .int i⟩
theorem kv_none : KV1 K .none .non := ⟨.non, rfl, fun _ => .non⟩
theorem kvs_nil : KVs1 K [] [] := ⟨[], .nil, fun _ => .nil⟩
theorem kvs_cons {u : Value} {us : List Value} {t : T} {ts : List T} (a : KV1 K u t) (b : KVs1 K us ts) : KVs1 K (u :: us) (t :: ts) :=
  let ⟨v, r, h⟩ := a; let ⟨vs, rs, hs⟩ := b; ⟨v :: vs, .cons r rs, fun F => .cons (h F) (hs F)⟩
theorem kv_tup {a : Addr} {od : Option Addr} {us : List Value} {n : Nat} {sl : Array (Option Value)} {ts : List T} (l : K.lookup a = some ⟨.type "tuple", od, .seq us.toArray n, sl⟩) (hz : us.length ≤ sizeLine) (h : KVs1 K us ts) : KV1 K (.ref a) (.tup ts) := by
  obtain ⟨vs, r, hr⟩ := h
  exact ⟨.ref a, rfl, fun F => .tup (.inr ⟨_, us.toArray, n, l, rfl, rfl, by rw [List.size_toArray]; exact hz, r⟩) (hr F)⟩
theorem gv_of {x : Str} {u : Value} {t : T} (hm : mg x = some u) (h : KV1 K u t) : GV mg K x t := let ⟨v, r, q⟩ := h; ⟨u, v, hm, r, q⟩
/-- a dict of the module with text keys -/
def GD (mg : Str → Option Value) (K : PySem.W.Frag) (w : World) (x : Str) (tab : List (Str × T)) : Prop := ∃ a, mg x = some (.ref a) ∧ ∀ z t, tab.lookup z = some t → ∃ v, KDct K w a z v ∧ ∀ F, Rep K F v t
/-- the entries of such a dict -/
def KTab (K : PySem.W.Frag) (w : World) (a : Addr) (tab : List (Str × T)) : Prop := ∀ z t, tab.lookup z = some t → ∃ v, KDct K w a z v ∧ ∀ F, Rep K F v t
theorem ktab_nil {w : World} {a : Addr} : KTab K w a [] := fun _ _ h => nomatch h
theorem ktab_cons {w : World} {a : Addr} {es : Array DictEntry} {n : Nat} {z : Str} {u : Value} {t : T} {tab : List (Str × T)} (l : K.lookup a = some ⟨.type "dict", none, .dict es n, #[]⟩) (lit : PySem.W.KeysLit w.params es.toList) (e : PySem.W.nsIn K a z = some (some u)) (h : KV1 K u t) (r : KTab K w a tab) :
    KTab K w a ((z, t) :: tab) := by
  intro y s hy
  rw [List.lookup_cons] at hy
  cases hb : y == z with
  | true =>
    rw [hb] at hy
    cases hy
    obtain rfl := eq_of_beq hb
    obtain ⟨v, rv, q⟩ := h
    exact ⟨v, ⟨es, n, u, l, lit, e, rv⟩, q⟩
  | false =>
    rw [hb] at hy
    exact r y s hy
end
section
variable {X : Cx} {i : Expr} {ti : E3} {pos p : Pos}
theorem d_gv {x : Str} {t : T} (hg : Gl X x) (h : GV X.mg X.K x t) (hd : (x == ("__debug__" : Str)) = false := by decide) : DE X (.Name x pos) (dC t) := by
  obtain ⟨u, v, hm, r, q⟩ := h
  exact d_glob hg hm r q hd
/-- D[key], D a dict of the module -/
def dKGet (tab : List (Str × T)) (ti : E3) : E3 := fun ss M Q => ti ss M fun y M1 => match y with
  | .str z => (match tab.lookup z with | some t => Q t M1 | none => False)
  | _ => False
theorem d_kget {x : Str} {tab : List (Str × T)} (hg : Gl X x) (h : GD X.mg X.K X.w x tab) (hi : DE X i ti) (hs : PlainIx i) (hd : (x == ("__debug__" : Str)) = false := by decide) : DE X (.Subscript (.Name x p) i pos) (dKGet tab ti) := by
  obtain ⟨a, hm, tb⟩ := h
  have hn : DE X (.Name x p) (dC (.raw (.ref a))) := d_glob (v := .ref a) hg hm rfl (fun _ => .raw _) hd
  refine pe_weak (pe_ix ix_kdict hn hi hs) ?_
  rintro σ H Q ⟨F, O, M, ss, Q3, w, sl, q, k⟩
  refine ⟨F, O, M, ss, fun t M1 => t = .raw (.ref a) ∧ M1 = M, w, sl, ⟨rfl, rfl⟩, ?_⟩
  rintro v H1 F1 M1 t x1 w1 r1 ⟨rfl, rfl⟩
  cases r1
  refine ⟨F1, O, M1, ss, _, w1, sl.mono x1, q, ?_⟩
  intro y H2 F2 M2 u x2 w2 r2 q2
  split at q2
  · cases r2
    split at q2
    · rename_i t e
      obtain ⟨v, kd, r⟩ := tb _ _ e
      exact ⟨a, _, v, rfl, rfl, kd, fin_flat w2 (k.mono (x1.trans x2)) (r _) q2⟩
    · exact q2.elim
  · exact q2.elim
end
end L3

set_option maxHeartbeats 1000000
/-! L3T: match over texts and whole numbers. -/
namespace L3
open PySem PySem.Spec PyProof.Rows L2
/-- what a pattern says of a subject, and the subject stays as it is -/
def PMt (X : Cx) (p : Pattern) (f : V → Bool) : Prop := ∀ (pins : List (Addr × Obj)) (s : Shared) (σ : L2.St) (H : Hp) (x : V) (u : Value) (Q : Option (List (Str × Value)) → Shared → Prop), Inv X pins σ H s → RelV x u → scal x x = true → (x = .non → False) →
  (∀ b, x ≠ .byt b) → (∀ s', Inv X pins σ H s' → Q (if f x = true then some [] else none) s') → wpAny (model X.prog X.w) X.A (matchPattern p X.env u) Q X.xe s
def PMf (X : Cx) (ps : List Pattern) (f : V → Bool) : Prop := ∀ (pins : List (Addr × Obj)) (s : Shared) (σ : L2.St) (H : Hp) (x : V) (u : Value) (Q : Option (List (Str × Value)) → Shared → Prop), Inv X pins σ H s → RelV x u → scal x x = true → (x = .non → False) →
  (∀ b, x ≠ .byt b) → (∀ s', Inv X pins σ H s' → Q (if f x = true then some [] else none) s') → wpAny (model X.prog X.w) X.A (matchFirst ps X.env u) Q X.xe s
/-- equal to a text -/
def eqS (w : Str) (x : V) : Bool := decide (x = .str w)
section
variable {X : Cx} {pos p2 : Pos} {k : Nat}
theorem mt_val {w : Str} : PMt X (.MatchValue (.Constant (.str w) k p2) pos) (eqS w) := by
  intro pins s σ H x u Q I r hs hn hb q
  refine wpAny_matchPattern_Value (thn (pe_str.run pins s σ H (fun y H' => y = .str w ∧ H' = H) I ⟨rfl, rfl⟩) ?_)
  rintro v s1 ⟨y, H1, I1, ry, rfl, rfl⟩
  have sc : scal x (.str w) = true := by
    cases x with
    | byt b => exact absurd rfl (hb b)
    | _ => first | rfl | cases hs
  refine thn (op_eq pins s1 σ H1 x (.str w) u v (fun z H' => z = .bl (decide (x = .str w)) ∧ H' = H1) I1 r ry ⟨sc, rfl, rfl⟩) ?_
  rintro c s2 ⟨z, H2, I2, rz, rfl, rfl⟩
  cases rz
  refine wpAny_truthy_bool ?_
  have qq := q s2 I2
  unfold eqS at qq
  cases hd : decide (x = .str w) with
  | true =>
    rw [hd] at qq
    exact qq
  | false =>
    rw [hd] at qq
    exact qq
theorem mf_nil : PMf X [] (fun _ => false) := by
  intro pins s σ H x u Q I r hs hn hb q
  exact wpAny_matchFirst_nil (q s I)
theorem mf_cons {p : Pattern} {ps : List Pattern} {f g : V → Bool} (h : PMt X p f) (hr : PMf X ps g) : PMf X (p :: ps) (fun x => f x || g x) := by
  intro pins s σ H x u Q I r hs hn hb q
  refine wpAny_matchFirst_cons (h pins s σ H x u _ I r hs hn hb fun s1 I1 => ?_)
  cases hf : f x with
  | true =>
    rw [if_pos rfl]
    have qq : Q (if (f x || g x) = true then some [] else none) s1 := q s1 I1
    rw [hf, Bool.true_or, if_pos rfl] at qq
    exact qq
  | false =>
    rw [if_neg Bool.false_ne_true]
    refine hr pins s1 σ H x u Q I1 r hs hn hb fun s2 I2 => ?_
    have qq : Q (if (f x || g x) = true then some [] else none) s2 := q s2 I2
    rw [hf, Bool.false_or] at qq
    exact qq
theorem mt_or {ps : List Pattern} {f : V → Bool} (h : PMf X ps f) : PMt X (.MatchOr ps pos) f := by
  intro pins s σ H x u Q I r hs hn hb q
  refine wpAny_matchPattern_Or (h pins s σ H x u _ I r hs hn hb fun s1 I1 => ?_)
  have qq := q s1 I1
  cases hf : f x with
  | true =>
    rw [hf, if_pos rfl] at qq
    rw [if_pos rfl]
    have e : ∀ ns : List Str, (ns.filterMap fun n => (List.lookup n ([] : List (Str × Value))).map fun v => (n, v)) = [] := fun ns => by
      induction ns with
      | nil => rfl
      | cons a r ih => rw [List.filterMap_cons]; exact ih
    show Q (some _) s1
    rw [e]
    exact qq
  | false =>
    rw [hf, if_neg Bool.false_ne_true] at qq
    rw [if_neg Bool.false_ne_true]
    exact qq
/-- the cases of a match, without guards, none of which binds a name -/
inductive PMC (X : Cx) : List MatchCase → List ((V → Bool) × S3) → Prop
  | nil : PMC X [] []
  | cons {p : Pattern} {body : List Stmt} {r : List MatchCase} {f : V → Bool} {t : S3} {cs : List ((V → Bool) × S3)} : PMt X p f → DSs X body t → PMC X r cs → PMC X (⟨p, none, body⟩ :: r) ((f, t) :: cs)
def sCases (x : V) : List ((V → Bool) × S3) → S3
  | [] => sNext
  | (f, t) :: r => if f x = true then t else sCases x r
def sMatch (te : E3) (cs : List ((V → Bool) × S3)) : S3 := fun D ss M => te ss M fun t M1 => match t with
  | .str z => sCases (.str z) cs D ss M1
  | .int i => sCases (.int i) cs D ss M1
  | _ => False
theorem pmc_run {x : V} {u : Value} (hs : scal x x = true) (hn : x = .non → False) (hb : ∀ b, x ≠ .byt b) (r : RelV x u) : ∀ {mc : List MatchCase} {cs : List ((V → Bool) × S3)}, PMC X mc cs → ∀ (first : Bool) (pins : List (Addr × Obj)) (s : Shared) (σ : L2.St) (H : Hp) (D : Ends), Inv X pins σ H s → liftS X.K (sCases x cs) D σ H →
    wpAny (model X.prog X.w) X.A (matchCases mc X.env u first) (SP X pins D) X.xe s
  | _, _, .nil, first, pins, s, σ, H, D, I, h => by
    obtain ⟨F, O, M, ss, D3, w, sl, q, k⟩ := h
    exact wpAny_matchCases_nil ⟨σ, H, I, k.nx σ H F M ss .refl w sl q⟩
  | _, _, .cons (f := f) hp hd hr, first, pins, s, σ, H, D, I, h => by
    refine wpAny_matchCases_cons (hp pins s σ H x u _ I r hs hn hb fun s1 I1 => ?_)
    cases hf : f x with
    | true =>
      rw [if_pos rfl]
      unfold sCases at h
      rw [if_pos hf] at h
      exact wpAny_assignInOrder_none (hd.run pins s1 σ H D I1 h)
    | false =>
      rw [if_neg Bool.false_ne_true]
      unfold sCases at h
      rw [if_neg (by rw [hf]; exact Bool.false_ne_true)] at h
      exact pmc_run hs hn hb r hr false pins s1 σ H D I1 h
theorem ds_match {e : Expr} {te : E3} {mc : List MatchCase} {cs : List ((V → Bool) × S3)} (he : DE X e te) (hc : PMC X mc cs) : DS X (.Match e mc pos) (sMatch te cs) := by
  refine ⟨fun pins s σ H D I h => ?_⟩
  obtain ⟨F, O, M, ss, D3, w, sl, q, k⟩ := h
  refine wpAny_Match (thn (he.run pins s σ H (fun v H1 => ∃ F1 M1 t, Ex F F1 ∧ Wd X.K F1 O H1 M1 ∧ Rep X.K F1 v t ∧ (match t with
    | .str z => sCases (.str z) cs D3 ss M1
    | .int i => sCases (.int i) cs D3 ss M1
    | _ => False)) I ⟨F, O, M, ss, _, w, sl, q, fun v H1 F1 M1 t x1 w1 r1 q1 => ⟨F1, M1, t, x1, w1, r1, q1⟩⟩) ?_)
  rintro u s1 ⟨v, H1, I1, rv, F1, M1, t, x1, w1, r1, q1⟩
  split at q1
  · cases r1
    exact pmc_run (x := .str _) rfl (fun e => nomatch e) (fun b e => nomatch e) rv hc true pins s1 σ H1 D I1 ⟨F1, O, M1, ss, D3, w1, sl.mono x1, q1, k.mono x1⟩
  · cases r1
    exact pmc_run (x := .int _) rfl (fun e => nomatch e) (fun b e => nomatch e) rv hc true pins s1 σ H1 D I1 ⟨F1, O, M1, ss, D3, w1, sl.mono x1, q1, k.mono x1⟩
  · exact q1.elim
end
end L3

set_option maxHeartbeats 1000000
/-! L3U: name op= e on ints, enumerate of a list, zip of two lists or two tuples. -/
namespace L3
open PySem PySem.Spec PyProof.Rows L2
section
variable {X : Cx} {K : PySem.W.Frag} {e e2 : Expr} {te : E3} {tl : A3} {p pos tpos : Pos} {elts : List Expr} {kk : Nat}
/-- name op= e, ints -/
def sAugI (i : Nat) (g : Int → Int → Int) (te : E3) : S3 := fun D ss M => match ss[i]? with
  | some (some (.int x)) => te ss M fun t M1 => (match t with | .int y => D.nx (ss.set i (some (.int (g x y)))) M1 | _ => False)
  | _ => False
theorem ds_augI {i : Nat} {x : Str} {op : Operator} {g : Int → Int → Int} {pos' : Pos} (hN : X.N.Nodup) (hi : X.N[i]? = some x) (hx : Loc X.env.scope x) (he : DE X e te) (ho : PIp X op (ipI g)) (hf : X.fn x = true ∨ X.env.scope.names.lookup x = some .local := by first | exact .inl rfl | exact .inr rfl | assumption) :
    DS X (.AugAssign (.Name x pos') op e pos) (sAugI i g te) := by
  refine ps_weak (ps_aug hN hi hx he ho hf) ?_
  rintro D σ H ⟨F, O, M, ss, D3, w, sl, q, k⟩
  unfold sAugI at q
  split at q
  · rename_i y hy
    obtain ⟨v, e1, rv⟩ := sl.2 i _ hy
    cases rv
    refine ⟨.int y, e1, F, O, M, ss, _, w, sl, q, ?_⟩
    intro z H1 F1 M1 t x1 w1 r1 q1
    split at q1
    · cases r1
      refine ⟨_, _, rfl, rfl, k.nx _ H1 F1 M1 _ x1 w1 ((sl.mono x1).set (.int _) i) q1⟩
    · exact q1.elim
  · exact q.elim
/-- enumerate of a list -/
def iEnL (tl : A3) : I3 := fun ss M R => tl ss M fun ts M1 => match ts with
  | [x] => (match look x M1 with
    | .lst xs => R ⟨enumT xs, fun M' => look x M' = .lst xs⟩ M1
    | .scr xs => R ⟨enumT xs, fun M' => look x M' = .scr xs⟩ M1
    | _ => False)
  | _ => False
theorem srcE {F : Hp} {v : V} {t : T} {a : Addr} {xs : List T} (ev : v = .ref a) (r : Rep K F v t) {c : List T → T} (hc : ∀ F H v ys, Sees K F H v (c ys) → ∃ b us, v = .ref b ∧ SqL K H b us ∧ Reps K F us ys) : SrcOk K F (Ite K a) ⟨enumT xs, fun M' => look t M' = c xs⟩ := by
  intro F' O' H' M' x w ok i
  have s := (r.mono x).sees w
  rw [show look t M' = c xs from ok] at s
  obtain ⟨b, us, e1, hx, px⟩ := hc _ _ _ _ s
  subst ev
  cases e1
  have hlen : (enumT xs).length = xs.length := List.length_mapIdx ..
  refine ⟨fun hl => ⟨us, hx, by rw [px.length, ← hlen]; exact hl⟩, fun t' e => ?_⟩
  have e' : (xs.mapIdx fun i x => T.tup [.int (i : Nat), x])[i]? = some t' := e
  rw [List.getElem?_mapIdx] at e'
  obtain ⟨t0, e2, e3⟩ := Option.map_eq_some_iff.mp e'
  subst e3
  obtain ⟨u, e4, r2⟩ := px.get e2
  refine ⟨⟨us, u, hx, e4⟩, ?_⟩
  rintro y H'' ⟨q, z, rfl, hq, rfl, f⟩
  have e5 := Option.some.inj ((f us hx).symm.trans e4)
  subst e5
  have x3 : Ex F' (upd F' q (.tup [.int (i : Nat), z])) := .upd (w.fF hq)
  exact ⟨_, x3, w.newF hq _, .tup (.of upd_same) (.cons (.int _) (.cons (r2.mono x3) .nil))⟩
theorem di_enumL (hg : Gl X "enumerate") (hm : X.mg "enumerate" = none) (ha : DA X [e] tl) (hs : starEach [e] X.env = [(false, eval e X.env)] := by rfl) :
    DI X (.Tuple elts kk tpos) (.Call (.Name "enumerate" p) [e] [] pos) (iEnL tl) := by
  refine pi_weak (pi_enum hg hm ha hs) ?_
  rintro σ H R ⟨F, O, M, ss, R3, w, sl, q, k⟩
  refine ⟨F, O, M, ss, _, w, sl, q, ?_⟩
  intro vs H1 F1 M1 ts x1 w1 r1 q1
  split at q1
  · rename_i x
    cases r1 with
    | cons rx rn =>
    cases rn
    have sx := rx.sees w1
    split at q1
    · rename_i xs e1
      rw [e1] at sx
      cases sx with
      | lst hx px =>
      refine ⟨_, _, rfl, .of hx, k _ H1 F1 M1 _ x1 w1 (srcE (c := .lst) rfl rx ?_) q1⟩
      rintro F H v ys s
      cases s with
      | lst hx px => exact ⟨_, _, rfl, .of hx, px⟩
    · rename_i xs e1
      rw [e1] at sx
      cases sx with
      | scr hx px =>
      refine ⟨_, _, rfl, hx, k _ H1 F1 M1 _ x1 w1 (srcE (c := .scr) rfl rx ?_) q1⟩
      rintro F H v ys s
      cases s with
      | scr hx px => exact ⟨_, _, rfl, hx, px⟩
    · exact q1.elim
  · exact q1.elim
/-- zip of two tuples, of two lists that do not change any more -/
def zipT (xs ys : List T) : List T := List.zipWith (fun x y => T.tup [x, y]) xs ys
def iZip3 (tl : A3) : I3 := fun ss M R => tl ss M fun ts M1 => match ts with
  | [.tup xs, .tup ys] => R ⟨zipT xs ys, fun _ => True⟩ M1
  | [.lst xs, .lst ys] => R ⟨zipT xs ys, fun _ => True⟩ M1
  | _ => False
theorem zip_at {xs ys : List T} {i : Nat} {t : T} (h : (zipT xs ys)[i]? = some t) : ∃ x y, xs[i]? = some x ∧ ys[i]? = some y ∧ t = .tup [x, y] := by
  unfold zipT at h
  rw [List.getElem?_zipWith] at h
  split at h
  · rename_i x y e1 e2
    cases h
    exact ⟨x, y, e1, e2, rfl⟩
  · cases h
theorem di_zip (hg : Gl X "zip") (hm : X.mg "zip" = none) (ha : DA X [e, e2] tl) (hs : starEach [e, e2] X.env = (false, eval e X.env) :: starEach [e2] X.env := by rfl) (hpl : (backTo pos (starEach [e2] X.env)).any (·.1) = false := by rfl) :
    DI X (.Tuple elts kk tpos) (.Call (.Name "zip" p) [e, e2] [] pos) (iZip3 tl) := by
  refine pi_weak (RZ.pi_zipA hg hm ha hs hpl) ?_
  rintro σ H R ⟨F, O, M, ss, R3, w, sl, q, k⟩
  refine ⟨F, O, M, ss, _, w, sl, q, ?_⟩
  intro vs H1 F1 M1 ts x1 w1 r1 q1
  split at q1
  · rename_i xs ys
    cases r1 with
    | cons rx r1 =>
    cases r1 with
    | cons ry rn =>
    cases rn
    cases rx with
    | tup hx px =>
    cases ry with
    | tup hy py =>
    refine ⟨_, _, _, _, rfl, .inr ⟨w1.ex.sqT hx, w1.ex.sqT hy, k _ H1 F1 M1 _ x1 w1 ?_ q1⟩⟩
    intro F' O' H' M' x w2 _ i
    have hx' := w2.ex.sqT (x.sqT hx)
    have hy' := w2.ex.sqT (x.sqT hy)
    refine ⟨fun hl => ⟨_, _, hx', hy', ?_⟩, fun t' e => ?_⟩
    · have hl' : (zipT xs ys).length ≤ i := hl
      unfold zipT at hl'
      rw [List.length_zipWith] at hl'
      rw [px.length, py.length]
      omega
    · obtain ⟨t, u, e1, e2', rfl⟩ := zip_at e
      obtain ⟨a, e3, r3⟩ := px.get e1
      obtain ⟨b, e4, r4⟩ := py.get e2'
      refine ⟨⟨_, _, a, b, hx', hy', e3, e4⟩, ?_⟩
      rintro y H'' ⟨d, v, z, rfl, hd, rfl, f, g⟩
      have e5 := Option.some.inj ((f _ hx').symm.trans e3)
      have e6 := Option.some.inj ((g _ hy').symm.trans e4)
      subst e5
      subst e6
      have x3 : Ex F' (upd F' d (.tup [v, z])) := .upd (w2.fF hd)
      exact ⟨_, x3, w2.newF hd _, .tup (.of upd_same) (.cons ((r3.mono x).mono x3) (.cons ((r4.mono x).mono x3) .nil))⟩
  · rename_i xs ys
    cases r1 with
    | cons rx r1 =>
    cases r1 with
    | cons ry rn =>
    cases rn
    cases rx with
    | lst hx px =>
    cases ry with
    | lst hy py =>
    refine ⟨_, _, _, _, rfl, .inl ⟨.of (w1.ex _ _ hx), .of (w1.ex _ _ hy), k _ H1 F1 M1 _ x1 w1 ?_ q1⟩⟩
    intro F' O' H' M' x w2 _ i
    have hx' : SqL X.K H' _ _ := .of (w2.ex _ _ (x _ _ hx))
    have hy' : SqL X.K H' _ _ := .of (w2.ex _ _ (x _ _ hy))
    refine ⟨fun hl => ⟨_, _, hx', hy', ?_⟩, fun t' e => ?_⟩
    · have hl' : (zipT xs ys).length ≤ i := hl
      unfold zipT at hl'
      rw [List.length_zipWith] at hl'
      rw [px.length, py.length]
      omega
    · obtain ⟨t, u, e1, e2', rfl⟩ := zip_at e
      obtain ⟨a, e3, r3⟩ := px.get e1
      obtain ⟨b, e4, r4⟩ := py.get e2'
      refine ⟨⟨_, _, a, b, hx', hy', e3, e4⟩, ?_⟩
      rintro y H'' ⟨d, v, z, rfl, hd, rfl, f, g⟩
      have e5 := Option.some.inj ((f _ hx').symm.trans e3)
      have e6 := Option.some.inj ((g _ hy').symm.trans e4)
      subst e5
      subst e6
      have x3 : Ex F' (upd F' d (.tup [v, z])) := .upd (w2.fF hd)
      exact ⟨_, x3, w2.newF hd _, .tup (.of upd_same) (.cons ((r3.mono x).mono x3) (.cons ((r4.mono x).mono x3) .nil))⟩
  · exact q1.elim
end
end L3

set_option maxHeartbeats 1000000
/-! L3V: sets of texts: what stands in the heap, adding, sorted. -/
namespace L3
open PySem PySem.Spec PyProof.Rows L2 PySem.Froz
/-- a set of the texts l at a, in some order, that can be walked -/
def TxS (P : Program) (w : World) (h : Heap) (a : Addr) (l : List Str) : Prop := ∃ D : SD, h.get? a = some (sObj "set" D) ∧ TxOk P w D l ∧ l.Nodup ∧ L2.Ris D.2.2.place.toList ∧ (w.params.followText "set-order" = true ∨ D.2.2.led = true) ∧ ∀ e ∈ D.1.toList, ∃ z tk, e.2 = Value.str z tk
section
variable {P : Program} {w : World} {A : Around} {E : Value → Shared → Prop} {s : Shared} {a : Addr} {l : List Str}
theorem TxS.at {h h' : Heap} (t : TxS P w h a l) (k : ∀ o, h.get? a = some o → h'.get? a = some o) : TxS P w h' a l := let ⟨D, e, r⟩ := t; ⟨D, k _ e, r⟩
theorem txs_fresh {h : Heap} : TxS P w (h.push { cls := .type "set", dict := none, data := .set #[] 0 (.fresh 0 0 (!w.params.followText "set-order")) }) h.objs.size [] := by
  refine ⟨(#[], 0, .fresh 0 0 (!w.params.followText "set-order")), Heap.get?_push_size _ rfl, TxOk.nil rfl, List.nodup_nil, List.Pairwise.nil, ?_, fun e he => by simp at he⟩
  show _ ∨ (!w.params.followText "set-order") = true
  cases w.params.followText "set-order"
  · exact .inr rfl
  · exact .inl rfl
theorem tail_rise {ep : Nat} {es : Array (Int × Value)} {t : SetTable} {b : Bool} (r : L2.Ris t.place.toList) : L2.Ris (tailTx ep es t b).2.2.place.toList := by
  unfold tailTx
  split
  · exact L2.relayAll_ris t es _
  · exact r
theorem tail_led {ep : Nat} {es : Array (Int × Value)} {t : SetTable} {b : Bool} : (tailTx ep es t b).2.2.led = t.led := by
  unfold tailTx
  split
  · exact L2.relayAll_led t es _
  · rfl
theorem tail_mem {ep : Nat} {es : Array (Int × Value)} {t : SetTable} {b : Bool} {e : Int × Value} (h : e ∈ (tailTx ep es t b).1.toList) : e ∈ es.toList := by
  unfold tailTx at h
  split at h
  · exact (relayAll_perm t es _).mem_iff.mp h
  · exact h
/-- a new text is put into the set -/
theorem txs_new {k : Str} {u : Tok} {Q : Bool → Shared → Prop} (t : TxS P w s.heap a l) (hk : k ∉ l) (hb : l.length + 1 < scanBound) (q : ∀ h', Heap.SameBut a s.heap h' → TxS P w h' a (k :: l) → Q true { s with heap := h' }) :
    wpAny (model P w) A (setAddHashed a (.str k u) (hashStr w k)) Q E s := by
  obtain ⟨D, ho, F, nd, rs, ld, el⟩ := t
  refine add_x ho F hk hb (q _ (Heap.SameBut.update s.heap a _) ⟨addTx (hashStr w k) (.str k u) D, get_upd _ ho rfl, add_ok u F, List.nodup_cons.mpr ⟨hk, nd⟩, ?_, ?_, ?_⟩)
  · unfold addTx
    refine tail_rise ?_
    split <;> exact L2.layNew_ris _ _ _ _ rs
  · refine ld.imp id fun z => ?_
    unfold addTx
    rw [tail_led]
    split <;> exact (L2.layNew_led _ _ _ _).trans z
  · intro e he
    unfold addTx at he
    have h1 := (layNew_perm D.2.2 D.1 (hashStr w k) (.str k u)).mem_iff.mp (tail_mem he)
    rw [Array.toList_push] at h1
    rcases List.mem_append.mp h1 with h2 | h2
    · exact el e h2
    · rw [List.mem_singleton.mp h2]
      exact ⟨k, u, rfl⟩
/-- a text that is there already -/
theorem txs_old {k : Str} {u : Tok} {Q : Bool → Shared → Prop} (t : TxS P w s.heap a l) (hk : k ∈ l) (hb : l.length < scanBound) (q : Q false s) : wpAny (model P w) A (setAddHashed a (.str k u) (hashStr w k)) Q E s := by
  obtain ⟨⟨es, ep, tb⟩, ho, F, nd, rs, ld, el⟩ := t
  have dat : (sObj "set" (es, ep, tb)).data = .set es ep tb := rfl
  have fit : tb.fits es.size = true := F.fit
  have els : ElemsOf (strKind P w) es.toList := F.el
  have small : es.size < scanBound := Nat.lt_of_le_of_lt (Nat.le_of_eq F.sz) hb
  obtain ⟨e0, he0, hp0⟩ := (F.mem k).mp hk
  obtain ⟨j, hj⟩ : ∃ j, List.findIdx? (fun e => (strKind P w).is k e.2) es.toList = some j := by
    cases hr : List.findIdx? (fun e => (strKind P w).is k e.2) es.toList with
    | some j => exact ⟨j, rfl⟩
    | none =>
      have c := List.findIdx?_eq_none_iff.mp hr e0 he0
      rw [hp0] at c
      cases c
  unfold setAddHashed setAddHashedIn
  refine wpAny_holding (wpAny_bind (wpAny_setState_of ho dat fit ?_))
  dsimp only
  rw [byScan_of rfl small els]
  simp only [↓reduceIte]
  unfold setAddByScan
  refine wpAny_bind (wpAny_bind (wpAny_rule (wpAny_bind (wpAny_setScan_of (knd := strKind P w) (k := k) (is_str k u) ho dat fit els ?_))))
  rw [hj]
  exact wpAny_pure (wpAny_pure q)
/-- adding, whatever it is -/
theorem txs_add {k : Str} {u : Tok} {Q : Bool → Shared → Prop} (t : TxS P w s.heap a l) (hb : l.length + 1 < scanBound) (q : ∀ b h' l', Heap.SameBut a s.heap h' → TxS P w h' a l' → (∀ z, z ∈ l' ↔ z = k ∨ z ∈ l) → l'.length ≤ l.length + 1 → Q b { s with heap := h' }) :
    wpAny (model P w) A (setAddHashed a (.str k u) (hashStr w k)) Q E s := by
  by_cases hk : k ∈ l
  · exact txs_old t hk (Nat.lt_of_succ_lt hb) (q false s.heap l (Heap.SameBut.refl a s.heap) t (fun z => ⟨.inr, fun h => h.elim (fun e => e ▸ hk) id⟩) (Nat.le_succ _))
  · exact txs_new t hk hb fun h' sb t' => q true h' (k :: l) sb t' (fun z => List.mem_cons) (Nat.le_refl _)
theorem strs_vals : ∀ (vs : List Value), (∀ v ∈ vs, ∃ z tk, v = Value.str z tk) → ∃ zs : List Str, StrsAre vs zs
  | [], _ => ⟨[], .nil⟩
  | v :: r, h => by
    obtain ⟨z, tk, rfl⟩ := h v List.mem_cons_self
    obtain ⟨zs, hz⟩ := strs_vals r fun u hu => h u (List.mem_cons_of_mem _ hu)
    exact ⟨z :: zs, .cons z tk hz⟩
theorem perm_of_len {α : Type} [DecidableEq α] : ∀ {l m : List α}, l.Nodup → (∀ x ∈ l, x ∈ m) → m.length ≤ l.length → m.Perm l
  | [], m, _, _, h => by
    rw [List.length_nil] at h
    rw [List.length_eq_zero_iff.mp (Nat.le_zero.mp h)]
  | x :: r, m, nd, sub, h => by
    obtain ⟨hx, nr⟩ := List.nodup_cons.mp nd
    obtain ⟨m1, m2, rfl⟩ := List.append_of_mem (sub x List.mem_cons_self)
    have h2 : (m1 ++ m2).Perm r := perm_of_len nr (fun y hy => by
      have h3 := sub y (List.mem_cons_of_mem _ hy)
      rcases List.mem_append.mp h3 with h4 | h4
      · exact List.mem_append_left _ h4
      · rcases List.mem_cons.mp h4 with rfl | h5
        · exact absurd hy hx
        · exact List.mem_append_right _ h5) (by simp at h ⊢; omega)
    exact List.perm_middle.trans (h2.cons x)
theorem strs_mem {vs : List Value} {zs : List Str} (h : StrsAre vs zs) (z : Str) : z ∈ zs ↔ ∃ tk, Value.str z tk ∈ vs := by
  induction h with
  | nil => simp
  | cons x t _ ih =>
    rw [List.mem_cons, ih]
    constructor
    · rintro (rfl | ⟨tk, h⟩)
      · exact ⟨t, List.mem_cons_self⟩
      · exact ⟨tk, List.mem_cons_of_mem _ h⟩
    · rintro ⟨tk, h⟩
      rcases List.mem_cons.mp h with h | h
      · cases h
        exact .inl rfl
      · exact .inr ⟨tk, h⟩
/-- sorted(a) -/
theorem txs_sorted {Q : Value → Shared → Prop} (t : TxS P w s.heap a l) (hh : A.handled = none) (h64 : l.length < 1000)
    (q : ∀ s' p (out : Array Value) (c : Nat) (zs : List Str), (∀ b o, s.heap.get? b = some o → s'.heap.get? b = some o) → s'.gens = s.gens → s'.os = s.os → s.heap.objs.size ≤ p →
      s'.heap.get? p = some (seqObj "list" out c) → StrsAre out.toList zs → sortedS zs = true → zs.Perm l → zs.Nodup → Q (.ref p) s') :
    wpAny (model P w) A (call (.builtin "sorted") [.ref a]) Q E s := by
  obtain ⟨⟨es, ep, tb⟩, ho, F, nd, rs, ld, el⟩ := t
  have num : es.size = l.length := F.sz
  have small : es.size < scanBound := by unfold scanBound; omega
  refine Calls.call_function_entry kind_sorted plain_sorted entry_sorted (args_sorted1 _) ?_
  unfold Builtin.«sorted»
  refine wpAny_bind (m := checkCount "sorted" 1 1 _) (wpAny_pure ?_)
  refine wpAny_bind (L2.collect_set (A := A.in1) hh ⟨_, ho, rfl, rfl⟩ F.fit small rs ld fun s1 vs keep size gens os perm => ?_)
  have len : vs.length = l.length := by rw [perm.length_eq, List.length_map, Array.length_toList]; exact num
  have each : ∀ v ∈ vs, ∃ z tk, v = Value.str z tk := fun v hv => by
    obtain ⟨e, he, rfl⟩ := List.mem_map.mp (perm.mem_iff.mp hv)
    exact el e he
  obtain ⟨zs, hzs⟩ := strs_vals vs each
  have mem : ∀ z ∈ l, z ∈ zs := fun z hz => by
    obtain ⟨e, he, is⟩ := (F.mem z).mp hz
    obtain ⟨y, tk, ey⟩ := el e he
    rw [ey] at is
    have e2 := (strKind P w).inj (.str y tk) z y is (is_str y tk)
    subst e2
    exact (strs_mem hzs z).mpr ⟨tk, perm.mem_iff.mpr (List.mem_map.mpr ⟨e, he, ey⟩)⟩
  have pl : zs.Perm l := perm_of_len nd mem (by rw [← hzs.length, len]; exact Nat.le_refl _)
  have big : vs.length ≤ sizeLine := by rw [len, sizeLine_eq]; omega
  refine wpAny_bind (wpAny_newList ?_ big)
  have hoL : (s1.heap.push (seqObj "list" vs.toArray 0)).get? s1.heap.objs.size = some (seqObj "list" vs.toArray 0) := Heap.get?_push_size _ rfl
  refine wpAny_bind (wpAny_holding (wpAny_call_entry slot_list_sort ⟨_, hoL, rfl⟩ entry_list_sort (list_sort_treeKAny strKind_oneLt hoL hzs.keysOf (fun v₁ v₂ rest e => keyKind_strs (by rw [← e]; exact hzs)) big fun st' hp hs => ⟨_, rfl, ?_⟩) (args_list_sort _)))
  obtain ⟨ys, k1, k2, k3⟩ := sorted_out_str hzs hp hs
  obtain ⟨c, hc⟩ := sortedHeap_at (vs := vs) (out := (arrOf st').map (·.2)) hoL
  refine wpAny_pure ⟨_, rfl, q _ s1.heap.objs.size _ c ys (fun b u e => ?_) gens os size hc k1 k3 (k2.trans pl) ((k2.trans pl).nodup_iff.mpr nd)⟩
  have h1 := keep b u e
  have hlt := Heap.lt_size h1
  show (sortedHeap (s1.heap.push (seqObj "list" vs.toArray 0)) s1.heap.objs.size vs _).get? b = some u
  rw [sortedHeap_old (Nat.ne_of_lt hlt) (by rw [size_push']; exact Nat.lt_succ_of_lt hlt)]
  exact Heap.get?_push_of_some _ h1
end
end L3

set_option maxHeartbeats 2000000
/-! L3W: comprehensions that make a set of texts. -/
namespace L3
open PySem PySem.Spec PyProof.Rows L2 PySem.Froz
/-- the set of the texts l, as a tracked thing -/
def TxSO (P : Program) (w : World) (a : Addr) (l : List Str) : HO := .ext fun h => TxS P w h a l
theorem txso_ok {P : Program} {w : World} {H : Hp} {h : Heap} {a : Addr} {l : List Str} (t : TxS P w h a l) : ObjOk P w H h a (TxSO P w a l) :=
  ⟨t, let ⟨_, ho, _⟩ := t; ⟨_, ho⟩, fun _ _ p k => TxS.at p k⟩
section
variable {X : Cx}
theorem txso_get {pins : List (Addr × Obj)} {σ : L2.St} {H : Hp} {s : Shared} {a : Addr} {l : List Str} (I : Inv X pins σ H s) (ha : H a = some (TxSO X.prog X.w a l)) : TxS X.prog X.w s.heap a l := (I.hok a _ ha).1
/-- a.add(k) -/
theorem txso_add {pins : List (Addr × Obj)} {σ : L2.St} {H : Hp} {s : Shared} {E : Value → Shared → Prop} {D : Addr} {l : List Str} {k : Str} {u : Tok} {Q : Value → Shared → Prop} (I : Inv X pins σ H s) (hD : H D = some (TxSO X.prog X.w D l)) (room : l.length + 1 < scanBound)
    (q : ∀ s' l', (∀ z, z ∈ l' ↔ z = k ∨ z ∈ l) → l'.length ≤ l.length + 1 → Inv X pins σ (upd H D (TxSO X.prog X.w D l')) s' → Q .none s') : wpAny (model X.prog X.w) X.A (call (.builtin "set.add") [.ref D, .str k u]) Q E s := by
  have t := txso_get I hD
  obtain ⟨B, ho, _⟩ := id t
  refine wpAny_call_entry F.slot_set_add ⟨_, ho, rfl⟩ F.entry_set_add ?_ (F.args_set_add_2 _ _)
  unfold Builtin.«set.add» Builtin.Frozenset.oneOther
  simp only [List.isEmpty_nil, bind_assoc]
  unfold Builtin.Frozenset.addrOf setAdd
  refine wpAny_bind (wpAny_pure ?_)
  try dsimp only
  refine wpAny_bind (wpAny_pure ?_)
  try dsimp only
  refine wpAny_bind (wpAny_holding (wpAny_bind ((strKind X.prog X.w).pyHash (is_str k u) ?_)))
  refine txs_add (s := { s with toks := s.toks + 1 }) t room fun b h' l' sb new mem len => ?_
  show wpAny _ _ (ret Value.none) _ _ _
  have he : ∃ o, h'.get? D = some o := let ⟨_, e, _⟩ := new; ⟨_, e⟩
  exact wpAny_pure ⟨_, rfl, q _ l' mem len (I.write (e := D) (t' := s.toks + 1) (by rw [hD]; trivial) (.inl rfl) (fun c o hc ho => (sb.2 c hc).trans ho) he (txso_ok new))⟩
/-- sorted(a) -/
theorem cr_sortTx (hc : X.calm = true) : CallR X (.builtin "sorted") (fun vs H Q => ∃ (a : Addr) (l : List Str), vs = [V.ref a] ∧ H a = some (TxSO X.prog X.w a l) ∧ l.length < 1000 ∧ ∀ (zs : List Str) (p : Addr), sortedS zs = true → zs.Perm l → zs.Nodup → H p = none → Q (.ref p) (upd H p (.lst (zs.map V.str)))) := by
  intro pins s σ H vs us Q I r h
  obtain ⟨a, l, rfl, ha, hl, q⟩ := h
  rw [Vals.ref1 r]
  refine txs_sorted (txso_get I ha) (I.ok.hd hc) hl fun s' p out c zs keep gens os size at_ stx srt perm nd => ?_
  have hn : H p = none := I.hok.fresh size
  have len : (zs.map V.str).length ≤ sizeLine := by rw [List.length_map, perm.length_eq, sizeLine_eq]; omega
  have J : Inv X pins σ (upd H p (.lst (zs.map V.str))) { s with heap := s'.heap, gens := s'.gens, drawn := s'.drawn, toks := s'.toks } :=
    I.call (ch := []) (Un.laid keep size hn) (I.hok.laid keep size ⟨len, out.toList, c, vals_of_strs stx, at_⟩) (by rw [gens]; exact I.bare) (fun _ z => nomatch z)
  have same : s' = { s with heap := s'.heap, gens := s'.gens, drawn := s'.drawn, toks := s'.toks } := by
    cases s'
    cases os
    rfl
  rw [same]
  exact ⟨.ref p, _, J, rfl, q zs p srt perm nd hn⟩
end
end L3

set_option maxHeartbeats 2000000
/-! L3X: {e for ..} over texts. -/
namespace L3
open PySem PySem.Spec PyProof.Rows L2 PySem.Froz
def tScT (P : Program) (w : World) (wi : TI) (g : TG) (tt : TT) (te : TE) (vs : List Nat) : TE := fun σ H Q => wi σ H fun J H1 => ∀ D, H1 D = none → ∃ W : Nat → Nat → Hp → Prop, (∃ m, W 0 m (upd H1 D (TxSO P w D []))) ∧ ∀ i m H', W i m H' →
  (J.stop i H' ∧ Q (.ref D) H') ∨ (J.go i H' ∧ ∃ N : Hp → Prop, (∀ H2, N H2 → ∃ m', m' < m ∧ W (i + 1) m' H2) ∧ ∀ x H2, J.yld i H' x H2 → g x (wipe σ vs) H2 fun σ3 H3 => wipe σ3 vs = wipe σ vs ∧ tt σ3 H3 fun b H4 =>
    if b = true then te σ3 H4 fun y H5 => ∃ (z : Str) (l : List Str), y = .str z ∧ H5 D = some (TxSO P w D l) ∧ l.length + 1 < scanBound ∧ ∀ l' : List Str, (∀ x, x ∈ l' ↔ x = z ∨ x ∈ l) → l'.length ≤ l.length + 1 → N (upd H5 D (TxSO P w D l')) else N H4)
/-- behind a turn: the block stands as it did ahead of it -/
theorem blk_back {Y : Cx} {fp : List Addr} {σ8 σw : L2.St} {vs : List Nat} {H' : Hp} {s7 s' : Shared} {tn : Heap → Prop} (obj : ∀ b ∈ fp, ∃ o, s7.heap.get? b = some o) (keep : (∀ b ∈ fp, ∀ o, s7.heap.get? b = some o → s'.heap.get? b = some o) → tn s'.heap)
    (hw : wipe σ8 vs = σw) (I' : Inv Y ([] ++ pinsAt fp s7.heap) σ8 H' s') : Inv Y [] σw H' s' ∧ tn s'.heap ∧ ∀ b ∈ fp, H' b = none := by
  have pin : ∀ b ∈ fp, ∀ o, s7.heap.get? b = some o → s'.heap.get? b = some o ∧ H' b = none := fun b hb o e =>
    have z := I'.pin (b, o) (List.mem_append_right _ (List.mem_append_right _ (mem_pinsAt hb e)))
    ⟨z.1, z.2.1⟩
  refine ⟨(I'.unpinned (pins := [])).weak (by rw [← hw, wipe_length]) fun j v e => ?_, keep fun b hb o e => (pin b hb o e).1, fun b hb => ?_⟩
  · rw [← hw] at e
    exact (wipe_some e).1
  · obtain ⟨o, e⟩ := obj b hb
    exact (pin b hb o e).2
section
variable {X : Cx}
theorem pe_scT {elt tg iter : Expr} {ifs : List Expr} {scope : Scope} {own : List (Str × Nat)} {pos : Pos} {wi : TI} {g : TG} {tt : TT} {te : TE} (hc : X.calm = true) (hN : X.N.Nodup) (hi : PI X tg iter wi) (ok : BlkOk X.N X.env.scope scope own)
    (hg : ∀ (s : Shared) (H : Hp) (C : Addr) (cl : List (Str × Addr)) (fp : List Addr), PG (X.blk s H scope (compEnvC scope cl C X.env) fp) tg g) (ht : ∀ (s : Shared) (H : Hp) (C : Addr) (cl : List (Str × Addr)) (fp : List Addr), PTs (X.blk s H scope (compEnvC scope cl C X.env) fp) ifs tt)
    (he : ∀ (s : Shared) (H : Hp) (C : Addr) (cl : List (Str × Addr)) (fp : List Addr), PE (X.blk s H scope (compEnvC scope cl C X.env) fp) elt te) (hs : ∀ x, foldedSetIterable iter X.env x = pure x := by intro _; rfl) :
    PE X (.SetComp elt [⟨tg, iter, ifs, 0⟩] scope pos) (tScT X.prog X.w wi g tt te (own.map (·.2))) := by
  refine ⟨fun pins s σ H Q I h => ?_⟩
  rw [PpSet.eval_SetComp]
  have cells : ∀ y ∈ scope.names, y.2 = .free → ∃ c, X.env.cells.lookup y.1 = some c := fun y hy e =>
    (ok.free y hy e).elim (fun k => I.ok.has _ (.inl k)) fun k => I.ok.has _ (.inr k)
  refine wpAny_comprehension_free rfl hs (closure_ok cells) ok.kind (fun y hy e => by rw [ok.uniq y hy, e]) (thn (hi.run pins s σ H _ I h) fun xv s1 hx => thn hx fun itv s2 got => ?_)
  obtain ⟨it, fp, tn, J, H2, rfl, I2, T, st2, f2, q⟩ := got
  refine PpSet.newSet_ok (newEnv_comp ?_)
  have nD : H2 s2.heap.objs.size = none := I2.hok.fresh (Nat.le_refl _)
  obtain ⟨W, ⟨m0, w0⟩, turn⟩ := q _ nD
  have I3 := I2.laid (t' := s2.toks) (o := TxSO X.prog X.w s2.heap.objs.size []) (fun b o e => Heap.get?_push_of_some { cls := .type "set", dict := none, data := .set #[] 0 (.fresh 0 0 (!X.w.params.followText "set-order")) } e) (Nat.le_refl _) (txso_ok txs_fresh)
  generalize e3 : ({ s2 with heap := s2.heap.push { cls := .type "set", dict := none, data := .set #[] 0 (.fresh 0 0 (!X.w.params.followText "set-order")) } } : Shared) = s3 at I3 ⊢
  have grow : ∀ b o, s2.heap.get? b = some o → s3.heap.get? b = some o := fun b o e => by rw [← e3]; exact Heap.get?_push_of_some _ e
  have more : s2.heap.objs.size < s3.heap.objs.size := by rw [← e3]; show _ < (s2.heap.push _).objs.size; rw [Heap.size_push]; exact Nat.lt_succ_self _
  have low : ∀ b ∈ fp, b < s2.heap.objs.size := fun b hb => let ⟨_, e, _⟩ := T.obj _ _ st2 b hb; Heap.lt_size e
  generalize eD : s2.heap.objs.size = D at nD w0 turn I3 more low
  generalize eH : upd H2 D (TxSO X.prog X.w D []) = H3 at w0 I3
  have f3 : ∀ b ∈ fp, FpOk X pins H3 b ∧ b < s3.heap.objs.size := fun b hb => by
    refine ⟨⟨?_, (f2 b hb).2⟩, Nat.lt_trans (low b hb) more⟩
    rw [← eH, upd_ne (Nat.ne_of_lt (low b hb))]
    exact (f2 b hb).1
  have st3 : tn 0 s3.heap := T.keep _ _ _ st2 fun b _ o e => grow b o e
  have I4 := block_start I3 ok hN f3
  have pg := hg s3 H3 s3.heap.objs.size (cellsFrom (s3.heap.objs.size + 1) scope.names (cloFrom X.env.cells scope.names [])) fp
  have pt := ht s3 H3 s3.heap.objs.size (cellsFrom (s3.heap.objs.size + 1) scope.names (cloFrom X.env.cells scope.names [])) fp
  have pe := he s3 H3 s3.heap.objs.size (cellsFrom (s3.heap.objs.size + 1) scope.names (cloFrom X.env.cells scope.names [])) fp
  show codeAny _ _ (.compStart (.SetComp elt [⟨tg, iter, ifs, 0⟩] scope pos) 0 (.ref it) (.ref D) (compEnvC scope (cellsFrom (s3.heap.objs.size + 1) scope.names (cloFrom X.env.cells scope.names [])) s3.heap.objs.size X.env)) (compPost (model X.prog X.w) X.A X.xe none (EP X pins σ Q) (.ref D) s3.heap.objs.size) { s3 with heap := pushCells (s3.heap.push { cls := .type "dict", data := .dict #[] }) scope.names }
  generalize eC : compEnvC scope (cellsFrom (s3.heap.objs.size + 1) scope.names (cloFrom X.env.cells scope.names [])) s3.heap.objs.size X.env = cv at I4 pg pt pe ⊢
  have here : cv.locals = s3.heap.objs.size := by rw [← eC]; rfl
  generalize e4 : ({ s3 with heap := pushCells (s3.heap.push { cls := .type "dict", data := .dict #[] }) scope.names } : Shared) = s4 at I4 ⊢
  have st4 : tn 0 s4.heap := T.keep _ _ _ st3 fun b _ o e => by rw [← e4]; exact pushCells_keeps _ _ _ _ (Heap.get?_push_of_some _ e)
  have free : ∀ {σ' : L2.St} {H' : Hp} {s' : Shared}, Inv (X.blk s3 H3 scope cv fp) [] σ' H' s' → (∀ b ∈ fp, H' b = none) → ∀ b ∈ fp, FpOk (X.blk s3 H3 scope cv fp) [] H' b := fun {σ' H' s'} I' none_ b hb =>
    ⟨none_ b hb, (I'.ok.exf b hb).1, I'.ok.exfs b hb, .inl hb, fun x c e => (I'.ok.exf b hb).2 x c e, fun p hp => absurd (show p ∈ ([] : List (Addr × Obj)) ++ [] from hp) (by simp)⟩
  have loop : codeAny (model X.prog X.w) X.A (.compLoop (.SetComp elt [⟨tg, iter, ifs, 0⟩] scope pos) 0 (.ref it) (.ref D) cv) (compPost (model X.prog X.w) X.A X.xe none (EP X pins σ Q) (.ref D) s3.heap.objs.size) s4 := by
    refine PpSet.compLoopS_any (fun n s' => ∃ i H', Inv (X.blk s3 H3 scope cv fp) [] (wipe σ (own.map (·.2))) H' s' ∧ tn i s'.heap ∧ (∀ b ∈ fp, H' b = none) ∧ W i n H') ?_ m0 ⟨0, H3, I4, st4, fun b hb => (f3 b hb).1.1, w0⟩
    rintro n s5 ⟨i, H5, I5, st5, n5, w5⟩
    rcases turn i n H5 w5 with ⟨over, done⟩ | ⟨go, N, next, step⟩
    · refine thnF (T.done (X.blk s3 H3 scope cv fp) rfl rfl rfl hc i [] s5 _ H5 (fun _ _ => False) I5 (free I5 n5) st5 over) fun r s6 ⟨hr, I6⟩ => ?_
      subst hr
      have I7 : Inv X pins σ H5 s6 := I3.call' (ch := fp) I6.os I6.base I6.hok I6.bare fun b hb => ⟨(f3 b hb).1.2.2.2.1, (f3 b hb).1.2.1, (f3 b hb).1.2.2.2.2.1, (f3 b hb).1.2.2.2.2.2⟩
      have nC : H5 s3.heap.objs.size = none := here ▸ I6.free
      obtain ⟨m, ns, _⟩ := I6.loc
      have ns' : s6.heap.Ns s3.heap.objs.size m := here ▸ ns
      obtain ⟨_, f1, f2', f3', f4', f5'⟩ := I3.fpOk (Nat.le_refl s3.heap.objs.size) (I3.hok.fresh (Nat.le_refl _))
      exact ⟨m, ns', fun h'' sb => ⟨.ref D, H5, I7.turned (t' := s6.toks) (fun b o hb e => (sb.2 b hb).trans e) nC f1 f3' f4' f5', rfl, done⟩⟩
    · refine thnF (T.item (X.blk s3 H3 scope cv fp) rfl rfl rfl hc i [] s5 _ H5 (fun _ _ => False) I5 (free I5 n5) st5 go) fun r s6 ⟨u, hr, h6⟩ => ?_
      subst hr
      refine thnF h6 fun _ s7 ⟨x, H7, I7, r7, y7, st7, n7⟩ => ?_
      refine thnF (pg.run _ s7 _ H7 x u _ (I7.pinned (free I7 n7) (T.obj _ _ st7)) r7 (step x H7 y7)) fun _ s8 ⟨σ8, H8, I8, hw8, q8⟩ => ?_
      refine thnF (pt.run _ s8 σ8 H8 _ I8 q8) fun b s9 ⟨H9, I9, q9⟩ => ?_
      have fin : ∀ {s' : Shared} {H' : Hp}, Inv (X.blk s3 H3 scope cv fp) ([] ++ pinsAt fp s7.heap) σ8 H' s' → N H' → ∃ m, m < n ∧ ∃ i H', Inv (X.blk s3 H3 scope cv fp) [] (wipe σ (own.map (·.2))) H' s' ∧ tn i s'.heap ∧ (∀ b ∈ fp, H' b = none) ∧ W i m H' := fun {s' H'} I' nx => by
        obtain ⟨m', less, w'⟩ := next H' nx
        obtain ⟨J', t', z'⟩ := blk_back (tn := tn (i + 1)) (fun b hb => let ⟨o, e, _⟩ := T.obj _ _ st7 b hb; ⟨o, e⟩) (fun kp => T.keep _ _ _ st7 kp) hw8 I'
        exact ⟨m', less, i + 1, H', J', t', z', w'⟩
      cases b with
      | false =>
        simp only [Bool.false_eq_true, if_false] at q9 ⊢
        exact fin I9 q9
      | true =>
        simp only [if_true] at q9 ⊢
        refine thnF (pe.run _ s9 σ8 H9 _ I9 q9) fun v s10 ⟨yv, H10, I10, r10, z, l, ey, there, room, put⟩ => ?_
        subst ey
        obtain ⟨tk, rfl⟩ := r10
        exact txso_add (X := X.blk s3 H3 scope cv fp) I10 there room fun s11 l' mem len I11 => fin I11 (put l' mem len)
  exact PpSet.codeAny_compStart_set loop (T.self X.A 0 _ _ _ st4 loop)
end
end L3

set_option maxHeartbeats 2000000
/-! L3Y: sorted({e for ..}) over texts. -/
namespace L3
open PySem PySem.Spec PyProof.Rows L2
/-- an element that is a text -/
def dStrE (te : E3) : E3 := fun ss M Q => te ss M fun t M1 => (∃ z, t = .str z) ∧ Q t M1
/-- what sorted gives of a set of the texts bs -/
def finSet (acc : List T) (Q : QE) (M : Mp) : Prop := ∃ bs : List Str, acc = bs.map T.str ∧ ∀ zs : List Str, sortedS zs = true → zs.Nodup → (∀ z, z ∈ zs ↔ z ∈ bs) → Q (.lst (zs.map T.str)) M
def dSortC (w3 : I3) (P : Pat) (tt : T3) (te : E3) (vs : List Nat) : E3 := fun ss M Q => w3 ss M fun S M1 => S.xs.length < 900 ∧ compL S.ok P tt (dStrE te) vs ss (fun acc M2 => finSet acc Q M2) S.xs [] M1
section
variable {X : Cx} {K : PySem.W.Frag} {w3 : I3} {P : Pat} {tt : T3} {te : E3}
theorem wipe_twice (σ : L2.St) (vs : List Nat) : wipe (wipe σ vs) vs = wipe σ vs := by
  have aux : ∀ us : List Nat, (∀ i ∈ us, i ∈ vs) → wipe (wipe σ us) vs = wipe σ vs := by
    intro us
    induction us with
    | nil => intro _; rfl
    | cons u us ih =>
      intro h
      show wipe ((wipe σ us).set u none) vs = wipe σ vs
      rw [wipe_set (h u List.mem_cons_self)]
      exact ih fun j hj => h j (List.mem_cons_of_mem _ hj)
  exact aux vs fun _ h => h
theorem lift_sortC {Pr : Program} {wo : World} {vs : List Nat} (hP : ∀ i ∈ P.ixs, i ∈ vs) {σ : L2.St} {H : Hp} {Q : VK} (h : liftE K (dSortC w3 P tt te vs) σ H Q) :
    tScT Pr wo (liftI K w3) (P.gV K) (liftT K tt) (liftE K te) vs σ H fun x H1 => ∃ (a : Addr) (l : List Str), [x] = [V.ref a] ∧ H1 a = some (TxSO Pr wo a l) ∧ l.length < 1000 ∧ ∀ (zs : List Str) (p : Addr), sortedS zs = true → zs.Perm l → zs.Nodup → H1 p = none → Q (.ref p) (upd H1 p (.lst (zs.map V.str))) := by
  obtain ⟨F, O, M, ss, Q3, w, sl, q, k⟩ := h
  refine ⟨F, O, M, ss, _, w, sl, q, ?_⟩
  rintro J H1 F1 M1 S x1 w1 so ⟨few, q1⟩ D hD
  have hO := w1.fO hD
  refine ⟨fun i m H' => m = S.xs.length - i ∧ i ≤ S.xs.length ∧ ∃ F' M' l acc, Ex F1 F' ∧ Wd K F' (upd O D (TxSO Pr wo D l)) H' M' ∧ l.length ≤ i ∧ (∀ z : Str, z ∈ l ↔ T.str z ∈ acc) ∧
    compL S.ok P tt (dStrE te) vs ss (fun acc M2 => finSet acc Q3 M2) (S.xs.drop i) acc M', ⟨S.xs.length, rfl, Nat.zero_le _, F1, M1, [], [], .refl, w1.keepO hD, Nat.le_refl _, fun z => by simp, q1⟩, ?_⟩
  rintro i m H' ⟨rfl, hi, F', M', l, acc, x2, w2, ll, lm, q2⟩
  by_cases hl : i < S.xs.length
  · rw [List.drop_eq_getElem_cons hl] at q2
    obtain ⟨ok, q2⟩ := q2
    obtain ⟨_, hgo⟩ := so F' _ H' M' x2 w2 ok i
    obtain ⟨go, hy⟩ := hgo _ (List.getElem?_eq_getElem hl)
    refine .inr ⟨go, fun H' => ∃ F' M' l acc, Ex F1 F' ∧ Wd K F' (upd O D (TxSO Pr wo D l)) H' M' ∧ l.length ≤ i + 1 ∧ (∀ z : Str, z ∈ l ↔ T.str z ∈ acc) ∧ compL S.ok P tt (dStrE te) vs ss (fun acc M2 => finSet acc Q3 M2) (S.xs.drop (i + 1)) acc M', ?_, ?_⟩
    · rintro H'' hN
      exact ⟨S.xs.length - (i + 1), by omega, rfl, hl, hN⟩
    · intro x H'' y
      obtain ⟨F'', x3, w3', r3⟩ := hy x H'' y
      split at q2
      · rename_i ss2 e
        refine Pat.run w3' (ws := vs) r3 ((sl.mono (x1.trans (x2.trans x3))).wipe vs) e fun σ2 sl3 hw => ?_
        refine ⟨(hw hP).trans (wipe_twice σ vs), F'', _, M', ss2, _, w3', sl3, q2, ?_⟩
        intro b H3 F3 M3 x4 w4 q4
        cases b with
        | true =>
          rw [if_pos rfl]
          refine ⟨F3, _, M3, ss2, _, w4, sl3.mono x4, q4, ?_⟩
          rintro v H4 F4 M4 t x5 w5 r5 ⟨⟨z, rfl⟩, q5⟩
          cases r5
          refine ⟨z, l, rfl, (w5.oth D _ upd_same).1, by unfold scanBound; omega, fun l' mem len => ?_⟩
          refine ⟨F4, M4, l', acc ++ [.str z], x2.trans (x3.trans (x4.trans x5)), w5.turnO, by omega, fun y => ?_, q5.2⟩
          rw [mem, List.mem_append, List.mem_singleton, lm]
          constructor
          · rintro (rfl | h)
            · exact .inr rfl
            · exact .inl h
          · rintro (h | h)
            · exact .inr h
            · cases h
              exact .inl rfl
        | false =>
          rw [if_neg Bool.false_ne_true]
          exact ⟨F3, M3, l, acc, x2.trans (x3.trans x4), w4, by omega, lm, q4⟩
      · exact q2.elim
  · rw [List.drop_of_length_le (by omega)] at q2
    obtain ⟨ok, bs, rfl, q2⟩ := q2
    obtain ⟨hst, _⟩ := so F' _ H' M' x2 w2 ok i
    refine .inl ⟨hst (by omega), D, l, rfl, (w2.oth D _ upd_same).1, by omega, fun zs p srt perm nd hp => ?_⟩
    have hz := q2 zs srt nd fun z => by rw [perm.mem_iff, lm]; simp
    have w4 := w2.freeO hO
    exact fin_new w4 (k.mono (x1.trans (x2.trans (Ex.upd (w2.oth D _ upd_same).2)))) (fun F2 p x e => .lst e (Reps.of_strs zs)) hz p hp
theorem d_sortC {elt tg iter : Expr} {ifs : List Expr} {scope : Scope} {p pos pos' : Pos} (own : List (Str × Nat)) (hc : X.calm = true) (hN : X.N.Nodup) (hG : Gl X "sorted") (hm : X.mg "sorted" = none) (hi : DI X tg iter w3) (ok : blkC X.N X.env.scope scope own = true)
    (hg : ∀ (s : Shared) (H : Hp) (C : Addr) (cl : List (Str × Addr)) (fp : List Addr), DG (X.blk s H scope (compEnvC scope cl C X.env) fp) tg P)
    (ht : ∀ (s : Shared) (H : Hp) (C : Addr) (cl : List (Str × Addr)) (fp : List Addr), DTs (X.blk s H scope (compEnvC scope cl C X.env) fp) ifs tt)
    (he : ∀ (s : Shared) (H : Hp) (C : Addr) (cl : List (Str × Addr)) (fp : List Addr), DE (X.blk s H scope (compEnvC scope cl C X.env) fp) elt te)
    (hP : ∀ i ∈ P.ixs, i ∈ own.map (·.2) := by decide) (hs : ∀ x, foldedSetIterable iter X.env x = pure x := by intro _; rfl)
    (hst : starEach [.SetComp elt [⟨tg, iter, ifs, 0⟩] scope pos'] X.env = (false, eval (.SetComp elt [⟨tg, iter, ifs, 0⟩] scope pos') X.env) :: starEach [] X.env := by rfl) :
    DE X (.Call (.Name "sorted" p) [.SetComp elt [⟨tg, iter, ifs, 0⟩] scope pos'] [] pos) (dSortC w3 P tt te (own.map (·.2))) :=
  pe_weak (pe_callB (cr_sortTx hc) hG hm (by decide +kernel) (pa_cons (pe_scT hc hN hi (blkOk_by ok) hg ht he hs) pa_nil hst) (he := hst)) fun _ _ _ h => lift_sortC hP h
end
end L3

set_option maxHeartbeats 1000000
/-! L3Z: results that are left to the caller for good; parts below parts, all of them, leaves, as functions. -/
namespace L3
open PySem PySem.Spec PyProof.Rows L2
def SubM (M0 M : Mp) : Prop := ∀ a m, M0 a = some m → M a = some m
theorem SubM.refl {M : Mp} : SubM M M := fun _ _ h => h
theorem SubM.trans {A B C : Mp} (h : SubM A B) (k : SubM B C) : SubM A C := fun a m e => k a m (h a m e)
theorem SubM.mset {M0 M : Mp} {p : Addr} {o : MO} (h : SubM M0 M) (n : M0 p = none) : SubM M0 (L3.mset M p o) := fun a m e => by
  rw [mset_ne (show a ≠ p from fun z => by rw [z, n] at e; cases e)]
  exact h a m e
theorem SubM.new {M : Mp} {p : Addr} {o : MO} (n : M p = none) : SubM M (L3.mset M p o) := SubM.refl.mset n
theorem Wd.less {K : PySem.W.Frag} {F O H : Hp} {M M0 : Mp} (w : Wd K F O H M) (h : SubM M0 M) : Wd K F O H M0 := ⟨w.sub, w.oth, fun a m e => w.mo a m (h a m e)⟩
/-- what is wanted of a result whose list or dict is left to the caller for good -/
inductive Fz (Q : QE) : QE
  | same {t : T} {M M0 : Mp} : SubM M0 M → Q t M0 → Fz Q t M
  | lst {p : Addr} {xs : List T} {M M0 : Mp} : M p = some (.lst xs) → SubM M0 M → M0 p = none → Q (.lst xs) M0 → Fz Q (.raw (.ref p)) M
  | dct {p : Addr} {kvs : List (Key × T)} {M M0 : Mp} : M p = some (.dct kvs) → SubM M0 M → M0 p = none → Q (.dic kvs) M0 → Fz Q (.raw (.ref p)) M
theorem lkv_fz {K : PySem.W.Frag} {F O : Hp} {Q3 : QE} {Q : VK} (h : LkV K F O Q3 Q) : LkV K F O (Fz Q3) Q := by
  intro v H' F' M' t x w r q
  cases q with
  | same s q => exact h v H' F' _ t x (w.less s) r q
  | @lst p xs _ M0 e s n q =>
    cases r
    obtain ⟨f0, _, o, e2, ro⟩ := w.mo p _ e
    cases ro with
    | lst rl =>
    have w2 := (w.freeze e e2).less (M0 := M0) fun a m ea => by
      unfold mdel
      rw [if_neg (fun z => by rw [z, n] at ea; cases ea)]
      exact s a m ea
    exact h _ H' _ _ _ (x.trans (.upd f0)) w2 (.lst upd_same (rl.mono (.upd f0))) q
  | @dct p kvs _ M0 e s n q =>
    cases r
    obtain ⟨f0, _, o, e2, ro⟩ := w.mo p _ e
    cases ro with
    | dct rl =>
    have w2 := (w.freeze e e2).less (M0 := M0) fun a m ea => by
      unfold mdel
      rw [if_neg (fun z => by rw [z, n] at ea; cases ea)]
      exact s a m ea
    exact h _ H' _ _ _ (x.trans (.upd f0)) w2 (.dic upd_same (rl.mono (.upd f0))) q
/-- okD, the result left to the caller -/
theorem okF {P : Program} {w : World} {K : PySem.W.Frag} {mg : Str → Option Value} {base : Heap} {x qual : Str} {st : Stmt} {f : Addr}
    {fd : FuncData} {N ps : List Str} {k : Nat} {sp : Sp3} (F : Fun K x qual st f fd) (S : FnScope N ps (defScope st))
    (len : ∀ ts M Q, sp ts M Q → ts.length = ps.length)
    (hbody : ∀ (cdv : Value) (A : Around) (outer : List Env) (s : Shared) (H : Hp) (E : XK),
      Room k (A.deeper (envOfC qual (defScope st) s.heap.objs.size f cdv)) → (A.deeper (envOfC qual (defScope st) s.heap.objs.size f cdv)).guards = some [] →
      ∃ t : S3, DSs (cxOf CX0 P w K mg base N qual (defScope st) f cdv A outer s H E).nox (defBody st) t ∧
        ∀ (ts : List T) (M : Mp) (Q : QE), sp ts M Q → t { nx := fun _ M' => Fz Q .non M', rt := Fz Q } (start3 N ts) M) :
    FnD P w K mg base (k + 1) f fd ps sp := by
  have h : FnD P w K mg base (k + 1) f fd ps (fun ts M Q' => ∃ Q, sp ts M Q ∧ Q' = Fz Q) := by
    refine okD F S ?_ fun cdv A outer s H E hr hg => ?_
    · rintro ts M Q ⟨Q0, h, _⟩
      exact len ts M Q0 h
    · obtain ⟨t, ht, hq⟩ := hbody cdv A outer s H E hr hg
      refine ⟨t, ht, ?_⟩
      rintro ts M Q ⟨Q0, h, rfl⟩
      exact hq ts M Q0 h
  refine FnG.imp h ?_
  rintro vs H Q E ⟨F, O, M, ts, Q3, w, r, h, lk⟩
  exact ⟨F, O, M, ts, Fz Q3, w, r, ⟨Q3, h, rfl⟩, lkv_fz lk⟩

theorem flatMap_congr {α β : Type} {f g : α → List β} : ∀ {xs : List α}, (∀ x ∈ xs, f x = g x) → xs.flatMap f = xs.flatMap g
  | [], _ => rfl
  | x :: xs, h => by rw [List.flatMap_cons, List.flatMap_cons, h x List.mem_cons_self, flatMap_congr fun y hy => h y (List.mem_cons_of_mem _ hy)]
/-! ### parts below a part -/
/-- the parts straight below a part, with their places in it -/
def kids : T → List (List Nat × T)
  | .tup [.str w, x] => if w = "not" then [([1], x)] else if w = "exists" then (match x with | .tup [_, y] => [([1, 1], y)] | _ => []) else []
  | .tup [.str w, x, y] => if w = "plus" ∨ w = "is" then [([1], x)] else if w = "only" ∨ w = "first" then (match x with | .tup [_, c] => [([1, 1], c), ([2], y)] | _ => []) else if w = "column" then [] else [([1], x), ([2], y)]
  | _ => []
section
variable {n : Nat} {p x y v o : T} {w a b : Str}
theorem kids_col : kids (.tup [.str "column", x, y]) = [] := by unfold kids; dsimp only; rw [if_neg (by decide), if_neg (by decide), if_pos rfl]
theorem kids_val : kids (.tup [.str "value", v]) = [] := by unfold kids; dsimp only; rw [if_neg (by decide), if_neg (by decide)]
theorem kids_not : kids (.tup [.str "not", x]) = [([1], x)] := by unfold kids; dsimp only; rw [if_pos rfl]
theorem kids_exists : kids (.tup [.str "exists", .tup [o, x]]) = [([1, 1], x)] := by unfold kids; dsimp only; rw [if_neg (by decide), if_pos rfl]
theorem kids_plus (h : w = "plus" ∨ w = "is") : kids (.tup [.str w, x, y]) = [([1], x)] := by unfold kids; dsimp only; rw [if_pos h]
theorem kids_only (h : w = "only" ∨ w = "first") : kids (.tup [.str w, .tup [o, x], y]) = [([1, 1], x), ([2], y)] := by
  unfold kids; dsimp only; rw [if_neg (by rcases h with rfl | rfl <;> decide), if_pos h]
theorem kids_two (h : w = "less" ∨ w = "most" ∨ w = "same" ∨ w = "and" ∨ w = "or") : kids (.tup [.str w, x, y]) = [([1], x), ([2], y)] := by
  unfold kids; dsimp only; rw [if_neg (by rcases h with rfl | rfl | rfl | rfl | rfl <;> decide), if_neg (by rcases h with rfl | rfl | rfl | rfl | rfl <;> decide), if_neg (by rcases h with rfl | rfl | rfl | rfl | rfl <;> decide)]
/-- what holds of the parts below -/
structure KidsOk (n : Nat) (p : T) : Prop where
  few : (kids p).length ≤ 2
  each : ∀ x ∈ kids p, ∃ m, n = m + 1 ∧ x.1.length ≤ 2 ∧ x.1 ≠ [] ∧ Hole (Part n) p x.1 m x.2
  apart : ∀ x ∈ kids p, ∀ y ∈ kids p, ∀ r s, x.1 ++ r = y.1 ++ s → x = y
theorem Part.kidsOk (h : Part n p) : KidsOk n p := by
  have one : ∀ {n : Nat} {p z : T} {l : List Nat}, kids p = [(l, z)] → l.length ≤ 2 → l ≠ [] → Hole (Part (n + 1)) p l n z → KidsOk (n + 1) p := by
    intro n p z l e h1 h2 h3
    refine ⟨by rw [e]; exact Nat.le_succ _, fun x hx => ?_, fun x hx y hy _ _ _ => ?_⟩
    · rw [e, List.mem_singleton] at hx
      subst hx
      exact ⟨n, rfl, h1, h2, h3⟩
    · rw [e, List.mem_singleton] at hx hy
      rw [hx, hy]
  have two : ∀ {n : Nat} {p y z : T} {l : List Nat}, kids p = [(l, y), ([2], z)] → l.length ≤ 2 → l.head? = some 1 → Hole (Part (n + 1)) p l n y → Hole (Part (n + 1)) p [2] n z → KidsOk (n + 1) p := by
    intro n p u z l e h1 h2 h3 h4
    have hl : l ≠ [] := fun e => by rw [e] at h2; cases h2
    refine ⟨by rw [e]; exact Nat.le_refl _, fun x hx => ?_, fun x hx y hy r s q => ?_⟩
    · rw [e] at hx
      simp only [List.mem_cons, List.not_mem_nil, or_false] at hx
      rcases hx with rfl | rfl
      · exact ⟨n, rfl, h1, hl, h3⟩
      · exact ⟨n, rfl, Nat.le_succ _, by simp, h4⟩
    · rw [e] at hx hy
      simp only [List.mem_cons, List.not_mem_nil, or_false] at hx hy
      obtain ⟨i, l', rfl⟩ : ∃ i l', l = i :: l' := by
        cases l with
        | nil => exact absurd rfl hl
        | cons i l' => exact ⟨i, l', rfl⟩
      cases h2
      rcases hx with rfl | rfl <;> rcases hy with rfl | rfl
      · rfl
      · cases q
      · cases q
      · rfl
  have none_ : ∀ {n : Nat} {p : T}, kids p = [] → KidsOk n p := by
    intro n p e
    refine ⟨by rw [e]; exact Nat.zero_le _, fun x hx => ?_, fun x hx => ?_⟩ <;> (rw [e] at hx; cases hx)
  cases h with
  | col ha hb => exact none_ kids_col
  | val hv => exact none_ kids_val
  | plus hw hx hv => exact one (kids_plus hw) (by decide) (by simp) (hole_plus hw hx hv)
  | not hx => exact one kids_not (by decide) (by simp) (hole_not hx)
  | two hw hx hy => exact two (kids_two hw) (by decide) rfl (hole_two1 hw hx hy) (hole_two2 hw hx hy)
  | «exists» ho hx => exact one kids_exists (by decide) (by simp) (hole_ex ho hx)
  | only hw ho hx hy => exact two (kids_only hw) (by decide) rfl (hole_on1 hw ho hx hy) (hole_on2 hw ho hx hy)
/-- a part and all below it, with their places behind l -/
def allP : Nat → List Nat → T → List (List Nat × T)
  | 0, l, t => [(l, t)]
  | n + 1, l, t => (l, t) :: (kids t).flatMap fun x => allP n (l ++ x.1) x.2
theorem allP_step : ∀ {n : Nat} {p : T}, Part n p → ∀ l, allP n l p = (l, p) :: (kids p).flatMap fun x => allP n (l ++ x.1) x.2 := by
  have mono : ∀ {n : Nat} {p : T}, Part n p → ∀ l, allP (n + 1) l p = allP n l p := by
    intro n
    induction n with
    | zero =>
      intro p h l
      have e : kids p = [] := by
        cases hk : kids p with
        | nil => rfl
        | cons x r =>
          obtain ⟨m, e, _⟩ := h.kidsOk.each x (by rw [hk]; exact List.mem_cons_self)
          cases e
      rw [allP, allP, e]
      rfl
    | succ n ih =>
      intro p h l
      rw [allP, allP]
      congr 1
      refine flatMap_congr fun x hx => ?_
      obtain ⟨m, e, _, _, hh⟩ := h.kidsOk.each x hx
      cases e
      exact ih hh.part _
  intro n p h l
  rw [← mono h l, allP]
theorem allP_len {n : Nat} : ∀ {p : T}, Part n p → ∀ l, (allP n l p).length ≤ cntP n := by
  induction n with
  | zero => intro p h l; rw [allP]; exact Nat.le_refl _
  | succ n ih =>
    intro p h l
    have k := h.kidsOk
    have f1 : ∀ x ∈ kids p, (allP n (l ++ x.1) x.2).length ≤ cntP n := fun x hx => by
      obtain ⟨m, e, _, _, hh⟩ := k.each x hx
      cases e
      exact ih hh.part _
    rw [allP, List.length_cons, cntP]
    have hf := k.few
    generalize kids p = ks at hf f1
    match ks, hf, f1 with
    | [], _, _ => simp
    | [x], _, f1 => have := f1 x List.mem_cons_self; simp; omega
    | [x, y], _, f1 =>
      have h1 := f1 x List.mem_cons_self
      have h2 := f1 y (by simp)
      simp
      omega
theorem allP_pos {n : Nat} {l : List Nat} {p : T} : 0 < (allP n l p).length := by cases n <;> rw [allP] <;> simp
theorem allP_shift : ∀ {n : Nat} {p : T} (l : List Nat), allP n l p = (allP n [] p).map fun x => (l ++ x.1, x.2) := by
  intro n
  induction n with
  | zero => intro p l; rw [allP, allP]; simp
  | succ n ih =>
    intro p l
    rw [allP, allP, List.map_cons, List.append_nil]
    congr 1
    rw [List.map_flatMap]
    refine flatMap_congr fun x _ => ?_
    rw [ih (l ++ x.1), ih ([] ++ x.1), List.map_map]
    refine List.map_congr_left fun y _ => ?_
    show (l ++ x.1 ++ y.1, y.2) = (l ++ ([] ++ x.1 ++ y.1), y.2)
    rw [List.nil_append, List.append_assoc]
theorem allP_at {n : Nat} : ∀ {p : T}, Part n p → ∀ {l : List Nat} {x : List Nat × T}, x ∈ allP n l p → ∃ r m, x.1 = l ++ r ∧ r.length ≤ 2 * n ∧ Hole (Part n) p r m x.2 := by
  induction n with
  | zero =>
    intro p h l x hx
    rw [allP, List.mem_singleton] at hx
    subst hx
    exact ⟨[], 0, by simp, Nat.le_refl _, Hole.root h⟩
  | succ n ih =>
    intro p h l x hx
    rw [allP, List.mem_cons] at hx
    rcases hx with rfl | hx
    · exact ⟨[], _, by simp, Nat.zero_le _, Hole.root h⟩
    · obtain ⟨y, hy, hx⟩ := List.mem_flatMap.mp hx
      obtain ⟨m, e, h1, _, hh⟩ := h.kidsOk.each y hy
      cases e
      obtain ⟨r, k, e1, e2, h2⟩ := ih hh.part hx
      exact ⟨y.1 ++ r, k, by rw [e1, List.append_assoc], by rw [List.length_append]; omega, hh.trans h2⟩
/-! ### leaves -/
def joinW : T → Bool
  | .tup (.str w :: _) => decide (w = "not") || decide (w = "and") || decide (w = "or")
  | _ => false
/-- the leaves of a condition, with their places behind l -/
def lvP : Nat → List Nat → T → List (List Nat × T)
  | 0, l, t => [(l, t)]
  | n + 1, l, t => if joinW t then (kids t).flatMap fun x => lvP n (l ++ x.1) x.2 else [(l, t)]
theorem join_kids {n : Nat} (h : Part n p) (j : joinW p = true) : ∃ m, n = m + 1 := by
  cases h with
  | col _ _ => exact absurd j (by simp only [joinW]; decide)
  | val _ => exact absurd j (by simp only [joinW]; decide)
  | plus => exact ⟨_, rfl⟩
  | not => exact ⟨_, rfl⟩
  | two => exact ⟨_, rfl⟩
  | «exists» => exact ⟨_, rfl⟩
  | only => exact ⟨_, rfl⟩
theorem lvP_step : ∀ {n : Nat} {p : T}, Part n p → ∀ l, lvP n l p = if joinW p then (kids p).flatMap fun x => lvP n (l ++ x.1) x.2 else [(l, p)] := by
  have mono : ∀ {n : Nat} {p : T}, Part n p → ∀ l, lvP (n + 1) l p = lvP n l p := by
    intro n
    induction n with
    | zero =>
      intro p h l
      have e : joinW p = false := by
        cases hj : joinW p with
        | false => rfl
        | true =>
          obtain ⟨m, e⟩ := join_kids h hj
          cases e
      rw [lvP, lvP, e]
      rfl
    | succ n ih =>
      intro p h l
      rw [lvP, lvP]
      by_cases hj : joinW p = true
      · rw [if_pos hj, if_pos hj]
        refine flatMap_congr fun x hx => ?_
        obtain ⟨m, e, _, _, hh⟩ := h.kidsOk.each x hx
        cases e
        exact ih hh.part _
      · rw [if_neg hj, if_neg hj]
  intro n p h l
  rw [← mono h l, lvP]
theorem lvP_len {n : Nat} : ∀ {p : T}, Part n p → ∀ l, (lvP n l p).length ≤ cntP n := by
  induction n with
  | zero => intro p h l; rw [lvP]; exact Nat.le_refl _
  | succ n ih =>
    intro p h l
    have k := h.kidsOk
    have f1 : ∀ x ∈ kids p, (lvP n (l ++ x.1) x.2).length ≤ cntP n := fun x hx => by
      obtain ⟨m, e, _, _, hh⟩ := k.each x hx
      cases e
      exact ih hh.part _
    rw [lvP, cntP]
    split
    · have hf := k.few
      generalize kids p = ks at hf f1
      match ks, hf, f1 with
      | [], _, _ => simp
      | [x], _, f1 => have := f1 x List.mem_cons_self; simp; omega
      | [x, y], _, f1 =>
        have h1 := f1 x List.mem_cons_self
        have h2 := f1 y (by simp)
        simp
        omega
    · simp
theorem allP_mono {n m : Nat} (h : Part m p) (l : m ≤ n) : ∀ q, allP n q p = allP m q p := by
  induction l with
  | refl => exact fun _ => rfl
  | step l ih =>
    intro q
    rw [← ih q, allP, ← allP_step (h.mono l) q]
theorem lvP_mono {n m : Nat} (h : Part m p) (l : m ≤ n) : ∀ q, lvP n q p = lvP m q p := by
  induction l with
  | refl => exact fun _ => rfl
  | step l ih =>
    intro q
    rw [← ih q, lvP, ← lvP_step (h.mono l) q]
/-- what stands at and below a leaf -/
theorem lvP_all {n : Nat} : ∀ {p : T}, Part n p → ∀ {l : List Nat} {y : List Nat × T}, y ∈ lvP n l p → ∃ r m, y.1 = l ++ r ∧ r.length ≤ 2 * n ∧ m ≤ n ∧ Hole (Part n) p r m y.2 ∧
    ∀ x, (x ∈ allP n l p ∧ y.1 <+: x.1) ↔ x ∈ allP m y.1 y.2 := by
  have base : ∀ {n : Nat} {p : T} {l : List Nat}, Part n p → ∀ x, (x ∈ allP n l p ∧ l <+: x.1) ↔ x ∈ allP n l p := fun h x =>
    ⟨fun q => q.1, fun q => ⟨q, by obtain ⟨r, _, e, _⟩ := allP_at h q; exact ⟨r, e.symm⟩⟩⟩
  induction n with
  | zero =>
    intro p h l y hy
    rw [lvP, List.mem_singleton] at hy
    subst hy
    exact ⟨[], 0, by simp, Nat.le_refl _, Nat.le_refl _, Hole.root h, base h⟩
  | succ n ih =>
    intro p h l y hy
    rw [lvP] at hy
    split at hy
    · obtain ⟨z, hz, hy⟩ := List.mem_flatMap.mp hy
      obtain ⟨m, e, h1, h0, hh⟩ := h.kidsOk.each z hz
      cases e
      obtain ⟨r, k, e1, e2, hk, h2, h3⟩ := ih hh.part hy
      refine ⟨z.1 ++ r, k, by rw [e1, List.append_assoc], by rw [List.length_append]; omega, by omega, hh.trans h2, fun x => ?_⟩
      rw [← h3, allP, List.mem_cons, List.mem_flatMap]
      constructor
      · rintro ⟨rfl | ⟨z', hz', hx⟩, hp⟩
        · obtain ⟨s, e⟩ := hp
          rw [e1] at e
          have := congrArg List.length e
          simp only [List.length_append] at this
          exact absurd (List.length_eq_zero_iff.mp (by omega : z.1.length = 0)) h0
        · obtain ⟨m', e', _, _, hh'⟩ := h.kidsOk.each z' hz'
          cases e'
          obtain ⟨r', _, e4, _⟩ := allP_at hh'.part hx
          obtain ⟨s, e⟩ := hp
          have : z.1 ++ (r ++ s) = z'.1 ++ r' := by
            rw [e1, e4] at e
            simpa [List.append_assoc] using e
          obtain rfl := h.kidsOk.apart z hz z' hz' _ _ this
          exact ⟨hx, ⟨s, e⟩⟩
      · rintro ⟨hx, hp⟩
        exact ⟨Or.inr ⟨z, hz, hx⟩, hp⟩
    · rw [List.mem_singleton] at hy
      subst hy
      exact ⟨[], _, by simp, Nat.zero_le _, Nat.le_refl _, Hole.root h, base h⟩
end
end L3

set_option maxHeartbeats 1000000
/-! L3ZA: equality of trees that can be compared, pure comprehensions over mapped lists. -/
namespace L3
open PySem PySem.Spec PyProof.Rows L2
theorem shk_non (k : Nat) : Shk k .non := ⟨.none, rfl, by rw [PyData.canLay0], Nat.zero_le _⟩
theorem shk_int (i : Int) (k : Nat) : Shk k (.int i) := ⟨.int i, rfl, by rw [PyData.canLay0], Nat.zero_le _⟩
theorem shk_bl (b : Bool) (k : Nat) : Shk k (.bl b) := ⟨.bool b, rfl, by rw [PyData.canLay0], Nat.zero_le _⟩
theorem shk_lst {k : Nat} {xs : List T} (h : ∀ x ∈ xs, Shk k x) : Shk (k + 1) (.lst xs) := by
  obtain ⟨ds, e, a, b⟩ := shk_all h
  exact ⟨.list ds, by rw [T.py, e]; rfl, by rw [PyData.canLay0]; exact a, by rw [PyData.depth]; omega⟩
theorem Shk.shaped {k : Nat} {t : T} (h : Shk k t) (hk : k ≤ 64) : ∃ d, t.py = some d ∧ SeqAt.shaped d = true := by
  obtain ⟨d, e, a, b⟩ := h
  refine ⟨d, e, ?_⟩
  unfold SeqAt.shaped
  rw [a, Bool.true_and]
  exact decide_eq_true (by omega)
theorem FlatV.shk {t : T} (h : FlatV t) (k : Nat) : Shk k t := by
  rcases h with rfl | ⟨i, rfl, _⟩ | ⟨z, rfl, hz⟩
  · exact shk_non k
  · exact shk_int i k
  · exact shk_str hz.2 k
theorem shk2 {a b : T} {k : Nat} (ha : Shk k a) (hb : Shk k b) : Shk (k + 1) (.tup [a, b]) := shk_tup fun x hx => by
  simp only [List.mem_cons, List.not_mem_nil, or_false] at hx
  rcases hx with rfl | rfl <;> assumption
theorem shk3 {a b c : T} {k : Nat} (ha : Shk k a) (hb : Shk k b) (hc : Shk k c) : Shk (k + 1) (.tup [a, b, c]) := shk_tup fun x hx => by
  simp only [List.mem_cons, List.not_mem_nil, or_false] at hx
  rcases hx with rfl | rfl | rfl <;> assumption
theorem OwnT.shk {k : Nat} {t : T} (h : OwnT k t) : Shk 2 t := by
  obtain ⟨l, rfl, _, hn⟩ := h
  refine shk_tup fun x hx => ?_
  obtain ⟨p, hp, rfl⟩ := List.mem_map.mp hx
  exact shk2 (shk_str (hn p hp).1.2 0) (shk_str (hn p hp).2.2 0)
theorem Part.shk {n : Nat} {t : T} (h : Part n t) : Shk (2 * n + 3) t := by
  have wd : ∀ {w : Str} {k : Nat}, (decide (w.length ≤ 8) && w.cps.toList.all fun c => decide (c < 0x110000)) = true → Shk k (.str w) := fun h => shk_str (nm_of h).2 _
  induction h with
  | @col n a b ha hb => exact (shk3 (wd (by decide +kernel)) (shk_str ha.2 0) (shk_str hb.2 0)).mono (by omega)
  | @val n v hv => exact (shk2 (wd (by decide +kernel)) (hv.shk 0)).mono (by omega)
  | @plus n w x v hw _ hv ih =>
    have h1 : Shk (2 * n + 3) (.str w) := by rcases hw with rfl | rfl <;> exact wd (by decide +kernel)
    exact (shk3 h1 ih (hv.shk _)).mono (by omega)
  | @not n x _ ih => exact (shk2 (wd (by decide +kernel)) ih).mono (by omega)
  | @two n w x y hw _ _ i1 i2 =>
    have h1 : Shk (2 * n + 3) (.str w) := by rcases hw with rfl | rfl | rfl | rfl | rfl <;> exact wd (by decide +kernel)
    exact (shk3 h1 i1 i2).mono (by omega)
  | @«exists» n o x ho _ ih => exact (shk2 (wd (by decide +kernel)) (shk2 (ho.shk.mono (show 2 ≤ 2 * n + 3 by omega)) ih)).mono (by omega)
  | @only n w o x y hw ho _ _ i1 i2 =>
    have h1 : Shk (2 * n + 4) (.str w) := by rcases hw with rfl | rfl <;> exact wd (by decide +kernel)
    exact (shk3 h1 (shk2 (ho.shk.mono (show 2 ≤ 2 * n + 3 by omega)) i1) (i2.mono (by omega))).mono (by omega)
theorem plc_shk (l : List Nat) (k : Nat) : Shk (k + 1) (plc l) := shk_tup fun x hx => by
  obtain ⟨i, _, rfl⟩ := List.mem_map.mp hx
  exact shk_int _ k
theorem enc_shk {x : List Nat × T} {n : Nat} (h : Part n x.2) : Shk (2 * n + 4) (enc x) := shk2 ((plc_shk x.1 0).mono (by omega)) h.shk
/-- a list and the empty one -/
theorem eq_nil {neg : Bool} {x : T} {xs : List T} {Q : QE} {M : Mp} (e : look x M = .lst xs) (h : ∀ t ∈ xs, Shk 63 t) (q : Q (.bl (if neg then !decide (xs = []) else decide (xs = []))) M) : oEqB neg x (.lst []) Q M := by
  have s0 : scalT x (.lst []) = none := by cases x <;> rfl
  obtain ⟨ds, e1, e2, e3⟩ := shk_all h
  obtain ⟨d, e4, e5⟩ := (shk_lst h).shaped (Nat.le_refl _)
  unfold oEqB
  rw [s0, e]
  rw [T.py, e1] at e4
  cases e4
  dsimp only
  rw [T.py, e1]
  refine ⟨e5, shaped_nil, ?_⟩
  rw [eqv_empty]
  have : decide (ds = []) = decide (xs = []) := by
    refine decide_eq_decide.mpr ?_
    cases xs with
    | nil => rw [T.pys] at e1; cases e1; simp
    | cons y ys =>
      rw [T.pys] at e1
      split at e1
      · cases e1
        exact Iff.intro (fun z => nomatch z) (fun z => nomatch z)
      · cases e1
  rw [this]
  exact q
theorem eqv_ints : ∀ l r : List Nat, PyData.eqvAll (l.map fun i => PyData.int (i : Nat)) (r.map fun i => PyData.int (i : Nat)) = decide (l = r)
  | [], [] => by rw [List.map_nil, PyData.eqvAll]; rfl
  | [], _ :: _ => by rw [List.map_nil, List.map_cons, PyData.eqvAll]; rfl
  | _ :: _, [] => by rw [List.map_nil, List.map_cons, PyData.eqvAll]; rfl
  | i :: l, j :: r => by
    rw [List.map_cons, List.map_cons, PyData.eqvAll, eqv_ints l r, PyData.eqv]
    simp only [List.cons.injEq]
    by_cases h : i = j
    · subst h; simp
    · simp only [h, false_and, decide_false]
      rw [beq_eq_false_iff_ne.mpr (show ((i : Int) ≠ (j : Int)) from fun z => h (Int.ofNat.inj z)), Bool.false_and]
/-- two places -/
theorem eq_plc {neg : Bool} {l r : List Nat} {Q : QE} {M : Mp} (q : Q (.bl (if neg then !decide (l = r) else decide (l = r))) M) : oEqB neg (plc l) (plc r) Q M := by
  unfold oEqB plc look
  dsimp only [scalT]
  rw [plc_py, plc_py]
  refine ⟨shaped_tup_ints l, shaped_tup_ints r, ?_⟩
  rw [PyData.eqv, eqv_ints]
  exact q
section
variable {neg : Bool} {Q : QE} {M : Mp} {a b : Str} {i j : Int} {c d : Bool}
theorem eqb_ss : oEqB neg (.str a) (.str b) Q M = Q (.bl (if neg then !decide (a = b) else decide (a = b))) M := rfl
theorem eqb_ii : oEqB neg (.int i) (.int j) Q M = Q (.bl (if neg then !decide (i = j) else decide (i = j))) M := rfl
theorem eqb_bb : oEqB neg (.bl c) (.bl d) Q M = Q (.bl (if neg then !decide (c = d) else decide (c = d))) M := rfl
theorem eqb_nn : oEqB neg .non .non Q M = Q (.bl (if neg then !true else true)) M := rfl
theorem eqb_ni : oEqB neg .non (.int i) Q M = Q (.bl (if neg then !false else false)) M := rfl
theorem eqb_in : oEqB neg (.int i) .non Q M = Q (.bl (if neg then !false else false)) M := rfl
theorem eqb_ns : oEqB neg .non (.str a) Q M = Q (.bl (if neg then !false else false)) M := rfl
theorem eqb_sn : oEqB neg (.str a) .non Q M = Q (.bl (if neg then !false else false)) M := rfl
theorem eqb_is : oEqB neg (.int i) (.str a) Q M = Q (.bl (if neg then !false else false)) M := rfl
theorem eqb_si : oEqB neg (.str a) (.int i) Q M = Q (.bl (if neg then !false else false)) M := rfl
end
theorem look_lst {M : Mp} {a : Addr} {xs : List T} (h : M a = some (.lst xs)) : look (.raw (.ref a)) M = .lst xs := by unfold look; dsimp only; rw [h]
theorem eq_nilM {neg : Bool} {a : Addr} {xs : List T} {Q : QE} {M : Mp} (e : M a = some (.lst xs)) (h : ∀ t ∈ xs, Shk 63 t) (q : Q (.bl (if neg then !decide (xs = []) else decide (xs = []))) M) : oEqB neg (.raw (.ref a)) (.lst []) Q M := eq_nil (look_lst e) h q
section
variable {ok : Mp → Prop} {P : Pat} {tt : T3} {te : E3} {vs : List Nat} {ss0 : SS} {Q : List T → Mp → Prop} {α : Type} {g f : α → T} {keep : α → Bool} {M : Mp}
/-- elements that change nothing, over a mapped list -/
theorem compL_mapA (hok : ok M) : ∀ {xs : List α} {acc : List T}, (∀ a ∈ xs, ∃ ss2, P.set (g a) (wipe3 ss0 vs) = some ss2 ∧ ∀ (R : Bool → Mp → Prop) (R2 : QE), (R (keep a) M → tt ss2 M R) ∧ (keep a = true → R2 (f a) M → te ss2 M R2)) →
    acc.length + xs.length ≤ sizeLine → Q (acc ++ (xs.filter keep).map f) M → compL ok P tt te vs ss0 Q (xs.map g) acc M
  | [], acc, _, _, q => ⟨hok, by simpa using q⟩
  | t :: xs, acc, h, hz, q => by
    obtain ⟨ss2, e, h1⟩ := h t List.mem_cons_self
    refine ⟨hok, ?_⟩
    rw [e]
    rw [List.length_cons] at hz
    cases hk : keep t with
    | true =>
      refine (h1 _ fun _ _ => True).1 ?_
      rw [hk]
      refine (h1 (fun _ _ => True) _).2 hk ⟨by omega, compL_mapA hok (fun u hu => h u (List.mem_cons_of_mem _ hu)) (by rw [List.length_append, List.length_singleton]; omega) ?_⟩
      rw [List.filter_cons_of_pos hk, List.map_cons] at q
      rw [List.append_assoc]
      exact q
    | false =>
      refine (h1 _ fun _ _ => True).1 ?_
      rw [hk]
      refine compL_mapA hok (fun u hu => h u (List.mem_cons_of_mem _ hu)) (by omega) ?_
      rw [List.filter_cons_of_neg (by rw [hk]; decide)] at q
      exact q
theorem compL_allA (hok : ok M) {xs : List α} (h : ∀ a ∈ xs, ∃ ss2, P.set (g a) (wipe3 ss0 vs) = some ss2 ∧ ∀ R : QE, R (f a) M → te ss2 M R) (hz : xs.length ≤ sizeLine) (q : Q (xs.map f) M) : compL ok P dYes te vs ss0 Q (xs.map g) [] M := by
  refine compL_mapA (keep := fun _ => true) hok (fun a ha => ?_) (by simpa using hz) (by rw [List.filter_eq_self.mpr fun _ _ => rfl, List.nil_append]; exact q)
  obtain ⟨ss2, e, h1⟩ := h a ha
  exact ⟨ss2, e, fun R R2 => ⟨fun r => r, fun _ r => h1 R2 r⟩⟩
end
theorem join_in {w : Str} {r : List T} : inT (.str w) [.str "not", .str "and", .str "or"] = joinW (.tup (.str w :: r)) := by
  have e : ∀ a b : Str, eqF (.str a) (.str b) = decide (b = a) := fun a b => by
    show decide (a = b) = decide (b = a)
    exact decide_eq_decide.mpr eq_comm
  unfold inT joinW
  simp only [List.any_cons, List.any_nil, Bool.or_false, e, Bool.or_assoc]
theorem last_map {α β : Type} (f : α → β) (l : List α) (x : α) : ((l ++ [x]).map f)[((l ++ [x]).map f).length - 1]? = some (f x) := by
  rw [List.map_append]
  simp
theorem drop_map {α β : Type} (f : α → β) (l : List α) (x : α) : ((l ++ [x]).map f).dropLast = l.map f := by
  rw [List.map_append]
  simp
end L3

set_option maxHeartbeats 1000000
/-! L3ZB: sorted texts are one list. -/
namespace L3
open PySem PySem.Spec PyProof.Rows L2
abbrev cpl (z : Str) : List Nat := z.cps.toList
theorem cpl_inj {a b : Str} (h : cpl a = cpl b) : a = b := by
  cases a; cases b
  have : _ = _ := Array.toList_inj.mp h
  subst this
  rfl
theorem rising_pw : ∀ (p : Str) (l : List Str), risingS p l = true → (p :: l).Pairwise fun a b => cpl a ≤ cpl b
  | p, [], _ => List.pairwise_singleton _ _
  | p, x :: r, h => by
    have h' : (!Spec.ltCps x.cps.toList p.cps.toList && risingS x r) = true := h
    rw [Bool.and_eq_true] at h'
    have h1 : cpl p ≤ cpl x := by
      have := h'.1
      rw [ltCps_eq, Bool.not_eq_true', decide_eq_false_iff_not] at this
      exact List.not_lt.mp this
    have h2 := rising_pw x r h'.2
    refine List.pairwise_cons.mpr ⟨fun y hy => ?_, h2⟩
    rcases List.mem_cons.mp hy with rfl | hy
    · exact h1
    · exact List.le_trans h1 ((List.pairwise_cons.mp h2).1 y hy)
theorem sorted_pw {l : List Str} (h : sortedS l = true) : l.Pairwise fun a b => cpl a ≤ cpl b := by
  cases l with
  | nil => exact List.Pairwise.nil
  | cons x r => exact rising_pw x r h
theorem strict_of {l : List Str} (h : sortedS l = true) (n : l.Nodup) : l.Pairwise fun a b => cpl a < cpl b := by
  have h2 := sorted_pw h
  refine (List.Pairwise.and h2 n).imp fun {a b} q => ?_
  rcases Classical.em (cpl a < cpl b) with h | h
  · exact h
  · exact absurd (cpl_inj (List.le_antisymm q.1 (List.not_lt.mp h))) q.2
theorem strict_one : ∀ {zs ys : List Str}, zs.Pairwise (fun a b => cpl a < cpl b) → ys.Pairwise (fun a b => cpl a < cpl b) → (∀ z, z ∈ zs ↔ z ∈ ys) → zs = ys
  | [], [], _, _, _ => rfl
  | [], y :: ys, _, _, h => absurd ((h y).mpr List.mem_cons_self) (by simp)
  | z :: zs, [], _, _, h => absurd ((h z).mp List.mem_cons_self) (by simp)
  | z :: zs, y :: ys, hz, hy, h => by
    obtain ⟨z1, z2⟩ := List.pairwise_cons.mp hz
    obtain ⟨y1, y2⟩ := List.pairwise_cons.mp hy
    have e : z = y := by
      rcases List.mem_cons.mp ((h z).mp List.mem_cons_self) with e | e
      · exact e
      · rcases List.mem_cons.mp ((h y).mpr List.mem_cons_self) with e' | e'
        · exact e'.symm
        · exact absurd (List.lt_trans (z1 y e') (y1 z e)) (List.lt_irrefl _)
    subst e
    congr 1
    refine strict_one z2 y2 fun x => ⟨fun hx => ?_, fun hx => ?_⟩
    · rcases List.mem_cons.mp ((h x).mp (List.mem_cons_of_mem _ hx)) with rfl | q
      · exact absurd (z1 x hx) (List.lt_irrefl _)
      · exact q
    · rcases List.mem_cons.mp ((h x).mpr (List.mem_cons_of_mem _ hx)) with rfl | q
      · exact absurd (y1 x hx) (List.lt_irrefl _)
      · exact q
/-- two sorted lists without doubles, of the same texts -/
theorem sorted_one {zs ys : List Str} (hz : sortedS zs = true) (nz : zs.Nodup) (hy : sortedS ys = true) (ny : ys.Nodup) (h : ∀ z, z ∈ zs ↔ z ∈ ys) : zs = ys :=
  strict_one (strict_of hz nz) (strict_of hy ny) h
theorem sorted_filter {zs ys : List Str} {p : Str → Bool} (hz : sortedS zs = true) (nz : zs.Nodup) (hy : sortedS ys = true) (ny : ys.Nodup) (h : ∀ z, z ∈ zs ↔ z ∈ ys ∧ p z = true) : zs = ys.filter p :=
  strict_one (strict_of hz nz) ((strict_of hy ny).filter p) fun z => by rw [h, List.mem_filter]

theorem ups0 (n : Nat) : ups 0 n = (List.range n).map fun i => T.int (i : Nat) := by
  unfold ups
  refine List.map_congr_left fun i _ => ?_
  rw [Int.zero_add]
/-! ### the columns in a part -/
def colP : T → Option (Str × Str)
  | .tup [.str w, .str a, .str b] => if w = "column" then some (a, b) else none
  | _ => none
def colsOf (n : Nat) (p : T) : List (Str × Str) := (allP n [] p).filterMap fun x => colP x.2
theorem colP_col {a b : Str} : colP (.tup [.str "column", .str a, .str b]) = some (a, b) := by unfold colP; dsimp only; rw [if_pos rfl]
theorem colP_head {w : Str} {r : List T} (h : w ≠ "column") : colP (.tup (.str w :: r)) = none := by
  unfold colP
  split
  · rename_i e
    cases e
    rw [if_neg h]
  · rfl
/-- a column, or something else -/
theorem Part.colOr {n : Nat} {p : T} (h : Part n p) : (∃ a b, p = .tup [.str "column", .str a, .str b] ∧ Nm a ∧ Nm b) ∨ ∃ w a r, p = .tup (.str w :: a :: r) ∧ w ≠ "column" := by
  cases h with
  | col ha hb => exact .inl ⟨_, _, rfl, ha, hb⟩
  | val hv => exact .inr ⟨_, _, _, rfl, by decide⟩
  | plus hw _ _ => exact .inr ⟨_, _, _, rfl, by rcases hw with rfl | rfl <;> decide⟩
  | not _ => exact .inr ⟨_, _, _, rfl, by decide⟩
  | two hw _ _ => exact .inr ⟨_, _, _, rfl, by rcases hw with rfl | rfl | rfl | rfl | rfl <;> decide⟩
  | «exists» _ _ => exact .inr ⟨_, _, _, rfl, by decide⟩
  | only hw _ _ _ => exact .inr ⟨_, _, _, rfl, by rcases hw with rfl | rfl <;> decide⟩
def optT {β : Type} (g : β → T) : Option β → T
  | some b => g b
  | none => .non
theorem filter_some {α β : Type} {g : β → T} {f : α → Option β} : ∀ xs : List α, ((xs.filter fun x => (f x).isSome).map fun x => optT g (f x)) = (xs.filterMap f).map g
  | [] => rfl
  | x :: xs => by
    cases h : f x with
    | none => rw [List.filter_cons_of_neg (by rw [h]; exact Bool.false_ne_true), List.filterMap_cons_none h, filter_some xs]
    | some b => rw [List.filter_cons_of_pos (by rw [h]; rfl), List.filterMap_cons_some h, List.map_cons, List.map_cons, filter_some xs, h]; rfl
theorem flat_strs {α : Type} {f : α → Str} (xs : List α) : (xs.map fun a => T.str (f a)).all flatT = true := by
  rw [List.all_map, List.all_eq_true]
  exact fun _ _ => rfl
theorem inT_strs {α : Type} {f : α → Str} {z : Str} {xs : List α} : inT (.str z) (xs.map fun a => T.str (f a)) = true ↔ z ∈ xs.map f := by
  unfold inT
  rw [List.any_map, List.any_eq_true, List.mem_map]
  have e : ∀ a b : Str, (eqF (.str a) (.str b) = true) ↔ a = b := fun a b => by show (a == b) = true ↔ _; exact beq_iff_eq
  exact ⟨fun ⟨a, h1, h2⟩ => ⟨a, h1, (e _ _).mp h2⟩, fun ⟨a, h1, h2⟩ => ⟨a, h1, (e _ _).mpr h2⟩⟩
theorem c31 {a b c : T} : cutT [a, b, c] (some 1) none = [b, c] := cut_from 1
end L3

set_option maxHeartbeats 1000000
/-! L3ZC: comprehensions by what stands so far; drawn names, all different. -/
namespace L3
open PySem PySem.Spec PyProof.Rows L2
section
variable {ok : Mp → Prop} {P : Pat} {tt : T3} {te : E3} {vs : List Nat} {ss0 : SS} {Q : List T → Mp → Prop}
/-- an invariant of the items so far -/
theorem compL_acc (Iv : Nat → List T → Mp → Prop) (hok : ∀ i acc M, Iv i acc M → ok M) : ∀ {xs acc : List T} {M : Mp} (i : Nat), Iv i acc M →
    (∀ j t acc M, xs[j]? = some t → Iv (i + j) acc M → ∃ ss2, P.set t (wipe3 ss0 vs) = some ss2 ∧ ∀ R : QE, (∀ y M4, Iv (i + j + 1) (acc ++ [y]) M4 → R y M4) → te ss2 M R) →
    acc.length + xs.length ≤ sizeLine → (∀ ys M', Iv (i + xs.length) ys M' → Q ys M') → compL ok P dYes te vs ss0 Q xs acc M
  | [], acc, M, i, h0, _, _, q => ⟨hok i acc M h0, q acc M h0⟩
  | t :: xs, acc, M, i, h0, h, hz, q => by
    obtain ⟨ss2, e, h1⟩ := h 0 t acc M rfl h0
    refine ⟨hok i acc M h0, ?_⟩
    rw [e]
    show te ss2 M _
    rw [List.length_cons] at hz
    refine h1 _ fun y M4 h4 => ⟨by omega, compL_acc Iv hok (i + 1) h4 (fun j u acc5 M5 hu h5 => ?_) (by rw [List.length_append, List.length_singleton]; omega) fun ys M' hI => ?_⟩
    · have h6 := h (j + 1) u acc5 M5 hu (by rw [show i + (j + 1) = i + 1 + j by omega]; exact h5)
      rw [show i + (j + 1) + 1 = i + 1 + j + 1 by omega] at h6
      exact h6
    · exact q ys M' (by rw [List.length_cons, show i + (xs.length + 1) = i + 1 + xs.length by omega]; exact hI)
end
theorem plc_fine {l : List Nat} (h : ∀ i ∈ l, i < 10 ^ 60) : Fine (plc l) (63 * l.length + 3) 1 := by
  refine (fine_tup (n := 61) (k := 0) fun x hx => ?_).mono (by rw [List.length_map]; omega) (Nat.le_refl _)
  obtain ⟨i, hi, rfl⟩ := List.mem_map.mp hx
  exact fine_int (by have := h i hi; omega)
theorem look_tup {xs : List T} {M : Mp} : look (.tup xs) M = .tup xs := rfl
/-- repr of a shown tree -/
theorem rep_of {t : T} {n k : Nat} {Q : QE} {M : Mp} (h : Fine t n k) (a : n ≤ 16000000) (b : k ≤ 60) (d : look t M = t) (q : Q (.str (shT t)) M) : fRepr [t] Q M := by
  obtain ⟨p, e, s⟩ := h.shows a b
  unfold fRepr
  dsimp only
  rw [d, e]
  refine ⟨s, ?_⟩
  unfold shT at q
  rw [e] at q
  exact q
/-- what follows an expression that gives t -/
theorem cut_k {te : E3} {ss : SS} {M : Mp} {K : QE} (t : T) (M' : Mp) (h : ∀ K : QE, K t M' → te ss M K) (k : K t M') : te ss M K := h K k
/-- no item is kept -/
theorem compL_none {ok : Mp → Prop} {P : Pat} {tt : T3} {te : E3} {vs : List Nat} {ss0 : SS} {Q : List T → Mp → Prop} {M : Mp} (hok : ok M) : ∀ {xs acc : List T}, (∀ (j : Nat) t, xs[j]? = some t → ∃ ss2, P.set t (wipe3 ss0 vs) = some ss2 ∧ ∀ R : Bool → Mp → Prop, R false M → tt ss2 M R) →
    Q acc M → compL ok P tt te vs ss0 Q xs acc M
  | [], acc, _, q => ⟨hok, q⟩
  | t :: xs, acc, h, q => by
    obtain ⟨ss2, e, h1⟩ := h 0 t rfl
    refine ⟨hok, ?_⟩
    rw [e]
    exact h1 _ (compL_none hok (fun j u hu => h (j + 1) u hu) q)
theorem allP_part {n : Nat} : ∀ {p : T}, Part n p → ∀ {l : List Nat} {x : List Nat × T}, x ∈ allP n l p → ∃ m, m ≤ n ∧ Part m x.2 := by
  induction n with
  | zero =>
    intro p h l x hx
    rw [allP, List.mem_singleton] at hx
    subst hx
    exact ⟨0, Nat.le_refl _, h⟩
  | succ n ih =>
    intro p h l x hx
    rw [allP, List.mem_cons] at hx
    rcases hx with rfl | hx
    · exact ⟨_, Nat.le_refl _, h⟩
    · obtain ⟨y, hy, hx⟩ := List.mem_flatMap.mp hx
      obtain ⟨m, e, h1, _, hh⟩ := h.kidsOk.each y hy
      cases e
      obtain ⟨m, h1, h2⟩ := ih hh.part hx
      exact ⟨m, by omega, h2⟩
theorem place_small : ∀ {l : List Nat} {t c : T}, partAt t l = some c → Small t → ∀ i ∈ l, i < 100
  | [], _, _, _, _, i, hi => nomatch hi
  | j :: l, t, c, h, s, i, hi => by
    obtain ⟨xs, x, rfl, e, h2⟩ := partAt_cons h
    have h3 := s [] xs (partAt_nil _)
    obtain ⟨h4, _⟩ := List.getElem?_eq_some_iff.mp e
    rcases List.mem_cons.mp hi with rfl | hi
    · omega
    · exact place_small h2 (fun r y hy => s (j :: r) y (by rw [partAt_tup e]; exact hy)) i hi
theorem fz_le {n m : Nat} (h : n ≤ m) : fz n ≤ fz m := by
  induction h with
  | refl => exact Nat.le_refl _
  | step _ ih => rw [fz]; omega
theorem inner_fine {n : Nat} {o x : T} (ho : OwnT 2 o) (hx : Part n x) : Fine (.tup [o, x]) (370 + fz n) (2 * n + 4) :=
  (fine_sum (.cons (ho.fine.mono (Nat.le_refl _) (by omega)) (.cons hx.fine .nil))).mono (by simp <;> omega) (Nat.le_refl _)
theorem colP_eq {t : T} {a b : Str} (h : colP t = some (a, b)) : t = .tup [.str "column", .str a, .str b] := by
  unfold colP at h
  split at h
  · split at h
    · rename_i e
      subst e
      cases h
      rfl
    · cases h
  · cases h
theorem filter_nil {α β : Type} {f : α → β} {p : α → Bool} (xs : List α) : decide ((xs.filter p).map f = []) = !xs.any p := by
  cases h : xs.any p with
  | true =>
    obtain ⟨x, hx, hp⟩ := List.any_eq_true.mp h
    refine decide_eq_false fun e => ?_
    have := List.mem_filter.mpr ⟨hx, hp⟩
    rw [List.map_eq_nil_iff.mp e] at this
    cases this
  | false =>
    refine decide_eq_true ?_
    rw [List.filter_eq_nil_iff.mpr fun x hx hp => by rw [List.any_eq_false] at h; exact h x hx hp]
    rfl
theorem comp_go {w3 : I3} {P : Pat} {tt : T3} {te : E3} {vs : List Nat} {fin : List T → QE → Mp → Prop} {ss : SS} {M : Mp} {Q : QE} (h : w3 ss M fun S M1 => compL S.ok P tt te vs ss (fun acc M2 => fin acc Q M2) S.xs [] M1) : dComp w3 P tt te vs fin ss M Q := h
/-- the x-th of 17 names -/
def namesW : List Str := ["less", "is", "plus", "from", "in", "only", "where", "not", "first", "nothing", "exists", "or", "t", "tell", "limit", "and", "order"]
def namesW2 : List Str := ["less", "is", "plus", "from", "in", "only", "where", "not", "first", "value", "exists", "same", "t", "tell", "limit", "and", "order"]
def namesL : List Str := ["a", "b", "c", "d", "e", "f", "g", "h", "i", "j", "k", "l", "m", "n", "o", "p", "q"]
theorem let17 : ∀ i : Fin 17, atI ("abcdefghijklmnopq" : Str).cps.toList ((i.val : Nat) : Int) = some (97 + i.val) ∧ (⟨#[97 + i.val]⟩ : Str) = namesL.getD i.val "" := by decide +kernel
theorem nodup_17 {W : List Str} (hl : W.length = 17) (hd : W.Nodup) {r : Int} (r0 : 0 ≤ r) {k : Nat} (hk : k ≤ 17) : ((List.range k).map fun i : Nat => W.getD ((r + 5 * (i : Int)) % 17).toNat "").Nodup := by
  refine List.pairwise_map.mpr ((List.pairwise_lt_range (n := k)).imp_of_mem fun {a b} ha hb q e => ?_)
  rw [List.mem_range] at ha hb
  have h1 : ((r + 5 * (a : Int)) % 17).toNat < W.length := by omega
  have h2 : ((r + 5 * (b : Int)) % 17).toNat < W.length := by omega
  rw [List.getD_eq_getElem?_getD, List.getD_eq_getElem?_getD, List.getElem?_eq_getElem h1, List.getElem?_eq_getElem h2] at e
  have e2 : ((r + 5 * (a : Int)) % 17).toNat = ((r + 5 * (b : Int)) % 17).toNat := (List.getElem_inj hd).mp e
  omega
end L3

set_option maxHeartbeats 4000000
namespace K17
open PySem PySem.Spec PyProof.Rows L2 L3
def topS (i : Nat) : Stmt := PySem.Challenge.pw_failswhole_k17_places_and_main_parts.main.body.getD i (.Pass ⟨0, 0, 0, 0⟩)
abbrev s_part_at : Stmt := topS 5
theorem sc_part_at : FnScope ["question", "place", "part", "index"] ["question", "place"] (defScope s_part_at) := ⟨rfl, rfl, rfl, by decide +kernel, rfl, by decide +kernel, by decide +kernel⟩
abbrev s_straight_parts : Stmt := topS 6
theorem sc_straight_parts : FnScope ["part", "place"] ["part"] (defScope s_straight_parts) := ⟨rfl, rfl, rfl, by decide +kernel, rfl, by decide +kernel, by decide +kernel⟩
abbrev s_all_parts : Stmt := topS 7
theorem sc_all_parts : FnScope ["part", "found", "waiting", "place", "here", "more", "inner"] ["part"] (defScope s_all_parts) := ⟨rfl, rfl, rfl, by decide +kernel, rfl, by decide +kernel, by decide +kernel⟩
abbrev s_columns_in : Stmt := topS 8
theorem sc_columns_in : FnScope ["part", "place", "here"] ["part"] (defScope s_columns_in) := ⟨rfl, rfl, rfl, by decide +kernel, rfl, by decide +kernel, by decide +kernel⟩
abbrev s_leaves_of : Stmt := topS 9
theorem sc_leaves_of : FnScope ["condition", "place", "found", "waiting", "here", "part", "more", "inner"] ["condition", "place"] (defScope s_leaves_of) := ⟨rfl, rfl, rfl, by decide +kernel, rfl, by decide +kernel, by decide +kernel⟩
abbrev s_main_parts : Stmt := topS 10
theorem sc_main_parts : FnScope ["question", "leaves", "index"] ["question"] (defScope s_main_parts) := ⟨rfl, rfl, rfl, by decide +kernel, rfl, by decide +kernel, by decide +kernel⟩
abbrev s_named : Stmt := topS 11
theorem sc_named : FnScope ["question", "place", "own", "alias", "table", "name"] ["question", "place"] (defScope s_named) := ⟨rfl, rfl, rfl, by decide +kernel, rfl, by decide +kernel, by decide +kernel⟩
abbrev s_l_deck : Stmt := topS 13
theorem sc_l_deck : FnScope ["script", "cells", "total", "cell"] ["script"] (defScope s_l_deck) := ⟨rfl, rfl, rfl, by decide +kernel, rfl, by decide +kernel, by decide +kernel⟩
abbrev s_l_draw : Stmt := topS 14
theorem sc_l_draw : FnScope ["deck", "many", "turn", "cell", "mixed"] ["deck", "many"] (defScope s_l_draw) := ⟨rfl, rfl, rfl, by decide +kernel, rfl, by decide +kernel, by decide +kernel⟩
abbrev s_l_pick : Stmt := topS 15
theorem sc_l_pick : FnScope ["deck", "some"] ["deck", "some"] (defScope s_l_pick) := ⟨rfl, rfl, rfl, by decide +kernel, rfl, by decide +kernel, by decide +kernel⟩
abbrev s_l_names : Stmt := topS 16
theorem sc_l_names : FnScope ["deck", "many", "first", "way", "words", "k"] ["deck", "many"] (defScope s_l_names) := ⟨rfl, rfl, rfl, by decide +kernel, rfl, by decide +kernel, by decide +kernel⟩
abbrev s_l_schema : Stmt := topS 17
theorem sc_l_schema : FnScope ["deck", "names", "many", "found", "kinds", "at", "columns", "name", "keys", "indexes", "some"] ["deck", "names", "many"] (defScope s_l_schema) := ⟨rfl, rfl, rfl, by decide +kernel, rfl, by decide +kernel, by decide +kernel⟩
abbrev s_l_any_value : Stmt := topS 18
theorem sc_l_any_value : FnScope ["deck", "kinds", "kind"] ["deck", "kinds"] (defScope s_l_any_value) := ⟨rfl, rfl, rfl, by decide +kernel, rfl, by decide +kernel, by decide +kernel⟩
abbrev s_l_column : Stmt := topS 19
theorem sc_l_column : FnScope ["deck", "world", "refs", "alias", "table"] ["deck", "world", "refs"] (defScope s_l_column) := ⟨rfl, rfl, rfl, by decide +kernel, rfl, by decide +kernel, by decide +kernel⟩
abbrev s_l_some_term : Stmt := topS 20
theorem sc_l_some_term : FnScope ["deck", "world", "refs", "deep", "way"] ["deck", "world", "refs", "deep"] (defScope s_l_some_term) := ⟨rfl, rfl, rfl, by decide +kernel, rfl, by decide +kernel, by decide +kernel⟩
abbrev s_l_some_leaf : Stmt := topS 21
theorem sc_l_some_leaf : FnScope ["deck", "world", "refs", "deep", "word", "first"] ["deck", "world", "refs", "deep"] (defScope s_l_some_leaf) := ⟨rfl, rfl, rfl, by decide +kernel, rfl, by decide +kernel, by decide +kernel⟩
abbrev s_l_inner : Stmt := topS 22
theorem sc_l_inner : FnScope ["deck", "world", "refs", "aliases", "own", "alias", "leaf", "word"] ["deck", "world", "refs", "aliases"] (defScope s_l_inner) := ⟨rfl, rfl, rfl, by decide +kernel, rfl, by decide +kernel, by decide +kernel⟩
abbrev s_l_condition : Stmt := topS 23
theorem sc_l_condition : FnScope ["deck", "world", "refs", "aliases", "deep", "way", "one", "own", "inner", "term", "some"] ["deck", "world", "refs", "aliases", "deep"] (defScope s_l_condition) := ⟨rfl, rfl, rfl, by decide +kernel, rfl, by decide +kernel, by decide +kernel⟩
abbrev s_l_drawn : Stmt := topS 24
theorem sc_l_drawn : FnScope ["deck", "world", "names", "most", "pool", "refs", "k", "where", "heard", "order"] ["deck", "world", "names", "most"] (defScope s_l_drawn) := ⟨rfl, rfl, rfl, by decide +kernel, rfl, by decide +kernel, by decide +kernel⟩
abbrev s_l_below : Stmt := topS 25
theorem sc_l_below : FnScope ["part"] ["part"] (defScope s_l_below) := ⟨rfl, rfl, rfl, by decide +kernel, rfl, by decide +kernel, by decide +kernel⟩
abbrev s_l_all : Stmt := topS 26
theorem sc_l_all : FnScope ["part", "lead", "found", "more", "one"] ["part", "lead"] (defScope s_l_all) := ⟨rfl, rfl, rfl, by decide +kernel, rfl, by decide +kernel, by decide +kernel⟩
abbrev s_l_every : Stmt := topS 27
theorem sc_l_every : FnScope ["asked", "found", "k", "term"] ["asked"] (defScope s_l_every) := ⟨rfl, rfl, rfl, by decide +kernel, rfl, by decide +kernel, by decide +kernel⟩
abbrev s_l_leaves : Stmt := topS 28
theorem sc_l_leaves : FnScope ["condition", "lead"] ["condition", "lead"] (defScope s_l_leaves) := ⟨rfl, rfl, rfl, by decide +kernel, rfl, by decide +kernel, by decide +kernel⟩
abbrev s_l_widened : Stmt := topS 29
theorem sc_l_widened : FnScope ["deck", "world", "asked", "aliases", "own", "column", "inner", "term", "some"] ["deck", "world", "asked", "aliases"] (defScope s_l_widened) := ⟨rfl, rfl, rfl, by decide +kernel, rfl, by decide +kernel, by decide +kernel⟩
abbrev s_l_right : Stmt := topS 30
theorem sc_l_right : FnScope ["asked", "own", "found", "alias", "table", "places", "due", "k", "column", "lead", "part", "within", "spot", "names", "one"] ["asked"] (defScope s_l_right) := ⟨rfl, rfl, rfl, by decide +kernel, rfl, by decide +kernel, by decide +kernel⟩
abbrev s_law : Stmt := topS 31
theorem sc_law : FnScope ["script", "deck", "turn", "names", "schema", "world", "table", "columns", "unique", "indexes", "name", "some", "k", "asked", "kept"] ["script"] (defScope s_law) := ⟨rfl, rfl, rfl, by decide +kernel, rfl, by decide +kernel, by decide +kernel⟩
def subs : List (Str × T) := [("column", .tup []), ("value", .tup []), ("plus", .tup [.tup [.int 1]]), ("less", .tup [.tup [.int 1], .tup [.int 2]]), ("most", .tup [.tup [.int 1], .tup [.int 2]]), ("same", .tup [.tup [.int 1], .tup [.int 2]]), ("is", .tup [.tup [.int 1]]), ("not", .tup [.tup [.int 1]]), ("and", .tup [.tup [.int 1], .tup [.int 2]]), ("or", .tup [.tup [.int 1], .tup [.int 2]]), ("exists", .tup [.tup [.int 1, .int 1]]), ("only", .tup [.tup [.int 1, .int 1], .tup [.int 2]]), ("first", .tup [.tup [.int 1, .int 1], .tup [.int 2]])]
structure Fns (K : PySem.W.Frag) (w : World) (mg : Str → Option Value) where
  f_part_at : Addr
  fd_part_at : FuncData
  F_part_at : Fun K "part_at" "part_at" s_part_at f_part_at fd_part_at
  g_part_at : mg "part_at" = some (.ref f_part_at)
  f_straight_parts : Addr
  fd_straight_parts : FuncData
  F_straight_parts : Fun K "straight_parts" "straight_parts" s_straight_parts f_straight_parts fd_straight_parts
  g_straight_parts : mg "straight_parts" = some (.ref f_straight_parts)
  f_all_parts : Addr
  fd_all_parts : FuncData
  F_all_parts : Fun K "all_parts" "all_parts" s_all_parts f_all_parts fd_all_parts
  g_all_parts : mg "all_parts" = some (.ref f_all_parts)
  f_columns_in : Addr
  fd_columns_in : FuncData
  F_columns_in : Fun K "columns_in" "columns_in" s_columns_in f_columns_in fd_columns_in
  g_columns_in : mg "columns_in" = some (.ref f_columns_in)
  f_leaves_of : Addr
  fd_leaves_of : FuncData
  F_leaves_of : Fun K "leaves_of" "leaves_of" s_leaves_of f_leaves_of fd_leaves_of
  g_leaves_of : mg "leaves_of" = some (.ref f_leaves_of)
  f_main_parts : Addr
  fd_main_parts : FuncData
  F_main_parts : Fun K "main_parts" "main_parts" s_main_parts f_main_parts fd_main_parts
  g_main_parts : mg "main_parts" = some (.ref f_main_parts)
  f_named : Addr
  fd_named : FuncData
  F_named : Fun K "named" "named" s_named f_named fd_named
  g_named : mg "named" = some (.ref f_named)
  f_l_deck : Addr
  fd_l_deck : FuncData
  F_l_deck : Fun K "_law_deck" "_law_deck" s_l_deck f_l_deck fd_l_deck
  g_l_deck : mg "_law_deck" = some (.ref f_l_deck)
  f_l_draw : Addr
  fd_l_draw : FuncData
  F_l_draw : Fun K "_law_draw" "_law_draw" s_l_draw f_l_draw fd_l_draw
  g_l_draw : mg "_law_draw" = some (.ref f_l_draw)
  f_l_pick : Addr
  fd_l_pick : FuncData
  F_l_pick : Fun K "_law_pick" "_law_pick" s_l_pick f_l_pick fd_l_pick
  g_l_pick : mg "_law_pick" = some (.ref f_l_pick)
  f_l_names : Addr
  fd_l_names : FuncData
  F_l_names : Fun K "_law_names" "_law_names" s_l_names f_l_names fd_l_names
  g_l_names : mg "_law_names" = some (.ref f_l_names)
  f_l_schema : Addr
  fd_l_schema : FuncData
  F_l_schema : Fun K "_law_schema" "_law_schema" s_l_schema f_l_schema fd_l_schema
  g_l_schema : mg "_law_schema" = some (.ref f_l_schema)
  f_l_any_value : Addr
  fd_l_any_value : FuncData
  F_l_any_value : Fun K "_law_any_value" "_law_any_value" s_l_any_value f_l_any_value fd_l_any_value
  g_l_any_value : mg "_law_any_value" = some (.ref f_l_any_value)
  f_l_column : Addr
  fd_l_column : FuncData
  F_l_column : Fun K "_law_column" "_law_column" s_l_column f_l_column fd_l_column
  g_l_column : mg "_law_column" = some (.ref f_l_column)
  f_l_some_term : Addr
  fd_l_some_term : FuncData
  F_l_some_term : Fun K "_law_some_term" "_law_some_term" s_l_some_term f_l_some_term fd_l_some_term
  g_l_some_term : mg "_law_some_term" = some (.ref f_l_some_term)
  f_l_some_leaf : Addr
  fd_l_some_leaf : FuncData
  F_l_some_leaf : Fun K "_law_some_leaf" "_law_some_leaf" s_l_some_leaf f_l_some_leaf fd_l_some_leaf
  g_l_some_leaf : mg "_law_some_leaf" = some (.ref f_l_some_leaf)
  f_l_inner : Addr
  fd_l_inner : FuncData
  F_l_inner : Fun K "_law_inner" "_law_inner" s_l_inner f_l_inner fd_l_inner
  g_l_inner : mg "_law_inner" = some (.ref f_l_inner)
  f_l_condition : Addr
  fd_l_condition : FuncData
  F_l_condition : Fun K "_law_condition" "_law_condition" s_l_condition f_l_condition fd_l_condition
  g_l_condition : mg "_law_condition" = some (.ref f_l_condition)
  f_l_drawn : Addr
  fd_l_drawn : FuncData
  F_l_drawn : Fun K "_law_drawn" "_law_drawn" s_l_drawn f_l_drawn fd_l_drawn
  g_l_drawn : mg "_law_drawn" = some (.ref f_l_drawn)
  f_l_below : Addr
  fd_l_below : FuncData
  F_l_below : Fun K "_law_below" "_law_below" s_l_below f_l_below fd_l_below
  g_l_below : mg "_law_below" = some (.ref f_l_below)
  f_l_all : Addr
  fd_l_all : FuncData
  F_l_all : Fun K "_law_all" "_law_all" s_l_all f_l_all fd_l_all
  g_l_all : mg "_law_all" = some (.ref f_l_all)
  f_l_every : Addr
  fd_l_every : FuncData
  F_l_every : Fun K "_law_every" "_law_every" s_l_every f_l_every fd_l_every
  g_l_every : mg "_law_every" = some (.ref f_l_every)
  f_l_leaves : Addr
  fd_l_leaves : FuncData
  F_l_leaves : Fun K "_law_leaves" "_law_leaves" s_l_leaves f_l_leaves fd_l_leaves
  g_l_leaves : mg "_law_leaves" = some (.ref f_l_leaves)
  f_l_widened : Addr
  fd_l_widened : FuncData
  F_l_widened : Fun K "_law_widened" "_law_widened" s_l_widened f_l_widened fd_l_widened
  g_l_widened : mg "_law_widened" = some (.ref f_l_widened)
  f_l_right : Addr
  fd_l_right : FuncData
  F_l_right : Fun K "_law_right" "_law_right" s_l_right f_l_right fd_l_right
  g_l_right : mg "_law_right" = some (.ref f_l_right)
  f_law : Addr
  fd_law : FuncData
  F_law : Fun K "law" "law" s_law f_law fd_law
  g_law : mg "law" = some (.ref f_law)
  m_len : mg "len" = none
  m_list : mg "list" = none
  m_tuple : mg "tuple" = none
  m_range : mg "range" = none
  m_repr : mg "repr" = none
  m_sorted : mg "sorted" = none
  m_enumerate : mg "enumerate" = none
  c_WHERE : GC mg "WHERE" (.int 1)
  c_TOLD : GC mg "TOLD" (.int 2)
  k_SUB_PLACES : GD mg K w "SUB_PLACES" subs
  v_JOINING : GV mg K "JOINING" (.tup [.str "not", .str "and", .str "or"])
theorem kb_l_all_2 {K : PySem.W.Frag} {w : World} {mg : Str → Option Value} (E : Fns K w mg) : KB K E.fd_l_all ["part", "lead"] [] 2 0 [0, 1] [] [] [] :=
  KB.mk0 E.F_l_all (by decide) fun _ _ _ _ _ _ us ws h1 h2 => match us, ws, h1, h2 with | [_, _], [], _, _ => rfl
theorem kb_l_any_value_2 {K : PySem.W.Frag} {w : World} {mg : Str → Option Value} (E : Fns K w mg) : KB K E.fd_l_any_value ["deck", "kinds"] [] 2 0 [0, 1] [] [] [] :=
  KB.mk0 E.F_l_any_value (by decide) fun _ _ _ _ _ _ us ws h1 h2 => match us, ws, h1, h2 with | [_, _], [], _, _ => rfl
theorem kb_l_below_1 {K : PySem.W.Frag} {w : World} {mg : Str → Option Value} (E : Fns K w mg) : KB K E.fd_l_below ["part"] [] 1 0 [0] [] [] [] :=
  KB.mk0 E.F_l_below (by decide) fun _ _ _ _ _ _ us ws h1 h2 => match us, ws, h1, h2 with | [_], [], _, _ => rfl
theorem kb_l_column_3 {K : PySem.W.Frag} {w : World} {mg : Str → Option Value} (E : Fns K w mg) : KB K E.fd_l_column ["deck", "world", "refs"] [] 3 0 [0, 1, 2] [] [] [] :=
  KB.mk0 E.F_l_column (by decide) fun _ _ _ _ _ _ us ws h1 h2 => match us, ws, h1, h2 with | [_, _, _], [], _, _ => rfl
theorem kb_l_condition_5 {K : PySem.W.Frag} {w : World} {mg : Str → Option Value} (E : Fns K w mg) : KB K E.fd_l_condition ["deck", "world", "refs", "aliases", "deep"] [] 5 0 [0, 1, 2, 3, 4] [] [] [] :=
  KB.mk0 E.F_l_condition (by decide) fun _ _ _ _ _ _ us ws h1 h2 => match us, ws, h1, h2 with | [_, _, _, _, _], [], _, _ => rfl
theorem kb_l_deck_1 {K : PySem.W.Frag} {w : World} {mg : Str → Option Value} (E : Fns K w mg) : KB K E.fd_l_deck ["script"] [] 1 0 [0] [] [] [] :=
  KB.mk0 E.F_l_deck (by decide) fun _ _ _ _ _ _ us ws h1 h2 => match us, ws, h1, h2 with | [_], [], _, _ => rfl
theorem kb_l_draw_2 {K : PySem.W.Frag} {w : World} {mg : Str → Option Value} (E : Fns K w mg) : KB K E.fd_l_draw ["deck", "many"] [] 2 0 [0, 1] [] [] [] :=
  KB.mk0 E.F_l_draw (by decide) fun _ _ _ _ _ _ us ws h1 h2 => match us, ws, h1, h2 with | [_, _], [], _, _ => rfl
theorem kb_l_drawn_4 {K : PySem.W.Frag} {w : World} {mg : Str → Option Value} (E : Fns K w mg) : KB K E.fd_l_drawn ["deck", "world", "names", "most"] [] 4 0 [0, 1, 2, 3] [] [] [] :=
  KB.mk0 E.F_l_drawn (by decide) fun _ _ _ _ _ _ us ws h1 h2 => match us, ws, h1, h2 with | [_, _, _, _], [], _, _ => rfl
theorem kb_l_every_1 {K : PySem.W.Frag} {w : World} {mg : Str → Option Value} (E : Fns K w mg) : KB K E.fd_l_every ["asked"] [] 1 0 [0] [] [] [] :=
  KB.mk0 E.F_l_every (by decide) fun _ _ _ _ _ _ us ws h1 h2 => match us, ws, h1, h2 with | [_], [], _, _ => rfl
theorem kb_l_inner_4 {K : PySem.W.Frag} {w : World} {mg : Str → Option Value} (E : Fns K w mg) : KB K E.fd_l_inner ["deck", "world", "refs", "aliases"] [] 4 0 [0, 1, 2, 3] [] [] [] :=
  KB.mk0 E.F_l_inner (by decide) fun _ _ _ _ _ _ us ws h1 h2 => match us, ws, h1, h2 with | [_, _, _, _], [], _, _ => rfl
theorem kb_l_leaves_2 {K : PySem.W.Frag} {w : World} {mg : Str → Option Value} (E : Fns K w mg) : KB K E.fd_l_leaves ["condition", "lead"] [] 2 0 [0, 1] [] [] [] :=
  KB.mk0 E.F_l_leaves (by decide) fun _ _ _ _ _ _ us ws h1 h2 => match us, ws, h1, h2 with | [_, _], [], _, _ => rfl
theorem kb_l_names_2 {K : PySem.W.Frag} {w : World} {mg : Str → Option Value} (E : Fns K w mg) : KB K E.fd_l_names ["deck", "many"] [] 2 0 [0, 1] [] [] [] :=
  KB.mk0 E.F_l_names (by decide) fun _ _ _ _ _ _ us ws h1 h2 => match us, ws, h1, h2 with | [_, _], [], _, _ => rfl
theorem kb_l_pick_2 {K : PySem.W.Frag} {w : World} {mg : Str → Option Value} (E : Fns K w mg) : KB K E.fd_l_pick ["deck", "some"] [] 2 0 [0, 1] [] [] [] :=
  KB.mk0 E.F_l_pick (by decide) fun _ _ _ _ _ _ us ws h1 h2 => match us, ws, h1, h2 with | [_, _], [], _, _ => rfl
theorem kb_l_right_1 {K : PySem.W.Frag} {w : World} {mg : Str → Option Value} (E : Fns K w mg) : KB K E.fd_l_right ["asked"] [] 1 0 [0] [] [] [] :=
  KB.mk0 E.F_l_right (by decide) fun _ _ _ _ _ _ us ws h1 h2 => match us, ws, h1, h2 with | [_], [], _, _ => rfl
theorem kb_l_schema_3 {K : PySem.W.Frag} {w : World} {mg : Str → Option Value} (E : Fns K w mg) : KB K E.fd_l_schema ["deck", "names", "many"] [] 3 0 [0, 1, 2] [] [] [] :=
  KB.mk0 E.F_l_schema (by decide) fun _ _ _ _ _ _ us ws h1 h2 => match us, ws, h1, h2 with | [_, _, _], [], _, _ => rfl
theorem kb_l_some_leaf_4 {K : PySem.W.Frag} {w : World} {mg : Str → Option Value} (E : Fns K w mg) : KB K E.fd_l_some_leaf ["deck", "world", "refs", "deep"] [] 4 0 [0, 1, 2, 3] [] [] [] :=
  KB.mk0 E.F_l_some_leaf (by decide) fun _ _ _ _ _ _ us ws h1 h2 => match us, ws, h1, h2 with | [_, _, _, _], [], _, _ => rfl
theorem kb_l_some_term_4 {K : PySem.W.Frag} {w : World} {mg : Str → Option Value} (E : Fns K w mg) : KB K E.fd_l_some_term ["deck", "world", "refs", "deep"] [] 4 0 [0, 1, 2, 3] [] [] [] :=
  KB.mk0 E.F_l_some_term (by decide) fun _ _ _ _ _ _ us ws h1 h2 => match us, ws, h1, h2 with | [_, _, _, _], [], _, _ => rfl
theorem kb_l_widened_4 {K : PySem.W.Frag} {w : World} {mg : Str → Option Value} (E : Fns K w mg) : KB K E.fd_l_widened ["deck", "world", "asked", "aliases"] [] 4 0 [0, 1, 2, 3] [] [] [] :=
  KB.mk0 E.F_l_widened (by decide) fun _ _ _ _ _ _ us ws h1 h2 => match us, ws, h1, h2 with | [_, _, _, _], [], _, _ => rfl
theorem kb_all_parts_1 {K : PySem.W.Frag} {w : World} {mg : Str → Option Value} (E : Fns K w mg) : KB K E.fd_all_parts ["part"] [] 1 0 [0] [] [] [] :=
  KB.mk0 E.F_all_parts (by decide) fun _ _ _ _ _ _ us ws h1 h2 => match us, ws, h1, h2 with | [_], [], _, _ => rfl
theorem kb_columns_in_1 {K : PySem.W.Frag} {w : World} {mg : Str → Option Value} (E : Fns K w mg) : KB K E.fd_columns_in ["part"] [] 1 0 [0] [] [] [] :=
  KB.mk0 E.F_columns_in (by decide) fun _ _ _ _ _ _ us ws h1 h2 => match us, ws, h1, h2 with | [_], [], _, _ => rfl
theorem kb_leaves_of_2 {K : PySem.W.Frag} {w : World} {mg : Str → Option Value} (E : Fns K w mg) : KB K E.fd_leaves_of ["condition", "place"] [] 2 0 [0, 1] [] [] [] :=
  KB.mk0 E.F_leaves_of (by decide) fun _ _ _ _ _ _ us ws h1 h2 => match us, ws, h1, h2 with | [_, _], [], _, _ => rfl
theorem kb_main_parts_0_question {K : PySem.W.Frag} {w : World} {mg : Str → Option Value} (E : Fns K w mg) : KB K E.fd_main_parts ["question"] ["question"] 0 1 [0] [] [] [] :=
  KB.mk0 E.F_main_parts (by decide) fun _ _ _ _ _ _ us ws h1 h2 => match us, ws, h1, h2 with | [], [_], _, _ => rfl
theorem kb_main_parts_1 {K : PySem.W.Frag} {w : World} {mg : Str → Option Value} (E : Fns K w mg) : KB K E.fd_main_parts ["question"] [] 1 0 [0] [] [] [] :=
  KB.mk0 E.F_main_parts (by decide) fun _ _ _ _ _ _ us ws h1 h2 => match us, ws, h1, h2 with | [_], [], _, _ => rfl
theorem kb_named_0_place_question {K : PySem.W.Frag} {w : World} {mg : Str → Option Value} (E : Fns K w mg) : KB K E.fd_named ["question", "place"] ["place", "question"] 0 2 [1, 0] [] [] [] :=
  KB.mk0 E.F_named (by decide) fun _ _ _ _ _ _ us ws h1 h2 => match us, ws, h1, h2 with | [], [_, _], _, _ => rfl
theorem kb_named_2 {K : PySem.W.Frag} {w : World} {mg : Str → Option Value} (E : Fns K w mg) : KB K E.fd_named ["question", "place"] [] 2 0 [0, 1] [] [] [] :=
  KB.mk0 E.F_named (by decide) fun _ _ _ _ _ _ us ws h1 h2 => match us, ws, h1, h2 with | [_, _], [], _, _ => rfl
theorem kb_part_at_0_place_question {K : PySem.W.Frag} {w : World} {mg : Str → Option Value} (E : Fns K w mg) : KB K E.fd_part_at ["question", "place"] ["place", "question"] 0 2 [1, 0] [] [] [] :=
  KB.mk0 E.F_part_at (by decide) fun _ _ _ _ _ _ us ws h1 h2 => match us, ws, h1, h2 with | [], [_, _], _, _ => rfl
theorem kb_part_at_2 {K : PySem.W.Frag} {w : World} {mg : Str → Option Value} (E : Fns K w mg) : KB K E.fd_part_at ["question", "place"] [] 2 0 [0, 1] [] [] [] :=
  KB.mk0 E.F_part_at (by decide) fun _ _ _ _ _ _ us ws h1 h2 => match us, ws, h1, h2 with | [_, _], [], _, _ => rfl
theorem kb_straight_parts_1 {K : PySem.W.Frag} {w : World} {mg : Str → Option Value} (E : Fns K w mg) : KB K E.fd_straight_parts ["part"] [] 1 0 [0] [] [] [] :=
  KB.mk0 E.F_straight_parts (by decide) fun _ _ _ _ _ _ us ws h1 h2 => match us, ws, h1, h2 with | [_], [], _, _ => rfl
theorem sb_column : List.lookup ("column" : Str) subs = some (.tup [] : T) := rfl
theorem sb_value : List.lookup ("value" : Str) subs = some (.tup [] : T) := rfl
theorem sb_plus : List.lookup ("plus" : Str) subs = some (.tup [.tup [.int 1]] : T) := rfl
theorem sb_is : List.lookup ("is" : Str) subs = some (.tup [.tup [.int 1]] : T) := rfl
theorem sb_not : List.lookup ("not" : Str) subs = some (.tup [.tup [.int 1]] : T) := rfl
theorem sb_exists : List.lookup ("exists" : Str) subs = some (.tup [.tup [.int 1, .int 1]] : T) := rfl
theorem sb_less : List.lookup ("less" : Str) subs = some (.tup [.tup [.int 1], .tup [.int 2]] : T) := rfl
theorem sb_most : List.lookup ("most" : Str) subs = some (.tup [.tup [.int 1], .tup [.int 2]] : T) := rfl
theorem sb_same : List.lookup ("same" : Str) subs = some (.tup [.tup [.int 1], .tup [.int 2]] : T) := rfl
theorem sb_and : List.lookup ("and" : Str) subs = some (.tup [.tup [.int 1], .tup [.int 2]] : T) := rfl
theorem sb_or : List.lookup ("or" : Str) subs = some (.tup [.tup [.int 1], .tup [.int 2]] : T) := rfl
theorem sb_only : List.lookup ("only" : Str) subs = some (.tup [.tup [.int 1, .int 1], .tup [.int 2]] : T) := rfl
theorem sb_first : List.lookup ("first" : Str) subs = some (.tup [.tup [.int 1, .int 1], .tup [.int 2]] : T) := rfl
def spPart : Sp3 := fun ts M Q => ∃ q l p, ts = [q, plc l] ∧ partAt q l = some p ∧ Q p M
def spKids : Sp3 := fun ts M Q => ∃ n p, ts = [p] ∧ Part n p ∧ Q (.lst ((kids p).map enc)) M
def spAllP : Sp3 := fun ts M Q => ∃ n p, ts = [p] ∧ Part n p ∧ n ≤ 12 ∧ Q (.lst ((allP n [] p).map enc)) M
def spLvP : Sp3 := fun ts M Q => ∃ n p l, ts = [p, plc l] ∧ Part n p ∧ n ≤ 12 ∧ l.length ≤ 60 ∧ Q (.lst ((lvP n l p).map fun x => plc x.1)) M
def spCols : Sp3 := fun ts M Q => ∃ n p, ts = [p] ∧ Part n p ∧ n ≤ 12 ∧ Q (.lst ((colsOf n p).map prT)) M
def isNo : T → Bool
  | .non => true | _ => false
/-- the places of the main parts -/
def mainPl (n : Nat) (wh : T) (k : Nat) : List (List Nat) := (if isNo wh then [] else (lvP n [1] wh).map (·.1)) ++ (List.range k).map fun i => [2, i]
def spMain : Sp3 := fun ts M Q => ∃ n refs wh hs ord lim, ts = [.tup [refs, wh, .tup hs, ord, lim]] ∧ Q5 n (.tup [refs, wh, .tup hs, ord, lim]) ∧ n ≤ 12 ∧ Q (.tup ((mainPl n wh hs.length).map plc)) M
def spNamed : Sp3 := fun ts M Q => ∃ (n : Nat) (p : T) (l : List Nat) (rl : List (Str × Str)) (rest : List T), ts = [.tup (.tup (rl.map prT) :: rest), plc l] ∧ partAt (.tup (.tup (rl.map prT) :: rest)) l = some p ∧ Part n p ∧ n ≤ 8 ∧ rl.length ≤ 100 ∧
  ∀ zs : List Str, sortedS zs = true → zs.Nodup → (∀ z, z ∈ zs ↔ z ∈ rl.map (·.1) ∧ ∃ c ∈ colsOf n p, c.1 = z) → Q (.tup (zs.map T.str)) M
def spNames : Sp3 := fun ts M Q => ∃ dk c n, ∃ many : Int, ts = [.raw (.ref dk), .int many] ∧ DeckAt dk c M n ∧ n < 2 ^ 58 + 1000 ∧ 0 ≤ many ∧ many ≤ 17 ∧
  ∀ M' (al : List Str), DeckAt dk c M' (n + 2) → Fr2 dk c M M' → al.length = many.toNat → (∀ a ∈ al, Nm a) → al.Nodup → Q (.lst (al.map T.str)) M'
def spDrawnN : Sp3 := fun ts M Q => ∃ dk c wd cd S kvs n, ∃ al : List Str, ∃ i : Int, ts = [.raw (.ref dk), .raw (.ref wd), .lst (al.map T.str), .int i] ∧ 0 < i ∧ i ≤ 4 ∧ i ≤ al.length ∧ al.length ≤ 20 ∧ (∀ a ∈ al, Nm a) ∧ al.Nodup ∧ Gen dk c wd cd S kvs n M ∧ n + 2000 ≤ 2 ^ 58 ∧
  ∀ M' (rl : List (Str × Str)) wh hs ord lim, Gen dk c wd cd S kvs (n + 2000) M' → RefT kvs 4 (.tup (rl.map prT)) → (rl.map (·.1)).Nodup → (wh = .non ∨ Part 7 wh) → (0 < hs.length ∧ hs.length ≤ 2) → (∀ h ∈ hs, Part 1 h) → (∃ os, ord = .tup os ∧ os.length ≤ 2 ∧ ∀ o ∈ os, Part 0 o) → FlatV lim →
    Q (.tup [.tup (rl.map prT), wh, .tup hs, ord, lim]) M'
def spAllAtP : Nat → Sp3
  | 0 => spNo
  | n + 1 => fun ts M Q => ∃ p l, ts = [p, plc l] ∧ Part n p ∧ n ≤ 12 ∧ l.length + 2 * n ≤ 60 ∧ Q (.lst ((allP n l p).map enc)) M
def spLvAt : Nat → Sp3
  | 0 => spNo
  | n + 1 => fun ts M Q => ∃ p l, ts = [p, plc l] ∧ Part n p ∧ n ≤ 12 ∧ l.length + 2 * n ≤ 60 ∧ Q (.lst ((lvP n l p).map fun x => plc x.1)) M
/-- all parts of a question -/
def allQ (n : Nat) (wh : T) (hs : List T) : List (List Nat × T) := (if isNo wh then [] else allP n [1] wh) ++ (hs.mapIdx fun i x => allP n [2, i] x).flatten
def spEveryP (n : Nat) : Sp3 := fun ts M Q => ∃ refs wh hs ord lim, ts = [.tup [refs, wh, .tup hs, ord, lim]] ∧ Q5 n (.tup [refs, wh, .tup hs, ord, lim]) ∧ Q (.lst ((allQ n wh hs).map enc)) M
def spWid : Sp3 := fun ts M Q => ∃ dk c wd cd S kvs n refs wh hs ord lim, ∃ al : List Str, ts = [.raw (.ref dk), .raw (.ref wd), .tup [refs, wh, .tup hs, ord, lim], .lst (al.map T.str)] ∧ Gen dk c wd cd S kvs n M ∧ n + 200 ≤ 2 ^ 58 ∧ RefT kvs 4 refs ∧ hs.length ≤ 2 ∧ 0 < al.length ∧ (∀ a ∈ al, Nm a) ∧
  ∀ M' t1 t2, Gen dk c wd cd S kvs (n + 200) M' → Part 8 t1 → Part 8 t2 → Q (.tup [refs, wh, .tup (hs ++ [t1, t2]), ord, lim]) M'
def spRight : Sp3 := fun ts M Q => ∃ (rl : List (Str × Str)) (wh : T) (hs os : List T) (lim : T), ts = [.tup [.tup (rl.map prT), wh, .tup hs, .tup os, lim]] ∧ Q5 8 (.tup [.tup (rl.map prT), wh, .tup hs, .tup os, lim]) ∧ (rl.map (·.1)).Nodup ∧ Q (.bl true) M
def _root_.L3.T.len : T → Nat
  | .tup xs => xs.length | _ => 0
def spLaw : Sp3 := fun ts M Q => ∃ ns : List Int, ts = [.scr (ns.map T.int)] ∧ ns.length ≤ 63 ∧ (∀ a, M a = none) ∧ ∀ M', Q (.bl true) M'

variable {P : Program} {w : World} {K : PySem.W.Frag} {mg : Str → Option Value} {base : Heap}
section
local macro_rules | `(tactic| simp only [EV, $ls,*]) => `(tactic| simp only [EV1, sSeq, sPar, sPut, sIf, sSet, sDrop, sRet, sRetN, sNext, dOp2, dOp1, dVar, dC, dB, dTup, dLst, dLstM, dNil, dCons, dSl, doNone, doSome, dCall, dLm, $ls,*])
local macro_rules | `(tactic| simp only [EV1, $ls,*]) => `(tactic| simp only [EV2, dLm0, dSm, dAnd, dOr, dNot, dAndV, dOrV, dIf, dChain, dFn, dFn0, dYes, dDisp, dDispM, dPairs, keysT, dNewD, dNewDM, oAdd, oSub, oMul, oFdiv, oMod, oPow, $ls,*])
local macro_rules | `(tactic| simp only [EV2, $ls,*]) => `(tactic| simp only [EV3, oInt2, oNeg, oIx, oSl, oRev, oRevM, oLt, oLe, oGt, oGe, oOrd, oIsN, L3.isNon, oNotB, oDGet, oDIn, oIn, oInS, mAppend, mPop, mJoin, isL, isS, fLen, $ls,*])
local macro_rules | `(tactic| simp only [EV3, $ls,*]) => `(tactic| simp only [EV4, fIsi, fAbs, fList, fListM, fTuple, fInt, fRepr, fBls, seqOf, tyT, look, keyT, Pat.set, start3, pick, List.getElem?_cons_zero, List.getElem?_cons_succ, List.set_cons_zero, List.set_cons_succ, List.map_cons, List.map_nil, List.length_cons, List.length_nil, List.nil_append, $ls,*])
local macro_rules | `(tactic| simp only [EV4, $ls,*]) => `(tactic| simp only [EV5, List.cons_append, List.replicate_succ, List.replicate_zero, Nat.reduceSub, Nat.reduceAdd, flatOf, kit_NoneType_str, kit_bool_str, kit_int_str, kit_str_str, kit_tuple_str, kit_list_str, kit_dict_str, kit_NoneType_int, kit_bool_int, kit_int_int, kit_str_int, kit_tuple_int, kit_list_int, kit_dict_int, kit_NoneType_bool, kit_bool_bool, kit_int_bool, kit_str_bool, $ls,*])
local macro_rules | `(tactic| simp only [EV5, $ls,*]) => `(tactic| simp only [EV6, kit_tuple_bool, kit_list_bool, kit_dict_bool, kit_NoneType_tuple, kit_bool_tuple, kit_int_tuple, kit_str_tuple, kit_tuple_tuple, kit_list_tuple, kit_dict_tuple, kit_NoneType_list, kit_bool_list, kit_int_list, kit_str_list, kit_tuple_list, kit_list_list, kit_dict_list, kit_NoneType_dict, kit_bool_dict, kit_int_dict, kit_str_dict, kit_tuple_dict, kit_list_dict, kit_dict_dict, $ls,*])
local macro_rules | `(tactic| simp only [EV6, $ls,*]) => `(tactic| simp only [EV7, Bool.false_eq_true, if_false, if_true, reduceIte, true_and, sz_0, sz_1, sz_2, sz_3, sz_4, sz_5, sz_6, sz_7, sz_8, sz_9, sz_10, sz_11, sz_12, sz_13, sz_14, sz_15, sz_16, sz_17, sz_18, $ls,*])
local macro_rules | `(tactic| simp only [EV7, $ls,*]) => `(tactic| simp only [EV8, sz_19, sz_20, sz_21, sz_22, sz_23, sz_24, sz_25, sz_26, sz_27, sz_28, sz_29, sz_30, sz_31, sz_32, sz_33, sz_34, sz_35, sz_36, sz_37, sz_38, sz_39, sz_40, sz_41, sz_42, $ls,*])
local macro_rules | `(tactic| simp only [EV8, $ls,*]) => `(tactic| simp only [EV9, sz_43, sz_44, sz_45, sz_46, sz_47, atI_c0, atI_c1, atI_c2, atI_c3, atI_c4, List.append_nil, List.filterMap_cons, List.filterMap_nil, and_self, dStar, mSplit, fSortS, fSortT, L3.setAll, mExtend, dKGet, eqb_ss, eqb_ii, eqb_bb, $ls,*])
local macro_rules | `(tactic| simp only [EV9, $ls,*]) => `(tactic| simp only [eqb_nn, eqb_ni, eqb_in, eqb_ns, eqb_sn, eqb_is, eqb_si, Bool.not_true, Bool.not_false, flatT, List.all_cons, List.all_nil, Bool.and_self, $ls,*])
theorem ok_part_at (E : Fns K w mg) : FnD P w K mg base 1 E.f_part_at E.fd_part_at ["question", "place"] spPart := by
  have nd := sc_part_at.nd
  refine okD E.F_part_at sc_part_at ?len fun cdv A outer s H X hr hgd => ⟨_, (dss_cons (ds_set 2 nd rfl (by first | exact Or.inl rfl | exact Or.inr rfl) (d_var 0))
  (dss_cons (ds_for PassesOwn.never rfl (di_tup (d_var 1)) (dg_nm 3 nd rfl (by first | exact Or.inl rfl | exact Or.inr rfl))
  (dss_one (ds_set 2 nd rfl (by first | exact Or.inl rfl | exact Or.inr rfl) (d_ix (d_var 2) (d_var 3) (fun _ _ => rfl)))))
  (dss_one (ds_ret (d_var 2))))), ?_⟩
  case len =>
    rintro ts M Q ⟨q, l, p, rfl, _⟩
    rfl
  · rintro ts M Q ⟨q, l, p, rfl, h, q2⟩
    simp only [EV, sFor, iT, plc]
    refine (?loop : ∀ (r : List Nat) (t : T) (y : Option T), partAt t r = some p → forL _ _ _ _ (r.map fun i => T.int (i : Nat)) [some q, some (.tup (l.map fun i => T.int (i : Nat))), some t, y] M) l q none h
    case loop =>
      intro r
      induction r with
      | nil =>
        intro t y ht
        rw [partAt_nil] at ht
        cases ht
        exact ⟨trivial, q2⟩
      | cons i r ih =>
        intro t y ht
        obtain ⟨xs, x, rfl, e, h2⟩ := partAt_cons ht
        simp only [EV, List.map_cons, forL, atN e]
        exact ih _ _ h2

theorem ok_straight_parts (E : Fns K w mg) (G_part_at : FnD P w K mg base 1 E.f_part_at E.fd_part_at ["question", "place"] spPart) : FnD P w K mg base 2 E.f_straight_parts E.fd_straight_parts ["part"] spKids := by
  have nd := sc_straight_parts.nd
  refine okD E.F_straight_parts sc_straight_parts ?len fun cdv A outer s H X hr hgd => ⟨_, (dss_one (ds_ret (d_comp [("place", 1)] fin_L rfl nd (di_tup (d_kget (by rfl) E.k_SUB_PLACES (d_ix (d_var 0) d_int (fun _ _ => rfl)) (fun _ _ => rfl))) (by kernel_rfl)
  (fun _ _ _ _ _ => (dg_nm 1 nd rfl (by first | exact Or.inl rfl | exact Or.inr rfl))) (fun _ _ _ _ _ => dts_nil) (fun _ _ _ _ _ => (d_tup (da_cons (d_var 1) (da_cons (d_fn G_part_at (hr.mono (by decide)) hgd (by rfl) E.g_part_at E.F_part_at.kp (kb_part_at_2 E) (da_cons (d_var 0) (da_cons (d_var 1) da_nil)) dk_nil) da_nil))))))), ?_⟩
  case len =>
    rintro ts M Q ⟨n, p, rfl, _⟩
    rfl
  · rintro ts M Q ⟨n, p, rfl, hp, q⟩
    have at1 : ∀ {a b : T} (l : List Nat) (R : QE), partAt a l = some b → R b M → spPart [a, plc l] M R := fun {a b} l R e h => ⟨a, l, b, rfl, e, h⟩
    cases hp with
    | col ha hb =>
      simp only [EV, dKGet, dComp, iT, compL, finL, sb_column, sb_value, sb_plus, sb_is, sb_not, sb_exists, sb_less, sb_most, sb_same, sb_and, sb_or, sb_only, sb_first]
      exact q
    | val hv =>
      simp only [EV, dKGet, dComp, iT, compL, finL, sb_column, sb_value, sb_plus, sb_is, sb_not, sb_exists, sb_less, sb_most, sb_same, sb_and, sb_or, sb_only, sb_first]
      rw [kids_val] at q
      exact q
    | @plus n w x v hw hx hv =>
      have hh := hole_plus hw hx hv
      rw [kids_plus hw] at q
      rcases hw with rfl | rfl <;> simp only [EV, dKGet, dComp, iT, compL, finL, dYes, wipe3, sb_column, sb_value, sb_plus, sb_is, sb_not, sb_exists, sb_less, sb_most, sb_same, sb_and, sb_or, sb_only, sb_first]
      all_goals
        refine at1 [1] _ hh.at_ ?_
        try simp only [EV, compL, finL]
        exact ⟨by decide, q⟩
    | @not n x hx =>
      have hh := hole_not hx
      rw [kids_not] at q
      simp only [EV, dKGet, dComp, iT, compL, finL, dYes, wipe3, sb_column, sb_value, sb_plus, sb_is, sb_not, sb_exists, sb_less, sb_most, sb_same, sb_and, sb_or, sb_only, sb_first]
      refine at1 [1] _ hh.at_ ?_
      try simp only [EV, compL, finL]
      exact ⟨by decide, q⟩
    | @two n w x y hw hx hy =>
      have h1 := hole_two1 hw hx hy
      have h2 := hole_two2 hw hx hy
      rw [kids_two hw] at q
      rcases hw with rfl | rfl | rfl | rfl | rfl <;> simp only [EV, dKGet, dComp, iT, compL, finL, dYes, wipe3, sb_column, sb_value, sb_plus, sb_is, sb_not, sb_exists, sb_less, sb_most, sb_same, sb_and, sb_or, sb_only, sb_first]
      all_goals
        refine at1 [1] _ h1.at_ ?_
        try simp only [EV, compL, finL]
        refine ⟨by decide, at1 [2] _ h2.at_ ?_⟩
        try simp only [EV, compL, finL]
        exact ⟨by decide, q⟩
    | @«exists» n o x ho hx =>
      have hh := hole_ex ho hx
      rw [kids_exists] at q
      simp only [EV, dKGet, dComp, iT, compL, finL, dYes, wipe3, sb_column, sb_value, sb_plus, sb_is, sb_not, sb_exists, sb_less, sb_most, sb_same, sb_and, sb_or, sb_only, sb_first]
      refine at1 [1, 1] _ hh.at_ ?_
      try simp only [EV, compL, finL]
      exact ⟨by decide, q⟩
    | @only n w o x y hw ho hx hy =>
      have h1 := hole_on1 hw ho hx hy
      have h2 := hole_on2 hw ho hx hy
      rw [kids_only hw] at q
      rcases hw with rfl | rfl <;> simp only [EV, dKGet, dComp, iT, compL, finL, dYes, wipe3, sb_column, sb_value, sb_plus, sb_is, sb_not, sb_exists, sb_less, sb_most, sb_same, sb_and, sb_or, sb_only, sb_first]
      all_goals
        refine at1 [1, 1] _ h1.at_ ?_
        try simp only [EV, compL, finL]
        refine ⟨by decide, at1 [2] _ h2.at_ ?_⟩
        try simp only [EV, compL, finL]
        exact ⟨by decide, q⟩

theorem ok_all_parts (E : Fns K w mg) (G_straight_parts : FnD P w K mg base 2 E.f_straight_parts E.fd_straight_parts ["part"] spKids) : FnD P w K mg base 3 E.f_all_parts E.fd_all_parts ["part"] spAllP := by
  have nd := sc_all_parts.nd
  refine okF E.F_all_parts sc_all_parts ?len fun cdv A outer s H X hr hgd => ⟨_, (dss_cons (ds_par 1 2 rfl nd rfl rfl (by decide) rfl rfl (d_lstM da_nil) (d_lstM (da_cons (d_tup (da_cons (d_tup da_nil) (da_cons (d_var 0) da_nil))) da_nil)))
  (dss_cons (ds_while PassesOwn.never (dt_ne hr.units (d_var 2) (d_lst da_nil))
  (dss_cons (ds_asg (d_pop (d_var 2)) (dg_tp [3, 4] rfl (pgs_cons (pg_name (i := 3) nd rfl (by first | exact Or.inl rfl | exact Or.inr rfl)) (pgs_cons (pg_name (i := 4) nd rfl (by first | exact Or.inl rfl | exact Or.inr rfl)) pgs_nil))))
  (dss_cons (ds_expr (d_append (d_var 1) (da_cons (d_tup (da_cons (d_var 3) (da_cons (d_var 4) da_nil))) da_nil)))
  (dss_one (ds_expr (d_extend (d_var 2) (da_cons (d_rev (d_comp [("more", 5), ("inner", 6)] fin_L rfl nd (di_list (d_fn G_straight_parts (hr.mono (by decide)) hgd (by rfl) E.g_straight_parts E.F_straight_parts.kp (kb_straight_parts_1 E) (da_cons (d_var 4) da_nil) dk_nil)) (by kernel_rfl)
  (fun _ _ _ _ _ => (dg_tp [5, 6] rfl (pgs_cons (pg_name (i := 5) nd rfl (by first | exact Or.inl rfl | exact Or.inr rfl)) (pgs_cons (pg_name (i := 6) nd rfl (by first | exact Or.inl rfl | exact Or.inr rfl)) pgs_nil)))) (fun _ _ _ _ _ => dts_nil) (fun _ _ _ _ _ => (d_tup (da_cons (d_add (d_var 3) (d_var 5)) (da_cons (d_var 6) da_nil)))))) da_nil)))))))
  (dss_one (ds_ret (d_var 1))))), ?_⟩
  case len =>
    rintro ts M Q ⟨n, p, rfl, _⟩
    rfl
  · rintro ts M Q ⟨n, p, rfl, hp, hn, q⟩
    simp only [EV, dC]
    intro p1 hp1 p2 hp2
    have p12 : p1 ≠ p2 := fun z => by rw [z, mset_same] at hp2; cases hp2
    rw [mset_ne p12.symm] at hp2
    have c12 := cnt12 hn
    have hlen := allP_len hp []
    refine ⟨_, whileL_of (fun k ss M' => ∃ fs ws a b c d, ss = [some p, some (.raw (.ref p1)), some (.raw (.ref p2)), a, b, c, d] ∧ M' p1 = some (.lst (fs.map enc)) ∧ M' p2 = some (.lst (ws.map enc)) ∧ SubM M M' ∧
      (∀ w ∈ ws, Part n w.2) ∧ fs ++ ws.reverse.flatMap (fun w => allP n w.1 w.2) = allP n [] p ∧ k = (ws.reverse.flatMap fun w => allP n w.1 w.2).length) ?_ _ _ (Nat.lt_succ_self _)
      ⟨[], [([], p)], none, none, none, none, rfl, (mset_ne p12).trans mset_same, mset_same, (SubM.new hp1).mset hp2, by simpa using hp, by simp, rfl⟩⟩
    rintro k ss M' ⟨fs, ws, a, b, c, d, rfl, h1, h2, hs, hw, hf, rfl⟩ N hN
    simp only [EV, dC]
    refine eq_nilM h2 (fun t ht => ?_) ?_
    · obtain ⟨x, hx, rfl⟩ := List.mem_map.mp ht
      exact (enc_shk (hw x hx)).mono (by omega)
    rcases List.eq_nil_or_concat ws with rfl | ⟨vs, x, rfl⟩
    · simp only [EV, List.map_nil, decide_true, Bool.not_true]
      refine .lst h1 hs hp1 ?_
      simp only [List.reverse_nil, List.flatMap_nil, List.append_nil] at hf
      rw [hf]
      exact q
    · rw [List.concat_eq_append] at h2 hw hf ⊢
      have hx : Part n x.2 := hw x (by simp)
      have ne : decide ((vs ++ [x]).map enc = []) = false := decide_eq_false (by simp)
      obtain ⟨xl, xt⟩ := x
      have hle : (fs ++ (vs ++ [(xl, xt)]).reverse.flatMap fun w => allP n w.1 w.2).length ≤ 8191 := by rw [hf]; omega
      have hvl : ∀ us : List (List Nat × T), us.length ≤ (us.reverse.flatMap fun w => allP n w.1 w.2).length := fun us => by
        rw [List.length_flatMap]
        have : ∀ zs : List (List Nat × T), zs.length ≤ (zs.map fun w => (allP n w.1 w.2).length).sum := fun zs => by
          induction zs with
          | nil => exact Nat.le_refl _
          | cons z zs ih => rw [List.map_cons, List.sum_cons, List.length_cons]; have := allP_pos (n := n) (l := z.1) (p := z.2); omega
        have h := this us.reverse
        rw [List.length_reverse] at h
        exact h
      have hv := hvl (vs ++ [(xl, xt)])
      rw [List.length_append] at hle
      have e1 := last_map enc vs (xl, xt)
      have e2 := drop_map enc vs (xl, xt)
      simp only [EV, ne, h1, h2, e1, e2, mset_ne p12, enc, plc, iL, dComp, Bool.not_false]
      have hml : ∀ us : List (List Nat × T), (us.map enc).length = us.length := fun us => by rw [List.length_map]
      simp only [EV, mset_ne p12.symm, mset_same, hml]
      refine ⟨sz (by omega), n, xt, rfl, hx, ?_⟩
      have ko := hx.kidsOk
      have kf : (kids xt).length ≤ 2 := ko.few
      rw [List.reverse_append, List.flatMap_append] at hf
      simp only [List.reverse_cons, List.reverse_nil, List.nil_append, List.flatMap_cons, List.flatMap_nil, List.append_nil, allP_step hx] at hf
      obtain ⟨_, _, e3, xl2, _⟩ := allP_at hp (l := []) (x := (xl, xt)) (by rw [← hf]; simp)
      rw [List.nil_append] at e3
      subst e3
      replace xl2 : xl.length ≤ 2 * n := xl2
      simp only [EV, dC]
      refine compL_allA (g := enc) (xs := kids xt) (f := fun y : List Nat × T => enc (xl ++ y.1, y.2)) trivial (fun y hy => ⟨_, rfl, fun R kk => ?_⟩) (sz (by omega)) ?_
      · obtain ⟨m, _, yl, _⟩ := ko.each y hy
        simp only [enc, plc, List.map_append] at kk
        simp only [EV, enc, plc, wipe3]
        exact ⟨sz (by rw [List.length_map, List.length_map]; omega), kk⟩
      simp only [EV, finL, mset_ne p12.symm, mset_same]
      refine ⟨sz (by rw [List.length_reverse, List.length_map, List.length_map]; simp only [List.length_append] at hv; omega), ?_⟩
      have er : (vs ++ ((kids xt).map fun y => (xl ++ y.1, y.2)).reverse).reverse.flatMap (fun w => allP n w.1 w.2) = (kids xt).flatMap (fun y => allP n (xl ++ y.1) y.2) ++ vs.reverse.flatMap fun w => allP n w.1 w.2 := by
        rw [List.reverse_append, List.reverse_reverse, List.flatMap_append, List.flatMap_map]
      refine hN _ _ _ ?_ ⟨fs ++ [(xl, xt)], vs ++ ((kids xt).map fun y => (xl ++ y.1, y.2)).reverse, _, _, _, _, rfl, ?_, ?_, ?_, ?_, ?_, rfl⟩
      · rw [er, List.concat_eq_append, List.reverse_append, List.flatMap_append]
        simp only [List.reverse_cons, List.reverse_nil, List.nil_append, List.flatMap_cons, List.flatMap_nil, List.append_nil, allP_step hx, List.length_append, List.length_cons]
        omega
      · rw [mset_ne p12, mset_same, List.map_append]
        rfl
      · rw [mset_same, List.map_append, List.map_reverse, List.map_map]
        rfl
      · exact ((hs.mset hp2).mset hp1).mset hp2
      · intro w hw'
        rcases List.mem_append.mp hw' with h | h
        · exact hw w (List.mem_append_left _ h)
        · obtain ⟨y, hy, rfl⟩ := List.mem_map.mp (List.mem_reverse.mp h)
          obtain ⟨m, e, _, _, hh⟩ := ko.each y hy
          exact hh.part.mono (by omega)
      · rw [er, List.append_assoc]
        exact hf

theorem ok_leaves_of (E : Fns K w mg) (G_straight_parts : FnD P w K mg base 2 E.f_straight_parts E.fd_straight_parts ["part"] spKids) : FnD P w K mg base 3 E.f_leaves_of E.fd_leaves_of ["condition", "place"] spLvP := by
  have nd := sc_leaves_of.nd
  refine okF E.F_leaves_of sc_leaves_of ?len fun cdv A outer s H X hr hgd => ⟨_, (dss_cons (ds_par 2 3 rfl nd rfl rfl (by decide) rfl rfl (d_lstM da_nil) (d_lstM (da_cons (d_tup (da_cons (d_var 1) (da_cons (d_var 0) da_nil))) da_nil)))
  (dss_cons (ds_while PassesOwn.never (dt_ne hr.units (d_var 3) (d_lst da_nil))
  (dss_cons (ds_asg (d_pop (d_var 3)) (dg_tp [4, 5] rfl (pgs_cons (pg_name (i := 4) nd rfl (by first | exact Or.inl rfl | exact Or.inr rfl)) (pgs_cons (pg_name (i := 5) nd rfl (by first | exact Or.inl rfl | exact Or.inr rfl)) pgs_nil))))
  (dss_one (ds_if (dt_in (d_ix (d_var 5) d_int (fun _ _ => rfl)) (d_gv (by rfl) E.v_JOINING) (by rfl))
  (dss_one (ds_expr (d_extend (d_var 3) (da_cons (d_rev (d_comp [("more", 6), ("inner", 7)] fin_L rfl nd (di_list (d_fn G_straight_parts (hr.mono (by decide)) hgd (by rfl) E.g_straight_parts E.F_straight_parts.kp (kb_straight_parts_1 E) (da_cons (d_var 5) da_nil) dk_nil)) (by kernel_rfl)
  (fun _ _ _ _ _ => (dg_tp [6, 7] rfl (pgs_cons (pg_name (i := 6) nd rfl (by first | exact Or.inl rfl | exact Or.inr rfl)) (pgs_cons (pg_name (i := 7) nd rfl (by first | exact Or.inl rfl | exact Or.inr rfl)) pgs_nil)))) (fun _ _ _ _ _ => dts_nil) (fun _ _ _ _ _ => (d_tup (da_cons (d_add (d_var 4) (d_var 6)) (da_cons (d_var 7) da_nil)))))) da_nil))))
  (dss_one (ds_expr (d_append (d_var 2) (da_cons (d_var 4) da_nil))))))))
  (dss_one (ds_ret (d_var 2))))), ?_⟩
  case len =>
    rintro ts M Q ⟨n, p, l, rfl, _⟩
    rfl
  · rintro ts M Q ⟨n, p, l, rfl, hp, hn, hl, q⟩
    have hml : ∀ us : List (List Nat × T), (us.map enc).length = us.length := fun us => by rw [List.length_map]
    simp only [EV, plc]
    intro p1 hp1 p2 hp2
    have p12 : p1 ≠ p2 := fun z => by rw [z, mset_same] at hp2; cases hp2
    rw [mset_ne p12.symm] at hp2
    have c12 := cnt12 hn
    have hlen := allP_len hp l
    have hlen2 := lvP_len hp l
    refine ⟨_, whileL_of (fun k ss M' => ∃ (fs : List (List Nat)) (ws : List (List Nat × T)) (a b c d : Option T), ss = [some p, some (plc l), some (.raw (.ref p1)), some (.raw (.ref p2)), a, b, c, d] ∧ M' p1 = some (.lst (fs.map plc)) ∧ M' p2 = some (.lst (ws.map enc)) ∧ SubM M M' ∧
      (∀ w ∈ ws, ∃ m, Part m w.2 ∧ m ≤ n ∧ w.1.length + 2 * m ≤ l.length + 2 * n) ∧ fs ++ ws.reverse.flatMap (fun w => (lvP n w.1 w.2).map (·.1)) = (lvP n l p).map (·.1) ∧ k = (ws.reverse.flatMap fun w => allP n w.1 w.2).length ∧ k ≤ cntP n) ?_ _ _ (Nat.lt_succ_self _)
      ⟨[], [(l, p)], none, none, none, none, rfl, (mset_ne p12).trans mset_same, mset_same, (SubM.new hp1).mset hp2, fun w hw => by
        rw [List.mem_singleton.mp hw]
        exact ⟨n, hp, Nat.le_refl _, Nat.le_refl _⟩, by simp, rfl, by simpa using hlen⟩⟩
    rintro k ss M' ⟨fs, ws, a, b, c, d, rfl, h1, h2, hs, hw, hf, rfl, hk⟩ N hN
    simp only [EV, dC]
    refine eq_nilM h2 (fun t ht => ?_) ?_
    · obtain ⟨x, hx, rfl⟩ := List.mem_map.mp ht
      obtain ⟨m, hm, hm2, _⟩ := hw x hx
      exact (enc_shk hm).mono (by omega)
    rcases List.eq_nil_or_concat ws with rfl | ⟨vs, x, rfl⟩
    · simp only [EV, List.map_nil, decide_true, Bool.not_true]
      refine .lst h1 hs hp1 ?_
      simp only [List.reverse_nil, List.flatMap_nil, List.append_nil] at hf
      rw [hf, List.map_map]
      exact q
    · rw [List.concat_eq_append] at h2 hw hf hk hN
      rw [List.concat_eq_append]
      obtain ⟨xl, xt⟩ := x
      obtain ⟨m, hm, hm2, hm3⟩ := hw (xl, xt) (by simp)
      replace hm : Part m xt := hm
      replace hm3 : xl.length + 2 * m ≤ l.length + 2 * n := hm3
      have hx := hm.mono hm2
      have ne : decide ((vs ++ [(xl, xt)]).map enc = []) = false := decide_eq_false (by simp)
      have hvl : ∀ us : List (List Nat × T), us.length ≤ (us.reverse.flatMap fun w => allP n w.1 w.2).length := fun us => by
        rw [List.length_flatMap]
        have : ∀ zs : List (List Nat × T), zs.length ≤ (zs.map fun w => (allP n w.1 w.2).length).sum := fun zs => by
          induction zs with
          | nil => exact Nat.le_refl _
          | cons z zs ih => rw [List.map_cons, List.sum_cons, List.length_cons]; have := allP_pos (n := n) (l := z.1) (p := z.2); omega
        have h := this us.reverse
        rw [List.length_reverse] at h
        exact h
      have hv := hvl (vs ++ [(xl, xt)])
      have e1 := last_map enc vs (xl, xt)
      have e2 := drop_map enc vs (xl, xt)
      have ko := hm.kidsOk
      have kf : (kids xt).length ≤ 2 := ko.few
      have kl : (allP n xl xt).length = ((kids xt).flatMap fun y => allP n (xl ++ y.1) y.2).length + 1 := by rw [allP_step hx, List.length_cons]
      rw [List.reverse_append, List.flatMap_append] at hf hk hN hv
      simp only [List.reverse_cons, List.reverse_nil, List.nil_append, List.flatMap_cons, List.flatMap_nil, List.append_nil] at hf hk hN hv
      have hfl : fs.length ≤ 8191 := by
        have := congrArg List.length hf
        simp only [List.length_append, List.length_map] at this
        omega
      obtain ⟨xw, xa, xr, rfl⟩ := hm.head
      simp only [EV, ne, h1, h2, e1, e2, mset_ne p12, enc, plc, iL, dComp, Bool.not_false, join_in]
      rw [join_in (r := xa :: xr)]
      cases hj : joinW (.tup (.str xw :: xa :: xr)) with
      | true =>
        simp only [EV, mset_ne p12.symm, mset_same, hml]
        refine ⟨n, _, rfl, hx, ?_⟩
        simp only [EV, dC]
        refine compL_allA (g := enc) (xs := kids _) (f := fun y : List Nat × T => enc (xl ++ y.1, y.2)) trivial (fun y hy => ⟨_, rfl, fun R kk => ?_⟩) (sz (by omega)) ?_
        · obtain ⟨j, _, yl, _⟩ := ko.each y hy
          simp only [enc, plc, List.map_append] at kk
          simp only [EV, enc, plc, wipe3]
          exact ⟨sz (by rw [List.length_map, List.length_map]; omega), kk⟩
        simp only [EV, finL, mset_ne p12.symm, mset_same]
        simp only [List.length_append, List.length_cons, List.length_nil] at hk hv
        refine ⟨sz (by rw [List.length_reverse, List.length_map, List.length_map]; omega), ?_⟩
        have er : ∀ {β : Type} (f : List Nat × T → List β), (vs ++ ((kids (.tup (.str xw :: xa :: xr))).map fun y => (xl ++ y.1, y.2)).reverse).reverse.flatMap f = (kids (.tup (.str xw :: xa :: xr))).flatMap (fun y => f (xl ++ y.1, y.2)) ++ vs.reverse.flatMap f := fun f => by
          rw [List.reverse_append, List.reverse_reverse, List.flatMap_append, List.flatMap_map]
        refine hN _ _ _ ?_ ⟨fs, vs ++ ((kids (.tup (.str xw :: xa :: xr))).map fun y => (xl ++ y.1, y.2)).reverse, _, _, _, _, rfl, ?_, ?_, ?_, ?_, ?_, rfl, ?_⟩
        · rw [er, List.length_append, List.length_append]
          dsimp only
          omega
        · rw [mset_ne p12, mset_ne p12]
          exact h1
        · rw [mset_same, List.map_append, List.map_reverse, List.map_map]
          rfl
        · exact (hs.mset hp2).mset hp2
        · intro w hw'
          rcases List.mem_append.mp hw' with h | h
          · exact hw w (List.mem_append_left _ h)
          · obtain ⟨y, hy, rfl⟩ := List.mem_map.mp (List.mem_reverse.mp h)
            obtain ⟨j, e, yl, _, hh⟩ := ko.each y hy
            exact ⟨j, hh.part, by omega, by show (xl ++ y.1).length + 2 * j ≤ _; rw [List.length_append]; omega⟩
        · rw [er]
          rw [lvP_step hx, if_pos hj, List.map_flatMap] at hf
          exact hf
        · rw [er, List.length_append]
          dsimp only
          omega
      | false =>
        simp only [EV, dC]
        simp only [List.length_append, List.length_cons, List.length_nil] at hk hv
        refine ⟨sz' (by rw [List.length_map]; omega), ?_⟩
        refine hN _ _ _ ?_ ⟨fs ++ [xl], vs, _, _, _, _, rfl, ?_, ?_, ?_, fun w hw' => hw w (List.mem_append_left _ hw'), ?_, rfl, ?_⟩
        · rw [List.length_append]
          omega
        · rw [mset_same, List.map_append]
          rfl
        · rw [mset_ne p12.symm, mset_same]
        · exact (hs.mset hp2).mset hp1
        · rw [lvP_step hx, if_neg (by rw [hj]; decide)] at hf
          rw [List.append_assoc]
          exact hf
        · omega

theorem ok_columns_in (E : Fns K w mg) (G_all_parts : FnD P w K mg base 3 E.f_all_parts E.fd_all_parts ["part"] spAllP) : FnD P w K mg base 4 E.f_columns_in E.fd_columns_in ["part"] spCols := by
  have nd := sc_columns_in.nd
  refine okF E.F_columns_in sc_columns_in ?len fun cdv A outer s H X hr hgd => ⟨_, (dss_one (ds_ret (d_comp [("place", 1), ("here", 2)] fin_L rfl nd (di_list (d_fn G_all_parts (hr.mono (by decide)) hgd (by rfl) E.g_all_parts E.F_all_parts.kp (kb_all_parts_1 E) (da_cons (d_var 0) da_nil) dk_nil)) (by kernel_rfl)
  (fun _ _ _ _ _ => (dg_tp [1, 2] rfl (pgs_cons (pg_name (i := 1) nd rfl (by first | exact Or.inl rfl | exact Or.inr rfl)) (pgs_cons (pg_name (i := 2) nd rfl (by first | exact Or.inl rfl | exact Or.inr rfl)) pgs_nil)))) (fun _ _ _ _ _ => (dts_one (dt_eq hr.units (d_ix (d_var 2) d_int (fun _ _ => rfl)) d_str))) (fun _ _ _ _ _ => (d_slice (d_var 2) (do_some d_int) do_none))))), ?_⟩
  case len =>
    rintro ts M Q ⟨n, p, rfl, _⟩
    rfl
  · rintro ts M Q ⟨n, p, rfl, hp, hn, q⟩
    have c12 := cnt12 hn
    have hlen := allP_len hp []
    simp only [EV, dComp, iL]
    refine ⟨n, p, rfl, hp, hn, ?_⟩
    simp only [EV, dC]
    refine compL_mapA (g := enc) (xs := allP n [] p) (keep := fun x => (colP x.2).isSome) (f := fun x => optT prT (colP x.2)) trivial (fun x hx => ⟨_, rfl, fun R R2 => ?_⟩) (sz (by simp only [List.length_nil]; omega)) ?_
    · obtain ⟨r, m, _, _, hh⟩ := allP_at hp hx
      obtain ⟨xl, xt⟩ := x
      rcases hh.part.colOr with ⟨a, b, e, _, _⟩ | ⟨w', a, r', e, hw⟩
      · replace e : xt = _ := e
        subst e
        simp only [EV, enc, wipe3, colP_col, Option.isSome_some, optT, c31]
        exact ⟨fun h => h, fun _ h => h⟩
      · replace e : xt = _ := e
        subst e
        simp only [EV, enc, wipe3, colP_head hw, decide_eq_false hw, Option.isSome_none]
        exact ⟨fun h => h, fun h => absurd h not_false⟩
    · rw [List.nil_append]
      show Fz Q (T.lst _) M
      rw [filter_some (g := prT) (f := fun x : List Nat × T => colP x.2)]
      exact .same .refl q

theorem ok_main_parts (E : Fns K w mg) (G_leaves_of : FnD P w K mg base 3 E.f_leaves_of E.fd_leaves_of ["condition", "place"] spLvP) : FnD P w K mg base 4 E.f_main_parts E.fd_main_parts ["question"] spMain := by
  have nd := sc_main_parts.nd
  refine okF E.F_main_parts sc_main_parts ?len fun cdv A outer s H X hr hgd => ⟨_, (dss_cons (ds_set 1 nd rfl (by first | exact Or.inl rfl | exact Or.inr rfl) (d_ifExp (dt_isN (d_ix (d_var 0) (d_gc (by rfl) E.c_WHERE) (fun _ _ => rfl))) (d_lst da_nil) (d_fn G_leaves_of (hr.mono (by decide)) hgd (by rfl) E.g_leaves_of E.F_leaves_of.kp (kb_leaves_of_2 E) (da_cons (d_ix (d_var 0) (d_gc (by rfl) E.c_WHERE) (fun _ _ => rfl)) (da_cons (d_tup (da_cons (d_gc (by rfl) E.c_WHERE) da_nil)) da_nil)) dk_nil)))
  (dss_one (ds_ret (d_tuple (by rfl) E.m_tuple (da_cons (d_add (d_var 1) (d_comp [("index", 2)] fin_L rfl nd (di_range1 (by rfl) E.m_range (d_len (by rfl) E.m_len (da_cons (d_ix (d_var 0) (d_gc (by rfl) E.c_TOLD) (fun _ _ => rfl)) da_nil))) (by kernel_rfl)
  (fun _ _ _ _ _ => (dg_nm 2 nd rfl (by first | exact Or.inl rfl | exact Or.inr rfl))) (fun _ _ _ _ _ => dts_nil) (fun _ _ _ _ _ => (d_tup (da_cons (d_gc (by rfl) E.c_TOLD) (da_cons (d_var 2) da_nil)))))) da_nil))))), ?_⟩
  case len =>
    rintro ts M Q ⟨n, refs, wh, hs, ord, lim, rfl, _⟩
    rfl
  · rintro ts M Q ⟨n, refs, wh, hs, ord, lim, rfl, hq, hn, q⟩
    have c12 := cnt12 hn
    obtain ⟨refs', wh', hs', ord', lim', e, h1, h2, h3, h4, h5, h6⟩ := hq.ex
    cases e
    have rest : ∀ (x : T) (M : Mp) (R : QE), R (.lst (((List.range hs.length).map fun i => [2, i]).map plc)) M →
        (dComp (iR1 (dCall fLen (dCons (dOp2 oIx (dVar 0) (dC (.int 2))) dNil))) (.nm 2) dYes (dTup (dCons (dC (.int 2)) (dCons (dVar 2) dNil))) [2] finL) [some (.tup [refs, wh, .tup hs, ord, lim]), some x, none] M R := by
      intro x M R k
      simp only [EV, dComp, iR1]
      refine ⟨⟨by omega, by omega⟩, ?_⟩
      rw [ups0]
      refine compL_allA (f := fun i : Nat => plc [2, i]) trivial (fun i hi => ⟨_, rfl, fun R kk => ?_⟩) (sz (by rw [List.length_range]; omega)) ?_
      · simp only [plc, List.map_cons, List.map_nil] at kk
        simp only [EV, wipe3]
        exact kk
      · rw [List.map_map] at k
        exact k
    rcases h2 with rfl | h2
    · simp only [EV, dC]
      refine rest _ _ _ ?_
      simp only [EV, dC]
      refine ⟨sz (by rw [List.length_map, List.length_map, List.length_range]; omega), .same .refl ?_⟩
      exact q
    · have nn : L3.isNon wh = some false := by cases h2 <;> rfl
      have no : isNo wh = false := by cases h2 <;> rfl
      have hl := lvP_len h2 [1]
      simp only [nn, sSeq, sPar, sPut, sIf, sSet, sDrop, sRet, sRetN, sNext, dOp2, dOp1, dVar, dC, dB, dTup, dLst, dLstM, dNil, dCons, dSl, doNone, doSome, dCall, dLm, dLm0, dSm, dAnd, dOr, dNot, dAndV, dOrV, dIf, dChain, dFn, dFn0, dYes, dDisp, dDispM, dPairs, keysT, dNewD, dNewDM,
 oAdd, oSub, oMul, oFdiv, oMod, oPow, oInt2, oNeg, oIx, oSl, oRev, oRevM, oLt, oLe, oGt, oGe, oOrd, oIsN, oNotB, oDGet, oDIn, oIn, oInS, mAppend, mPop, mJoin, isL, isS, fLen, fIsi, fAbs, fList, fListM, fTuple, fInt, fRepr, fBls, seqOf, tyT,
 look, keyT, Pat.set, start3, pick, List.getElem?_cons_zero, List.getElem?_cons_succ, List.set_cons_zero, List.set_cons_succ, List.map_cons, List.map_nil, List.length_cons, List.length_nil, List.nil_append, List.cons_append, List.replicate_succ, List.replicate_zero, Nat.reduceSub, Nat.reduceAdd, flatOf, kit_NoneType_str, kit_bool_str, kit_int_str, kit_str_str, kit_tuple_str, kit_list_str, kit_dict_str, kit_NoneType_int, kit_bool_int, kit_int_int, kit_str_int, kit_tuple_int, kit_list_int, kit_dict_int, kit_NoneType_bool, kit_bool_bool, kit_int_bool, kit_str_bool, kit_tuple_bool, kit_list_bool, kit_dict_bool, kit_NoneType_tuple, kit_bool_tuple, kit_int_tuple, kit_str_tuple, kit_tuple_tuple, kit_list_tuple, kit_dict_tuple, kit_NoneType_list, kit_bool_list, kit_int_list, kit_str_list, kit_tuple_list, kit_list_list, kit_dict_list, kit_NoneType_dict, kit_bool_dict, kit_int_dict, kit_str_dict, kit_tuple_dict, kit_list_dict, kit_dict_dict, Bool.false_eq_true, if_false, if_true, reduceIte, true_and, sz_0, sz_1, sz_2, sz_3, sz_4, sz_5, sz_6, sz_7, sz_8, sz_9, sz_10, sz_11, sz_12, sz_13, sz_14, sz_15, sz_16, sz_17, sz_18, sz_19, sz_20, sz_21, sz_22, sz_23, sz_24, sz_25, sz_26, sz_27, sz_28, sz_29, sz_30, sz_31, sz_32, sz_33, sz_34, sz_35, sz_36, sz_37, sz_38, sz_39, sz_40, sz_41, sz_42, sz_43, sz_44, sz_45, sz_46, sz_47, atI_c0, atI_c1, atI_c2, atI_c3, atI_c4, List.append_nil, List.filterMap_cons, List.filterMap_nil, and_self, dStar, mSplit, fSortS, fSortT, L3.setAll, mExtend, dKGet, dB, oIn, seqOf, eqb_ss, eqb_ii, eqb_bb, eqb_nn, eqb_ni, eqb_in, eqb_ns, eqb_sn, eqb_is, eqb_si, Bool.not_true, Bool.not_false, flatT, List.all_cons, List.all_nil, Bool.and_self]
      refine ⟨n, wh, [1], rfl, h2, hn, by decide, ?_⟩
      refine rest _ _ _ ?_
      simp only [EV, dC]
      refine ⟨sz (by rw [List.length_map, List.length_map, List.length_map, List.length_range]; omega), .same .refl ?_⟩
      have e : (lvP n [1] wh).map (fun x => plc x.1) = ((lvP n [1] wh).map (·.1)).map plc := by rw [List.map_map]; rfl
      rw [mainPl, no, if_neg Bool.false_ne_true, List.map_append] at q
      rw [e]
      exact q

theorem ok_named (E : Fns K w mg) (G_part_at : FnD P w K mg base 1 E.f_part_at E.fd_part_at ["question", "place"] spPart) (G_columns_in : FnD P w K mg base 4 E.f_columns_in E.fd_columns_in ["part"] spCols) : FnD P w K mg base 5 E.f_named E.fd_named ["question", "place"] spNamed := by
  have nd := sc_named.nd
  refine okF E.F_named sc_named ?len fun cdv A outer s H X hr hgd => ⟨_, (dss_cons (ds_set 2 nd rfl (by first | exact Or.inl rfl | exact Or.inr rfl) (d_comp [("alias", 3), ("table", 4)] fin_L rfl nd (di_tup (d_ix (d_var 0) d_int (fun _ _ => rfl))) (by kernel_rfl)
  (fun _ _ _ _ _ => (dg_tp [3, 4] rfl (pgs_cons (pg_name (i := 3) nd rfl (by first | exact Or.inl rfl | exact Or.inr rfl)) (pgs_cons (pg_name (i := 4) nd rfl (by first | exact Or.inl rfl | exact Or.inr rfl)) pgs_nil)))) (fun _ _ _ _ _ => dts_nil) (fun _ _ _ _ _ => (d_var 3))))
  (dss_one (ds_ret (d_tuple (by rfl) E.m_tuple (da_cons (d_sortC [("alias", 3), ("name", 5)] rfl nd (by rfl) E.m_sorted (di_list (d_fn G_columns_in (hr.mono (by decide)) hgd (by rfl) E.g_columns_in E.F_columns_in.kp (kb_columns_in_1 E) (da_cons (d_fn G_part_at (hr.mono (by decide)) hgd (by rfl) E.g_part_at E.F_part_at.kp (kb_part_at_2 E) (da_cons (d_var 0) (da_cons (d_var 1) da_nil)) dk_nil) da_nil) dk_nil)) (by kernel_rfl)
  (fun _ _ _ _ _ => (dg_tp [3, 5] rfl (pgs_cons (pg_name (i := 3) nd rfl (by first | exact Or.inl rfl | exact Or.inr rfl)) (pgs_cons (pg_name (i := 5) nd rfl (by first | exact Or.inl rfl | exact Or.inr rfl)) pgs_nil)))) (fun _ _ _ _ _ => (dts_one (dt_in (d_var 3) (d_var 2) (by rfl)))) (fun _ _ _ _ _ => (d_var 3))) da_nil))))), ?_⟩
  case len =>
    rintro ts M Q ⟨n, p, l, rl, rest, rfl, _⟩
    rfl
  · rintro ts M Q ⟨n, p, l, rl, rest, rfl, ha, hp, hn, hrl, q⟩
    simp only [EV, dComp, iT, dSortC]
    refine compL_allA (xs := rl) (g := prT) (f := fun a => T.str a.1) trivial (fun a ha => ⟨_, rfl, fun R kk => ?_⟩) (sz (by omega)) ?_
    · simp only [EV, wipe3]
      exact kk
    simp only [EV, finL, iL]
    have c8 : cntP n ≤ 511 := Nat.le_trans (cnt_le hn) (by decide)
    have hlen := allP_len hp []
    have hc : (colsOf n p).length ≤ (allP n [] p).length := List.length_filterMap_le _ _
    refine ⟨_, l, p, rfl, ha, n, p, rfl, hp, by omega, ?_⟩
    simp only [EV, dC]
    refine ⟨by rw [List.length_map]; omega, ?_⟩
    refine compL_mapA (g := prT) (xs := colsOf n p) (keep := fun c => inT (.str c.1) (rl.map fun a => T.str a.1)) (f := fun c => T.str c.1) trivial (fun c hc => ⟨_, rfl, fun R R2 => ?_⟩) (sz (by simp only [List.length_nil]; omega)) ?_
    · simp only [EV, wipe3, dStrE, flat_strs]
      exact ⟨fun h => h, fun _ h => ⟨⟨_, rfl⟩, h⟩⟩
    · simp only [finSet, List.nil_append]
      refine ⟨((colsOf n p).filter fun c => inT (.str c.1) (rl.map fun a => T.str a.1)).map (·.1), by rw [List.map_map]; rfl, fun zs h1 h2 h3 => ?_⟩
      refine .same .refl (q zs h1 h2 fun z => ?_)
      rw [h3, List.mem_map]
      constructor
      · rintro ⟨c, hc, rfl⟩
        obtain ⟨h4, h5⟩ := List.mem_filter.mp hc
        exact ⟨inT_strs.mp h5, c, h4, rfl⟩
      · rintro ⟨h4, c, h5, rfl⟩
        exact ⟨c, List.mem_filter.mpr ⟨h5, inT_strs.mpr h4⟩, rfl⟩

end
section
local macro_rules | `(tactic| simp only [EV, $ls,*]) => `(tactic| simp only [EV1, sSeq, sPar, sPut, sIf, sSet, sDrop, sRet, sRetN, sNext, dOp2, dOp1, dVar, dC, dB, dTup, dLst, dLstM, dNil, dCons, dSl, doNone, doSome, dCall, dLm, $ls,*])
local macro_rules | `(tactic| simp only [EV1, $ls,*]) => `(tactic| simp only [EV2, dLm0, dSm, dAnd, dOr, dNot, dAndV, dOrV, dIf, dChain, dFn, dFn0, dYes, dDisp, dDispM, dPairs, keysT, dNewD, dNewDM, oAdd, oSub, oMul, oFdiv, oMod, oPow, $ls,*])
local macro_rules | `(tactic| simp only [EV2, $ls,*]) => `(tactic| simp only [EV3, oInt2, oNeg, oIx, oSl, oRev, oRevM, oEqB, scalT, oLt, oLe, oGt, oGe, oOrd, oIsN, L3.isNon, oNotB, oDGet, oDIn, oIn, oInS, mAppend, mPop, mJoin, isL, $ls,*])
local macro_rules | `(tactic| simp only [EV3, $ls,*]) => `(tactic| simp only [EV4, isS, fLen, fIsi, fAbs, fList, fListM, fTuple, fInt, fRepr, fBls, seqOf, tyT, look, keyT, Pat.set, start3, pick, List.getElem?_cons_zero, List.getElem?_cons_succ, List.set_cons_zero, List.set_cons_succ, List.map_cons, List.map_nil, List.length_cons, $ls,*])
local macro_rules | `(tactic| simp only [EV4, $ls,*]) => `(tactic| simp only [EV5, List.length_nil, List.nil_append, List.cons_append, List.replicate_succ, List.replicate_zero, Nat.reduceSub, Nat.reduceAdd, flatOf, kit_NoneType_str, kit_bool_str, kit_int_str, kit_str_str, kit_tuple_str, kit_list_str, kit_dict_str, kit_NoneType_int, kit_bool_int, kit_int_int, kit_str_int, kit_tuple_int, kit_list_int, kit_dict_int, kit_NoneType_bool, kit_bool_bool, $ls,*])
local macro_rules | `(tactic| simp only [EV5, $ls,*]) => `(tactic| simp only [EV6, kit_int_bool, kit_str_bool, kit_tuple_bool, kit_list_bool, kit_dict_bool, kit_NoneType_tuple, kit_bool_tuple, kit_int_tuple, kit_str_tuple, kit_tuple_tuple, kit_list_tuple, kit_dict_tuple, kit_NoneType_list, kit_bool_list, kit_int_list, kit_str_list, kit_tuple_list, kit_list_list, kit_dict_list, kit_NoneType_dict, kit_bool_dict, kit_int_dict, kit_str_dict, kit_tuple_dict, $ls,*])
local macro_rules | `(tactic| simp only [EV6, $ls,*]) => `(tactic| simp only [EV7, kit_list_dict, kit_dict_dict, Bool.false_eq_true, if_false, if_true, reduceIte, true_and, sz_0, sz_1, sz_2, sz_3, sz_4, sz_5, sz_6, sz_7, sz_8, sz_9, sz_10, sz_11, sz_12, sz_13, sz_14, sz_15, sz_16, $ls,*])
local macro_rules | `(tactic| simp only [EV7, $ls,*]) => `(tactic| simp only [EV8, sz_17, sz_18, sz_19, sz_20, sz_21, sz_22, sz_23, sz_24, sz_25, sz_26, sz_27, sz_28, sz_29, sz_30, sz_31, sz_32, sz_33, sz_34, sz_35, sz_36, sz_37, sz_38, sz_39, sz_40, $ls,*])
local macro_rules | `(tactic| simp only [EV8, $ls,*]) => `(tactic| simp only [sz_41, sz_42, sz_43, sz_44, sz_45, sz_46, sz_47, atI_c0, atI_c1, atI_c2, atI_c3, atI_c4, List.append_nil, List.filterMap_cons, List.filterMap_nil, and_self, dStar, mSplit, fSortS, fSortT, L3.setAll, $ls,*])
theorem ok_l_draw (E : Fns K w mg) : FnD P w K mg base 1 E.f_l_draw E.fd_l_draw ["deck", "many"] spDraw := by
  have nd := sc_l_draw.nd
  refine okD E.F_l_draw sc_l_draw ?len fun cdv A outer s H X hr hgd => ⟨_, (dss_cons (ds_par 2 3 rfl nd rfl rfl (by decide) rfl rfl (d_add (d_dget (hu_of hr) (d_var 0) d_str (fun _ _ => rfl)) d_int) (d_dget (hu_of hr) (d_var 0) d_str (fun _ _ => rfl)))
  (dss_cons (ds_dput (hu_of hr) (d_var 0) d_str (d_var 2))
  (dss_cons (ds_if (dt_ne hr.units (d_dget (hu_of hr) (d_var 0) d_str (fun _ _ => rfl)) (d_lst da_nil))
  (dss_cons (ds_set 3 nd rfl (by first | exact Or.inl rfl | exact Or.inr rfl) (d_pop (d_dget (hu_of hr) (d_var 0) d_str (fun _ _ => rfl))))
  (dss_cons (ds_if (dt_ge (d_var 3) (d_pow d_int d_int))
  (dss_cons (ds_expr (d_append (d_dget (hu_of hr) (d_var 0) d_str (fun _ _ => rfl)) (da_cons (d_fdiv (d_var 3) (d_var 1)) da_nil)))
  (dss_one (ds_ret (d_mod (d_var 3) (d_var 1)))))
  dss_nil)
  (dss_one (ds_set 3 nd rfl (by first | exact Or.inl rfl | exact Or.inr rfl) (d_add (d_var 3) (d_dget (hu_of hr) (d_var 0) d_str (fun _ _ => rfl)))))))
  dss_nil)
  (dss_cons (ds_set 4 nd rfl (by first | exact Or.inl rfl | exact Or.inr rfl) (d_mod (d_mul (d_add (d_add (d_mod (d_var 3) d_int) (d_mul (d_mul d_int (d_var 2)) (d_var 2))) d_int) d_int) d_int))
  (dss_cons (ds_set 4 nd rfl (by first | exact Or.inl rfl | exact Or.inr rfl) (d_mod (d_add (d_add (d_mul (d_var 4) (d_var 4)) (d_mul d_int (d_var 2))) d_int) d_int))
  (dss_one (ds_ret (d_mod (d_fdiv (d_mod (d_mul (d_var 4) d_int) d_int) d_int) (d_var 1))))))))), ?_⟩
  case len =>
    rintro ts M Q ⟨dk, c, n, many, rfl, _⟩
    rfl
  · rintro ts M Q ⟨dk, c, n, many, rfl, hD, hn, h0, h1, q⟩
    obtain ⟨hne, ns, t, k, eD, eC, hl, hk0, hk⟩ := hD
    simp only [EV, eD, eC, deckD_eq, deck_cells, deck_total, deck_draws, deck_put, deck_len, mset_same, mset_ne hne, mset_ne hne.symm, py_ints, py_nil, shaped_ints, shaped_nil, eqv_nil, if_true, true_and, Nat.zero_le]
    have key : ∀ (cell : Int) (M' : Mp), DeckAt dk c M' (n + 1) → Fr2 dk c M M' → Q (T.int ((((cell % 2147483629 + 60209 * (k + 1) * (k + 1) + 53) * 40692 % 2147483647) * ((cell % 2147483629 + 60209 * (k + 1) * (k + 1) + 53) * 40692 % 2147483647) + 69761 * (k + 1) + 37) % 2147483587 * 39373 % 2147483563 / 64 % many)) M' :=
      fun cell M' d f => q M' _ d f (Int.emod_nonneg _ (by omega)) (Int.emod_lt_of_pos _ h0)
    have m1 : ∀ x : Int, IntMulOk x (k + 1) := fun x => small_mul (by omega)
    have m2 : ∀ x : Int, IntMulOk (x % 2147483647) (x % 2147483647) := fun x => small_mul (by omega)
    have m3 : ∀ x : Int, IntMulOk x 40692 := fun x => small_mul (by decide)
    have m4 : ∀ x : Int, IntMulOk x 39373 := fun x => small_mul (by decide)
    have d1 : ∀ x : Int, CDivW x 64 := fun x => small_div (by decide) (by decide)
    have d2 : ∀ x : Int, CDivW x many := fun x => small_div h0 h1
    have dk1 : ∀ {M' : Mp} {ns' : List Int}, M' dk = some (.dct (deckL c t (k + 1))) → M' c = some (.lst (ns'.map T.int)) → ns'.length ≤ 63 → DeckAt dk c M' (n + 1) :=
      fun a b d => ⟨hne, _, _, _, a, b, d, by omega, by omega⟩
    have pow : CPow 10 18 := ⟨by decide, by decide, by decide⟩
    refine ⟨by decide, ?_⟩
    rcases List.eq_nil_or_concat ns with rfl | ⟨l, x, e⟩
    · simp only [decide_true, Bool.not_true, m1, m2, m3, m4, d1, h0, true_and, Int.reduceLT]
      refine key t _ (dk1 mset_same ((mset_ne hne.symm).trans eC) hl) fun a h2 h3 => mset_ne h2
    · rw [List.concat_eq_append] at e
      subst e
      have e0 : decide (l ++ [x] = []) = false := by simp
      have hl' : l.length ≤ 62 := by
        rw [List.length_append, List.length_singleton] at hl
        omega
      simp only [e0, Bool.not_false, last_get, last_drop, pow, true_and, mset_same, mset_mset, mset_ne hne, mset_ne hne.symm, deck_cells, deck_total, d2, h0]
      by_cases hx : (10 : Int) ^ (18 : Int).toNat ≤ x
      · simp only [decide_eq_true hx, mset_mset, mset_same, mset_ne hne, mset_ne hne.symm, deck_cells, true_and]
        refine ⟨sz' (by rw [List.length_map]; omega), ?_⟩
        refine q _ _ (dk1 (ns' := l ++ [x / many]) ((mset_ne hne).trans mset_same) ?_ (by rw [List.length_append, List.length_singleton]; omega)) (fun a h2 h3 => (mset_ne h3).trans (mset_ne h2)) (Int.emod_nonneg _ (by omega)) (Int.emod_lt_of_pos _ h0)
        rw [mset_same, List.map_append]
        rfl
      · simp only [decide_eq_false hx, mset_same, mset_ne hne, mset_ne hne.symm, deck_total, m1, m2, m3, m4, d1, h0, true_and, Int.reduceLT]
        exact key (x + t) _ (dk1 ((mset_ne hne).trans mset_same) mset_same (by omega)) fun a h2 h3 => (mset_ne h3).trans (mset_ne h2)

theorem ok_l_deck (E : Fns K w mg) : FnD P w K mg base 1 E.f_l_deck E.fd_l_deck ["script"] spDeck := by
  have nd := sc_l_deck.nd
  refine okD E.F_l_deck sc_l_deck ?len fun cdv A outer s H X hr hgd => ⟨_, (dss_cons (ds_par 1 2 rfl nd rfl rfl (by decide) rfl rfl (d_list (by rfl) E.m_list (da_cons (d_slice (d_var 0) do_none (do_some d_int)) da_nil)) d_int)
  (dss_cons (ds_for PassesOwn.never rfl (di_list (d_var 1)) (dg_nm 3 nd rfl (by first | exact Or.inl rfl | exact Or.inr rfl))
  (dss_one (ds_set 2 nd rfl (by first | exact Or.inl rfl | exact Or.inr rfl) (d_mod (d_add (d_add (d_mul (d_var 2) d_int) (d_mod (d_var 3) d_int)) d_int) d_int))))
  (dss_one (ds_ret (d_dispM (dps_cons d_str (d_revM (d_var 1)) (dps_cons d_str (d_var 2) (dps_cons d_str d_int dps_nil)))))))), ?_⟩
  case len =>
    rintro ts M Q ⟨ns, rfl, _⟩
    rfl
  · rintro ts M Q ⟨ns, rfl, hl, q⟩
    simp only [sSeq, sPar, sPut, sIf, sSet, sDrop, sRet, sRetN, sNext, dOp2, dOp1, dVar, dC, dB, dTup, dLst, dLstM, dNil, dCons, dSl, doNone, doSome, dCall, dLm, dLm0, dSm, dAnd, dOr, dNot, dAndV, dOrV, dIf, dChain, dFn, dFn0, dYes, dDisp, dDispM, dPairs, keysT, dNewD, dNewDM,
 oAdd, oSub, oMul, oFdiv, oMod, oPow, oInt2, oNeg, oIx, oSl, oRev, oRevM, oEqB, scalT, oLt, oLe, oGt, oGe, oOrd, oIsN, L3.isNon, oNotB, oDGet, oDIn, oIn, oInS, mAppend, mPop, mJoin, isL, isS, fLen, fIsi, fAbs, fList, fListM, fTuple, fInt, fRepr, fBls, seqOf, tyT,
 look, keyT, Pat.set, start3, pick, List.getElem?_cons_zero, List.getElem?_cons_succ, List.set_cons_zero, List.set_cons_succ, List.map_cons, List.map_nil, List.length_cons, List.length_nil, List.nil_append, List.cons_append, List.replicate_succ, List.replicate_zero, Nat.reduceSub, Nat.reduceAdd, flatOf, kit_NoneType_str, kit_bool_str, kit_int_str, kit_str_str, kit_tuple_str, kit_list_str, kit_dict_str, kit_NoneType_int, kit_bool_int, kit_int_int, kit_str_int, kit_tuple_int, kit_list_int, kit_dict_int, kit_NoneType_bool, kit_bool_bool, kit_int_bool, kit_str_bool, kit_tuple_bool, kit_list_bool, kit_dict_bool, kit_NoneType_tuple, kit_bool_tuple, kit_int_tuple, kit_str_tuple, kit_tuple_tuple, kit_list_tuple, kit_dict_tuple, kit_NoneType_list, kit_bool_list, kit_int_list, kit_str_list, kit_tuple_list, kit_list_list, kit_dict_list, kit_NoneType_dict, kit_bool_dict, kit_int_dict, kit_str_dict, kit_tuple_dict, kit_list_dict, kit_dict_dict, Bool.false_eq_true, if_false, if_true, reduceIte, true_and, sz_0, sz_1, sz_2, sz_3, sz_4, sz_5, sz_6, sz_7, sz_8, sz_9, sz_10, sz_11, sz_12, sz_13, sz_14, sz_15, sz_16, sz_17, sz_18, sz_19, sz_20, sz_21, sz_22, sz_23, sz_24, sz_25, sz_26, sz_27, sz_28, sz_29, sz_30, sz_31, sz_32, sz_33, sz_34, sz_35, sz_36, sz_37, sz_38, sz_39, sz_40, sz_41, sz_42, sz_43, sz_44, sz_45, sz_46, sz_47, atI_c0, atI_c1, atI_c2, atI_c3, atI_c4, List.append_nil, List.filterMap_cons, List.filterMap_nil, and_self, dStar, mSplit, fSortS, fSortT, L3.setAll, sFor, iL, show (63 : Int) = ((63 : Nat) : Int) from rfl, cut_to, List.take_of_length_le (show (ns.map T.int).length ≤ 63 by rw [List.length_map]; exact hl)]
    refine (?loop : ∀ (r : List Int) (tot : Int) (y : Option T), forL _ _ _ _ (List.map T.int r) [some (.scr (ns.map T.int)), some (.lst (ns.map T.int)), some (.int tot), y] M) ns _ none
    case loop =>
      intro r
      induction r with
      | nil =>
        intro tot y
        simp only [EV, List.map_nil, forL]
        intro c hc
        refine ⟨by decide, fun dk hdk => ?_⟩
        have hne : dk ≠ c := by
          intro z
          rw [z, mset_same] at hdk
          cases hdk
        have hM : M dk = none := (mset_ne hne).symm.trans hdk
        refine q dk c _ hM hc ⟨hne, ns.reverse, tot, 0, ?_, ?_, by rw [List.length_reverse]; exact hl, by omega, by omega⟩ fun a h2 h3 => (mset_ne h2).trans (mset_ne h3)
        · rw [mset_same, deck_mk]
          rfl
        · rw [mset_ne hne.symm, mset_same, List.map_reverse]
      | cons z r ih =>
        intro tot y
        have m1 : ∀ x : Int, IntMulOk x 48271 := fun x => small_mul (by decide)
        simp only [EV, List.map_cons, forL, m1, true_and, Int.reduceLT]
        exact ih _ _

theorem ok_l_pick (E : Fns K w mg) (G_l_draw : FnD P w K mg base 1 E.f_l_draw E.fd_l_draw ["deck", "many"] spDraw) : FnD P w K mg base 2 E.f_l_pick E.fd_l_pick ["deck", "some"] spPick := by
  have nd := sc_l_pick.nd
  refine okD E.F_l_pick sc_l_pick ?len fun cdv A outer s H X hr hgd => ⟨_, (dss_one (ds_ret (d_ix (d_var 1) (d_fn G_l_draw (hr.mono (by decide)) hgd (by rfl) E.g_l_draw E.F_l_draw.kp (kb_l_draw_2 E) (da_cons (d_var 0) (da_cons (d_len (by rfl) E.m_len (da_cons (d_var 1) da_nil)) da_nil)) dk_nil) (fun _ _ => rfl)))), ?_⟩
  case len =>
    rintro ts M Q ⟨dk, c, n, x, rfl, _⟩
    rfl
  · rintro ts M Q ⟨dk, c, n, x, rfl, hD, hn, h0, h1, q⟩
    have lt60 : ∀ m : Nat, m ≤ sizeLine → (m : Int) < 2 ^ 60 := fun m h => by
      rw [sizeLine_eq] at h
      omega
    have fin : ∀ (m : Nat), m = (itemsOf x).length → (∀ M' (r : Int), 0 ≤ r → r < m → DeckAt dk c M' (n + 1) → Fr2 dk c M M' → oIx x (.int r) Q M') → spDraw [.raw (.ref dk), .int m] M fun t M1 => oIx x t Q M1 := by
      intro m hm k
      refine ⟨dk, c, n, m, rfl, hD, hn, by omega, lt60 m (by omega), fun M' r d f r0 r1 => k M' r r0 r1 d f⟩
    cases x with
    | lst xs =>
      simp only [EV, dC]
      refine fin xs.length rfl fun M' r r0 r1 d f => ?_
      obtain ⟨t, e, hm⟩ := atI_ok r0 r1
      simp only [oIx, look, e]
      exact q M' t d f hm
    | scr xs =>
      simp only [EV, dC]
      refine fin xs.length rfl fun M' r r0 r1 d f => ?_
      obtain ⟨t, e, hm⟩ := atI_ok r0 r1
      simp only [oIx, look, e]
      exact q M' t d f hm
    | tup xs =>
      simp only [EV, dC]
      refine fin xs.length rfl fun M' r r0 r1 d f => ?_
      obtain ⟨t, e, hm⟩ := atI_ok r0 r1
      simp only [oIx, look, e]
      exact q M' t d f hm
    | str z =>
      simp only [EV, dC]
      have hz : z.length ≤ sizeLine := by rw [← signs_len]; exact h1
      refine ⟨hz, fin z.length (signs_len z).symm fun M' r r0 r1 d f => ?_⟩
      obtain ⟨t, e, hm⟩ := atI_signs r0 r1
      simp only [oIx, look, e]
      exact ⟨hz, q M' _ d f hm⟩
    | _ => exact absurd h0 (Nat.lt_irrefl 0)

theorem ok_l_any_value (E : Fns K w mg) (G_l_pick : FnD P w K mg base 2 E.f_l_pick E.fd_l_pick ["deck", "some"] spPick) : FnD P w K mg base 3 E.f_l_any_value E.fd_l_any_value ["deck", "kinds"] spAny := by
  have nd := sc_l_any_value.nd
  refine okD E.F_l_any_value sc_l_any_value ?len fun cdv A outer s H X hr hgd => ⟨_, (dss_cons (ds_set 2 nd rfl (by first | exact Or.inl rfl | exact Or.inr rfl) (d_fn G_l_pick (hr.mono (by decide)) hgd (by rfl) E.g_l_pick E.F_l_pick.kp (kb_l_pick_2 E) (da_cons (d_var 0) (da_cons (d_var 1) da_nil)) dk_nil))
  (dss_cons (ds_if (dt_eq hr.units (d_var 2) d_str)
  (dss_one (ds_ret d_non))
  dss_nil)
  (dss_cons (ds_if (dt_eq hr.units (d_var 2) d_str)
  (dss_one (ds_ret (d_fn G_l_pick (hr.mono (by decide)) hgd (by rfl) E.g_l_pick E.F_l_pick.kp (kb_l_pick_2 E) (da_cons (d_var 0) (da_cons (d_lst (da_cons d_str (da_cons d_str (da_cons d_str da_nil)))) da_nil)) dk_nil)))
  dss_nil)
  (dss_one (ds_ret (d_fn G_l_pick (hr.mono (by decide)) hgd (by rfl) E.g_l_pick E.F_l_pick.kp (kb_l_pick_2 E) (da_cons (d_var 0) (da_cons (d_lst (da_cons d_int (da_cons d_int (da_cons d_int (da_cons d_int (da_cons d_int (da_cons (d_pow d_int d_int) (da_cons (d_sub d_int (d_pow d_int d_int)) da_nil)))))))) da_nil)) dk_nil)))))), ?_⟩
  case len =>
    rintro ts M Q ⟨dk, c, wd, cd, S, kvs, n, ks, rfl, _⟩
    rfl
  · rintro ts M Q ⟨dk, c, wd, cd, S, kvs, n, ks, rfl, g, hn, k0, k1, q⟩
    have pow : CPow 10 12 := ⟨by decide, by decide, by decide⟩
    have p12 : (10 : Int) ^ (12 : Int).toNat = 1000000000000 := by decide
    simp only [EV, dC]
    refine gpick g (by omega) (by simpa [itemsOf] using k0) (by simp only [itemsOf, List.length_map]; omega) fun M1 t1 g1 f1 m1 => ?_
    obtain ⟨z, hz, rfl⟩ := List.mem_map.mp (show t1 ∈ ks.map T.str from m1)
    simp only [EV, dC]
    by_cases e1 : z = "nothing"
    · simp only [e1, decide_true]
      exact q _ _ (g1.le (by omega)) f1 (Or.inl rfl)
    · simp only [EV, decide_eq_false e1]
      by_cases e2 : z = "word"
      · simp only [EV, decide_eq_true e2]
        refine gpick g1 (by omega) (by simp [itemsOf]) (by simp [itemsOf]) fun M2 t2 g2 f2 m2 => ?_
        refine q _ _ g2 (f1.trans f2) ?_
        simp only [itemsOf, List.mem_cons, List.not_mem_nil, or_false] at m2
        rcases m2 with rfl | rfl | rfl <;> exact .str (nm_of (by decide +kernel))
      · simp only [EV, decide_eq_false e2, pow, p12]
        refine gpick g1 (by omega) (by simp [itemsOf]) (by simp [itemsOf]) fun M2 t2 g2 f2 m2 => ?_
        refine q _ _ g2 (f1.trans f2) ?_
        simp only [itemsOf, List.mem_cons, List.not_mem_nil, or_false] at m2
        rcases m2 with rfl | rfl | rfl | rfl | rfl | rfl | rfl <;> exact .int (by decide)

theorem ok_l_column (E : Fns K w mg) (G_l_pick : FnD P w K mg base 2 E.f_l_pick E.fd_l_pick ["deck", "some"] spPick) : FnD P w K mg base 3 E.f_l_column E.fd_l_column ["deck", "world", "refs"] spCol := by
  have nd := sc_l_column.nd
  refine okD E.F_l_column sc_l_column ?len fun cdv A outer s H X hr hgd => ⟨_, (dss_cons (ds_asg (d_fn G_l_pick (hr.mono (by decide)) hgd (by rfl) E.g_l_pick E.F_l_pick.kp (kb_l_pick_2 E) (da_cons (d_var 0) (da_cons (d_var 2) da_nil)) dk_nil) (dg_tp [3, 4] rfl (pgs_cons (pg_name (i := 3) nd rfl (by first | exact Or.inl rfl | exact Or.inr rfl)) (pgs_cons (pg_name (i := 4) nd rfl (by first | exact Or.inl rfl | exact Or.inr rfl)) pgs_nil))))
  (dss_one (ds_ret (d_tup (da_cons d_str (da_cons (d_var 3) (da_cons (d_fn G_l_pick (hr.mono (by decide)) hgd (by rfl) E.g_l_pick E.F_l_pick.kp (kb_l_pick_2 E) (da_cons (d_var 0) (da_cons (d_dget (hu_of hr) (d_dget (hu_of hr) (d_var 1) d_str (fun _ _ => rfl)) (d_var 4) (fun _ _ => rfl)) da_nil)) dk_nil) da_nil))))))), ?_⟩
  case len =>
    rintro ts M Q ⟨dk, c, wd, cd, S, kvs, n, refs, rfl, _⟩
    rfl
  · rintro ts M Q ⟨dk, c, wd, cd, S, kvs, n, refs, rfl, g, hn, ⟨l, rfl, l0, l1, lp⟩, q⟩
    simp only [EV, dC]
    refine gpick g (by omega) (by simpa [itemsOf] using l0) (by simp only [itemsOf, List.length_map]; omega) fun M1 t1 g1 f1 m1 => ?_
    obtain ⟨p, hp, rfl⟩ := List.mem_map.mp (show t1 ∈ l.map prT from m1)
    obtain ⟨h1, h2, cols, h3, h4, h5, h6⟩ := lp p hp
    simp only [EV, g1.world, g1.cols, w_cols, h3]
    refine gpick g1 (by omega) (by simpa [itemsOf] using h4) (by simp only [itemsOf, List.length_map]; omega) fun M2 t2 g2 f2 m2 => ?_
    obtain ⟨z, hz, rfl⟩ := List.mem_map.mp (show t2 ∈ cols.map T.str from m2)
    exact q _ _ _ g2 (f1.trans f2) h1 (h6 z hz)

theorem ok_l_some_term (E : Fns K w mg) {d : Nat} (G_l_draw : FnD P w K mg base 1 E.f_l_draw E.fd_l_draw ["deck", "many"] spDraw) (G_l_pick : FnD P w K mg base 2 E.f_l_pick E.fd_l_pick ["deck", "some"] spPick) (G_l_column : FnD P w K mg base 3 E.f_l_column E.fd_l_column ["deck", "world", "refs"] spCol) (G_l_any_value : FnD P w K mg base 3 E.f_l_any_value E.fd_l_any_value ["deck", "kinds"] spAny) (G_l_some_term : FnD P w K mg base (3 + d) E.f_l_some_term E.fd_l_some_term ["deck", "world", "refs", "deep"] (spTermAt d)) : FnD P w K mg base (3 + d + 1) E.f_l_some_term E.fd_l_some_term ["deck", "world", "refs", "deep"] (spTermAt (d + 1)) := by
  have nd := sc_l_some_term.nd
  refine okD E.F_l_some_term sc_l_some_term ?len fun cdv A outer s H X hr hgd => ⟨_, (dss_cons (ds_set 4 nd rfl (by first | exact Or.inl rfl | exact Or.inr rfl) (d_fn G_l_draw (hr.mono (by omega)) hgd (by rfl) E.g_l_draw E.F_l_draw.kp (kb_l_draw_2 E) (da_cons (d_var 0) (da_cons d_int da_nil)) dk_nil))
  (dss_cons (ds_if (dt_lt (d_var 4) d_int)
  (dss_one (ds_ret (d_fn G_l_column (hr.mono (by omega)) hgd (by rfl) E.g_l_column E.F_l_column.kp (kb_l_column_3 E) (da_cons (d_var 0) (da_cons (d_var 1) (da_cons (d_var 2) da_nil))) dk_nil)))
  dss_nil)
  (dss_cons (ds_if (PW.pt (dw_or (dt_lt (d_var 4) d_int) (dw_or1 (dt_eq hr.units (d_var 3) d_int))))
  (dss_one (ds_ret (d_tup (da_cons d_str (da_cons (d_fn G_l_any_value (hr.mono (by omega)) hgd (by rfl) E.g_l_any_value E.F_l_any_value.kp (kb_l_any_value_2 E) (da_cons (d_var 0) (da_cons (d_tup (da_cons d_str (da_cons d_str (da_cons d_str (da_cons d_str da_nil))))) da_nil)) dk_nil) da_nil)))))
  dss_nil)
  (dss_one (ds_ret (d_tup (da_cons d_str (da_cons (d_fn G_l_some_term (hr.mono (by omega)) hgd (by rfl) E.g_l_some_term E.F_l_some_term.kp (kb_l_some_term_4 E) (da_cons (d_var 0) (da_cons (d_var 1) (da_cons (d_var 2) (da_cons (d_sub (d_var 3) d_int) da_nil)))) dk_nil) (da_cons (d_fn G_l_pick (hr.mono (by omega)) hgd (by rfl) E.g_l_pick E.F_l_pick.kp (kb_l_pick_2 E) (da_cons (d_var 0) (da_cons (d_lst (da_cons d_int (da_cons (d_neg d_int) (da_cons d_int (da_cons (d_pow d_int d_int) da_nil))))) da_nil)) dk_nil) da_nil))))))))), ?_⟩
  case len =>
    rintro ts M Q ⟨dk, c, wd, cd, S, kvs, n, refs, i, rfl, _⟩
    rfl
  · rintro ts M Q ⟨dk, c, wd, cd, S, kvs, n, refs, i, rfl, i0, i1, g, hn, hd, hr2, q⟩
    have pow : CPow 10 12 := ⟨by decide, by decide, by decide⟩
    have p12 : (10 : Int) ^ (12 : Int).toNat = 1000000000000 := by decide
    simp only [EV, dC]
    refine gdraw g (by omega) (by decide) (by decide) fun M1 r1 g1 f1 a1 b1 => ?_
    simp only [EV, dC]
    by_cases h5 : r1 < 5
    · simp only [EV, decide_eq_true h5]
      refine ⟨dk, c, wd, cd, S, kvs, n + 1, refs, rfl, g1, by omega, hr2, fun M2 a b g2 f2 ha hb => ?_⟩
      exact q _ _ (g2.le (by omega)) (f1.trans f2) (.col ha hb)
    · simp only [EV, decide_eq_false h5]
      by_cases h7 : r1 < 7 ∨ i = 0
      · have val : ∀ R : QE, (∀ M' t, Gen dk c wd cd S kvs (n + (4 * d + 4)) M' → Fr2 dk c M M' → Part d t → R t M') → spAny [T.raw (V.ref dk), T.tup [T.str "nothing", T.str "number", T.str "number", T.str "word"]] M1 fun t M2 => R (.tup [.str "value", t]) M2 := fun R k =>
          ⟨dk, c, wd, cd, S, kvs, n + 1, ["nothing", "number", "number", "word"], rfl, g1, by omega, by decide, by decide, fun M2 v g2 f2 hv => k _ _ (g2.le (by omega)) (f1.trans f2) (.val hv)⟩
        by_cases h8 : r1 < 7
        · simp only [EV, decide_eq_true h8]
          exact val _ fun M2 t g2 f2 ht => q _ _ g2 f2 ht
        · simp only [EV, decide_eq_false h8, decide_eq_true (show i = 0 by omega)]
          exact val _ fun M2 t g2 f2 ht => q _ _ g2 f2 ht
      · simp only [EV, decide_eq_false (show ¬ r1 < 7 by omega), decide_eq_false (show ¬ i = 0 by omega)]
        cases d with
        | zero => omega
        | succ d =>
          refine ⟨dk, c, wd, cd, S, kvs, n + 1, refs, i - 1, rfl, by omega, by omega, g1, by omega, by omega, hr2, fun M2 t g2 f2 ht => ?_⟩
          simp only [EV, pow, p12]
          refine gpick g2 (by omega) (by simp [itemsOf]) (by simp [itemsOf]) fun M3 t3 g3 f3 m3 => ?_
          refine q _ _ (g3.le (by omega)) (f1.trans (f2.trans f3)) (.plus (Or.inl rfl) ht ?_)
          simp only [itemsOf, List.mem_cons, List.not_mem_nil, or_false] at m3
          rcases m3 with rfl | rfl | rfl | rfl <;> exact .int (by decide)

theorem ok_l_some_leaf (E : Fns K w mg) {d : Nat} (hd : d ≤ 10) (G_l_pick : FnD P w K mg base 2 E.f_l_pick E.fd_l_pick ["deck", "some"] spPick) (G_l_some_term : FnD P w K mg base (3 + d + 1) E.f_l_some_term E.fd_l_some_term ["deck", "world", "refs", "deep"] (spTermAt (d + 1))) : FnD P w K mg base (3 + d + 2) E.f_l_some_leaf E.fd_l_some_leaf ["deck", "world", "refs", "deep"] (spLeaf d) := by
  have nd := sc_l_some_leaf.nd
  refine okD E.F_l_some_leaf sc_l_some_leaf ?len fun cdv A outer s H X hr hgd => ⟨_, (dss_cons (ds_set 4 nd rfl (by first | exact Or.inl rfl | exact Or.inr rfl) (d_fn G_l_pick (hr.mono (by omega)) hgd (by rfl) E.g_l_pick E.F_l_pick.kp (kb_l_pick_2 E) (da_cons (d_var 0) (da_cons (d_lst (da_cons d_str (da_cons d_str (da_cons d_str (da_cons d_str (da_cons d_str da_nil)))))) da_nil)) dk_nil))
  (dss_cons (ds_set 5 nd rfl (by first | exact Or.inl rfl | exact Or.inr rfl) (d_fn G_l_some_term (hr.mono (by omega)) hgd (by rfl) E.g_l_some_term E.F_l_some_term.kp (kb_l_some_term_4 E) (da_cons (d_var 0) (da_cons (d_var 1) (da_cons (d_var 2) (da_cons (d_var 3) da_nil)))) dk_nil))
  (dss_cons (ds_if (dt_eq hr.units (d_var 4) d_str)
  (dss_one (ds_ret (d_tup (da_cons d_str (da_cons (d_var 5) (da_cons (d_fn G_l_pick (hr.mono (by omega)) hgd (by rfl) E.g_l_pick E.F_l_pick.kp (kb_l_pick_2 E) (da_cons (d_var 0) (da_cons (d_lst (da_cons d_str (da_cons d_str (da_cons d_str da_nil)))) da_nil)) dk_nil) da_nil))))))
  dss_nil)
  (dss_one (ds_ret (d_tup (da_cons (d_var 4) (da_cons (d_var 5) (da_cons (d_fn G_l_some_term (hr.mono (by omega)) hgd (by rfl) E.g_l_some_term E.F_l_some_term.kp (kb_l_some_term_4 E) (da_cons (d_var 0) (da_cons (d_var 1) (da_cons (d_var 2) (da_cons (d_var 3) da_nil)))) dk_nil) da_nil))))))))), ?_⟩
  case len =>
    rintro ts M Q ⟨dk, c, wd, cd, S, kvs, n, refs, i, rfl, _⟩
    rfl
  · rintro ts M Q ⟨dk, c, wd, cd, S, kvs, n, refs, i, rfl, rfl, g, hn, hr2, q⟩
    simp only [EV, dC]
    refine gpick g (by omega) (by simp [itemsOf]) (by simp [itemsOf]) fun M1 t1 g1 f1 m1 => ?_
    have term : ∀ {m : Nat} {M : Mp} (R : QE), Gen dk c wd cd S kvs m M → m + (4 * d + 4) < 2 ^ 58 + 950 → (∀ M' t, Gen dk c wd cd S kvs (m + (4 * d + 4)) M' → Fr2 dk c M M' → Part d t → R t M') → spTermAt (d + 1) [T.raw (V.ref dk), T.raw (V.ref wd), refs, T.int (d : Int)] M R := fun R g1 hm k =>
      ⟨dk, c, wd, cd, S, kvs, _, refs, (d : Int), rfl, by omega, by omega, g1, hm, hd, hr2, k⟩
    have hw : ∃ w : Str, t1 = .str w ∧ (w = "less" ∨ w = "most" ∨ w = "same" ∨ w = "is") := by
      simp only [itemsOf, List.mem_cons, List.not_mem_nil, or_false] at m1
      rcases m1 with rfl | rfl | rfl | rfl | rfl <;> exact ⟨_, rfl, by simp⟩
    clear m1
    obtain ⟨wd1, rfl, hw⟩ := hw
    refine term _ g1 (by omega) fun M2 t2 g2 f2 h2 => ?_
    simp only [EV, dC]
    by_cases e1 : wd1 = "is"
    · simp only [EV, decide_eq_true e1]
      refine gpick g2 (by omega) (by simp [itemsOf]) (by simp [itemsOf]) fun M3 t3 g3 f3 m3 => ?_
      refine q _ _ (g3.le (by omega)) (f1.trans (f2.trans f3)) (.plus (Or.inr rfl) h2 ?_)
      simp only [itemsOf, List.mem_cons, List.not_mem_nil, or_false] at m3
      rcases m3 with rfl | rfl | rfl <;> exact .str (nm_of (by decide +kernel))
    · simp only [EV, decide_eq_false e1]
      refine term _ g2 (by omega) fun M3 t3 g3 f3 h3 => ?_
      refine q _ _ (g3.le (by omega)) (f1.trans (f2.trans f3)) (.two ?_ h2 h3)
      rcases hw with rfl | rfl | rfl | rfl
      · exact Or.inl rfl
      · exact Or.inr (Or.inl rfl)
      · exact Or.inr (Or.inr (Or.inl rfl))
      · exact absurd rfl e1

theorem ok_l_inner (E : Fns K w mg) (G_l_draw : FnD P w K mg base 1 E.f_l_draw E.fd_l_draw ["deck", "many"] spDraw) (G_l_pick : FnD P w K mg base 2 E.f_l_pick E.fd_l_pick ["deck", "some"] spPick) (G_l_some_leaf : FnD P w K mg base 6 E.f_l_some_leaf E.fd_l_some_leaf ["deck", "world", "refs", "deep"] (spLeaf 1)) : FnD P w K mg base 7 E.f_l_inner E.fd_l_inner ["deck", "world", "refs", "aliases"] spInner := by
  have nd := sc_l_inner.nd
  refine okD E.F_l_inner sc_l_inner ?len fun cdv A outer s H X hr hgd => ⟨_, (dss_cons (ds_set 4 nd rfl (by first | exact Or.inl rfl | exact Or.inr rfl) (d_tuple (by rfl) E.m_tuple (da_cons (d_comp [("alias", 5)] fin_L rfl nd (di_list (d_slice (d_var 3) do_none (do_some (d_add d_int (d_fdiv (d_fn G_l_draw (hr.mono (by decide)) hgd (by rfl) E.g_l_draw E.F_l_draw.kp (kb_l_draw_2 E) (da_cons (d_var 0) (da_cons d_int da_nil)) dk_nil) d_int))))) (by kernel_rfl)
  (fun _ _ _ _ _ => (dg_nm 5 nd rfl (by first | exact Or.inl rfl | exact Or.inr rfl))) (fun _ _ _ _ _ => dts_nil) (fun _ _ _ _ _ => (d_tup (da_cons (d_var 5) (da_cons (d_ix (d_fn G_l_pick (hr.mono (by decide)) hgd (by rfl) E.g_l_pick E.F_l_pick.kp (kb_l_pick_2 E) (da_cons (d_var 0) (da_cons (d_dget (hu_of hr) (d_var 1) d_str (fun _ _ => rfl)) da_nil)) dk_nil) d_int (fun _ _ => rfl)) da_nil))))) da_nil)))
  (dss_cons (ds_set 6 nd rfl (by first | exact Or.inl rfl | exact Or.inr rfl) (d_fn G_l_some_leaf (hr.mono (by decide)) hgd (by rfl) E.g_l_some_leaf E.F_l_some_leaf.kp (kb_l_some_leaf_4 E) (da_cons (d_var 0) (da_cons (d_var 1) (da_cons (d_add (d_add (d_var 4) (d_var 4)) (d_var 2)) (da_cons d_int da_nil)))) dk_nil))
  (dss_cons (ds_set 7 nd rfl (by first | exact Or.inl rfl | exact Or.inr rfl) (d_fn G_l_pick (hr.mono (by decide)) hgd (by rfl) E.g_l_pick E.F_l_pick.kp (kb_l_pick_2 E) (da_cons (d_var 0) (da_cons (d_lst (da_cons d_str (da_cons d_str (da_cons d_str (da_cons d_str (da_cons d_str da_nil)))))) da_nil)) dk_nil))
  (dss_cons (ds_if (dt_eq hr.units (d_var 7) d_str)
  (dss_one (ds_ret (d_tup (da_cons (d_var 4) (da_cons (d_tup (da_cons d_str (da_cons (d_var 6) da_nil))) da_nil)))))
  dss_nil)
  (dss_one (ds_ret (d_tup (da_cons (d_var 4) (da_cons (d_ifExp (dt_eq hr.units (d_var 7) d_str) (d_var 6) (d_tup (da_cons (d_var 7) (da_cons (d_var 6) (da_cons (d_fn G_l_some_leaf (hr.mono (by decide)) hgd (by rfl) E.g_l_some_leaf E.F_l_some_leaf.kp (kb_l_some_leaf_4 E) (da_cons (d_var 0) (da_cons (d_var 1) (da_cons (d_add (d_var 4) (d_var 2)) (da_cons d_int da_nil)))) dk_nil) da_nil))))) da_nil))))))))), ?_⟩
  case len =>
    rintro ts M Q ⟨dk, c, wd, cd, S, kvs, n, refs, al, rfl, _⟩
    rfl
  · rintro ts M Q ⟨dk, c, wd, cd, S, kvs, n, refs, al, rfl, g, hn, hr2, al0, al1, alN, q⟩
    simp only [EV, dComp, iL]
    refine gdraw g (by omega) (by decide) (by decide) fun M1 r1 g1 f1 a1 b1 => ?_
    have d1 : CDivW r1 3 := small_div (by decide) (by decide)
    obtain ⟨k, hk, hk1, hk2⟩ : ∃ k : Nat, 1 + r1 / 3 = (k : Int) ∧ 0 < k ∧ k ≤ 2 := ⟨(1 + r1 / 3).toNat, by omega, by omega, by omega⟩
    simp only [EV, d1, hk, cut_to]
    rw [← List.map_take]
    have tk : 0 < (al.take k).length ∧ (al.take k).length ≤ 2 := by rw [List.length_take]; omega
    have tN : ∀ a ∈ al.take k, Nm a := fun a ha => alN a (List.mem_of_mem_take ha)
    generalize al.take k = bl at tk tN
    refine compL_inv (fun i M' => Gen dk c wd cd S kvs (n + 1 + i) M' ∧ Fr2 dk c M M') (fun t => ∃ p : Str × Str, t = prT p ∧ Nm p.1 ∧ Nm p.2 ∧ HasC kvs p.2) (fun _ _ _ => by trivial) 0 ⟨g1, f1⟩ ?_ ?_ ?_
    · rintro j t M4 hj ⟨g4, f4⟩
      rw [List.getElem?_map] at hj
      obtain ⟨z, hz1, rfl⟩ := Option.map_eq_some_iff.mp hj
      have hz := tN z (List.mem_of_getElem? hz1)
      have hj' : j < 2 := by have := (List.getElem?_eq_some_iff.mp hz1).1; omega
      refine ⟨_, rfl, fun R kk => ?_⟩
      simp only [EV, wipe3, g4.world, w_tabs]
      refine gpick g4 (by omega) (by simpa [itemsOf] using g4.s0) (by have := g4.s1; simp only [itemsOf]; omega) fun M5 t5 g5 f5 m5 => ?_
      obtain ⟨nm, ⟨hnm, cs, x1, x2, rfl, _⟩, hc⟩ := g5.has t5 m5
      simp only [EV, dC]
      exact kk _ _ ⟨(z, nm), rfl, hz, hnm, hc⟩ ⟨g5.le (by omega), f4.trans f5⟩
    · rw [List.length_map]
      exact sz (by rw [List.length_nil]; omega)
    · rintro ys M6 hlen hys ⟨g6, f6⟩
      rw [List.length_map] at hlen g6
      obtain ⟨l, rfl, hl⟩ := maps_of hys
      rw [List.length_map] at hlen
      have own : RefT kvs 2 (.tup (l.map prT)) := ⟨l, rfl, by omega, by omega, hl⟩
      obtain ⟨rl, rfl, rl1, rl2, rl3⟩ := hr2
      have rf : RefT kvs 10 (.tup (rl.map prT)) := ⟨rl, rfl, rl1, rl2, rl3⟩
      have or1 := (own.app own).app rf
      have or2 := own.app rf
      simp only [EV, finL, List.length_map, List.length_append]
      refine ⟨sz (by omega), sz (by omega), ?_⟩
      refine ⟨dk, c, wd, cd, S, kvs, _, _, 1, rfl, rfl, g6, by omega, or1.mono (by decide), fun M7 t7 g7 f7 h7 => ?_⟩
      simp only [EV, dC]
      refine gpick g7 (by omega) (by simp [itemsOf]) (by simp [itemsOf]) fun M8 t8 g8 f8 m8 => ?_
      have hw : ∃ w : Str, t8 = .str w ∧ (w = "and" ∨ w = "or" ∨ w = "" ∨ w = "not") := by
        simp only [itemsOf, List.mem_cons, List.not_mem_nil, or_false] at m8
        rcases m8 with rfl | rfl | rfl | rfl | rfl <;> exact ⟨_, rfl, by simp⟩
      clear m8
      obtain ⟨wd1, rfl, hw⟩ := hw
      have fr := f6.trans (f7.trans f8)
      simp only [EV, dC]
      by_cases e1 : wd1 = "not"
      · simp only [EV, decide_eq_true e1]
        exact q _ _ _ (g8.le (by omega)) fr own (.not h7)
      · simp only [EV, decide_eq_false e1]
        by_cases e2 : wd1 = ""
        · simp only [EV, decide_eq_true e2]
          exact q _ _ _ (g8.le (by omega)) fr own h7.succ
        · simp only [EV, decide_eq_false e2, List.length_map, List.length_append]
          refine ⟨sz (by omega), ?_⟩
          refine ⟨dk, c, wd, cd, S, kvs, _, _, 1, rfl, rfl, g8, by omega, or2.mono (by decide), fun M9 t9 g9 f9 h9 => ?_⟩
          refine q _ _ _ (g9.le (by omega)) (fr.trans f9) own (.two ?_ h7 h9)
          rcases hw with rfl | rfl | rfl | rfl
          · exact Or.inr (Or.inr (Or.inr (Or.inl rfl)))
          · exact Or.inr (Or.inr (Or.inr (Or.inr rfl)))
          · exact absurd rfl e2
          · exact absurd rfl e1

theorem ok_l_condition (E : Fns K w mg) {d : Nat} (G_l_draw : FnD P w K mg base 1 E.f_l_draw E.fd_l_draw ["deck", "many"] spDraw) (G_l_pick : FnD P w K mg base 2 E.f_l_pick E.fd_l_pick ["deck", "some"] spPick) (G_l_column : FnD P w K mg base 3 E.f_l_column E.fd_l_column ["deck", "world", "refs"] spCol) (G_l_some_leaf : FnD P w K mg base 6 E.f_l_some_leaf E.fd_l_some_leaf ["deck", "world", "refs", "deep"] (spLeaf 1)) (G_l_inner : FnD P w K mg base 7 E.f_l_inner E.fd_l_inner ["deck", "world", "refs", "aliases"] spInner) (G_l_condition : FnD P w K mg base (7 + d) E.f_l_condition E.fd_l_condition ["deck", "world", "refs", "aliases", "deep"] (spCondAt d)) : FnD P w K mg base (7 + d + 1) E.f_l_condition E.fd_l_condition ["deck", "world", "refs", "aliases", "deep"] (spCondAt (d + 1)) := by
  have nd := sc_l_condition.nd
  refine okD E.F_l_condition sc_l_condition ?len fun cdv A outer s H X hr hgd => ⟨_, (dss_cons (ds_set 5 nd rfl (by first | exact Or.inl rfl | exact Or.inr rfl) (d_fn G_l_draw (hr.mono (by omega)) hgd (by rfl) E.g_l_draw E.F_l_draw.kp (kb_l_draw_2 E) (da_cons (d_var 0) (da_cons d_int da_nil)) dk_nil))
  (dss_cons (ds_if (PW.pt (dw_and (dt_gt (d_var 4) d_int) (dw_and1 (dt_lt (d_var 5) d_int))))
  (dss_cons (ds_set 6 nd rfl (by first | exact Or.inl rfl | exact Or.inr rfl) (d_fn G_l_condition (hr.mono (by omega)) hgd (by rfl) E.g_l_condition E.F_l_condition.kp (kb_l_condition_5 E) (da_cons (d_var 0) (da_cons (d_var 1) (da_cons (d_var 2) (da_cons (d_var 3) (da_cons (d_sub (d_var 4) d_int) da_nil))))) dk_nil))
  (dss_one (ds_ret (d_tup (da_cons (d_ix (d_lst (da_cons d_str (da_cons d_str (da_cons d_str (da_cons d_str da_nil))))) (d_var 5) (fun _ _ => rfl)) (da_cons (d_var 6) (da_cons (d_fn G_l_condition (hr.mono (by omega)) hgd (by rfl) E.g_l_condition E.F_l_condition.kp (kb_l_condition_5 E) (da_cons (d_var 0) (da_cons (d_var 1) (da_cons (d_var 2) (da_cons (d_var 3) (da_cons (d_sub (d_var 4) d_int) da_nil))))) dk_nil) da_nil)))))))
  dss_nil)
  (dss_cons (ds_if (PW.pt (dw_and (dt_gt (d_var 4) d_int) (dw_and1 (dt_eq hr.units (d_var 5) d_int))))
  (dss_one (ds_ret (d_tup (da_cons d_str (da_cons (d_fn G_l_condition (hr.mono (by omega)) hgd (by rfl) E.g_l_condition E.F_l_condition.kp (kb_l_condition_5 E) (da_cons (d_var 0) (da_cons (d_var 1) (da_cons (d_var 2) (da_cons (d_var 3) (da_cons (d_sub (d_var 4) d_int) da_nil))))) dk_nil) da_nil)))))
  dss_nil)
  (dss_cons (ds_if (PW.pt (dw_and (dt_eq hr.units (d_var 5) d_int) (dw_and1 (dt_gt (d_len (by rfl) E.m_len (da_cons (d_var 3) da_nil)) d_int))))
  (dss_cons (ds_set 7 nd rfl (by first | exact Or.inl rfl | exact Or.inr rfl) (d_lst (da_cons (d_pop (d_var 3)) (da_cons (d_pop (d_var 3)) da_nil))))
  (dss_cons (ds_set 8 nd rfl (by first | exact Or.inl rfl | exact Or.inr rfl) (d_fn G_l_inner (hr.mono (by omega)) hgd (by rfl) E.g_l_inner E.F_l_inner.kp (kb_l_inner_4 E) (da_cons (d_var 0) (da_cons (d_var 1) (da_cons (d_var 2) (da_cons (d_var 7) da_nil)))) dk_nil))
  (dss_cons (ds_set 9 nd rfl (by first | exact Or.inl rfl | exact Or.inr rfl) (d_tup (da_cons d_str (da_cons (d_ix (d_var 7) d_int (fun _ _ => rfl)) (da_cons (d_ix (d_dget (hu_of hr) (d_dget (hu_of hr) (d_var 1) d_str (fun _ _ => rfl)) (d_ix (d_ix (d_ix (d_var 8) d_int (fun _ _ => rfl)) d_int (fun _ _ => rfl)) d_int (fun _ _ => rfl)) (fun _ _ => rfl)) d_int (fun _ _ => rfl)) da_nil)))))
  (dss_cons (ds_set 10 nd rfl (by first | exact Or.inl rfl | exact Or.inr rfl) (d_lst (da_cons (d_tup (da_cons d_str (da_cons (d_var 8) da_nil))) (da_cons (d_tup (da_cons d_str (da_cons (d_fn G_l_column (hr.mono (by omega)) hgd (by rfl) E.g_l_column E.F_l_column.kp (kb_l_column_3 E) (da_cons (d_var 0) (da_cons (d_var 1) (da_cons (d_var 2) da_nil))) dk_nil) (da_cons (d_tup (da_cons d_str (da_cons (d_var 8) (da_cons (d_var 9) da_nil)))) da_nil)))) da_nil))))
  (dss_one (ds_ret (d_fn G_l_pick (hr.mono (by omega)) hgd (by rfl) E.g_l_pick E.F_l_pick.kp (kb_l_pick_2 E) (da_cons (d_var 0) (da_cons (d_add (d_var 10) (d_lst (da_cons (d_tup (da_cons d_str (da_cons (d_tup (da_cons d_str (da_cons (d_var 8) (da_cons (d_var 9) da_nil)))) (da_cons d_str da_nil)))) da_nil))) da_nil)) dk_nil)))))))
  dss_nil)
  (dss_one (ds_ret (d_fn G_l_some_leaf (hr.mono (by omega)) hgd (by rfl) E.g_l_some_leaf E.F_l_some_leaf.kp (kb_l_some_leaf_4 E) (da_cons (d_var 0) (da_cons (d_var 1) (da_cons (d_var 2) (da_cons d_int da_nil)))) dk_nil))))))), ?_⟩
  case len =>
    rintro ts M Q ⟨dk, c, wd, cd, S, kvs, n, refs, i, pl, rfl, _⟩
    rfl
  · rintro ts M Q ⟨dk, c, wd, cd, S, kvs, n, refs, i, pl, rfl, i0, i1, g, hn, hr2, hP, p1, p2, p3, p4, q⟩
    have c2 : 200 ≤ ccd d := ccd_ge d
    have r40 : RefT kvs 40 refs := hr2.mono (by decide)
    simp only [EV, dC]
    refine gdraw g (by omega) (by decide) (by decide) fun M1 r1 g1 f1 a1 b1 => ?_
    have P1 := hP.fr f1 p1 p2
    have F1 : Fr3 dk c pl M M1 := .of2 f1
    simp only [EV, dC]
    rcases (by omega : (0 < i ∧ r1 < 4) ∨ (0 < i ∧ r1 = 4) ∨ ((¬ (0 < i ∧ r1 < 4)) ∧ (¬ (0 < i ∧ r1 = 4)))) with ⟨h0, h4⟩ | ⟨h0, h4⟩ | ⟨hA, hB⟩
    · cases d with
      | zero => omega
      | succ d =>
        have hc : ccd (d + 1) = 2 * ccd d + 200 := rfl
        simp only [EV, decide_eq_true h0, decide_eq_true h4]
        refine ⟨dk, c, wd, cd, S, kvs, n + 1, refs, i - 1, pl, rfl, by omega, by omega, g1, by omega, hr2, P1, p1, p2, p3, p4, fun M2 t2 g2 F2 P2 h2 => ?_⟩
        obtain ⟨t, e, hm⟩ := atI_ok (xs := [T.str "and", .str "or", .str "and", .str "or"]) a1 (show r1 < 4 from h4)
        have hw : ∃ w : Str, t = .str w ∧ (w = "and" ∨ w = "or") := by
          simp only [List.mem_cons, List.not_mem_nil, or_false] at hm
          rcases hm with rfl | rfl | rfl | rfl <;> exact ⟨_, rfl, by simp⟩
        simp only [EV, e]
        clear e hm
        obtain ⟨w1, rfl, hw⟩ := hw
        refine ⟨dk, c, wd, cd, S, kvs, _, refs, i - 1, pl, rfl, by omega, by omega, g2, by omega, hr2, P2, p1, p2, p3, p4, fun M3 t3 g3 F3 P3 h3 => ?_⟩
        refine q _ _ (g3.le (by omega)) (F1.trans (F2.trans F3)) P3 (.two ?_ h2 h3)
        rcases hw with rfl | rfl
        · exact Or.inr (Or.inr (Or.inr (Or.inl rfl)))
        · exact Or.inr (Or.inr (Or.inr (Or.inr rfl)))
    · cases d with
      | zero => omega
      | succ d =>
        have hc : ccd (d + 1) = 2 * ccd d + 200 := rfl
        subst h4
        have e4 : decide ((4 : Int) < 4) = false := by decide
        simp only [EV, decide_eq_true h0, e4, decide_true]
        refine ⟨dk, c, wd, cd, S, kvs, n + 1, refs, i - 1, pl, rfl, by omega, by omega, g1, by omega, hr2, P1, p1, p2, p3, p4, fun M2 t2 g2 F2 P2 h2 => ?_⟩
        exact q _ _ (g2.le (by omega)) (F1.trans F2) P2 (.not h2)
    · have leaf : ∀ {m : Nat} {M' : Mp} (R : QE), Gen dk c wd cd S kvs m M' → m ≤ n + 10 → Fr3 dk c pl M M' → Pool pl 0 M' → (∀ M' t, Gen dk c wd cd S kvs (n + ccd d) M' → Fr3 dk c pl M M' → Pool pl 0 M' → Part (d + 5) t → R t M') → spLeaf 1 [T.raw (V.ref dk), T.raw (V.ref wd), refs, T.int 1] M' R := fun {m M'} R g' hm F' P' kk =>
        ⟨dk, c, wd, cd, S, kvs, m, refs, 1, rfl, rfl, g', by omega, r40, fun M2 t g2 f2 ht => kk _ _ (g2.le (by omega)) (F'.trans (.of2 f2)) (P'.fr f2 p1 p2) (ht.mono (by omega))⟩
      obtain ⟨al, hal, al1, _, alN⟩ := id P1
      by_cases h5 : r1 = 5 ∧ 1 < al.length
      · obtain ⟨e5, h1⟩ := h5
        subst e5
        have e4 : decide ((5 : Int) < 4) = false := by decide
        have e6 : decide ((5 : Int) = 4) = false := by decide
        obtain ⟨bl, y, rfl⟩ := last_split (l := al) (by omega)
        obtain ⟨cl, x, rfl⟩ := last_split (l := bl) (by rw [List.length_append, List.length_singleton] at h1; omega)
        have e7 : ((1 : Int) < (cl ++ [x] ++ [y]).length) := by omega
        have hx : Nm x := alN x (by simp)
        have hy : Nm y := alN y (by simp)
        have P2 : Pool pl 0 (mset M1 pl (.lst (cl.map T.str))) := ⟨cl, mset_same, by simp at al1; omega, Nat.zero_le _, fun a ha => alN a (by simp [ha])⟩
        have G2 := g1.pop (o := .lst (cl.map T.str)) p1 p2 p3 p4
        have F2 : Fr3 dk c pl M (mset M1 pl (.lst (cl.map T.str))) := F1.trans fun a _ _ h => mset_ne h
        have inner : ∀ R : QE, (∀ M' o t, Gen dk c wd cd S kvs (n + 1 + 50) M' → Fr3 dk c pl M M' → Pool pl 0 M' → RefT kvs 2 o → Part 3 t → R (.tup [o, t]) M') → spInner [T.raw (V.ref dk), T.raw (V.ref wd), refs, T.lst [.str y, .str x]] (mset M1 pl (.lst (cl.map T.str))) R := fun R kk =>
          ⟨dk, c, wd, cd, S, kvs, n + 1, refs, [y, x], rfl, G2, by omega, hr2.mono (by decide), by simp, by simp, fun a ha => by simp at ha; rcases ha with rfl | rfl <;> assumption, fun M' o t g' f' ho ht => kk _ _ _ g' (F2.trans (.of2 f')) (P2.fr f' p1 p2) ho ht⟩
        have fin : ∀ {M3 : Mp} {o t : T} {l : List (Str × Str)} {z : Str}, Gen dk c wd cd S kvs (n + 1 + 50) M3 → Fr3 dk c pl M M3 → Pool pl 0 M3 → RefT kvs 2 o → Part 3 t → Nm z → spCol [T.raw (V.ref dk), T.raw (V.ref wd), refs] M3 fun t_9 M1 => spPick [T.raw (V.ref dk), T.lst [.tup [.str "exists", .tup [o, t]], .tup [.str "same", t_9, .tup [.str "only", .tup [o, t], .tup [.str "column", .str y, .str z]]], .tup [.str "is", .tup [.str "first", .tup [o, t], .tup [.str "column", .str y, .str z]], .str "number"]]] M1 Q := fun {M3 o t l z} g3 F3 P3 ho ht hz =>
          ⟨dk, c, wd, cd, S, kvs, _, refs, rfl, g3, by omega, r40, fun M4 a b g4 f4 ha hb => gpick g4 (by omega) (by simp [itemsOf]) (by simp [itemsOf]) fun M5 t5 g5 f5 m5 => by
            refine q _ _ (g5.le (by omega)) (F3.trans ((Fr3.of2 f4).trans (.of2 f5))) ((P3.fr f4 p1 p2).fr f5 p1 p2) ?_
            have hcol : Part 3 (.tup [.str "column", .str y, .str z]) := .col hy hz
            simp only [itemsOf, List.mem_cons, List.not_mem_nil, or_false] at m5
            rcases m5 with rfl | rfl | rfl
            · exact Part.mono (.exists ho.own ht) (by omega)
            · exact Part.mono (.two (n := 4) (Or.inr (Or.inr (Or.inl rfl))) (.col ha hb) (.only (Or.inl rfl) ho.own ht hcol)) (by omega)
            · exact Part.mono (.plus (n := 4) (Or.inr rfl) (.only (Or.inr rfl) ho.own ht hcol) (.str (nm_of (by decide +kernel)))) (by omega)⟩
        cases hb : decide (0 < i) <;>
          simp only [EV, hb, e4, e6, decide_true, hal, List.length_map, decide_eq_true e7, lastS_get, lastS_drop, mset_same, mset_mset]
        all_goals
          refine inner _ fun M3 o t g3 F3 P3 ho ht => ?_
          obtain ⟨l, rfl, l0, l1, lp⟩ := id ho
          obtain ⟨p, l, rfl⟩ : ∃ p l', l = p :: l' := by
            cases l with
            | nil => exact absurd l0 (Nat.lt_irrefl 0)
            | cons p l' => exact ⟨p, l', rfl⟩
          obtain ⟨_, _, cols, hc1, hc2, hc3, hc4⟩ := lp p List.mem_cons_self
          obtain ⟨z, cs, rfl⟩ : ∃ z l', cols = z :: l' := by
            cases cols with
            | nil => exact absurd hc2 (Nat.lt_irrefl 0)
            | cons p l' => exact ⟨p, l', rfl⟩
          simp only [EV, g3.world, g3.cols, w_cols, hc1, List.map_cons, prT]
          exact fin (l := []) g3 F3 P3 ho ht (hc4 z List.mem_cons_self)
      · have lf : ∀ R : QE, (∀ M' t, Gen dk c wd cd S kvs (n + ccd d) M' → Fr3 dk c pl M M' → Pool pl 0 M' → Part (d + 5) t → R t M') → spLeaf 1 [T.raw (V.ref dk), T.raw (V.ref wd), refs, T.int 1] M1 R := fun R kk => leaf R g1 (by omega) F1 P1 kk
        have e5 : decide (r1 = 5) = false ∨ (decide (r1 = 5) = true ∧ decide ((1 : Int) < al.length) = false) := by
          by_cases h6 : r1 = 5
          · exact Or.inr ⟨decide_eq_true h6, decide_eq_false (by omega)⟩
          · exact Or.inl (decide_eq_false h6)
        by_cases h0 : 0 < i
        · have a4 : ¬ r1 < 4 := fun h => hA ⟨h0, h⟩
          have a5 : ¬ r1 = 4 := fun h => hB ⟨h0, h⟩
          rcases e5 with e5 | ⟨e5, e6⟩
          · simp only [EV, decide_eq_true h0, decide_eq_false a4, decide_eq_false a5, e5]
            exact lf _ q
          · simp only [EV, decide_eq_true h0, decide_eq_false a4, decide_eq_false a5, e5, e6, hal, List.length_map]
            exact lf _ q
        · rcases e5 with e5 | ⟨e5, e6⟩
          · simp only [EV, decide_eq_false h0, e5]
            exact lf _ q
          · simp only [EV, decide_eq_false h0, e5, e6, hal, List.length_map]
            exact lf _ q

theorem ok_l_schema (E : Fns K w mg) (hsy : SysAt base) (G_l_draw : FnD P w K mg base 1 E.f_l_draw E.fd_l_draw ["deck", "many"] spDraw) (G_l_pick : FnD P w K mg base 2 E.f_l_pick E.fd_l_pick ["deck", "some"] spPick) : FnD P w K mg base 3 E.f_l_schema E.fd_l_schema ["deck", "names", "many"] spSchema := by
  have nd := sc_l_schema.nd
  refine okD E.F_l_schema sc_l_schema ?len fun cdv A outer s H X hr hgd => ⟨_, (dss_cons (ds_set 3 nd rfl (by first | exact Or.inl rfl | exact Or.inr rfl) (d_lstM da_nil))
  (dss_cons (ds_set 4 nd rfl (by first | exact Or.inl rfl | exact Or.inr rfl) (d_lst (da_cons (d_tup (da_cons d_str da_nil)) (da_cons (d_tup (da_cons d_str (da_cons d_str da_nil))) (da_cons (d_tup (da_cons d_str (da_cons d_str (da_cons d_str da_nil)))) (da_cons (d_tup (da_cons d_str da_nil)) (da_cons (d_tup (da_cons d_str (da_cons d_str da_nil))) da_nil)))))))
  (dss_cons (ds_for PassesOwn.never rfl (di_range1 (by rfl) E.m_range (d_var 2)) (dg_nm 5 nd rfl (by first | exact Or.inl rfl | exact Or.inr rfl))
  (dss_cons (ds_set 6 nd rfl (by first | exact Or.inl rfl | exact Or.inr rfl) (d_tuple (by rfl) E.m_tuple (da_cons (d_comp [("name", 7)] fin_L rfl nd (di_list (d_slice (d_var 1) (do_some (d_add d_int (d_var 5))) (do_some (d_add (d_add d_int (d_var 5)) (d_fn G_l_draw (hr.mono (by decide)) hgd (by rfl) E.g_l_draw E.F_l_draw.kp (kb_l_draw_2 E) (da_cons (d_var 0) (da_cons d_int da_nil)) dk_nil))))) (by kernel_rfl)
  (fun _ _ _ _ _ => (dg_nm 7 nd rfl (by first | exact Or.inl rfl | exact Or.inr rfl))) (fun _ _ _ _ _ => dts_nil) (fun _ _ _ _ _ => (d_tup (da_cons (d_var 7) (da_cons (d_fn G_l_pick (hr.mono (by decide)) hgd (by rfl) E.g_l_pick E.F_l_pick.kp (kb_l_pick_2 E) (da_cons (d_var 0) (da_cons (d_var 4) da_nil)) dk_nil) da_nil))))) da_nil)))
  (dss_cons (ds_set 8 nd rfl (by first | exact Or.inl rfl | exact Or.inr rfl) (d_ifExp (dt_eq hr.units (d_fn G_l_draw (hr.mono (by decide)) hgd (by rfl) E.g_l_draw E.F_l_draw.kp (kb_l_draw_2 E) (da_cons (d_var 0) (da_cons d_int da_nil)) dk_nil) d_int) (d_tup (da_cons (d_ix (d_ix (d_var 6) d_int (fun _ _ => rfl)) d_int (fun _ _ => rfl)) da_nil)) (d_tup da_nil)))
  (dss_cons (ds_set 9 nd rfl (by first | exact Or.inl rfl | exact Or.inr rfl) (d_tuple (by rfl) E.m_tuple (da_cons (d_sortedS (by rfl) E.m_sorted (da_cons (d_comp [("name", 7), ("some", 10)] fin_L rfl nd (di_tup (d_var 6)) (by kernel_rfl)
  (fun _ _ _ _ _ => (dg_tp [7, 10] rfl (pgs_cons (pg_name (i := 7) nd rfl (by first | exact Or.inl rfl | exact Or.inr rfl)) (pgs_cons (pg_name (i := 10) nd rfl (by first | exact Or.inl rfl | exact Or.inr rfl)) pgs_nil)))) (fun _ _ _ _ _ => (dts_one (dt_gt (d_fn G_l_draw (hr.mono (by decide)) hgd (by rfl) E.g_l_draw E.F_l_draw.kp (kb_l_draw_2 E) (da_cons (d_var 0) (da_cons d_int da_nil)) dk_nil) d_int))) (fun _ _ _ _ _ => (d_var 7))) da_nil)) da_nil)))
  (dss_one (ds_expr (d_append (d_var 3) (da_cons (d_tup (da_cons (d_ix (d_var 1) (d_var 5) (fun _ _ => rfl)) (da_cons (d_var 6) (da_cons (d_var 8) (da_cons (d_var 9) da_nil))))) da_nil))))))))
  (dss_one (ds_ret (d_tuple (by rfl) E.m_tuple (da_cons (d_sortedT (hu84 hr) hsy (by rfl) E.m_sorted (da_cons (d_var 3) da_nil)) da_nil))))))), ?_⟩
  case len =>
    rintro ts M Q ⟨dk, c, n, al, many, rfl, _⟩
    rfl
  · rintro ts M Q ⟨dk, c, n, al, many, rfl, hD, hn, l0, l1, alN, m0, m1, q⟩
    simp only [EV, sFor, iR1]
    intro fr hfr
    have p1 : fr ≠ dk := fun z => by
      obtain ⟨_, _, _, h, _⟩ := hD.at_
      rw [z, h] at hfr
      cases hfr
    have p2 : fr ≠ c := fun z => by
      obtain ⟨_, _, _, _, h, _⟩ := hD.at_
      rw [z, h] at hfr
      cases hfr
    have dset : ∀ {m : Nat} {M : Mp} {o : MO}, DeckAt dk c M m → DeckAt dk c (mset M fr o) m := fun {m M o} h =>
      ⟨h.ne, let ⟨ns, t, k, a, b, d, e, f⟩ := h.at_; ⟨ns, t, k, (mset_ne p1.symm).trans a, (mset_ne p2.symm).trans b, d, e, f⟩⟩
    refine ⟨by omega, ?_⟩
    generalize hK : [T.tup [T.str "number"], T.tup [T.str "number", T.str "word"], T.tup [T.str "nothing", T.str "number", T.str "word"], T.tup [T.str "word"], T.tup [T.str "nothing", T.str "number"]] = kinds
    refine forL_inv (fun j ss M => ∃ a b c1 d e f, ∃ ts : List T, ss = [some (.raw (.ref dk)), some (.lst (al.map T.str)), some (.int many), some (.raw (.ref fr)), some (.lst kinds), a, b, c1, d, e, f] ∧ DeckAt dk c M (n + j * 20) ∧ M fr = some (.lst ts) ∧ ts.length = j ∧ ∀ t ∈ ts, TabS t) (fun _ _ _ _ => by trivial) 0 ⟨_, _, _, _, _, _, [], rfl, by simpa using dset hD, mset_same, rfl, fun _ h => nomatch h⟩ ?_ ?_
    · rintro j t ss M2 hj ⟨a, b, c1, d, e, f, ts, rfl, D2, h2, h3, h4⟩
      obtain ⟨hj', rfl⟩ := ups_at hj
      have hj3 : j < 4 := by omega
      rw [Nat.zero_add] at D2 h3
      refine ⟨_, rfl, fun N kk => ?_⟩
      simp only [EV, dComp, iL]
      refine draw_fr D2 (by omega) (by decide) (by decide) fun M3 r3 D3 F3 a3 b3 => ?_
      obtain ⟨k, hk, hk1⟩ : ∃ k : Nat, r3 = (k : Int) ∧ k < 3 := ⟨r3.toNat, by omega, by omega⟩
      have e1 : (5 : Int) + (j : Int) = ((5 + j : Nat) : Int) := by omega
      have e2 : (6 : Int) + (j : Int) + r3 = ((6 + j + k : Nat) : Int) := by omega
      simp only [EV, e1, e2, cut_map]
      obtain ⟨c0, c3⟩ := cut_mid (xs := al) (a := 5 + j) (b := 6 + j + k) (by omega) (by omega)
      have cN : ∀ z ∈ cutT al (some ((5 + j : Nat) : Int)) (some ((6 + j + k : Nat) : Int)), Nm z := fun z hz => alN z (cut_mem hz)
      generalize cutT al (some ((5 + j : Nat) : Int)) (some ((6 + j + k : Nat) : Int)) = bl at c0 c3 cN
      have h23 : M3 fr = some (.lst ts) := (F3 fr p1 p2).trans h2
      refine compL_inv (fun i M' => DeckAt dk c M' (n + j * 20 + 1 + i) ∧ M' fr = some (.lst ts)) ColT (fun _ _ _ => by trivial) 0 ⟨D3, h23⟩ ?_ ?_ ?_
      · rintro i t M4 hi ⟨D4, h24⟩
        rw [List.getElem?_map] at hi
        obtain ⟨z, hz1, rfl⟩ := Option.map_eq_some_iff.mp hi
        have hz := cN z (List.mem_of_getElem? hz1)
        have hi' : i < 3 := by have := (List.getElem?_eq_some_iff.mp hz1).1; omega
        refine ⟨_, rfl, fun R k2 => ?_⟩
        simp only [EV, wipe3]
        refine pick_fr D4 (by omega) (by rw [← hK]; simp [itemsOf]) (by rw [← hK]; simp [itemsOf]) fun M5 t5 D5 F5 m5 => ?_
        refine k2 _ _ ⟨z, t5, rfl, hz, ?_⟩ ⟨D5, (F5 fr p1 p2).trans h24⟩
        rw [← hK] at m5
        simp only [itemsOf, List.mem_cons, List.not_mem_nil, or_false] at m5
        rcases m5 with rfl | rfl | rfl | rfl | rfl
        · exact ts_of ["number"] (by decide +kernel)
        · exact ts_of ["number", "word"] (by decide +kernel)
        · exact ts_of ["nothing", "number", "word"] (by decide +kernel)
        · exact ts_of ["word"] (by decide +kernel)
        · exact ts_of ["nothing", "number"] (by decide +kernel)
      · rw [List.length_map]
        exact sz (by rw [List.length_nil]; omega)
      · rintro ys M6 hlen hys ⟨D6, h26⟩
        rw [List.length_map] at hlen D6
        simp only [EV, finL, List.nil_append]
        refine draw_fr D6 (by omega) (by decide) (by decide) fun M7 r7 D7 F7 a7 b7 => ?_
        obtain ⟨y0, yr, rfl⟩ : ∃ y0 yr, ys = y0 :: yr := by
          cases ys with
          | nil => rw [List.length_nil] at hlen; omega
          | cons y r => exact ⟨y, r, rfl⟩
        obtain ⟨z0, s0, rfl, nz0, _⟩ := hys y0 List.mem_cons_self
        have h27 := (F7 fr p1 p2).trans h26
        by_cases e7 : r7 = 0
        · simp only [EV, decide_eq_true e7, dComp, iT]
          refine compL_invT (fun i M' => DeckAt dk c M' (n + j * 20 + 1 + 3 + 1 + i) ∧ M' fr = some (.lst ts)) (fun y => ∃ z, y = .str z ∧ Nm z) (fun _ _ _ => by trivial) 0 ⟨D7.le (by omega), h27⟩ ?_ ?_ ?_
          · rintro i t M4 hi ⟨D4, h24⟩
            have hi' : i < 3 := by have := (List.getElem?_eq_some_iff.mp hi).1; omega
            obtain ⟨z, s, rfl, nz, _⟩ := hys t (List.mem_of_getElem? hi)
            refine ⟨_, rfl, fun R k2 => ⟨?_, fun M3 R' k3 => ?_⟩⟩
            · simp only [EV, wipe3]
              refine draw_fr D4 (by omega) (by decide) (by decide) fun M5 r5 D5 F5 _ _ => ?_
              simp only [EV, dC]
              exact k2 _ _ ⟨D5, (F5 fr p1 p2).trans h24⟩
            · simp only [EV, wipe3]
              exact k3 _ ⟨z, rfl, nz⟩
          · exact sz (by rw [List.length_nil]; omega)
          · rintro ns M8 hl8 hns ⟨D8, h28⟩
            obtain ⟨bs, rfl, hb⟩ := strs_of hns
            rw [List.length_map] at hl8
            simp only [EV, strsT_map, List.nil_append, h28]
            refine ⟨by omega, fun zs hp _ => ?_⟩
            obtain ⟨t, e, hm⟩ := atI_ok (xs := al.map T.str) (i := (j : Int)) (by omega) (by rw [List.length_map]; omega)
            obtain ⟨nm, hnm, rfl⟩ := List.mem_map.mp hm
            simp only [e]
            refine ⟨sz' (by omega), kk _ _ ⟨_, _, _, _, _, _, ts ++ [_], rfl, dset (D8.le (by omega)), mset_same, by rw [List.length_append, h3, List.length_singleton, Nat.zero_add], fun t ht => ?_⟩⟩
            rcases List.mem_append.mp ht with ht | ht
            · exact h4 t ht
            · rw [List.mem_singleton.mp ht]
              exact ⟨nm, _, _, _, rfl, alN nm hnm, by omega, by omega, hys, ⟨[z0], rfl, fun b hb2 => by rw [List.mem_singleton.mp hb2]; exact nz0.2⟩, ⟨zs, rfl, fun b hb2 => (hb b (hp.mem_iff.mp hb2)).2⟩⟩
        · simp only [EV, decide_eq_false e7, dComp, iT]
          refine compL_invT (fun i M' => DeckAt dk c M' (n + j * 20 + 1 + 3 + 1 + i) ∧ M' fr = some (.lst ts)) (fun y => ∃ z, y = .str z ∧ Nm z) (fun _ _ _ => by trivial) 0 ⟨D7.le (by omega), h27⟩ ?_ ?_ ?_
          · rintro i t M4 hi ⟨D4, h24⟩
            have hi' : i < 3 := by have := (List.getElem?_eq_some_iff.mp hi).1; omega
            obtain ⟨z, s, rfl, nz, _⟩ := hys t (List.mem_of_getElem? hi)
            refine ⟨_, rfl, fun R k2 => ⟨?_, fun M3 R' k3 => ?_⟩⟩
            · simp only [EV, wipe3]
              refine draw_fr D4 (by omega) (by decide) (by decide) fun M5 r5 D5 F5 _ _ => ?_
              simp only [EV, dC]
              exact k2 _ _ ⟨D5, (F5 fr p1 p2).trans h24⟩
            · simp only [EV, wipe3]
              exact k3 _ ⟨z, rfl, nz⟩
          · exact sz (by rw [List.length_nil]; omega)
          · rintro ns M8 hl8 hns ⟨D8, h28⟩
            obtain ⟨bs, rfl, hb⟩ := strs_of hns
            rw [List.length_map] at hl8
            simp only [EV, strsT_map, List.nil_append, h28]
            refine ⟨by omega, fun zs hp _ => ?_⟩
            obtain ⟨t, e, hm⟩ := atI_ok (xs := al.map T.str) (i := (j : Int)) (by omega) (by rw [List.length_map]; omega)
            obtain ⟨nm, hnm, rfl⟩ := List.mem_map.mp hm
            simp only [e]
            refine ⟨sz' (by omega), kk _ _ ⟨_, _, _, _, _, _, ts ++ [_], rfl, dset (D8.le (by omega)), mset_same, by rw [List.length_append, h3, List.length_singleton, Nat.zero_add], fun t ht => ?_⟩⟩
            rcases List.mem_append.mp ht with ht | ht
            · exact h4 t ht
            · rw [List.mem_singleton.mp ht]
              exact ⟨nm, _, _, _, rfl, alN nm hnm, by omega, by omega, hys, ⟨[], rfl, fun b hb2 => nomatch hb2⟩, ⟨zs, rfl, fun b hb2 => (hb b (hp.mem_iff.mp hb2)).2⟩⟩
    · rintro ss M2 ⟨a, b, c1, d, e, f, ts, rfl, D2, h2, h3, h4⟩
      rw [ups_len] at D2 h3
      simp only [EV, h2]
      refine ⟨cmp_tabs h4, fun ys hp => ?_⟩
      exact q _ _ (D2.le (by omega)) (fun t ht => h4 t (hp.mem_iff.mp ht)) (by rw [hp.length_eq]; omega)

theorem ok_l_names (E : Fns K w mg) (G_l_draw : FnD P w K mg base 1 E.f_l_draw E.fd_l_draw ["deck", "many"] spDraw) : FnD P w K mg base 2 E.f_l_names E.fd_l_names ["deck", "many"] spNames := by
  have nd := sc_l_names.nd
  refine okD E.F_l_names sc_l_names ?len fun cdv A outer s H X hr hgd => ⟨_, (dss_cons (ds_asg (d_tup (da_cons (d_fn G_l_draw (hr.mono (by decide)) hgd (by rfl) E.g_l_draw E.F_l_draw.kp (kb_l_draw_2 E) (da_cons (d_var 0) (da_cons d_int da_nil)) dk_nil) (da_cons (d_fn G_l_draw (hr.mono (by decide)) hgd (by rfl) E.g_l_draw E.F_l_draw.kp (kb_l_draw_2 E) (da_cons (d_var 0) (da_cons d_int da_nil)) dk_nil) da_nil))) (dg_tp [2, 3] rfl (pgs_cons (pg_name (i := 2) nd rfl (by first | exact Or.inl rfl | exact Or.inr rfl)) (pgs_cons (pg_name (i := 3) nd rfl (by first | exact Or.inl rfl | exact Or.inr rfl)) pgs_nil))))
  (dss_cons (ds_set 4 nd rfl (by first | exact Or.inl rfl | exact Or.inr rfl) (d_split d_str (da_cons d_str da_nil)))
  (dss_one (ds_ret (d_comp [("k", 5)] fin_L rfl nd (di_range1 (by rfl) E.m_range (d_var 1)) (by kernel_rfl)
  (fun _ _ _ _ _ => (dg_nm 5 nd rfl (by first | exact Or.inl rfl | exact Or.inr rfl))) (fun _ _ _ _ _ => dts_nil) (fun _ _ _ _ _ => (d_ix (d_ix (d_lst (da_cons (d_var 4) (da_cons d_str da_nil))) (d_var 3) (fun _ _ => rfl)) (d_mod (d_add (d_var 2) (d_mul d_int (d_var 5))) d_int) (fun _ _ => rfl)))))))), ?_⟩
  case len =>
    rintro ts M Q ⟨dk, c, n, many, rfl, _⟩
    rfl
  · rintro ts M Q ⟨dk, c, n, many, rfl, hD, hn, m0, m1, q⟩
    simp only [EV, dC]
    refine ⟨dk, c, n, 17, rfl, hD, by omega, by decide, by decide, fun M1 r1 D1 F1 a1 b1 => ?_⟩
    simp only [EV, dC]
    refine ⟨dk, c, n + 1, 2, rfl, D1, by omega, by decide, by decide, fun M2 r2 D2 F2 a2 b2 => ?_⟩
    have hw : Txt.split "less is plus from in only where not first nothing exists or t tell limit and order" " " = namesW := by decide +kernel
    simp only [EV, dComp, iR1, hw]
    refine ⟨by decide +kernel, sz (by decide +kernel), by omega, ?_⟩
    rw [ups0]
    have len17 : ∀ i : Nat, i < many.toNat → 0 ≤ (r1 + 5 * (i : Int)) % 17 ∧ (r1 + 5 * (i : Int)) % 17 < 17 := fun i _ => by omega
    have atW : ∀ (W : List Str) (x : Int), W.length = 17 → 0 ≤ x → x < 17 → atI (W.map T.str) x = some (T.str (W.getD x.toNat "")) := fun W x hl h0 h1 => by
      obtain ⟨k, rfl⟩ : ∃ k : Nat, x = k := ⟨x.toNat, by omega⟩
      rw [atN (x := T.str (W.getD k ""))]
      · rfl
      · rw [List.getElem?_map, List.getElem?_eq_getElem (by omega), List.getD_eq_getElem?_getD, List.getElem?_eq_getElem (by omega)]
        rfl
    have fin : ∀ (W : List Str), W.length = 17 → W.Nodup → (∀ z ∈ W, Nm z) → Q (.lst ((List.range many.toNat).map fun i : Nat => T.str (W.getD ((r1 + 5 * (i : Int)) % 17).toNat ""))) M2 := fun W hl hd hn' => by
      have := q M2 ((List.range many.toNat).map fun i : Nat => W.getD ((r1 + 5 * (i : Int)) % 17).toNat "") D2 (F1.trans F2) (by rw [List.length_map, List.length_range]) (fun a ha => ?_) (nodup_17 hl hd a1 (by omega))
      · rw [List.map_map] at this
        exact this
      · obtain ⟨i, hi, rfl⟩ := List.mem_map.mp ha
        rw [List.getD_eq_getElem?_getD, List.getElem?_eq_getElem (by rw [hl]; omega)]
        exact hn' _ (List.getElem_mem _)
    rcases (by omega : r2 = 0 ∨ r2 = 1) with rfl | rfl
    · refine compL_allA (f := fun i : Nat => T.str (namesW.getD ((r1 + 5 * (i : Int)) % 17).toNat "")) trivial (fun i hi => ⟨_, rfl, fun R kk => ?_⟩) (sz (by rw [List.length_range]; omega)) (fin namesW rfl (by decide +kernel) ?_)
      · rw [List.mem_range] at hi
        have m5 : IntMulOk 5 (i : Int) := small_mulL (by decide)
        obtain ⟨h1, h2⟩ := len17 i hi
        have hA := atW namesW _ rfl h1 h2
        simp only [EV, wipe3, hw, m5, Int.reduceLT]
        rw [hA]
        exact kk
      · intro z hz
        simp only [namesW, List.mem_cons, List.not_mem_nil, or_false] at hz
        rcases hz with rfl | rfl | rfl | rfl | rfl | rfl | rfl | rfl | rfl | rfl | rfl | rfl | rfl | rfl | rfl | rfl | rfl <;> exact nm_of (by decide +kernel)
    · refine compL_allA (f := fun i : Nat => T.str (namesL.getD ((r1 + 5 * (i : Int)) % 17).toNat "")) trivial (fun i hi => ⟨_, rfl, fun R kk => ?_⟩) (sz (by rw [List.length_range]; omega)) (fin namesL rfl (by decide +kernel) ?_)
      · rw [List.mem_range] at hi
        have m5 : IntMulOk 5 (i : Int) := small_mulL (by decide)
        obtain ⟨h1, h2⟩ := len17 i hi
        simp only [EV, wipe3, hw, m5, Int.reduceLT]
        generalize (r1 + 5 * (i : Int)) % 17 = x at h1 h2 kk
        obtain ⟨k, rfl⟩ : ∃ k : Nat, x = k := ⟨x.toNat, by omega⟩
        have hk : k < 17 := by omega
        obtain ⟨e1, e2⟩ := let17 ⟨k, hk⟩
        rw [e1]
        refine ⟨by decide +kernel, ?_⟩
        show R (T.str ⟨#[97 + k]⟩) M2
        rw [show (⟨#[97 + k]⟩ : Str) = namesL.getD k "" from e2]
        exact kk
      · intro z hz
        simp only [namesL, List.mem_cons, List.not_mem_nil, or_false] at hz
        rcases hz with rfl | rfl | rfl | rfl | rfl | rfl | rfl | rfl | rfl | rfl | rfl | rfl | rfl | rfl | rfl | rfl | rfl <;> exact nm_of (by decide +kernel)

theorem ok_l_drawn (E : Fns K w mg) (G_l_draw : FnD P w K mg base 1 E.f_l_draw E.fd_l_draw ["deck", "many"] spDraw) (G_l_pick : FnD P w K mg base 2 E.f_l_pick E.fd_l_pick ["deck", "some"] spPick) (G_l_column : FnD P w K mg base 3 E.f_l_column E.fd_l_column ["deck", "world", "refs"] spCol) (G_l_some_term : FnD P w K mg base 5 E.f_l_some_term E.fd_l_some_term ["deck", "world", "refs", "deep"] (spTermAt 2)) (G_l_condition : FnD P w K mg base 10 E.f_l_condition E.fd_l_condition ["deck", "world", "refs", "aliases", "deep"] (spCondAt 3)) : FnD P w K mg base 11 E.f_l_drawn E.fd_l_drawn ["deck", "world", "names", "most"] spDrawnN := by
  have nd := sc_l_drawn.nd
  refine okD E.F_l_drawn sc_l_drawn ?len fun cdv A outer s H X hr hgd => ⟨_, (dss_cons (ds_set 4 nd rfl (by first | exact Or.inl rfl | exact Or.inr rfl) (d_listM (by rfl) E.m_list (da_cons (d_var 2) da_nil)))
  (dss_cons (ds_set 5 nd rfl (by first | exact Or.inl rfl | exact Or.inr rfl) (d_tuple (by rfl) E.m_tuple (da_cons (d_comp [("k", 6)] fin_L rfl nd (di_range1 (by rfl) E.m_range (d_add d_int (d_fn G_l_draw (hr.mono (by decide)) hgd (by rfl) E.g_l_draw E.F_l_draw.kp (kb_l_draw_2 E) (da_cons (d_var 0) (da_cons (d_var 3) da_nil)) dk_nil))) (by kernel_rfl)
  (fun _ _ _ _ _ => (dg_nm 6 nd rfl (by first | exact Or.inl rfl | exact Or.inr rfl))) (fun _ _ _ _ _ => dts_nil) (fun _ _ _ _ _ => (d_tup (da_cons (d_pop (d_var 4)) (da_cons (d_ix (d_fn G_l_pick (hr.mono (by decide)) hgd (by rfl) E.g_l_pick E.F_l_pick.kp (kb_l_pick_2 E) (da_cons (d_var 0) (da_cons (d_dget (hu_of hr) (d_var 1) d_str (fun _ _ => rfl)) da_nil)) dk_nil) d_int (fun _ _ => rfl)) da_nil))))) da_nil)))
  (dss_cons (ds_set 7 nd rfl (by first | exact Or.inl rfl | exact Or.inr rfl) (d_ifExp (dt_gt (d_fn G_l_draw (hr.mono (by decide)) hgd (by rfl) E.g_l_draw E.F_l_draw.kp (kb_l_draw_2 E) (da_cons (d_var 0) (da_cons d_int da_nil)) dk_nil) d_int) (d_fn G_l_condition (hr.mono (by decide)) hgd (by rfl) E.g_l_condition E.F_l_condition.kp (kb_l_condition_5 E) (da_cons (d_var 0) (da_cons (d_var 1) (da_cons (d_var 5) (da_cons (d_var 4) (da_cons d_int da_nil))))) dk_nil) d_non))
  (dss_cons (ds_set 8 nd rfl (by first | exact Or.inl rfl | exact Or.inr rfl) (d_tuple (by rfl) E.m_tuple (da_cons (d_comp [("k", 6)] fin_L rfl nd (di_range1 (by rfl) E.m_range (d_add d_int (d_fn G_l_draw (hr.mono (by decide)) hgd (by rfl) E.g_l_draw E.F_l_draw.kp (kb_l_draw_2 E) (da_cons (d_var 0) (da_cons d_int da_nil)) dk_nil))) (by kernel_rfl)
  (fun _ _ _ _ _ => (dg_nm 6 nd rfl (by first | exact Or.inl rfl | exact Or.inr rfl))) (fun _ _ _ _ _ => dts_nil) (fun _ _ _ _ _ => (d_fn G_l_some_term (hr.mono (by decide)) hgd (by rfl) E.g_l_some_term E.F_l_some_term.kp (kb_l_some_term_4 E) (da_cons (d_var 0) (da_cons (d_var 1) (da_cons (d_var 5) (da_cons d_int da_nil)))) dk_nil))) da_nil)))
  (dss_cons (ds_set 9 nd rfl (by first | exact Or.inl rfl | exact Or.inr rfl) (d_tuple (by rfl) E.m_tuple (da_cons (d_comp [("k", 6)] fin_L rfl nd (di_range1 (by rfl) E.m_range (d_ix (d_lst (da_cons d_int (da_cons d_int (da_cons d_int (da_cons d_int (da_cons d_int da_nil)))))) (d_fn G_l_draw (hr.mono (by decide)) hgd (by rfl) E.g_l_draw E.F_l_draw.kp (kb_l_draw_2 E) (da_cons (d_var 0) (da_cons d_int da_nil)) dk_nil) (fun _ _ => rfl))) (by kernel_rfl)
  (fun _ _ _ _ _ => (dg_nm 6 nd rfl (by first | exact Or.inl rfl | exact Or.inr rfl))) (fun _ _ _ _ _ => dts_nil) (fun _ _ _ _ _ => (d_fn G_l_column (hr.mono (by decide)) hgd (by rfl) E.g_l_column E.F_l_column.kp (kb_l_column_3 E) (da_cons (d_var 0) (da_cons (d_var 1) (da_cons (d_var 5) da_nil))) dk_nil))) da_nil)))
  (dss_one (ds_ret (d_tup (da_cons (d_var 5) (da_cons (d_var 7) (da_cons (d_var 8) (da_cons (d_var 9) (da_cons (d_fn G_l_pick (hr.mono (by decide)) hgd (by rfl) E.g_l_pick E.F_l_pick.kp (kb_l_pick_2 E) (da_cons (d_var 0) (da_cons (d_lst (da_cons d_non (da_cons d_non (da_cons d_int (da_cons d_int (da_cons d_int (da_cons d_int da_nil))))))) da_nil)) dk_nil) da_nil))))))))))))), ?_⟩
  case len =>
    rintro ts M Q ⟨dk, c, wd, cd, S, kvs, n, al, i, rfl, _⟩
    rfl
  · rintro ts M Q ⟨dk, c, wd, cd, S, kvs, n, al, i, rfl, i0, i1, i2, al1, alN, alD, g, hn, q⟩
    simp only [EV, dComp, iR1]
    intro pl hpl
    have p1 : pl ≠ dk := fun z => by
      obtain ⟨_, _, _, h, _⟩ := g.deck.at_
      rw [z, h] at hpl
      cases hpl
    have p2 : pl ≠ c := fun z => by
      obtain ⟨_, _, _, _, h, _⟩ := g.deck.at_
      rw [z, h] at hpl
      cases hpl
    have p3 : pl ≠ wd := fun z => by
      rw [z, g.world] at hpl
      cases hpl
    have p4 : pl ≠ cd := fun z => by
      rw [z, g.cols] at hpl
      cases hpl
    have g0 := g.pop (o := .lst (al.map T.str)) p1 p2 p3 p4
    refine gdraw g0 (by omega) i0 (by omega) fun M1 r1 g1 f1 a1 b1 => ?_
    have P1 : M1 pl = some (.lst (al.map T.str)) := (f1 pl p1 p2).trans mset_same
    simp only [EV, dComp, iR1]
    refine ⟨by omega, ?_⟩
    refine compL_acc (fun j acc M' => ∃ (l : List (Str × Str)) (bl : List Str), acc = l.map prT ∧ l.length = j ∧ (∀ p ∈ l, Nm p.1 ∧ Nm p.2 ∧ HasC kvs p.2) ∧ bl ++ (l.map (·.1)).reverse = al ∧ M' pl = some (.lst (bl.map T.str)) ∧ Gen dk c wd cd S kvs (n + 1 + j) M') (fun _ _ _ _ => by trivial) 0 ⟨[], al, rfl, rfl, fun _ h => (nomatch h), by simp, P1, g1⟩ ?_ ?_ ?_
    · rintro j t acc M4 hj ⟨l, bl, rfl, hlj, hl, hbl, hM, g4⟩
      obtain ⟨hj', rfl⟩ := ups_at hj
      have hbn := congrArg List.length hbl
      rw [List.length_append, List.length_reverse, List.length_map] at hbn
      obtain ⟨cl, x, rfl⟩ := last_split (l := bl) (by omega)
      refine ⟨_, rfl, fun R kk => ?_⟩
      have g5 := g4.pop (o := .lst (cl.map T.str)) p1 p2 p3 p4
      simp only [EV, wipe3, hM, List.length_map, lastS_get, lastS_drop, g5.world, w_tabs]
      refine gpick g5 (by omega) (show 0 < S.length from g5.s0) (by have := g5.s1; simp only [itemsOf]; omega) fun M6 t6 g6 f6 m6 => ?_
      obtain ⟨nm, ⟨hnm, cs, x1, x2, rfl, _⟩, hc⟩ := g6.has t6 m6
      simp only [EV, dC]
      refine kk _ _ ⟨l ++ [(x, nm)], cl, by rw [List.map_append]; rfl, by rw [List.length_append, hlj]; rfl, fun p hp => ?_, ?_, (f6 pl p1 p2).trans mset_same, g6.le (by omega)⟩
      · rcases List.mem_append.mp hp with hp | hp
        · exact hl p hp
        · rw [List.mem_singleton.mp hp]
          exact ⟨alN x (by rw [← hbl]; simp), hnm, hc⟩
      · rw [← hbl, List.map_append, List.reverse_append]
        simp
    · rw [ups_len]
      exact sz (by rw [List.length_nil]; omega)
    · rintro ys M6 ⟨l, bl, rfl, hlen, hl, hbl, hM, g6⟩
      rw [ups_len] at hlen g6
      have hbn := congrArg List.length hbl
      rw [List.length_append, List.length_reverse, List.length_map] at hbn
      have nd' : (l.map (·.1)).Nodup := by
        rw [← hbl] at alD
        exact (List.pairwise_reverse.mp (List.nodup_append.mp alD).2.1).imp Ne.symm
      have refs : RefT kvs 4 (.tup (l.map prT)) := ⟨l, rfl, by omega, by omega, hl⟩
      have r40 := refs.mono (show 4 ≤ 40 by decide)
      have P7 : Pool pl 0 M6 := ⟨bl, hM, by omega, Nat.zero_le _, fun a ha => alN a (by rw [← hbl]; exact List.mem_append_left _ ha)⟩
      simp only [EV, finL]
      refine gdraw g6 (by omega) (by decide) (by decide) fun M7 r7 g7 f7 a7 b7 => ?_
      have cc : ccd 2 = 1400 := rfl
      by_cases h7 : 0 < r7
      · simp only [EV, decide_eq_true h7]
        refine ⟨dk, c, wd, cd, S, kvs, _, _, 2, pl, rfl, by decide, by decide, g7, by rw [cc]; omega, refs.mono (by decide), P7.fr f7 p1 p2, p1, p2, p3, p4, fun M8 wh g8 _ _ h8 => ?_⟩
        rw [cc] at g8
        obtain ⟨m, hm, g8⟩ : ∃ m, m ≤ n + 1500 ∧ Gen dk c wd cd S kvs m M8 := ⟨_, by omega, g8⟩
        refine gdraw g8 (by omega) (by decide) (by decide) fun M9 r9 g9 f9 a9 b9 => ?_
        simp only [EV, dComp, iR1]
        refine ⟨by omega, ?_⟩
        refine compL_inv (fun j M' => Gen dk c wd cd S kvs (m + 1 + j * 8) M') (fun t => Part 1 t) (fun _ _ _ => by trivial) 0 (by simpa using g9) ?_ ?_ ?_
        · rintro j t M4 hj g4
          obtain ⟨hj', rfl⟩ := ups_at hj
          refine ⟨_, rfl, fun R kk => ?_⟩
          simp only [EV, wipe3]
          exact term2 g4 (by omega) r40 fun M' t g' f' h' => kk _ _ h' (g'.le (by omega))
        · rw [ups_len]
          exact sz (by rw [List.length_nil]; omega)
        · rintro hs M10 hlen2 hhs g10
          rw [ups_len] at hlen2 g10
          simp only [EV, finL, List.nil_append]
          refine gdraw g10 (by omega) (by decide) (by decide) fun M11 r11 g11 f11 a11 b11 => ?_
          obtain ⟨t, e, hm2⟩ := atI_ok (xs := [T.int 0, .int 0, .int 0, .int 1, .int 2]) a11 b11
          have ht : ∃ k : Nat, t = .int k ∧ k ≤ 2 := by
            simp only [List.mem_cons, List.not_mem_nil, or_false] at hm2
            rcases hm2 with rfl | rfl | rfl | rfl | rfl
            · exact ⟨0, rfl, by decide⟩
            · exact ⟨0, rfl, by decide⟩
            · exact ⟨0, rfl, by decide⟩
            · exact ⟨1, rfl, by decide⟩
            · exact ⟨2, rfl, by decide⟩
          simp only [EV, e, dComp, iR1]
          clear e hm2
          obtain ⟨k, rfl, hk⟩ := ht
          refine ⟨by omega, ?_⟩
          refine compL_inv (fun j M' => Gen dk c wd cd S kvs (m + 1 + 32 + 1 + j * 2) M') (fun t => Part 0 t) (fun _ _ _ => by trivial) 0 (by simpa using g11.le (by omega)) ?_ ?_ ?_
          · rintro j t M4 hj g4
            obtain ⟨hj', rfl⟩ := ups_at hj
            refine ⟨_, rfl, fun R kk => ?_⟩
            simp only [EV, wipe3]
            exact ⟨dk, c, wd, cd, S, kvs, _, _, rfl, g4, by omega, r40, fun M' a b g' f' ha hb => kk _ _ (.col ha hb) (g'.le (by omega))⟩
          · rw [ups_len]
            exact sz (by rw [List.length_nil]; omega)
          · rintro os M12 hlen3 hos g12
            rw [ups_len] at hlen3 g12
            simp only [EV, finL, List.nil_append]
            refine gpick g12 (by omega) (by simp [itemsOf]) (by simp [itemsOf]) fun M13 t13 g13 f13 m13 => ?_
            refine q _ _ _ _ _ _ (g13.le (by omega)) refs nd' (Or.inr h8) (by omega) hhs ⟨os, rfl, by omega, hos⟩ ?_
            simp only [itemsOf, List.mem_cons, List.not_mem_nil, or_false] at m13
            rcases m13 with rfl | rfl | rfl | rfl | rfl | rfl
            · exact Or.inl rfl
            · exact Or.inl rfl
            · exact .int (by decide)
            · exact .int (by decide)
            · exact .int (by decide)
            · exact .int (by decide)
      · simp only [EV, decide_eq_false h7]
        have g8 := g7
        generalize M7 = M8 at g8
        obtain ⟨m, hm, g8⟩ : ∃ m, m ≤ n + 1500 ∧ Gen dk c wd cd S kvs m M8 := ⟨_, by omega, g8⟩
        refine gdraw g8 (by omega) (by decide) (by decide) fun M9 r9 g9 f9 a9 b9 => ?_
        simp only [EV, dComp, iR1]
        refine ⟨by omega, ?_⟩
        refine compL_inv (fun j M' => Gen dk c wd cd S kvs (m + 1 + j * 8) M') (fun t => Part 1 t) (fun _ _ _ => by trivial) 0 (by simpa using g9) ?_ ?_ ?_
        · rintro j t M4 hj g4
          obtain ⟨hj', rfl⟩ := ups_at hj
          refine ⟨_, rfl, fun R kk => ?_⟩
          simp only [EV, wipe3]
          exact term2 g4 (by omega) r40 fun M' t g' f' h' => kk _ _ h' (g'.le (by omega))
        · rw [ups_len]
          exact sz (by rw [List.length_nil]; omega)
        · rintro hs M10 hlen2 hhs g10
          rw [ups_len] at hlen2 g10
          simp only [EV, finL, List.nil_append]
          refine gdraw g10 (by omega) (by decide) (by decide) fun M11 r11 g11 f11 a11 b11 => ?_
          obtain ⟨t, e, hm2⟩ := atI_ok (xs := [T.int 0, .int 0, .int 0, .int 1, .int 2]) a11 b11
          have ht : ∃ k : Nat, t = .int k ∧ k ≤ 2 := by
            simp only [List.mem_cons, List.not_mem_nil, or_false] at hm2
            rcases hm2 with rfl | rfl | rfl | rfl | rfl
            · exact ⟨0, rfl, by decide⟩
            · exact ⟨0, rfl, by decide⟩
            · exact ⟨0, rfl, by decide⟩
            · exact ⟨1, rfl, by decide⟩
            · exact ⟨2, rfl, by decide⟩
          simp only [EV, e, dComp, iR1]
          clear e hm2
          obtain ⟨k, rfl, hk⟩ := ht
          refine ⟨by omega, ?_⟩
          refine compL_inv (fun j M' => Gen dk c wd cd S kvs (m + 1 + 32 + 1 + j * 2) M') (fun t => Part 0 t) (fun _ _ _ => by trivial) 0 (by simpa using g11.le (by omega)) ?_ ?_ ?_
          · rintro j t M4 hj g4
            obtain ⟨hj', rfl⟩ := ups_at hj
            refine ⟨_, rfl, fun R kk => ?_⟩
            simp only [EV, wipe3]
            exact ⟨dk, c, wd, cd, S, kvs, _, _, rfl, g4, by omega, r40, fun M' a b g' f' ha hb => kk _ _ (.col ha hb) (g'.le (by omega))⟩
          · rw [ups_len]
            exact sz (by rw [List.length_nil]; omega)
          · rintro os M12 hlen3 hos g12
            rw [ups_len] at hlen3 g12
            simp only [EV, finL, List.nil_append]
            refine gpick g12 (by omega) (by simp [itemsOf]) (by simp [itemsOf]) fun M13 t13 g13 f13 m13 => ?_
            refine q _ _ _ _ _ _ (g13.le (by omega)) refs nd' (Or.inl rfl) (by omega) hhs ⟨os, rfl, by omega, hos⟩ ?_
            simp only [itemsOf, List.mem_cons, List.not_mem_nil, or_false] at m13
            rcases m13 with rfl | rfl | rfl | rfl | rfl | rfl
            · exact Or.inl rfl
            · exact Or.inl rfl
            · exact .int (by decide)
            · exact .int (by decide)
            · exact .int (by decide)
            · exact .int (by decide)

end
section
local macro_rules | `(tactic| simp only [EV, $ls,*]) => `(tactic| simp only [EV1, sSeq, sPar, sPut, sIf, sSet, sDrop, sRet, sRetN, sNext, dOp2, dOp1, dVar, dC, dB, dTup, dLst, dLstM, dNil, dCons, dSl, doNone, doSome, dCall, dLm, $ls,*])
local macro_rules | `(tactic| simp only [EV1, $ls,*]) => `(tactic| simp only [EV2, dLm0, dSm, dAnd, dOr, dNot, dAndV, dOrV, dIf, dChain, dFn, dFn0, dYes, dDisp, dDispM, dPairs, keysT, dNewD, dNewDM, oAdd, oSub, oMul, oFdiv, oMod, oPow, $ls,*])
local macro_rules | `(tactic| simp only [EV2, $ls,*]) => `(tactic| simp only [EV3, oInt2, oNeg, oIx, oSl, oRev, oRevM, oLt, oLe, oGt, oGe, oOrd, oIsN, L3.isNon, oNotB, oDGet, oDIn, oIn, oInS, mAppend, mPop, mJoin, isL, isS, fLen, $ls,*])
local macro_rules | `(tactic| simp only [EV3, $ls,*]) => `(tactic| simp only [EV4, fIsi, fAbs, fList, fListM, fTuple, fInt, fRepr, fBls, seqOf, tyT, look, keyT, Pat.set, start3, pick, List.getElem?_cons_zero, List.getElem?_cons_succ, List.set_cons_zero, List.set_cons_succ, List.map_cons, List.map_nil, List.length_cons, List.length_nil, List.nil_append, $ls,*])
local macro_rules | `(tactic| simp only [EV4, $ls,*]) => `(tactic| simp only [EV5, List.cons_append, List.replicate_succ, List.replicate_zero, Nat.reduceSub, Nat.reduceAdd, flatOf, kit_NoneType_str, kit_bool_str, kit_int_str, kit_str_str, kit_tuple_str, kit_list_str, kit_dict_str, kit_NoneType_int, kit_bool_int, kit_int_int, kit_str_int, kit_tuple_int, kit_list_int, kit_dict_int, kit_NoneType_bool, kit_bool_bool, kit_int_bool, kit_str_bool, $ls,*])
local macro_rules | `(tactic| simp only [EV5, $ls,*]) => `(tactic| simp only [EV6, kit_tuple_bool, kit_list_bool, kit_dict_bool, kit_NoneType_tuple, kit_bool_tuple, kit_int_tuple, kit_str_tuple, kit_tuple_tuple, kit_list_tuple, kit_dict_tuple, kit_NoneType_list, kit_bool_list, kit_int_list, kit_str_list, kit_tuple_list, kit_list_list, kit_dict_list, kit_NoneType_dict, kit_bool_dict, kit_int_dict, kit_str_dict, kit_tuple_dict, kit_list_dict, kit_dict_dict, $ls,*])
local macro_rules | `(tactic| simp only [EV6, $ls,*]) => `(tactic| simp only [EV7, Bool.false_eq_true, if_false, if_true, reduceIte, true_and, sz_0, sz_1, sz_2, sz_3, sz_4, sz_5, sz_6, sz_7, sz_8, sz_9, sz_10, sz_11, sz_12, sz_13, sz_14, sz_15, sz_16, sz_17, sz_18, $ls,*])
local macro_rules | `(tactic| simp only [EV7, $ls,*]) => `(tactic| simp only [EV8, sz_19, sz_20, sz_21, sz_22, sz_23, sz_24, sz_25, sz_26, sz_27, sz_28, sz_29, sz_30, sz_31, sz_32, sz_33, sz_34, sz_35, sz_36, sz_37, sz_38, sz_39, sz_40, sz_41, sz_42, $ls,*])
local macro_rules | `(tactic| simp only [EV8, $ls,*]) => `(tactic| simp only [EV9, sz_43, sz_44, sz_45, sz_46, sz_47, atI_c0, atI_c1, atI_c2, atI_c3, atI_c4, List.append_nil, List.filterMap_cons, List.filterMap_nil, and_self, dStar, mSplit, fSortS, fSortT, L3.setAll, mExtend, dKGet, eqb_ss, eqb_ii, eqb_bb, $ls,*])
local macro_rules | `(tactic| simp only [EV9, $ls,*]) => `(tactic| simp only [eqb_nn, eqb_ni, eqb_in, eqb_ns, eqb_sn, eqb_is, eqb_si, Bool.not_true, Bool.not_false, flatT, List.all_cons, List.all_nil, Bool.and_self, $ls,*])
theorem ok_l_below (E : Fns K w mg) : FnD P w K mg base 1 E.f_l_below E.fd_l_below ["part"] spKids := by
  have nd := sc_l_below.nd
  refine okD E.F_l_below sc_l_below ?len fun cdv A outer s H X hr hgd => ⟨_, (dss_cons (ds_if (dt_in (d_ix (d_var 0) d_int (fun _ _ => rfl)) (d_tup (da_cons d_str (da_cons d_str da_nil))) (by rfl))
  (dss_one (ds_ret (d_lst da_nil)))
  dss_nil)
  (dss_cons (ds_if (dt_in (d_ix (d_var 0) d_int (fun _ _ => rfl)) (d_tup (da_cons d_str (da_cons d_str (da_cons d_str da_nil)))) (by rfl))
  (dss_one (ds_ret (d_lst (da_cons (d_tup (da_cons (d_tup (da_cons d_int da_nil)) (da_cons (d_ix (d_var 0) d_int (fun _ _ => rfl)) da_nil))) da_nil))))
  dss_nil)
  (dss_cons (ds_if (dt_eq hr.units (d_ix (d_var 0) d_int (fun _ _ => rfl)) d_str)
  (dss_one (ds_ret (d_lst (da_cons (d_tup (da_cons (d_tup (da_cons d_int (da_cons d_int da_nil))) (da_cons (d_ix (d_ix (d_var 0) d_int (fun _ _ => rfl)) d_int (fun _ _ => rfl)) da_nil))) da_nil))))
  dss_nil)
  (dss_cons (ds_if (dt_in (d_ix (d_var 0) d_int (fun _ _ => rfl)) (d_tup (da_cons d_str (da_cons d_str da_nil))) (by rfl))
  (dss_one (ds_ret (d_lst (da_cons (d_tup (da_cons (d_tup (da_cons d_int (da_cons d_int da_nil))) (da_cons (d_ix (d_ix (d_var 0) d_int (fun _ _ => rfl)) d_int (fun _ _ => rfl)) da_nil))) (da_cons (d_tup (da_cons (d_tup (da_cons d_int da_nil)) (da_cons (d_ix (d_var 0) d_int (fun _ _ => rfl)) da_nil))) da_nil)))))
  dss_nil)
  (dss_one (ds_ret (d_lst (da_cons (d_tup (da_cons (d_tup (da_cons d_int da_nil)) (da_cons (d_ix (d_var 0) d_int (fun _ _ => rfl)) da_nil))) (da_cons (d_tup (da_cons (d_tup (da_cons d_int da_nil)) (da_cons (d_ix (d_var 0) d_int (fun _ _ => rfl)) da_nil))) da_nil))))))))), ?_⟩
  case len =>
    rintro ts M Q ⟨n, p, rfl, _⟩
    rfl
  · rintro ts M Q ⟨n, p, rfl, hp, q⟩
    cases hp with
    | col ha hb =>
      simp only [EV, wi_column_0, wi_column_1, wi_column_2, wi_column_3, wi_column_4, wi_column_5, wi_column_6, wi_column_7, we_column_exists, we_column_not, we_column_and, we_column_or, wi_value_0, wi_value_1, wi_value_2, wi_value_3, wi_value_4, wi_value_5, wi_value_6, wi_value_7, we_value_exists, we_value_not, we_value_and, we_value_or, wi_plus_0, wi_plus_1, wi_plus_2, wi_plus_3, wi_plus_4, wi_plus_5, wi_plus_6, wi_plus_7, we_plus_exists, we_plus_not, we_plus_and, we_plus_or, wi_is_0, wi_is_1, wi_is_2, wi_is_3, wi_is_4, wi_is_5, wi_is_6, wi_is_7, we_is_exists, we_is_not, we_is_and, we_is_or, wi_not_0, wi_not_1, wi_not_2, wi_not_3, wi_not_4, wi_not_5, wi_not_6, wi_not_7, we_not_exists, we_not_not, we_not_and, we_not_or, wi_less_0, wi_less_1, wi_less_2, wi_less_3, wi_less_4, wi_less_5, wi_less_6, wi_less_7, we_less_exists, we_less_not, we_less_and, we_less_or, wi_most_0, wi_most_1, wi_most_2, wi_most_3, wi_most_4, wi_most_5, wi_most_6, wi_most_7, we_most_exists, we_most_not, we_most_and, we_most_or, wi_same_0, wi_same_1, wi_same_2, wi_same_3, wi_same_4, wi_same_5, wi_same_6, wi_same_7, we_same_exists, we_same_not, we_same_and, we_same_or, wi_and_0, wi_and_1, wi_and_2, wi_and_3, wi_and_4, wi_and_5, wi_and_6, wi_and_7, we_and_exists, we_and_not, we_and_and, we_and_or, wi_or_0, wi_or_1, wi_or_2, wi_or_3, wi_or_4, wi_or_5, wi_or_6, wi_or_7, we_or_exists, we_or_not, we_or_and, we_or_or, wi_exists_0, wi_exists_1, wi_exists_2, wi_exists_3, wi_exists_4, wi_exists_5, wi_exists_6, wi_exists_7, we_exists_exists, we_exists_not, we_exists_and, we_exists_or, wi_only_0, wi_only_1, wi_only_2, wi_only_3, wi_only_4, wi_only_5, wi_only_6, wi_only_7, we_only_exists, we_only_not, we_only_and, we_only_or, wi_first_0, wi_first_1, wi_first_2, wi_first_3, wi_first_4, wi_first_5, wi_first_6, wi_first_7, we_first_exists, we_first_not, we_first_and, we_first_or, flatT, List.all_cons, List.all_nil, Bool.and_self]
      exact q
    | val hv =>
      rw [kids_val] at q
      simp only [EV, wi_column_0, wi_column_1, wi_column_2, wi_column_3, wi_column_4, wi_column_5, wi_column_6, wi_column_7, we_column_exists, we_column_not, we_column_and, we_column_or, wi_value_0, wi_value_1, wi_value_2, wi_value_3, wi_value_4, wi_value_5, wi_value_6, wi_value_7, we_value_exists, we_value_not, we_value_and, we_value_or, wi_plus_0, wi_plus_1, wi_plus_2, wi_plus_3, wi_plus_4, wi_plus_5, wi_plus_6, wi_plus_7, we_plus_exists, we_plus_not, we_plus_and, we_plus_or, wi_is_0, wi_is_1, wi_is_2, wi_is_3, wi_is_4, wi_is_5, wi_is_6, wi_is_7, we_is_exists, we_is_not, we_is_and, we_is_or, wi_not_0, wi_not_1, wi_not_2, wi_not_3, wi_not_4, wi_not_5, wi_not_6, wi_not_7, we_not_exists, we_not_not, we_not_and, we_not_or, wi_less_0, wi_less_1, wi_less_2, wi_less_3, wi_less_4, wi_less_5, wi_less_6, wi_less_7, we_less_exists, we_less_not, we_less_and, we_less_or, wi_most_0, wi_most_1, wi_most_2, wi_most_3, wi_most_4, wi_most_5, wi_most_6, wi_most_7, we_most_exists, we_most_not, we_most_and, we_most_or, wi_same_0, wi_same_1, wi_same_2, wi_same_3, wi_same_4, wi_same_5, wi_same_6, wi_same_7, we_same_exists, we_same_not, we_same_and, we_same_or, wi_and_0, wi_and_1, wi_and_2, wi_and_3, wi_and_4, wi_and_5, wi_and_6, wi_and_7, we_and_exists, we_and_not, we_and_and, we_and_or, wi_or_0, wi_or_1, wi_or_2, wi_or_3, wi_or_4, wi_or_5, wi_or_6, wi_or_7, we_or_exists, we_or_not, we_or_and, we_or_or, wi_exists_0, wi_exists_1, wi_exists_2, wi_exists_3, wi_exists_4, wi_exists_5, wi_exists_6, wi_exists_7, we_exists_exists, we_exists_not, we_exists_and, we_exists_or, wi_only_0, wi_only_1, wi_only_2, wi_only_3, wi_only_4, wi_only_5, wi_only_6, wi_only_7, we_only_exists, we_only_not, we_only_and, we_only_or, wi_first_0, wi_first_1, wi_first_2, wi_first_3, wi_first_4, wi_first_5, wi_first_6, wi_first_7, we_first_exists, we_first_not, we_first_and, we_first_or, flatT, List.all_cons, List.all_nil, Bool.and_self]
      exact q
    | @plus n w x v hw hx hv =>
      rw [kids_plus hw] at q
      rcases hw with rfl | rfl <;> simp only [EV, wi_column_0, wi_column_1, wi_column_2, wi_column_3, wi_column_4, wi_column_5, wi_column_6, wi_column_7, we_column_exists, we_column_not, we_column_and, we_column_or, wi_value_0, wi_value_1, wi_value_2, wi_value_3, wi_value_4, wi_value_5, wi_value_6, wi_value_7, we_value_exists, we_value_not, we_value_and, we_value_or, wi_plus_0, wi_plus_1, wi_plus_2, wi_plus_3, wi_plus_4, wi_plus_5, wi_plus_6, wi_plus_7, we_plus_exists, we_plus_not, we_plus_and, we_plus_or, wi_is_0, wi_is_1, wi_is_2, wi_is_3, wi_is_4, wi_is_5, wi_is_6, wi_is_7, we_is_exists, we_is_not, we_is_and, we_is_or, wi_not_0, wi_not_1, wi_not_2, wi_not_3, wi_not_4, wi_not_5, wi_not_6, wi_not_7, we_not_exists, we_not_not, we_not_and, we_not_or, wi_less_0, wi_less_1, wi_less_2, wi_less_3, wi_less_4, wi_less_5, wi_less_6, wi_less_7, we_less_exists, we_less_not, we_less_and, we_less_or, wi_most_0, wi_most_1, wi_most_2, wi_most_3, wi_most_4, wi_most_5, wi_most_6, wi_most_7, we_most_exists, we_most_not, we_most_and, we_most_or, wi_same_0, wi_same_1, wi_same_2, wi_same_3, wi_same_4, wi_same_5, wi_same_6, wi_same_7, we_same_exists, we_same_not, we_same_and, we_same_or, wi_and_0, wi_and_1, wi_and_2, wi_and_3, wi_and_4, wi_and_5, wi_and_6, wi_and_7, we_and_exists, we_and_not, we_and_and, we_and_or, wi_or_0, wi_or_1, wi_or_2, wi_or_3, wi_or_4, wi_or_5, wi_or_6, wi_or_7, we_or_exists, we_or_not, we_or_and, we_or_or, wi_exists_0, wi_exists_1, wi_exists_2, wi_exists_3, wi_exists_4, wi_exists_5, wi_exists_6, wi_exists_7, we_exists_exists, we_exists_not, we_exists_and, we_exists_or, wi_only_0, wi_only_1, wi_only_2, wi_only_3, wi_only_4, wi_only_5, wi_only_6, wi_only_7, we_only_exists, we_only_not, we_only_and, we_only_or, wi_first_0, wi_first_1, wi_first_2, wi_first_3, wi_first_4, wi_first_5, wi_first_6, wi_first_7, we_first_exists, we_first_not, we_first_and, we_first_or, flatT, List.all_cons, List.all_nil, Bool.and_self] <;> exact q
    | @not n x hx =>
      rw [kids_not] at q
      simp only [EV, wi_column_0, wi_column_1, wi_column_2, wi_column_3, wi_column_4, wi_column_5, wi_column_6, wi_column_7, we_column_exists, we_column_not, we_column_and, we_column_or, wi_value_0, wi_value_1, wi_value_2, wi_value_3, wi_value_4, wi_value_5, wi_value_6, wi_value_7, we_value_exists, we_value_not, we_value_and, we_value_or, wi_plus_0, wi_plus_1, wi_plus_2, wi_plus_3, wi_plus_4, wi_plus_5, wi_plus_6, wi_plus_7, we_plus_exists, we_plus_not, we_plus_and, we_plus_or, wi_is_0, wi_is_1, wi_is_2, wi_is_3, wi_is_4, wi_is_5, wi_is_6, wi_is_7, we_is_exists, we_is_not, we_is_and, we_is_or, wi_not_0, wi_not_1, wi_not_2, wi_not_3, wi_not_4, wi_not_5, wi_not_6, wi_not_7, we_not_exists, we_not_not, we_not_and, we_not_or, wi_less_0, wi_less_1, wi_less_2, wi_less_3, wi_less_4, wi_less_5, wi_less_6, wi_less_7, we_less_exists, we_less_not, we_less_and, we_less_or, wi_most_0, wi_most_1, wi_most_2, wi_most_3, wi_most_4, wi_most_5, wi_most_6, wi_most_7, we_most_exists, we_most_not, we_most_and, we_most_or, wi_same_0, wi_same_1, wi_same_2, wi_same_3, wi_same_4, wi_same_5, wi_same_6, wi_same_7, we_same_exists, we_same_not, we_same_and, we_same_or, wi_and_0, wi_and_1, wi_and_2, wi_and_3, wi_and_4, wi_and_5, wi_and_6, wi_and_7, we_and_exists, we_and_not, we_and_and, we_and_or, wi_or_0, wi_or_1, wi_or_2, wi_or_3, wi_or_4, wi_or_5, wi_or_6, wi_or_7, we_or_exists, we_or_not, we_or_and, we_or_or, wi_exists_0, wi_exists_1, wi_exists_2, wi_exists_3, wi_exists_4, wi_exists_5, wi_exists_6, wi_exists_7, we_exists_exists, we_exists_not, we_exists_and, we_exists_or, wi_only_0, wi_only_1, wi_only_2, wi_only_3, wi_only_4, wi_only_5, wi_only_6, wi_only_7, we_only_exists, we_only_not, we_only_and, we_only_or, wi_first_0, wi_first_1, wi_first_2, wi_first_3, wi_first_4, wi_first_5, wi_first_6, wi_first_7, we_first_exists, we_first_not, we_first_and, we_first_or, flatT, List.all_cons, List.all_nil, Bool.and_self]
      exact q
    | @two n w x y hw hx hy =>
      rw [kids_two hw] at q
      rcases hw with rfl | rfl | rfl | rfl | rfl <;> simp only [EV, wi_column_0, wi_column_1, wi_column_2, wi_column_3, wi_column_4, wi_column_5, wi_column_6, wi_column_7, we_column_exists, we_column_not, we_column_and, we_column_or, wi_value_0, wi_value_1, wi_value_2, wi_value_3, wi_value_4, wi_value_5, wi_value_6, wi_value_7, we_value_exists, we_value_not, we_value_and, we_value_or, wi_plus_0, wi_plus_1, wi_plus_2, wi_plus_3, wi_plus_4, wi_plus_5, wi_plus_6, wi_plus_7, we_plus_exists, we_plus_not, we_plus_and, we_plus_or, wi_is_0, wi_is_1, wi_is_2, wi_is_3, wi_is_4, wi_is_5, wi_is_6, wi_is_7, we_is_exists, we_is_not, we_is_and, we_is_or, wi_not_0, wi_not_1, wi_not_2, wi_not_3, wi_not_4, wi_not_5, wi_not_6, wi_not_7, we_not_exists, we_not_not, we_not_and, we_not_or, wi_less_0, wi_less_1, wi_less_2, wi_less_3, wi_less_4, wi_less_5, wi_less_6, wi_less_7, we_less_exists, we_less_not, we_less_and, we_less_or, wi_most_0, wi_most_1, wi_most_2, wi_most_3, wi_most_4, wi_most_5, wi_most_6, wi_most_7, we_most_exists, we_most_not, we_most_and, we_most_or, wi_same_0, wi_same_1, wi_same_2, wi_same_3, wi_same_4, wi_same_5, wi_same_6, wi_same_7, we_same_exists, we_same_not, we_same_and, we_same_or, wi_and_0, wi_and_1, wi_and_2, wi_and_3, wi_and_4, wi_and_5, wi_and_6, wi_and_7, we_and_exists, we_and_not, we_and_and, we_and_or, wi_or_0, wi_or_1, wi_or_2, wi_or_3, wi_or_4, wi_or_5, wi_or_6, wi_or_7, we_or_exists, we_or_not, we_or_and, we_or_or, wi_exists_0, wi_exists_1, wi_exists_2, wi_exists_3, wi_exists_4, wi_exists_5, wi_exists_6, wi_exists_7, we_exists_exists, we_exists_not, we_exists_and, we_exists_or, wi_only_0, wi_only_1, wi_only_2, wi_only_3, wi_only_4, wi_only_5, wi_only_6, wi_only_7, we_only_exists, we_only_not, we_only_and, we_only_or, wi_first_0, wi_first_1, wi_first_2, wi_first_3, wi_first_4, wi_first_5, wi_first_6, wi_first_7, we_first_exists, we_first_not, we_first_and, we_first_or, flatT, List.all_cons, List.all_nil, Bool.and_self] <;> exact q
    | @«exists» n o x ho hx =>
      rw [kids_exists] at q
      simp only [EV, wi_column_0, wi_column_1, wi_column_2, wi_column_3, wi_column_4, wi_column_5, wi_column_6, wi_column_7, we_column_exists, we_column_not, we_column_and, we_column_or, wi_value_0, wi_value_1, wi_value_2, wi_value_3, wi_value_4, wi_value_5, wi_value_6, wi_value_7, we_value_exists, we_value_not, we_value_and, we_value_or, wi_plus_0, wi_plus_1, wi_plus_2, wi_plus_3, wi_plus_4, wi_plus_5, wi_plus_6, wi_plus_7, we_plus_exists, we_plus_not, we_plus_and, we_plus_or, wi_is_0, wi_is_1, wi_is_2, wi_is_3, wi_is_4, wi_is_5, wi_is_6, wi_is_7, we_is_exists, we_is_not, we_is_and, we_is_or, wi_not_0, wi_not_1, wi_not_2, wi_not_3, wi_not_4, wi_not_5, wi_not_6, wi_not_7, we_not_exists, we_not_not, we_not_and, we_not_or, wi_less_0, wi_less_1, wi_less_2, wi_less_3, wi_less_4, wi_less_5, wi_less_6, wi_less_7, we_less_exists, we_less_not, we_less_and, we_less_or, wi_most_0, wi_most_1, wi_most_2, wi_most_3, wi_most_4, wi_most_5, wi_most_6, wi_most_7, we_most_exists, we_most_not, we_most_and, we_most_or, wi_same_0, wi_same_1, wi_same_2, wi_same_3, wi_same_4, wi_same_5, wi_same_6, wi_same_7, we_same_exists, we_same_not, we_same_and, we_same_or, wi_and_0, wi_and_1, wi_and_2, wi_and_3, wi_and_4, wi_and_5, wi_and_6, wi_and_7, we_and_exists, we_and_not, we_and_and, we_and_or, wi_or_0, wi_or_1, wi_or_2, wi_or_3, wi_or_4, wi_or_5, wi_or_6, wi_or_7, we_or_exists, we_or_not, we_or_and, we_or_or, wi_exists_0, wi_exists_1, wi_exists_2, wi_exists_3, wi_exists_4, wi_exists_5, wi_exists_6, wi_exists_7, we_exists_exists, we_exists_not, we_exists_and, we_exists_or, wi_only_0, wi_only_1, wi_only_2, wi_only_3, wi_only_4, wi_only_5, wi_only_6, wi_only_7, we_only_exists, we_only_not, we_only_and, we_only_or, wi_first_0, wi_first_1, wi_first_2, wi_first_3, wi_first_4, wi_first_5, wi_first_6, wi_first_7, we_first_exists, we_first_not, we_first_and, we_first_or, flatT, List.all_cons, List.all_nil, Bool.and_self]
      exact q
    | @only n w o x y hw ho hx hy =>
      rw [kids_only hw] at q
      rcases hw with rfl | rfl <;> simp only [EV, wi_column_0, wi_column_1, wi_column_2, wi_column_3, wi_column_4, wi_column_5, wi_column_6, wi_column_7, we_column_exists, we_column_not, we_column_and, we_column_or, wi_value_0, wi_value_1, wi_value_2, wi_value_3, wi_value_4, wi_value_5, wi_value_6, wi_value_7, we_value_exists, we_value_not, we_value_and, we_value_or, wi_plus_0, wi_plus_1, wi_plus_2, wi_plus_3, wi_plus_4, wi_plus_5, wi_plus_6, wi_plus_7, we_plus_exists, we_plus_not, we_plus_and, we_plus_or, wi_is_0, wi_is_1, wi_is_2, wi_is_3, wi_is_4, wi_is_5, wi_is_6, wi_is_7, we_is_exists, we_is_not, we_is_and, we_is_or, wi_not_0, wi_not_1, wi_not_2, wi_not_3, wi_not_4, wi_not_5, wi_not_6, wi_not_7, we_not_exists, we_not_not, we_not_and, we_not_or, wi_less_0, wi_less_1, wi_less_2, wi_less_3, wi_less_4, wi_less_5, wi_less_6, wi_less_7, we_less_exists, we_less_not, we_less_and, we_less_or, wi_most_0, wi_most_1, wi_most_2, wi_most_3, wi_most_4, wi_most_5, wi_most_6, wi_most_7, we_most_exists, we_most_not, we_most_and, we_most_or, wi_same_0, wi_same_1, wi_same_2, wi_same_3, wi_same_4, wi_same_5, wi_same_6, wi_same_7, we_same_exists, we_same_not, we_same_and, we_same_or, wi_and_0, wi_and_1, wi_and_2, wi_and_3, wi_and_4, wi_and_5, wi_and_6, wi_and_7, we_and_exists, we_and_not, we_and_and, we_and_or, wi_or_0, wi_or_1, wi_or_2, wi_or_3, wi_or_4, wi_or_5, wi_or_6, wi_or_7, we_or_exists, we_or_not, we_or_and, we_or_or, wi_exists_0, wi_exists_1, wi_exists_2, wi_exists_3, wi_exists_4, wi_exists_5, wi_exists_6, wi_exists_7, we_exists_exists, we_exists_not, we_exists_and, we_exists_or, wi_only_0, wi_only_1, wi_only_2, wi_only_3, wi_only_4, wi_only_5, wi_only_6, wi_only_7, we_only_exists, we_only_not, we_only_and, we_only_or, wi_first_0, wi_first_1, wi_first_2, wi_first_3, wi_first_4, wi_first_5, wi_first_6, wi_first_7, we_first_exists, we_first_not, we_first_and, we_first_or, flatT, List.all_cons, List.all_nil, Bool.and_self] <;> exact q

theorem ok_l_all (E : Fns K w mg) {n : Nat} (G_l_below : FnD P w K mg base 1 E.f_l_below E.fd_l_below ["part"] spKids) (G_l_all : FnD P w K mg base (n + 2) E.f_l_all E.fd_l_all ["part", "lead"] (spAllAtP n)) : FnD P w K mg base (n + 2 + 1) E.f_l_all E.fd_l_all ["part", "lead"] (spAllAtP (n + 1)) := by
  have nd := sc_l_all.nd
  refine okF E.F_l_all sc_l_all ?len fun cdv A outer s H X hr hgd => ⟨_, (dss_cons (ds_set 2 nd rfl (by first | exact Or.inl rfl | exact Or.inr rfl) (d_lst (da_cons (d_tup (da_cons (d_var 1) (da_cons (d_var 0) da_nil))) da_nil)))
  (dss_cons (ds_for PassesOwn.never rfl (di_list (d_fn G_l_below (hr.mono (by omega)) hgd (by rfl) E.g_l_below E.F_l_below.kp (kb_l_below_1 E) (da_cons (d_var 0) da_nil) dk_nil)) (dg_tp [3, 4] rfl (pgs_cons (pg_name (i := 3) nd rfl (by first | exact Or.inl rfl | exact Or.inr rfl)) (pgs_cons (pg_name (i := 4) nd rfl (by first | exact Or.inl rfl | exact Or.inr rfl)) pgs_nil)))
  (dss_one (ds_set 2 nd rfl (by first | exact Or.inl rfl | exact Or.inr rfl) (d_add (d_var 2) (d_fn G_l_all (hr.mono (by omega)) hgd (by rfl) E.g_l_all E.F_l_all.kp (kb_l_all_2 E) (da_cons (d_var 4) (da_cons (d_add (d_var 1) (d_var 3)) da_nil)) dk_nil)))))
  (dss_one (ds_ret (d_var 2))))), ?_⟩
  case len =>
    rintro ts M Q ⟨p, l, rfl, _⟩
    rfl
  · rintro ts M Q ⟨p, l, rfl, hp, hn, hl, q⟩
    have c12 := cnt12 hn
    have ko := hp.kidsOk
    have hlen := allP_len hp l
    rw [allP_step hp] at q hlen
    simp only [EV, plc, sFor, iL]
    refine ⟨n, p, rfl, hp, ?_⟩
    simp only [EV, dC]
    refine forL_inv (fun j ss M' => M' = M ∧ ∃ a b, ss = [some p, some (plc l), some (.lst (((l, p) :: ((kids p).take j).flatMap fun x => allP n (l ++ x.1) x.2).map enc)), a, b]) (fun _ _ _ _ => by trivial) 0 ⟨rfl, none, none, rfl⟩ ?_ ?_
    · rintro j t ss M2 hj ⟨rfl, a, b, rfl⟩
      rw [List.getElem?_map] at hj
      obtain ⟨x, hx1, rfl⟩ := Option.map_eq_some_iff.mp hj
      obtain ⟨m, rfl, hx2, _, hh⟩ := ko.each x (List.mem_of_getElem? hx1)
      have hj2 : j < (kids p).length := (List.getElem?_eq_some_iff.mp hx1).1
      have et : (kids p).take (j + 1) = (kids p).take j ++ [x] := by rw [List.take_succ, hx1]; rfl
      have hle : (((kids p).take (j + 1)).flatMap fun x => allP (m + 1) (l ++ x.1) x.2).length ≤ ((kids p).flatMap fun x => allP (m + 1) (l ++ x.1) x.2).length := by
        conv => rhs; rw [← List.take_append_drop (j + 1) (kids p), List.flatMap_append, List.length_append]
        omega
      rw [List.length_cons] at hlen
      rw [et, List.flatMap_append, List.flatMap_cons, List.flatMap_nil, List.append_nil, List.length_append] at hle
      have e1 : allP (m + 1) (l ++ x.1) x.2 = allP m (l ++ x.1) x.2 := allP_mono hh.part (Nat.le_succ m) _
      refine ⟨_, rfl, fun N kk => ?_⟩
      simp only [EV, plc]
      refine ⟨sz (by rw [List.length_map, List.length_map]; omega), x.2, l ++ x.1, ?_, hh.part, by omega, by rw [List.length_append]; omega, ?_⟩
      · rw [plc, List.map_append]
      simp only [EV, dC]
      rw [← e1]
      refine ⟨sz (by simp only [List.length_cons, List.length_map, Nat.zero_add]; omega), kk _ _ ⟨rfl, some (.tup (x.1.map fun i : Nat => .int (i : Int))), some x.2, ?_⟩⟩
      rw [Nat.zero_add, et, List.flatMap_append, List.flatMap_cons, List.flatMap_nil, List.append_nil, List.map_cons, List.map_append]
      rfl
    · rintro ss M2 ⟨rfl, a, b, rfl⟩
      rw [Nat.zero_add, List.length_map, List.take_length]
      simp only [EV, dC]
      exact .same .refl q

theorem ok_l_leaves (E : Fns K w mg) {n : Nat} (G_l_leaves : FnD P w K mg base n E.f_l_leaves E.fd_l_leaves ["condition", "lead"] (spLvAt n)) : FnD P w K mg base (n + 1) E.f_l_leaves E.fd_l_leaves ["condition", "lead"] (spLvAt (n + 1)) := by
  have nd := sc_l_leaves.nd
  refine okF E.F_l_leaves sc_l_leaves ?len fun cdv A outer s H X hr hgd => ⟨_, (dss_cons (ds_if (dt_eq hr.units (d_ix (d_var 0) d_int (fun _ _ => rfl)) d_str)
  (dss_one (ds_ret (d_fn G_l_leaves (hr.mono (by omega)) hgd (by rfl) E.g_l_leaves E.F_l_leaves.kp (kb_l_leaves_2 E) (da_cons (d_ix (d_var 0) d_int (fun _ _ => rfl)) (da_cons (d_add (d_var 1) (d_tup (da_cons d_int da_nil))) da_nil)) dk_nil)))
  dss_nil)
  (dss_cons (ds_if (dt_in (d_ix (d_var 0) d_int (fun _ _ => rfl)) (d_tup (da_cons d_str (da_cons d_str da_nil))) (by rfl))
  (dss_one (ds_ret (d_add (d_fn G_l_leaves (hr.mono (by omega)) hgd (by rfl) E.g_l_leaves E.F_l_leaves.kp (kb_l_leaves_2 E) (da_cons (d_ix (d_var 0) d_int (fun _ _ => rfl)) (da_cons (d_add (d_var 1) (d_tup (da_cons d_int da_nil))) da_nil)) dk_nil) (d_fn G_l_leaves (hr.mono (by omega)) hgd (by rfl) E.g_l_leaves E.F_l_leaves.kp (kb_l_leaves_2 E) (da_cons (d_ix (d_var 0) d_int (fun _ _ => rfl)) (da_cons (d_add (d_var 1) (d_tup (da_cons d_int da_nil))) da_nil)) dk_nil))))
  dss_nil)
  (dss_one (ds_ret (d_lst (da_cons (d_var 1) da_nil)))))), ?_⟩
  case len =>
    rintro ts M Q ⟨p, l, rfl, _⟩
    rfl
  · rintro ts M Q ⟨p, l, rfl, hp, hn, hl, q⟩
    have c12 := cnt12 hn
    have hlen := lvP_len hp l
    rw [lvP_step hp] at q hlen
    cases hp with
    | col ha hb =>
      simp only [EV, wi_column_0, wi_column_1, wi_column_2, wi_column_3, wi_column_4, wi_column_5, wi_column_6, wi_column_7, we_column_exists, we_column_not, we_column_and, we_column_or, wi_value_0, wi_value_1, wi_value_2, wi_value_3, wi_value_4, wi_value_5, wi_value_6, wi_value_7, we_value_exists, we_value_not, we_value_and, we_value_or, wi_plus_0, wi_plus_1, wi_plus_2, wi_plus_3, wi_plus_4, wi_plus_5, wi_plus_6, wi_plus_7, we_plus_exists, we_plus_not, we_plus_and, we_plus_or, wi_is_0, wi_is_1, wi_is_2, wi_is_3, wi_is_4, wi_is_5, wi_is_6, wi_is_7, we_is_exists, we_is_not, we_is_and, we_is_or, wi_not_0, wi_not_1, wi_not_2, wi_not_3, wi_not_4, wi_not_5, wi_not_6, wi_not_7, we_not_exists, we_not_not, we_not_and, we_not_or, wi_less_0, wi_less_1, wi_less_2, wi_less_3, wi_less_4, wi_less_5, wi_less_6, wi_less_7, we_less_exists, we_less_not, we_less_and, we_less_or, wi_most_0, wi_most_1, wi_most_2, wi_most_3, wi_most_4, wi_most_5, wi_most_6, wi_most_7, we_most_exists, we_most_not, we_most_and, we_most_or, wi_same_0, wi_same_1, wi_same_2, wi_same_3, wi_same_4, wi_same_5, wi_same_6, wi_same_7, we_same_exists, we_same_not, we_same_and, we_same_or, wi_and_0, wi_and_1, wi_and_2, wi_and_3, wi_and_4, wi_and_5, wi_and_6, wi_and_7, we_and_exists, we_and_not, we_and_and, we_and_or, wi_or_0, wi_or_1, wi_or_2, wi_or_3, wi_or_4, wi_or_5, wi_or_6, wi_or_7, we_or_exists, we_or_not, we_or_and, we_or_or, wi_exists_0, wi_exists_1, wi_exists_2, wi_exists_3, wi_exists_4, wi_exists_5, wi_exists_6, wi_exists_7, we_exists_exists, we_exists_not, we_exists_and, we_exists_or, wi_only_0, wi_only_1, wi_only_2, wi_only_3, wi_only_4, wi_only_5, wi_only_6, wi_only_7, we_only_exists, we_only_not, we_only_and, we_only_or, wi_first_0, wi_first_1, wi_first_2, wi_first_3, wi_first_4, wi_first_5, wi_first_6, wi_first_7, we_first_exists, we_first_not, we_first_and, we_first_or, flatT, List.all_cons, List.all_nil, Bool.and_self]
      exact .same .refl q
    | val hv =>
      simp only [EV, wi_column_0, wi_column_1, wi_column_2, wi_column_3, wi_column_4, wi_column_5, wi_column_6, wi_column_7, we_column_exists, we_column_not, we_column_and, we_column_or, wi_value_0, wi_value_1, wi_value_2, wi_value_3, wi_value_4, wi_value_5, wi_value_6, wi_value_7, we_value_exists, we_value_not, we_value_and, we_value_or, wi_plus_0, wi_plus_1, wi_plus_2, wi_plus_3, wi_plus_4, wi_plus_5, wi_plus_6, wi_plus_7, we_plus_exists, we_plus_not, we_plus_and, we_plus_or, wi_is_0, wi_is_1, wi_is_2, wi_is_3, wi_is_4, wi_is_5, wi_is_6, wi_is_7, we_is_exists, we_is_not, we_is_and, we_is_or, wi_not_0, wi_not_1, wi_not_2, wi_not_3, wi_not_4, wi_not_5, wi_not_6, wi_not_7, we_not_exists, we_not_not, we_not_and, we_not_or, wi_less_0, wi_less_1, wi_less_2, wi_less_3, wi_less_4, wi_less_5, wi_less_6, wi_less_7, we_less_exists, we_less_not, we_less_and, we_less_or, wi_most_0, wi_most_1, wi_most_2, wi_most_3, wi_most_4, wi_most_5, wi_most_6, wi_most_7, we_most_exists, we_most_not, we_most_and, we_most_or, wi_same_0, wi_same_1, wi_same_2, wi_same_3, wi_same_4, wi_same_5, wi_same_6, wi_same_7, we_same_exists, we_same_not, we_same_and, we_same_or, wi_and_0, wi_and_1, wi_and_2, wi_and_3, wi_and_4, wi_and_5, wi_and_6, wi_and_7, we_and_exists, we_and_not, we_and_and, we_and_or, wi_or_0, wi_or_1, wi_or_2, wi_or_3, wi_or_4, wi_or_5, wi_or_6, wi_or_7, we_or_exists, we_or_not, we_or_and, we_or_or, wi_exists_0, wi_exists_1, wi_exists_2, wi_exists_3, wi_exists_4, wi_exists_5, wi_exists_6, wi_exists_7, we_exists_exists, we_exists_not, we_exists_and, we_exists_or, wi_only_0, wi_only_1, wi_only_2, wi_only_3, wi_only_4, wi_only_5, wi_only_6, wi_only_7, we_only_exists, we_only_not, we_only_and, we_only_or, wi_first_0, wi_first_1, wi_first_2, wi_first_3, wi_first_4, wi_first_5, wi_first_6, wi_first_7, we_first_exists, we_first_not, we_first_and, we_first_or, flatT, List.all_cons, List.all_nil, Bool.and_self]
      exact .same .refl q
    | @plus n w x v hw hx hv => rcases hw with rfl | rfl <;> simp only [EV, wi_column_0, wi_column_1, wi_column_2, wi_column_3, wi_column_4, wi_column_5, wi_column_6, wi_column_7, we_column_exists, we_column_not, we_column_and, we_column_or, wi_value_0, wi_value_1, wi_value_2, wi_value_3, wi_value_4, wi_value_5, wi_value_6, wi_value_7, we_value_exists, we_value_not, we_value_and, we_value_or, wi_plus_0, wi_plus_1, wi_plus_2, wi_plus_3, wi_plus_4, wi_plus_5, wi_plus_6, wi_plus_7, we_plus_exists, we_plus_not, we_plus_and, we_plus_or, wi_is_0, wi_is_1, wi_is_2, wi_is_3, wi_is_4, wi_is_5, wi_is_6, wi_is_7, we_is_exists, we_is_not, we_is_and, we_is_or, wi_not_0, wi_not_1, wi_not_2, wi_not_3, wi_not_4, wi_not_5, wi_not_6, wi_not_7, we_not_exists, we_not_not, we_not_and, we_not_or, wi_less_0, wi_less_1, wi_less_2, wi_less_3, wi_less_4, wi_less_5, wi_less_6, wi_less_7, we_less_exists, we_less_not, we_less_and, we_less_or, wi_most_0, wi_most_1, wi_most_2, wi_most_3, wi_most_4, wi_most_5, wi_most_6, wi_most_7, we_most_exists, we_most_not, we_most_and, we_most_or, wi_same_0, wi_same_1, wi_same_2, wi_same_3, wi_same_4, wi_same_5, wi_same_6, wi_same_7, we_same_exists, we_same_not, we_same_and, we_same_or, wi_and_0, wi_and_1, wi_and_2, wi_and_3, wi_and_4, wi_and_5, wi_and_6, wi_and_7, we_and_exists, we_and_not, we_and_and, we_and_or, wi_or_0, wi_or_1, wi_or_2, wi_or_3, wi_or_4, wi_or_5, wi_or_6, wi_or_7, we_or_exists, we_or_not, we_or_and, we_or_or, wi_exists_0, wi_exists_1, wi_exists_2, wi_exists_3, wi_exists_4, wi_exists_5, wi_exists_6, wi_exists_7, we_exists_exists, we_exists_not, we_exists_and, we_exists_or, wi_only_0, wi_only_1, wi_only_2, wi_only_3, wi_only_4, wi_only_5, wi_only_6, wi_only_7, we_only_exists, we_only_not, we_only_and, we_only_or, wi_first_0, wi_first_1, wi_first_2, wi_first_3, wi_first_4, wi_first_5, wi_first_6, wi_first_7, we_first_exists, we_first_not, we_first_and, we_first_or, flatT, List.all_cons, List.all_nil, Bool.and_self] <;> exact .same .refl q
    | @«exists» n o x ho hx =>
      simp only [EV, wi_column_0, wi_column_1, wi_column_2, wi_column_3, wi_column_4, wi_column_5, wi_column_6, wi_column_7, we_column_exists, we_column_not, we_column_and, we_column_or, wi_value_0, wi_value_1, wi_value_2, wi_value_3, wi_value_4, wi_value_5, wi_value_6, wi_value_7, we_value_exists, we_value_not, we_value_and, we_value_or, wi_plus_0, wi_plus_1, wi_plus_2, wi_plus_3, wi_plus_4, wi_plus_5, wi_plus_6, wi_plus_7, we_plus_exists, we_plus_not, we_plus_and, we_plus_or, wi_is_0, wi_is_1, wi_is_2, wi_is_3, wi_is_4, wi_is_5, wi_is_6, wi_is_7, we_is_exists, we_is_not, we_is_and, we_is_or, wi_not_0, wi_not_1, wi_not_2, wi_not_3, wi_not_4, wi_not_5, wi_not_6, wi_not_7, we_not_exists, we_not_not, we_not_and, we_not_or, wi_less_0, wi_less_1, wi_less_2, wi_less_3, wi_less_4, wi_less_5, wi_less_6, wi_less_7, we_less_exists, we_less_not, we_less_and, we_less_or, wi_most_0, wi_most_1, wi_most_2, wi_most_3, wi_most_4, wi_most_5, wi_most_6, wi_most_7, we_most_exists, we_most_not, we_most_and, we_most_or, wi_same_0, wi_same_1, wi_same_2, wi_same_3, wi_same_4, wi_same_5, wi_same_6, wi_same_7, we_same_exists, we_same_not, we_same_and, we_same_or, wi_and_0, wi_and_1, wi_and_2, wi_and_3, wi_and_4, wi_and_5, wi_and_6, wi_and_7, we_and_exists, we_and_not, we_and_and, we_and_or, wi_or_0, wi_or_1, wi_or_2, wi_or_3, wi_or_4, wi_or_5, wi_or_6, wi_or_7, we_or_exists, we_or_not, we_or_and, we_or_or, wi_exists_0, wi_exists_1, wi_exists_2, wi_exists_3, wi_exists_4, wi_exists_5, wi_exists_6, wi_exists_7, we_exists_exists, we_exists_not, we_exists_and, we_exists_or, wi_only_0, wi_only_1, wi_only_2, wi_only_3, wi_only_4, wi_only_5, wi_only_6, wi_only_7, we_only_exists, we_only_not, we_only_and, we_only_or, wi_first_0, wi_first_1, wi_first_2, wi_first_3, wi_first_4, wi_first_5, wi_first_6, wi_first_7, we_first_exists, we_first_not, we_first_and, we_first_or, flatT, List.all_cons, List.all_nil, Bool.and_self]
      exact .same .refl q
    | @only n w o x y hw ho hx hy => rcases hw with rfl | rfl <;> simp only [EV, wi_column_0, wi_column_1, wi_column_2, wi_column_3, wi_column_4, wi_column_5, wi_column_6, wi_column_7, we_column_exists, we_column_not, we_column_and, we_column_or, wi_value_0, wi_value_1, wi_value_2, wi_value_3, wi_value_4, wi_value_5, wi_value_6, wi_value_7, we_value_exists, we_value_not, we_value_and, we_value_or, wi_plus_0, wi_plus_1, wi_plus_2, wi_plus_3, wi_plus_4, wi_plus_5, wi_plus_6, wi_plus_7, we_plus_exists, we_plus_not, we_plus_and, we_plus_or, wi_is_0, wi_is_1, wi_is_2, wi_is_3, wi_is_4, wi_is_5, wi_is_6, wi_is_7, we_is_exists, we_is_not, we_is_and, we_is_or, wi_not_0, wi_not_1, wi_not_2, wi_not_3, wi_not_4, wi_not_5, wi_not_6, wi_not_7, we_not_exists, we_not_not, we_not_and, we_not_or, wi_less_0, wi_less_1, wi_less_2, wi_less_3, wi_less_4, wi_less_5, wi_less_6, wi_less_7, we_less_exists, we_less_not, we_less_and, we_less_or, wi_most_0, wi_most_1, wi_most_2, wi_most_3, wi_most_4, wi_most_5, wi_most_6, wi_most_7, we_most_exists, we_most_not, we_most_and, we_most_or, wi_same_0, wi_same_1, wi_same_2, wi_same_3, wi_same_4, wi_same_5, wi_same_6, wi_same_7, we_same_exists, we_same_not, we_same_and, we_same_or, wi_and_0, wi_and_1, wi_and_2, wi_and_3, wi_and_4, wi_and_5, wi_and_6, wi_and_7, we_and_exists, we_and_not, we_and_and, we_and_or, wi_or_0, wi_or_1, wi_or_2, wi_or_3, wi_or_4, wi_or_5, wi_or_6, wi_or_7, we_or_exists, we_or_not, we_or_and, we_or_or, wi_exists_0, wi_exists_1, wi_exists_2, wi_exists_3, wi_exists_4, wi_exists_5, wi_exists_6, wi_exists_7, we_exists_exists, we_exists_not, we_exists_and, we_exists_or, wi_only_0, wi_only_1, wi_only_2, wi_only_3, wi_only_4, wi_only_5, wi_only_6, wi_only_7, we_only_exists, we_only_not, we_only_and, we_only_or, wi_first_0, wi_first_1, wi_first_2, wi_first_3, wi_first_4, wi_first_5, wi_first_6, wi_first_7, we_first_exists, we_first_not, we_first_and, we_first_or, flatT, List.all_cons, List.all_nil, Bool.and_self] <;> exact .same .refl q
    | @not n x hx =>
      have e1 : ∀ q, lvP (n + 1) q x = lvP n q x := lvP_mono hx (Nat.le_succ n)
      rw [kids_not, if_pos (show joinW (.tup [.str "not", x]) = true from rfl), List.flatMap_cons, List.flatMap_nil, List.append_nil, e1] at q
      simp only [EV, plc, wi_column_0, wi_column_1, wi_column_2, wi_column_3, wi_column_4, wi_column_5, wi_column_6, wi_column_7, we_column_exists, we_column_not, we_column_and, we_column_or, wi_value_0, wi_value_1, wi_value_2, wi_value_3, wi_value_4, wi_value_5, wi_value_6, wi_value_7, we_value_exists, we_value_not, we_value_and, we_value_or, wi_plus_0, wi_plus_1, wi_plus_2, wi_plus_3, wi_plus_4, wi_plus_5, wi_plus_6, wi_plus_7, we_plus_exists, we_plus_not, we_plus_and, we_plus_or, wi_is_0, wi_is_1, wi_is_2, wi_is_3, wi_is_4, wi_is_5, wi_is_6, wi_is_7, we_is_exists, we_is_not, we_is_and, we_is_or, wi_not_0, wi_not_1, wi_not_2, wi_not_3, wi_not_4, wi_not_5, wi_not_6, wi_not_7, we_not_exists, we_not_not, we_not_and, we_not_or, wi_less_0, wi_less_1, wi_less_2, wi_less_3, wi_less_4, wi_less_5, wi_less_6, wi_less_7, we_less_exists, we_less_not, we_less_and, we_less_or, wi_most_0, wi_most_1, wi_most_2, wi_most_3, wi_most_4, wi_most_5, wi_most_6, wi_most_7, we_most_exists, we_most_not, we_most_and, we_most_or, wi_same_0, wi_same_1, wi_same_2, wi_same_3, wi_same_4, wi_same_5, wi_same_6, wi_same_7, we_same_exists, we_same_not, we_same_and, we_same_or, wi_and_0, wi_and_1, wi_and_2, wi_and_3, wi_and_4, wi_and_5, wi_and_6, wi_and_7, we_and_exists, we_and_not, we_and_and, we_and_or, wi_or_0, wi_or_1, wi_or_2, wi_or_3, wi_or_4, wi_or_5, wi_or_6, wi_or_7, we_or_exists, we_or_not, we_or_and, we_or_or, wi_exists_0, wi_exists_1, wi_exists_2, wi_exists_3, wi_exists_4, wi_exists_5, wi_exists_6, wi_exists_7, we_exists_exists, we_exists_not, we_exists_and, we_exists_or, wi_only_0, wi_only_1, wi_only_2, wi_only_3, wi_only_4, wi_only_5, wi_only_6, wi_only_7, we_only_exists, we_only_not, we_only_and, we_only_or, wi_first_0, wi_first_1, wi_first_2, wi_first_3, wi_first_4, wi_first_5, wi_first_6, wi_first_7, we_first_exists, we_first_not, we_first_and, we_first_or, flatT, List.all_cons, List.all_nil, Bool.and_self]
      refine ⟨sz (by rw [List.length_map]; omega), x, l ++ [1], by rw [plc, List.map_append]; rfl, hx, by omega, by rw [List.length_append, List.length_singleton]; omega, ?_⟩
      exact .same .refl q
    | @two n w x y hw hx hy =>
      have e1 : ∀ q, lvP (n + 1) q x = lvP n q x := lvP_mono hx (Nat.le_succ n)
      have e2 : ∀ q, lvP (n + 1) q y = lvP n q y := lvP_mono hy (Nat.le_succ n)
      have l1 := lvP_len hx (l ++ [1])
      have l2 := lvP_len hy (l ++ [2])
      have cs : cntP (n + 1) = 2 * cntP n + 1 := rfl
      rw [kids_two hw] at q
      simp only [List.flatMap_cons, List.flatMap_nil, List.append_nil, e1, e2, List.map_append] at q
      have both : (w = "and" ∨ w = "or") → joinW (.tup [.str w, x, y]) = true := by rintro (rfl | rfl) <;> rfl
      have z1 : (List.map (fun i : Nat => T.int (i : Int)) l).length + [T.int 1].length ≤ sizeLine := sz (by rw [List.length_map]; simp only [List.length_cons, List.length_nil]; omega)
      have z2 : (List.map (fun i : Nat => T.int (i : Int)) l).length + [T.int 2].length ≤ sizeLine := sz (by rw [List.length_map]; simp only [List.length_cons, List.length_nil]; omega)
      have z3 : (List.map (fun x : List Nat × T => plc x.1) (lvP n (l ++ [1]) x)).length + (List.map (fun x : List Nat × T => plc x.1) (lvP n (l ++ [2]) y)).length ≤ sizeLine := sz (by rw [List.length_map, List.length_map]; omega)
      have go : Q (.lst ((lvP n (l ++ [1]) x).map (fun x => plc x.1) ++ (lvP n (l ++ [2]) y).map (fun x => plc x.1))) M → spLvAt (n + 1) [x, .tup (l.map (fun i : Nat => T.int (i : Int)) ++ [T.int 1])] M fun t M1 => True := fun _ => ⟨x, l ++ [1], by rw [plc, List.map_append]; rfl, hx, by omega, by rw [List.length_append, List.length_singleton]; omega, trivial⟩
      rcases hw with rfl | rfl | rfl | rfl | rfl
      · simp only [EV, wi_column_0, wi_column_1, wi_column_2, wi_column_3, wi_column_4, wi_column_5, wi_column_6, wi_column_7, we_column_exists, we_column_not, we_column_and, we_column_or, wi_value_0, wi_value_1, wi_value_2, wi_value_3, wi_value_4, wi_value_5, wi_value_6, wi_value_7, we_value_exists, we_value_not, we_value_and, we_value_or, wi_plus_0, wi_plus_1, wi_plus_2, wi_plus_3, wi_plus_4, wi_plus_5, wi_plus_6, wi_plus_7, we_plus_exists, we_plus_not, we_plus_and, we_plus_or, wi_is_0, wi_is_1, wi_is_2, wi_is_3, wi_is_4, wi_is_5, wi_is_6, wi_is_7, we_is_exists, we_is_not, we_is_and, we_is_or, wi_not_0, wi_not_1, wi_not_2, wi_not_3, wi_not_4, wi_not_5, wi_not_6, wi_not_7, we_not_exists, we_not_not, we_not_and, we_not_or, wi_less_0, wi_less_1, wi_less_2, wi_less_3, wi_less_4, wi_less_5, wi_less_6, wi_less_7, we_less_exists, we_less_not, we_less_and, we_less_or, wi_most_0, wi_most_1, wi_most_2, wi_most_3, wi_most_4, wi_most_5, wi_most_6, wi_most_7, we_most_exists, we_most_not, we_most_and, we_most_or, wi_same_0, wi_same_1, wi_same_2, wi_same_3, wi_same_4, wi_same_5, wi_same_6, wi_same_7, we_same_exists, we_same_not, we_same_and, we_same_or, wi_and_0, wi_and_1, wi_and_2, wi_and_3, wi_and_4, wi_and_5, wi_and_6, wi_and_7, we_and_exists, we_and_not, we_and_and, we_and_or, wi_or_0, wi_or_1, wi_or_2, wi_or_3, wi_or_4, wi_or_5, wi_or_6, wi_or_7, we_or_exists, we_or_not, we_or_and, we_or_or, wi_exists_0, wi_exists_1, wi_exists_2, wi_exists_3, wi_exists_4, wi_exists_5, wi_exists_6, wi_exists_7, we_exists_exists, we_exists_not, we_exists_and, we_exists_or, wi_only_0, wi_only_1, wi_only_2, wi_only_3, wi_only_4, wi_only_5, wi_only_6, wi_only_7, we_only_exists, we_only_not, we_only_and, we_only_or, wi_first_0, wi_first_1, wi_first_2, wi_first_3, wi_first_4, wi_first_5, wi_first_6, wi_first_7, we_first_exists, we_first_not, we_first_and, we_first_or, flatT, List.all_cons, List.all_nil, Bool.and_self]
        exact .same .refl q
      · simp only [EV, wi_column_0, wi_column_1, wi_column_2, wi_column_3, wi_column_4, wi_column_5, wi_column_6, wi_column_7, we_column_exists, we_column_not, we_column_and, we_column_or, wi_value_0, wi_value_1, wi_value_2, wi_value_3, wi_value_4, wi_value_5, wi_value_6, wi_value_7, we_value_exists, we_value_not, we_value_and, we_value_or, wi_plus_0, wi_plus_1, wi_plus_2, wi_plus_3, wi_plus_4, wi_plus_5, wi_plus_6, wi_plus_7, we_plus_exists, we_plus_not, we_plus_and, we_plus_or, wi_is_0, wi_is_1, wi_is_2, wi_is_3, wi_is_4, wi_is_5, wi_is_6, wi_is_7, we_is_exists, we_is_not, we_is_and, we_is_or, wi_not_0, wi_not_1, wi_not_2, wi_not_3, wi_not_4, wi_not_5, wi_not_6, wi_not_7, we_not_exists, we_not_not, we_not_and, we_not_or, wi_less_0, wi_less_1, wi_less_2, wi_less_3, wi_less_4, wi_less_5, wi_less_6, wi_less_7, we_less_exists, we_less_not, we_less_and, we_less_or, wi_most_0, wi_most_1, wi_most_2, wi_most_3, wi_most_4, wi_most_5, wi_most_6, wi_most_7, we_most_exists, we_most_not, we_most_and, we_most_or, wi_same_0, wi_same_1, wi_same_2, wi_same_3, wi_same_4, wi_same_5, wi_same_6, wi_same_7, we_same_exists, we_same_not, we_same_and, we_same_or, wi_and_0, wi_and_1, wi_and_2, wi_and_3, wi_and_4, wi_and_5, wi_and_6, wi_and_7, we_and_exists, we_and_not, we_and_and, we_and_or, wi_or_0, wi_or_1, wi_or_2, wi_or_3, wi_or_4, wi_or_5, wi_or_6, wi_or_7, we_or_exists, we_or_not, we_or_and, we_or_or, wi_exists_0, wi_exists_1, wi_exists_2, wi_exists_3, wi_exists_4, wi_exists_5, wi_exists_6, wi_exists_7, we_exists_exists, we_exists_not, we_exists_and, we_exists_or, wi_only_0, wi_only_1, wi_only_2, wi_only_3, wi_only_4, wi_only_5, wi_only_6, wi_only_7, we_only_exists, we_only_not, we_only_and, we_only_or, wi_first_0, wi_first_1, wi_first_2, wi_first_3, wi_first_4, wi_first_5, wi_first_6, wi_first_7, we_first_exists, we_first_not, we_first_and, we_first_or, flatT, List.all_cons, List.all_nil, Bool.and_self]
        exact .same .refl q
      · simp only [EV, wi_column_0, wi_column_1, wi_column_2, wi_column_3, wi_column_4, wi_column_5, wi_column_6, wi_column_7, we_column_exists, we_column_not, we_column_and, we_column_or, wi_value_0, wi_value_1, wi_value_2, wi_value_3, wi_value_4, wi_value_5, wi_value_6, wi_value_7, we_value_exists, we_value_not, we_value_and, we_value_or, wi_plus_0, wi_plus_1, wi_plus_2, wi_plus_3, wi_plus_4, wi_plus_5, wi_plus_6, wi_plus_7, we_plus_exists, we_plus_not, we_plus_and, we_plus_or, wi_is_0, wi_is_1, wi_is_2, wi_is_3, wi_is_4, wi_is_5, wi_is_6, wi_is_7, we_is_exists, we_is_not, we_is_and, we_is_or, wi_not_0, wi_not_1, wi_not_2, wi_not_3, wi_not_4, wi_not_5, wi_not_6, wi_not_7, we_not_exists, we_not_not, we_not_and, we_not_or, wi_less_0, wi_less_1, wi_less_2, wi_less_3, wi_less_4, wi_less_5, wi_less_6, wi_less_7, we_less_exists, we_less_not, we_less_and, we_less_or, wi_most_0, wi_most_1, wi_most_2, wi_most_3, wi_most_4, wi_most_5, wi_most_6, wi_most_7, we_most_exists, we_most_not, we_most_and, we_most_or, wi_same_0, wi_same_1, wi_same_2, wi_same_3, wi_same_4, wi_same_5, wi_same_6, wi_same_7, we_same_exists, we_same_not, we_same_and, we_same_or, wi_and_0, wi_and_1, wi_and_2, wi_and_3, wi_and_4, wi_and_5, wi_and_6, wi_and_7, we_and_exists, we_and_not, we_and_and, we_and_or, wi_or_0, wi_or_1, wi_or_2, wi_or_3, wi_or_4, wi_or_5, wi_or_6, wi_or_7, we_or_exists, we_or_not, we_or_and, we_or_or, wi_exists_0, wi_exists_1, wi_exists_2, wi_exists_3, wi_exists_4, wi_exists_5, wi_exists_6, wi_exists_7, we_exists_exists, we_exists_not, we_exists_and, we_exists_or, wi_only_0, wi_only_1, wi_only_2, wi_only_3, wi_only_4, wi_only_5, wi_only_6, wi_only_7, we_only_exists, we_only_not, we_only_and, we_only_or, wi_first_0, wi_first_1, wi_first_2, wi_first_3, wi_first_4, wi_first_5, wi_first_6, wi_first_7, we_first_exists, we_first_not, we_first_and, we_first_or, flatT, List.all_cons, List.all_nil, Bool.and_self]
        exact .same .refl q
      all_goals
        rw [if_pos (both (by simp)), List.map_append] at q
        simp only [EV, plc, wi_column_0, wi_column_1, wi_column_2, wi_column_3, wi_column_4, wi_column_5, wi_column_6, wi_column_7, we_column_exists, we_column_not, we_column_and, we_column_or, wi_value_0, wi_value_1, wi_value_2, wi_value_3, wi_value_4, wi_value_5, wi_value_6, wi_value_7, we_value_exists, we_value_not, we_value_and, we_value_or, wi_plus_0, wi_plus_1, wi_plus_2, wi_plus_3, wi_plus_4, wi_plus_5, wi_plus_6, wi_plus_7, we_plus_exists, we_plus_not, we_plus_and, we_plus_or, wi_is_0, wi_is_1, wi_is_2, wi_is_3, wi_is_4, wi_is_5, wi_is_6, wi_is_7, we_is_exists, we_is_not, we_is_and, we_is_or, wi_not_0, wi_not_1, wi_not_2, wi_not_3, wi_not_4, wi_not_5, wi_not_6, wi_not_7, we_not_exists, we_not_not, we_not_and, we_not_or, wi_less_0, wi_less_1, wi_less_2, wi_less_3, wi_less_4, wi_less_5, wi_less_6, wi_less_7, we_less_exists, we_less_not, we_less_and, we_less_or, wi_most_0, wi_most_1, wi_most_2, wi_most_3, wi_most_4, wi_most_5, wi_most_6, wi_most_7, we_most_exists, we_most_not, we_most_and, we_most_or, wi_same_0, wi_same_1, wi_same_2, wi_same_3, wi_same_4, wi_same_5, wi_same_6, wi_same_7, we_same_exists, we_same_not, we_same_and, we_same_or, wi_and_0, wi_and_1, wi_and_2, wi_and_3, wi_and_4, wi_and_5, wi_and_6, wi_and_7, we_and_exists, we_and_not, we_and_and, we_and_or, wi_or_0, wi_or_1, wi_or_2, wi_or_3, wi_or_4, wi_or_5, wi_or_6, wi_or_7, we_or_exists, we_or_not, we_or_and, we_or_or, wi_exists_0, wi_exists_1, wi_exists_2, wi_exists_3, wi_exists_4, wi_exists_5, wi_exists_6, wi_exists_7, we_exists_exists, we_exists_not, we_exists_and, we_exists_or, wi_only_0, wi_only_1, wi_only_2, wi_only_3, wi_only_4, wi_only_5, wi_only_6, wi_only_7, we_only_exists, we_only_not, we_only_and, we_only_or, wi_first_0, wi_first_1, wi_first_2, wi_first_3, wi_first_4, wi_first_5, wi_first_6, wi_first_7, we_first_exists, we_first_not, we_first_and, we_first_or, flatT, List.all_cons, List.all_nil, Bool.and_self]
        refine ⟨z1, x, l ++ [1], by rw [plc, List.map_append]; rfl, hx, by omega, by rw [List.length_append, List.length_singleton]; omega, ?_⟩
        simp only [EV, dC]
        refine ⟨z2, y, l ++ [2], by rw [plc, List.map_append]; rfl, hy, by omega, by rw [List.length_append, List.length_singleton]; omega, ?_⟩
        simp only [EV, dC]
        exact ⟨z3, .same .refl q⟩

theorem ok_l_every (E : Fns K w mg) {n : Nat} (hn : n ≤ 12) (G_l_all : FnD P w K mg base (n + 2 + 1) E.f_l_all E.fd_l_all ["part", "lead"] (spAllAtP (n + 1))) : FnD P w K mg base (n + 2 + 2) E.f_l_every E.fd_l_every ["asked"] (spEveryP n) := by
  have nd := sc_l_every.nd
  refine okF E.F_l_every sc_l_every ?len fun cdv A outer s H X hr hgd => ⟨_, (dss_cons (ds_set 1 nd rfl (by first | exact Or.inl rfl | exact Or.inr rfl) (d_ifExp (dt_isN (d_ix (d_var 0) d_int (fun _ _ => rfl))) (d_lst da_nil) (d_fn G_l_all (hr.mono (by omega)) hgd (by rfl) E.g_l_all E.F_l_all.kp (kb_l_all_2 E) (da_cons (d_ix (d_var 0) d_int (fun _ _ => rfl)) (da_cons (d_tup (da_cons d_int da_nil)) da_nil)) dk_nil)))
  (dss_cons (ds_for PassesOwn.never rfl (di_enumT (by rfl) E.m_enumerate (da_cons (d_ix (d_var 0) d_int (fun _ _ => rfl)) da_nil)) (dg_tp [2, 3] rfl (pgs_cons (pg_name (i := 2) nd rfl (by first | exact Or.inl rfl | exact Or.inr rfl)) (pgs_cons (pg_name (i := 3) nd rfl (by first | exact Or.inl rfl | exact Or.inr rfl)) pgs_nil)))
  (dss_one (ds_set 1 nd rfl (by first | exact Or.inl rfl | exact Or.inr rfl) (d_add (d_var 1) (d_fn G_l_all (hr.mono (by omega)) hgd (by rfl) E.g_l_all E.F_l_all.kp (kb_l_all_2 E) (da_cons (d_var 3) (da_cons (d_tup (da_cons d_int (da_cons (d_var 2) da_nil))) da_nil)) dk_nil)))))
  (dss_one (ds_ret (d_var 1))))), ?_⟩
  case len =>
    rintro ts M Q ⟨refs, wh, hs, ord, lim, rfl, _⟩
    rfl
  · rintro ts M Q ⟨refs, wh, hs, ord, lim, rfl, hq, q⟩
    have c12 := cnt12 hn
    obtain ⟨refs', wh', hs', ord', lim', e, h1, h2, h3, h4, h5, h6⟩ := hq.ex
    cases e
    have hlk : ∀ k, ((hs.mapIdx fun i x => allP n [2, i] x).take k).flatten.length ≤ 4 * cntP n := by
      intro k
      have : ∀ ls : List (List (List Nat × T)), (∀ x ∈ ls, x.length ≤ cntP n) → ls.flatten.length ≤ ls.length * cntP n := by
        intro ls
        induction ls with
        | nil => intro _; simp
        | cons a ls ih =>
          intro h
          have := ih fun x hx => h x (List.mem_cons_of_mem _ hx)
          have := h a List.mem_cons_self
          rw [List.flatten_cons, List.length_append, List.length_cons, Nat.succ_mul]
          omega
      have h7 := this ((hs.mapIdx fun i x => allP n [2, i] x).take k) (fun x hx => by
        obtain ⟨i, hi, rfl⟩ := List.mem_mapIdx.mp (List.mem_of_mem_take hx)
        exact allP_len (h4 _ (List.getElem_mem _)) _)
      have h8 : ((hs.mapIdx fun i x => allP n [2, i] x).take k).length * cntP n ≤ 4 * cntP n := Nat.mul_le_mul_right _ (by rw [List.length_take, List.length_mapIdx]; omega)
      omega
    have loop : ∀ (fs : List (List Nat × T)), fs.length ≤ cntP n → (Q (.lst ((fs ++ (hs.mapIdx fun i x => allP n [2, i] x).flatten).map enc)) M) →
        forL (fun _ => True) (Pat.tp [2, 3]) (sSet (Pat.nm 1) (dOp2 oAdd (dVar 1) (dFn (spAllAtP (n + 1)) 2 0 [0, 1] [] (dCons (dVar 3) (dCons (dTup (dCons (dC (.int 2)) (dCons (dVar 2) dNil))) dNil)) dNil)))
          { nx := sRet (dVar 1) { nx := fun _ M' => Fz Q .non M', rt := Fz Q }, rt := Fz Q } (enumT hs) [some (.tup [refs, wh, .tup hs, ord, lim]), some (.lst (fs.map enc)), none, none] M := by
      intro fs hfs k
      simp only [enumT]
      refine forL_inv (fun j ss M' => M' = M ∧ ∃ a b, ss = [some (.tup [refs, wh, .tup hs, ord, lim]), some (.lst ((fs ++ ((hs.mapIdx fun i x => allP n [2, i] x).take j).flatten).map enc)), a, b]) (fun _ _ _ _ => by trivial) 0 ⟨rfl, none, none, by rw [List.take_zero, List.flatten_nil, List.append_nil]⟩ ?_ ?_
      · rintro j t ss M2 hj ⟨rfl, a, b, rfl⟩
        rw [List.getElem?_mapIdx] at hj
        obtain ⟨x, hx, rfl⟩ := Option.map_eq_some_iff.mp hj
        have hxp := h4 x (List.mem_of_getElem? hx)
        have et : (hs.mapIdx fun i x => allP n [2, i] x).take (j + 1) = (hs.mapIdx fun i x => allP n [2, i] x).take j ++ [allP n [2, j] x] := by rw [List.take_succ, List.getElem?_mapIdx, hx]; rfl
        have l1 := allP_len hxp [2, j]
        have l2 := hlk j
        refine ⟨_, rfl, fun N kk => ?_⟩
        simp only [EV, dC]
        refine ⟨x, [2, j], rfl, hxp, hn, by show 2 + 2 * n ≤ 60; omega, ?_⟩
        simp only [EV, dC]
        refine ⟨sz (by rw [Nat.zero_add, List.length_map, List.length_map, List.length_append]; omega), kk _ _ ⟨rfl, some (.int (j : Nat)), some x, ?_⟩⟩
        rw [Nat.zero_add, et, List.flatten_append, List.flatten_cons, List.flatten_nil, List.append_nil, ← List.append_assoc, List.map_append (l₂ := allP n [2, j] x)]
      · rintro ss M2 ⟨rfl, a, b, rfl⟩
        rw [Nat.zero_add, List.length_mapIdx, List.take_of_length_le (by rw [List.length_mapIdx]; exact Nat.le_refl _)]
        simp only [EV, dC]
        exact .same .refl k
    rcases h2 with rfl | h2
    · simp only [EV, sFor, iEnT]
      exact loop [] (Nat.zero_le _) q
    · have nn : L3.isNon wh = some false := by cases h2 <;> rfl
      have no : isNo wh = false := by cases h2 <;> rfl
      rw [allQ, no, if_neg Bool.false_ne_true] at q
      simp only [sFor, iEnT, nn, sSeq, sPar, sPut, sIf, sSet, sDrop, sRet, sRetN, sNext, dOp2, dOp1, dVar, dC, dB, dTup, dLst, dLstM, dNil, dCons, dSl, doNone, doSome, dCall, dLm, dLm0, dSm, dAnd, dOr, dNot, dAndV, dOrV, dIf, dChain, dFn, dFn0, dYes, dDisp, dDispM, dPairs, keysT, dNewD, dNewDM,
 oAdd, oSub, oMul, oFdiv, oMod, oPow, oInt2, oNeg, oIx, oSl, oRev, oRevM, oLt, oLe, oGt, oGe, oOrd, oIsN, oNotB, oDGet, oDIn, oIn, oInS, mAppend, mPop, mJoin, isL, isS, fLen, fIsi, fAbs, fList, fListM, fTuple, fInt, fRepr, fBls, seqOf, tyT,
 look, keyT, Pat.set, start3, pick, List.getElem?_cons_zero, List.getElem?_cons_succ, List.set_cons_zero, List.set_cons_succ, List.map_cons, List.map_nil, List.length_cons, List.length_nil, List.nil_append, List.cons_append, List.replicate_succ, List.replicate_zero, Nat.reduceSub, Nat.reduceAdd, flatOf, kit_NoneType_str, kit_bool_str, kit_int_str, kit_str_str, kit_tuple_str, kit_list_str, kit_dict_str, kit_NoneType_int, kit_bool_int, kit_int_int, kit_str_int, kit_tuple_int, kit_list_int, kit_dict_int, kit_NoneType_bool, kit_bool_bool, kit_int_bool, kit_str_bool, kit_tuple_bool, kit_list_bool, kit_dict_bool, kit_NoneType_tuple, kit_bool_tuple, kit_int_tuple, kit_str_tuple, kit_tuple_tuple, kit_list_tuple, kit_dict_tuple, kit_NoneType_list, kit_bool_list, kit_int_list, kit_str_list, kit_tuple_list, kit_list_list, kit_dict_list, kit_NoneType_dict, kit_bool_dict, kit_int_dict, kit_str_dict, kit_tuple_dict, kit_list_dict, kit_dict_dict, Bool.false_eq_true, if_false, if_true, reduceIte, true_and, sz_0, sz_1, sz_2, sz_3, sz_4, sz_5, sz_6, sz_7, sz_8, sz_9, sz_10, sz_11, sz_12, sz_13, sz_14, sz_15, sz_16, sz_17, sz_18, sz_19, sz_20, sz_21, sz_22, sz_23, sz_24, sz_25, sz_26, sz_27, sz_28, sz_29, sz_30, sz_31, sz_32, sz_33, sz_34, sz_35, sz_36, sz_37, sz_38, sz_39, sz_40, sz_41, sz_42, sz_43, sz_44, sz_45, sz_46, sz_47, atI_c0, atI_c1, atI_c2, atI_c3, atI_c4, List.append_nil, List.filterMap_cons, List.filterMap_nil, and_self, dStar, mSplit, fSortS, fSortT, L3.setAll, mExtend, dKGet, dB, oIn, seqOf, eqb_ss, eqb_ii, eqb_bb, eqb_nn, eqb_ni, eqb_in, eqb_ns, eqb_sn, eqb_is, eqb_si, Bool.not_true, Bool.not_false, flatT, List.all_cons, List.all_nil, Bool.and_self]
      refine ⟨wh, [1], rfl, h2, hn, by show 1 + 2 * n ≤ 60; omega, ?_⟩
      simp only [EV, dC]
      exact loop _ (allP_len h2 _) q

theorem ok_l_widened (E : Fns K w mg) (G_l_draw : FnD P w K mg base 1 E.f_l_draw E.fd_l_draw ["deck", "many"] spDraw) (G_l_pick : FnD P w K mg base 2 E.f_l_pick E.fd_l_pick ["deck", "some"] spPick) (G_l_column : FnD P w K mg base 3 E.f_l_column E.fd_l_column ["deck", "world", "refs"] spCol) (G_l_some_leaf : FnD P w K mg base 7 E.f_l_some_leaf E.fd_l_some_leaf ["deck", "world", "refs", "deep"] (spLeaf 2)) (G_l_some_term : FnD P w K mg base 7 E.f_l_some_term E.fd_l_some_term ["deck", "world", "refs", "deep"] (spTermAt 4)) : FnD P w K mg base 11 E.f_l_widened E.fd_l_widened ["deck", "world", "asked", "aliases"] spWid := by
  have nd := sc_l_widened.nd
  refine okD E.F_l_widened sc_l_widened ?len fun cdv A outer s H X hr hgd => ⟨_, (dss_cons (ds_set 4 nd rfl (by first | exact Or.inl rfl | exact Or.inr rfl) (d_tup (da_cons (d_tup (da_cons (d_ix (d_var 3) d_int (fun _ _ => rfl)) (da_cons (d_ix (d_fn G_l_pick (hr.mono (by decide)) hgd (by rfl) E.g_l_pick E.F_l_pick.kp (kb_l_pick_2 E) (da_cons (d_var 0) (da_cons (d_dget (hu_of hr) (d_var 1) d_str (fun _ _ => rfl)) da_nil)) dk_nil) d_int (fun _ _ => rfl)) da_nil))) da_nil)))
  (dss_cons (ds_set 5 nd rfl (by first | exact Or.inl rfl | exact Or.inr rfl) (d_tup (da_cons d_str (da_cons (d_ix (d_var 3) d_int (fun _ _ => rfl)) (da_cons (d_ix (d_dget (hu_of hr) (d_dget (hu_of hr) (d_var 1) d_str (fun _ _ => rfl)) (d_ix (d_ix (d_var 4) d_int (fun _ _ => rfl)) d_int (fun _ _ => rfl)) (fun _ _ => rfl)) d_int (fun _ _ => rfl)) da_nil)))))
  (dss_cons (ds_set 6 nd rfl (by first | exact Or.inl rfl | exact Or.inr rfl) (d_tup (da_cons (d_var 4) (da_cons (d_fn G_l_some_leaf (hr.mono (by decide)) hgd (by rfl) E.g_l_some_leaf E.F_l_some_leaf.kp (kb_l_some_leaf_4 E) (da_cons (d_var 0) (da_cons (d_var 1) (da_cons (d_add (d_var 4) (d_ix (d_var 2) d_int (fun _ _ => rfl))) (da_cons d_int da_nil)))) dk_nil) da_nil))))
  (dss_cons (ds_set 5 nd rfl (by first | exact Or.inl rfl | exact Or.inr rfl) (d_fn G_l_pick (hr.mono (by decide)) hgd (by rfl) E.g_l_pick E.F_l_pick.kp (kb_l_pick_2 E) (da_cons (d_var 0) (da_cons (d_lst (da_cons (d_var 5) (da_cons (d_fn G_l_column (hr.mono (by decide)) hgd (by rfl) E.g_l_column E.F_l_column.kp (kb_l_column_3 E) (da_cons (d_var 0) (da_cons (d_var 1) (da_cons (d_ix (d_var 2) d_int (fun _ _ => rfl)) da_nil))) dk_nil) da_nil))) da_nil)) dk_nil))
  (dss_cons (ds_set 7 nd rfl (by first | exact Or.inl rfl | exact Or.inr rfl) (d_tup (da_cons (d_fn G_l_pick (hr.mono (by decide)) hgd (by rfl) E.g_l_pick E.F_l_pick.kp (kb_l_pick_2 E) (da_cons (d_var 0) (da_cons (d_lst (da_cons d_str (da_cons d_str da_nil))) da_nil)) dk_nil) (da_cons (d_var 6) (da_cons (d_var 5) da_nil)))))
  (dss_cons (ds_set 8 nd rfl (by first | exact Or.inl rfl | exact Or.inr rfl) (d_add (d_ix (d_var 2) d_int (fun _ _ => rfl)) (d_tup (da_cons (d_tup (da_cons d_str (da_cons (d_var 7) (da_cons d_int da_nil)))) (da_cons (d_fn G_l_some_term (hr.mono (by decide)) hgd (by rfl) E.g_l_some_term E.F_l_some_term.kp (kb_l_some_term_4 E) (da_cons (d_var 0) (da_cons (d_var 1) (da_cons (d_ix (d_var 2) d_int (fun _ _ => rfl)) (da_cons d_int da_nil)))) dk_nil) da_nil)))))
  (dss_one (ds_ret (d_add (d_add (d_slice (d_var 2) do_none (do_some d_int)) (d_tup (da_cons (d_var 8) da_nil))) (d_slice (d_var 2) (do_some d_int) do_none)))))))))), ?_⟩
  case len =>
    rintro ts M Q ⟨dk, c, wd, cd, S, kvs, n, refs, wh, hs, ord, lim, al, rfl, _⟩
    rfl
  · rintro ts M Q ⟨dk, c, wd, cd, S, kvs, n, refs, wh, hs, ord, lim, al, rfl, g, hn, hr2, hs2, al0, alN, q⟩
    obtain ⟨z, ar, rfl⟩ : ∃ z r, al = z :: r := by
      cases al with
      | nil => exact absurd al0 (Nat.lt_irrefl 0)
      | cons z r => exact ⟨z, r, rfl⟩
    have hz := alN z List.mem_cons_self
    simp only [EV, g.world, w_tabs]
    refine gpick g (by omega) (show 0 < S.length from g.s0) (by have := g.s1; show S.length ≤ _; omega) fun M1 t1 g1 f1 m1 => ?_
    obtain ⟨nm, ⟨hnm, cs, x1, x2, rfl, _⟩, hc⟩ := g1.has t1 m1
    obtain ⟨cols, hc1, hc2, hc3, hc4⟩ := id hc
    obtain ⟨cz, cr, rfl⟩ : ∃ z r, cols = z :: r := by
      cases cols with
      | nil => exact absurd hc2 (Nat.lt_irrefl 0)
      | cons z r => exact ⟨z, r, rfl⟩
    have hcz := hc4 cz List.mem_cons_self
    obtain ⟨rl, rfl, rl1, rl2, rl3⟩ := hr2
    have own : RefT kvs 1 (.tup [prT (z, nm)]) := ⟨[(z, nm)], rfl, Nat.le_refl _, Nat.le_refl _, fun p hp => by rw [List.mem_singleton.mp hp]; exact ⟨hz, hnm, hc⟩⟩
    have rf : RefT kvs 4 (.tup (rl.map prT)) := ⟨rl, rfl, rl1, rl2, rl3⟩
    have orf : RefT kvs 40 (.tup ([prT (z, nm)] ++ rl.map prT)) := (own.app rf).mono (by decide)
    have own2 : OwnT 2 (.tup [.tup [.str z, .str nm]]) := (own.mono (show 1 ≤ 2 by decide)).own
    simp only [EV, g1.world, g1.cols, w_cols, hc1, List.length_map]
    refine ⟨sz (by omega), dk, c, wd, cd, S, kvs, _, _, 2, rfl, rfl, g1, by omega, orf, fun M2 t2 g2 f2 h2 => ?_⟩
    try simp only [EV, dC]
    refine ⟨dk, c, wd, cd, S, kvs, _, _, rfl, g2, by omega, rf.mono (by decide), fun M3 a b g3 f3 ha hb => ?_⟩
    try simp only [EV, dC]
    refine gpick g3 (by omega) (by simp [itemsOf]) (by simp [itemsOf]) fun M4 t4 g4 f4 m4 => ?_
    have h4 : ∃ a b, t4 = .tup [.str "column", .str a, .str b] ∧ Nm a ∧ Nm b := by
      simp only [itemsOf, List.mem_cons, List.not_mem_nil, or_false] at m4
      rcases m4 with rfl | rfl
      · exact ⟨_, _, rfl, hz, hcz⟩
      · exact ⟨_, _, rfl, ha, hb⟩
    obtain ⟨a2, b2, rfl, ha2, hb2⟩ := h4
    clear m4
    try simp only [EV, dC]
    refine gpick g4 (by omega) (by simp [itemsOf]) (by simp [itemsOf]) fun M5 t5 g5 f5 m5 => ?_
    have h5 : ∃ w : Str, t5 = .str w ∧ (w = "only" ∨ w = "first") := by
      simp only [itemsOf, List.mem_cons, List.not_mem_nil, or_false] at m5
      rcases m5 with rfl | rfl <;> exact ⟨_, rfl, by simp⟩
    obtain ⟨w5, rfl, hw5⟩ := h5
    try simp only [EV, dC]
    refine ⟨dk, c, wd, cd, S, kvs, _, _, 3, rfl, by decide, by decide, g5, by show _ + 16 < _; omega, by decide, rf.mono (by decide), fun M6 t6 g6 f6 h6 => ?_⟩
    have p8 : Part 8 (.tup [.str "plus", .tup [.str w5, .tup [.tup [.tup [.str z, .str nm]], t2], .tup [.str "column", .str a2, .str b2]], .int 3]) := (Part.plus (n := 4) (Or.inl rfl) (.only hw5 own2 h2 (.col ha2 hb2)) (.int (by decide))).mono (by decide)
    simp only [EV, c52, c25, c35]
    exact ⟨sz (by omega), q _ _ _ (g6.le (by show _ + 16 ≤ _; omega)) p8 (h6.mono (by decide))⟩

end
section
local macro_rules | `(tactic| simp only [EV, $ls,*]) => `(tactic| simp only [EV1, sSeq, sPar, sPut, sIf, sSet, sDrop, sRet, sRetN, sNext, dOp2, dOp1, dVar, dC, dB, dTup, dLst, dLstM, dNil, dCons, dSl, doNone, doSome, dCall, dLm, $ls,*])
local macro_rules | `(tactic| simp only [EV1, $ls,*]) => `(tactic| simp only [EV2, dLm0, dSm, dAnd, dOr, dNot, dAndV, dOrV, dIf, dChain, dFn, dFn0, dYes, dDisp, dDispM, dPairs, keysT, dNewD, dNewDM, oAdd, oSub, oMul, oFdiv, oMod, oPow, $ls,*])
local macro_rules | `(tactic| simp only [EV2, $ls,*]) => `(tactic| simp only [EV3, oInt2, oNeg, oIx, oSl, oRev, oRevM, oLt, oLe, oGt, oGe, oOrd, oIsN, L3.isNon, oNotB, oDGet, oDIn, oIn, oInS, mAppend, mPop, mJoin, isL, isS, fLen, $ls,*])
local macro_rules | `(tactic| simp only [EV3, $ls,*]) => `(tactic| simp only [EV4, fIsi, fAbs, fList, fListM, fTuple, fInt, fBls, seqOf, tyT, look, keyT, Pat.set, start3, pick, List.getElem?_cons_zero, List.getElem?_cons_succ, List.set_cons_zero, List.set_cons_succ, List.map_cons, List.map_nil, List.length_cons, List.length_nil, List.nil_append, List.cons_append, $ls,*])
local macro_rules | `(tactic| simp only [EV4, $ls,*]) => `(tactic| simp only [EV5, List.replicate_succ, List.replicate_zero, Nat.reduceSub, Nat.reduceAdd, flatOf, kit_NoneType_str, kit_bool_str, kit_int_str, kit_str_str, kit_tuple_str, kit_list_str, kit_dict_str, kit_NoneType_int, kit_bool_int, kit_int_int, kit_str_int, kit_tuple_int, kit_list_int, kit_dict_int, kit_NoneType_bool, kit_bool_bool, kit_int_bool, kit_str_bool, kit_tuple_bool, $ls,*])
local macro_rules | `(tactic| simp only [EV5, $ls,*]) => `(tactic| simp only [EV6, kit_list_bool, kit_dict_bool, kit_NoneType_tuple, kit_bool_tuple, kit_int_tuple, kit_str_tuple, kit_tuple_tuple, kit_list_tuple, kit_dict_tuple, kit_NoneType_list, kit_bool_list, kit_int_list, kit_str_list, kit_tuple_list, kit_list_list, kit_dict_list, kit_NoneType_dict, kit_bool_dict, kit_int_dict, kit_str_dict, kit_tuple_dict, kit_list_dict, kit_dict_dict, Bool.false_eq_true, $ls,*])
local macro_rules | `(tactic| simp only [EV6, $ls,*]) => `(tactic| simp only [EV7, if_false, if_true, reduceIte, true_and, sz_0, sz_1, sz_2, sz_3, sz_4, sz_5, sz_6, sz_7, sz_8, sz_9, sz_10, sz_11, sz_12, sz_13, sz_14, sz_15, sz_16, sz_17, sz_18, sz_19, $ls,*])
local macro_rules | `(tactic| simp only [EV7, $ls,*]) => `(tactic| simp only [EV8, sz_20, sz_21, sz_22, sz_23, sz_24, sz_25, sz_26, sz_27, sz_28, sz_29, sz_30, sz_31, sz_32, sz_33, sz_34, sz_35, sz_36, sz_37, sz_38, sz_39, sz_40, sz_41, sz_42, sz_43, $ls,*])
local macro_rules | `(tactic| simp only [EV8, $ls,*]) => `(tactic| simp only [EV9, sz_44, sz_45, sz_46, sz_47, atI_c0, atI_c1, atI_c2, atI_c3, atI_c4, List.append_nil, List.filterMap_cons, List.filterMap_nil, and_self, dStar, mSplit, fSortS, fSortT, L3.setAll, mExtend, dKGet, eqb_ss, eqb_ii, eqb_bb, eqb_nn, $ls,*])
local macro_rules | `(tactic| simp only [EV9, $ls,*]) => `(tactic| simp only [eqb_ni, eqb_in, eqb_ns, eqb_sn, eqb_is, eqb_si, Bool.not_true, Bool.not_false, flatT, List.all_cons, List.all_nil, Bool.and_self, $ls,*])
theorem ok_l_right (E : Fns K w mg) (hsy : SysAt base) (G_part_at : FnD P w K mg base 1 E.f_part_at E.fd_part_at ["question", "place"] spPart) (G_main_parts : FnD P w K mg base 4 E.f_main_parts E.fd_main_parts ["question"] spMain) (G_named : FnD P w K mg base 5 E.f_named E.fd_named ["question", "place"] spNamed) (G_l_every : FnD P w K mg base 12 E.f_l_every E.fd_l_every ["asked"] (spEveryP 8)) (G_l_leaves : FnD P w K mg base 9 E.f_l_leaves E.fd_l_leaves ["condition", "lead"] (spLvAt 9)) : FnD P w K mg base 13 E.f_l_right E.fd_l_right ["asked"] spRight := by
  have nd := sc_l_right.nd
  refine okD E.F_l_right sc_l_right ?len fun cdv A outer s H X hr hgd => ⟨_, (dss_cons (ds_par 1 2 rfl nd rfl rfl (by decide) rfl rfl (d_comp [("alias", 3), ("table", 4)] fin_L rfl nd (di_tup (d_ix (d_var 0) d_int (fun _ _ => rfl))) (by kernel_rfl)
  (fun _ _ _ _ _ => (dg_tp [3, 4] rfl (pgs_cons (pg_name (i := 3) nd rfl (by first | exact Or.inl rfl | exact Or.inr rfl)) (pgs_cons (pg_name (i := 4) nd rfl (by first | exact Or.inl rfl | exact Or.inr rfl)) pgs_nil)))) (fun _ _ _ _ _ => dts_nil) (fun _ _ _ _ _ => (d_var 3))) (d_fn G_l_every (hr.mono (by decide)) hgd (by rfl) E.g_l_every E.F_l_every.kp (kb_l_every_1 E) (da_cons (d_var 0) da_nil) dk_nil))
  (dss_cons (ds_set 5 nd rfl (by first | exact Or.inl rfl | exact Or.inr rfl) (d_ifExp (dt_isN (d_ix (d_var 0) d_int (fun _ _ => rfl))) (d_lst da_nil) (d_fn G_l_leaves (hr.mono (by decide)) hgd (by rfl) E.g_l_leaves E.F_l_leaves.kp (kb_l_leaves_2 E) (da_cons (d_ix (d_var 0) d_int (fun _ _ => rfl)) (da_cons (d_tup (da_cons d_int da_nil)) da_nil)) dk_nil)))
  (dss_cons (ds_set 6 nd rfl (by first | exact Or.inl rfl | exact Or.inr rfl) (d_tuple (by rfl) E.m_tuple (da_cons (d_add (d_var 5) (d_comp [("k", 7)] fin_L rfl nd (di_range1 (by rfl) E.m_range (d_len (by rfl) E.m_len (da_cons (d_ix (d_var 0) d_int (fun _ _ => rfl)) da_nil))) (by kernel_rfl)
  (fun _ _ _ _ _ => (dg_nm 7 nd rfl (by first | exact Or.inl rfl | exact Or.inr rfl))) (fun _ _ _ _ _ => dts_nil) (fun _ _ _ _ _ => (d_tup (da_cons d_int (da_cons (d_var 7) da_nil)))))) da_nil)))
  (dss_cons (ds_if (PW.pt (dw_or (dt_ne hr.units (d_repr hgd hr.units hsy (by rfl) E.m_repr (da_cons (d_fn G_main_parts (hr.mono (by decide)) hgd (by rfl) E.g_main_parts E.F_main_parts.kp (kb_main_parts_1 E) (da_cons (d_var 0) da_nil) dk_nil) da_nil)) (d_repr hgd hr.units hsy (by rfl) E.m_repr (da_cons (d_var 6) da_nil))) (dw_or1 (dt_ne hr.units (d_repr hgd hr.units hsy (by rfl) E.m_repr (da_cons (d_fnK G_main_parts (hr.mono (by decide)) hgd (by rfl) E.g_main_parts E.F_main_parts.kp (kb_main_parts_0_question E) (dk_cons (d_var 0) dk_nil)) da_nil)) (d_repr hgd hr.units hsy (by rfl) E.m_repr (da_cons (d_var 6) da_nil))))))
  (dss_one (ds_ret d_bl))
  dss_nil)
  (dss_cons (ds_if (dt_ne hr.units (d_repr hgd hr.units hsy (by rfl) E.m_repr (da_cons (d_fn G_part_at (hr.mono (by decide)) hgd (by rfl) E.g_part_at E.F_part_at.kp (kb_part_at_2 E) (da_cons (d_var 0) (da_cons (d_tup da_nil) da_nil)) dk_nil) da_nil)) (d_repr hgd hr.units hsy (by rfl) E.m_repr (da_cons (d_var 0) da_nil)))
  (dss_one (ds_ret d_bl))
  dss_nil)
  (dss_cons (ds_if (dt_ne hr.units (d_comp [("k", 7), ("column", 8)] fin_L rfl nd (di_enumT (by rfl) E.m_enumerate (da_cons (d_ix (d_var 0) d_int (fun _ _ => rfl)) da_nil)) (by kernel_rfl)
  (fun _ _ _ _ _ => (dg_tp [7, 8] rfl (pgs_cons (pg_name (i := 7) nd rfl (by first | exact Or.inl rfl | exact Or.inr rfl)) (pgs_cons (pg_name (i := 8) nd rfl (by first | exact Or.inl rfl | exact Or.inr rfl)) pgs_nil)))) (fun _ _ _ _ _ => (dts_one (dt_ne hr.units (d_repr hgd hr.units hsy (by rfl) E.m_repr (da_cons (d_fn G_part_at (hr.mono (by decide)) hgd (by rfl) E.g_part_at E.F_part_at.kp (kb_part_at_2 E) (da_cons (d_var 0) (da_cons (d_tup (da_cons d_int (da_cons (d_var 7) da_nil))) da_nil)) dk_nil) da_nil)) (d_repr hgd hr.units hsy (by rfl) E.m_repr (da_cons (d_var 8) da_nil))))) (fun _ _ _ _ _ => d_int)) (d_lst da_nil))
  (dss_one (ds_ret d_bl))
  dss_nil)
  (dss_cons (ds_for PassesOwn.never rfl (di_list (d_var 2)) (dg_tp [9, 10] rfl (pgs_cons (pg_name (i := 9) nd rfl (by first | exact Or.inl rfl | exact Or.inr rfl)) (pgs_cons (pg_name (i := 10) nd rfl (by first | exact Or.inl rfl | exact Or.inr rfl)) pgs_nil)))
  (dss_cons (ds_if (PW.pt (dw_or (dt_ne hr.units (d_repr hgd hr.units hsy (by rfl) E.m_repr (da_cons (d_fn G_part_at (hr.mono (by decide)) hgd (by rfl) E.g_part_at E.F_part_at.kp (kb_part_at_2 E) (da_cons (d_var 0) (da_cons (d_var 9) da_nil)) dk_nil) da_nil)) (d_repr hgd hr.units hsy (by rfl) E.m_repr (da_cons (d_var 10) da_nil))) (dw_or1 (dt_ne hr.units (d_repr hgd hr.units hsy (by rfl) E.m_repr (da_cons (d_fnK G_part_at (hr.mono (by decide)) hgd (by rfl) E.g_part_at E.F_part_at.kp (kb_part_at_0_place_question E) (dk_cons (d_var 9) (dk_cons (d_var 0) dk_nil))) da_nil)) (d_repr hgd hr.units hsy (by rfl) E.m_repr (da_cons (d_var 10) da_nil))))))
  (dss_one (ds_ret d_bl))
  dss_nil)
  (dss_one (ds_if (PW.pt (dw_and (dt_in (d_ix (d_var 10) d_int (fun _ _ => rfl)) (d_tup (da_cons d_str (da_cons d_str (da_cons d_str da_nil)))) (by rfl)) (dw_and1 (dt_ne hr.units (d_repr hgd hr.units hsy (by rfl) E.m_repr (da_cons (d_fn G_part_at (hr.mono (by decide)) hgd (by rfl) E.g_part_at E.F_part_at.kp (kb_part_at_2 E) (da_cons (d_var 0) (da_cons (d_add (d_var 9) (d_tup (da_cons d_int da_nil))) da_nil)) dk_nil) da_nil)) (d_repr hgd hr.units hsy (by rfl) E.m_repr (da_cons (d_ix (d_var 10) d_int (fun _ _ => rfl)) da_nil))))))
  (dss_one (ds_ret d_bl))
  dss_nil))))
  (dss_cons (ds_for PassesOwn.never rfl (di_tup (d_var 6)) (dg_nm 9 nd rfl (by first | exact Or.inl rfl | exact Or.inr rfl))
  (dss_cons (ds_set 11 nd rfl (by first | exact Or.inl rfl | exact Or.inr rfl) (d_comp [("spot", 12), ("part", 10)] fin_L rfl nd (di_list (d_var 2)) (by kernel_rfl)
  (fun _ _ _ _ _ => (dg_tp [12, 10] rfl (pgs_cons (pg_name (i := 12) nd rfl (by first | exact Or.inl rfl | exact Or.inr rfl)) (pgs_cons (pg_name (i := 10) nd rfl (by first | exact Or.inl rfl | exact Or.inr rfl)) pgs_nil)))) (fun _ _ _ _ _ => (dts_one (PW.pt (dw_and (dt_eq hr.units (d_slice (d_var 12) do_none (do_some (d_len (by rfl) E.m_len (da_cons (d_var 9) da_nil)))) (d_var 9)) (dw_and1 (dt_eq hr.units (d_ix (d_var 10) d_int (fun _ _ => rfl)) d_str)))))) (fun _ _ _ _ _ => (d_var 10))))
  (dss_cons (ds_set 13 nd rfl (by first | exact Or.inl rfl | exact Or.inr rfl) (d_tuple (by rfl) E.m_tuple (da_cons (d_comp [("one", 14)] fin_L rfl nd (di_list (d_sortedS (by rfl) E.m_sorted (da_cons (d_var 1) da_nil))) (by kernel_rfl)
  (fun _ _ _ _ _ => (dg_nm 14 nd rfl (by first | exact Or.inl rfl | exact Or.inr rfl))) (fun _ _ _ _ _ => (dts_one (dt_ne hr.units (d_comp [("part", 10)] fin_L rfl nd (di_list (d_var 11)) (by kernel_rfl)
  (fun _ _ _ _ _ => (dg_nm 10 nd rfl (by first | exact Or.inl rfl | exact Or.inr rfl))) (fun _ _ _ _ _ => (dts_one (dt_eq hr.units (d_ix (d_var 10) d_int (fun _ _ => rfl)) (d_var 14)))) (fun _ _ _ _ _ => d_int)) (d_lst da_nil)))) (fun _ _ _ _ _ => (d_var 14))) da_nil)))
  (dss_one (ds_if (PW.pt (dw_or (dt_ne hr.units (d_repr hgd hr.units hsy (by rfl) E.m_repr (da_cons (d_fn G_named (hr.mono (by decide)) hgd (by rfl) E.g_named E.F_named.kp (kb_named_2 E) (da_cons (d_var 0) (da_cons (d_var 9) da_nil)) dk_nil) da_nil)) (d_repr hgd hr.units hsy (by rfl) E.m_repr (da_cons (d_var 13) da_nil))) (dw_or1 (dt_ne hr.units (d_repr hgd hr.units hsy (by rfl) E.m_repr (da_cons (d_fnK G_named (hr.mono (by decide)) hgd (by rfl) E.g_named E.F_named.kp (kb_named_0_place_question E) (dk_cons (d_var 9) (dk_cons (d_var 0) dk_nil))) da_nil)) (d_repr hgd hr.units hsy (by rfl) E.m_repr (da_cons (d_var 13) da_nil))))))
  (dss_one (ds_ret d_bl))
  dss_nil)))))
  (dss_one (ds_ret d_bl)))))))))), ?_⟩
  case len =>
    rintro ts M Q ⟨rl, wh, hs, os, lim, rfl, _⟩
    rfl
  · rintro ts M Q ⟨rl, wh, hs, os, lim, rfl, hq, hnd, q⟩
    obtain ⟨refs', wh', hs', ord', lim', e, h1, h2, h3, h4, ⟨os', e5, h5, h6⟩, h7⟩ := hq.ex
    cases e
    cases e5
    have rl4 : rl.length ≤ 4 := by
      obtain ⟨rl', e1, r4, _⟩ := h1
      have := congrArg T.len e1
      simp only [T.len, List.length_map] at this
      omega
    have c8 : cntP 8 = 511 := rfl
    have m8 : (mainPl 8 wh hs.length).length ≤ 515 := by
      rw [mainPl, List.length_append, List.length_map, List.length_range]
      rcases h2 with rfl | h2
      · rw [if_pos (show isNo .non = true from rfl)]
        simp only [List.length_nil]
        omega
      · have := lvP_len h2 [1]
        split
        · simp only [List.length_nil]
          omega
        · rw [List.length_map]
          omega
    have f8 : ∀ l ∈ mainPl 8 wh hs.length, (∃ m p, partAt (.tup [.tup (rl.map prT), wh, .tup hs, .tup os, lim]) l = some p ∧ m ≤ 8 ∧ Part m p ∧ (∀ x, (x ∈ allQ 8 wh hs ∧ l <+: x.1) ↔ x ∈ allP m l p)) ∧ Fine (plc l) 1500 1 := by
      intro l hl
      rcases List.mem_append.mp hl with hl | hl
      · rcases h2 with rfl | h2
        · rw [if_pos (show isNo .non = true from rfl)] at hl
          cases hl
        · have no : isNo wh = false := by cases h2 <;> rfl
          rw [no, if_neg Bool.false_ne_true] at hl
          obtain ⟨y, hy, rfl⟩ := List.mem_map.mp hl
          obtain ⟨r, m, e1, r16, hm, hh, hx⟩ := lvP_all h2 hy
          refine ⟨⟨m, y.2, ?_, hm, hh.part, fun x => ?_⟩, ?_⟩
          · rw [e1, partAt_app (hq.hole1 h2).at_]
            exact hh.at_
          · rw [← hx, allQ, no, if_neg Bool.false_ne_true, List.mem_append]
            refine ⟨fun h => ⟨?_, h.2⟩, fun h => ⟨Or.inl h.1, h.2⟩⟩
            rcases h.1 with h' | h'
            · exact h'
            · obtain ⟨ls, h8, h9⟩ := List.mem_flatten.mp h'
              obtain ⟨i, hi, rfl⟩ := List.mem_mapIdx.mp h8
              obtain ⟨r', _, e4, _⟩ := allP_at (h4 _ (List.getElem_mem hi)) h9
              obtain ⟨s, e5⟩ := h.2
              rw [e1, e4] at e5
              cases e5
          · refine (plc_fine fun i hi => ?_).mono (by rw [e1, List.length_append]; simp only [List.length_cons, List.length_nil]; omega) (Nat.le_refl _)
            have := place_small (c := y.2) (by rw [e1, partAt_app (hq.hole1 h2).at_]; exact hh.at_) hq.small i hi
            exact Nat.lt_trans this (by decide)
      · obtain ⟨i, hi, rfl⟩ := List.mem_map.mp hl
        rw [List.mem_range] at hi
        have hp := h4 _ (List.getElem_mem hi)
        refine ⟨⟨8, hs[i], (hq.hole2 (List.getElem?_eq_getElem hi)).at_, Nat.le_refl _, hp, fun x => ?_⟩, ?_⟩
        · rw [allQ, List.mem_append]
          constructor
          · rintro ⟨h' | h', s, e5⟩
            · rcases h2 with rfl | h2
              · rw [if_pos (show isNo .non = true from rfl)] at h'
                cases h'
              · have no : isNo wh = false := by cases h2 <;> rfl
                rw [no, if_neg Bool.false_ne_true] at h'
                obtain ⟨r', _, e4, _⟩ := allP_at h2 h'
                rw [e4] at e5
                cases e5
            · obtain ⟨ls, h8, h9⟩ := List.mem_flatten.mp h'
              obtain ⟨j, hj, rfl⟩ := List.mem_mapIdx.mp h8
              obtain ⟨r', _, e4, _⟩ := allP_at (h4 _ (List.getElem_mem hj)) h9
              rw [e4] at e5
              cases e5
              exact h9
          · intro h9
            obtain ⟨r', _, e4, _⟩ := allP_at hp h9
            exact ⟨Or.inr (List.mem_flatten.mpr ⟨_, List.mem_mapIdx.mpr ⟨i, hi, rfl⟩, h9⟩), r', e4.symm⟩
        · refine (plc_fine fun j hj => ?_).mono (show 63 * 2 + 3 ≤ 1500 by decide) (Nat.le_refl _)
          exact Nat.lt_trans (place_small (hq.hole2 (List.getElem?_eq_getElem hi)).at_ hq.small j hj) (by decide)
    have f9 : ∀ x ∈ allQ 8 wh hs, partAt (.tup [.tup (rl.map prT), wh, .tup hs, .tup os, lim]) x.1 = some x.2 ∧ (∃ m, m ≤ 8 ∧ Part m x.2) ∧ x.1.length ≤ 18 := by
      intro x hx
      rcases List.mem_append.mp hx with h' | h'
      · rcases h2 with rfl | h2
        · rw [if_pos (show isNo .non = true from rfl)] at h'
          cases h'
        · have no : isNo wh = false := by cases h2 <;> rfl
          rw [no, if_neg Bool.false_ne_true] at h'
          obtain ⟨r, m, e4, r16, hh⟩ := allP_at h2 h'
          refine ⟨by rw [e4, partAt_app (hq.hole1 h2).at_]; exact hh.at_, allP_part h2 h', by rw [e4, List.length_append]; simp only [List.length_cons, List.length_nil]; omega⟩
      · obtain ⟨ls, h8, h9⟩ := List.mem_flatten.mp h'
        obtain ⟨j, hj, rfl⟩ := List.mem_mapIdx.mp h8
        have hp := h4 _ (List.getElem_mem hj)
        obtain ⟨r, m, e4, r16, hh⟩ := allP_at hp h9
        refine ⟨by rw [e4, partAt_app (hq.hole2 (List.getElem?_eq_getElem hj)).at_]; exact hh.at_, allP_part hp h9, by rw [e4, List.length_append]; simp only [List.length_cons, List.length_nil]; omega⟩
    have fq : ∀ {Q : QE} {M : Mp}, Q (.str (shT (.tup [.tup (rl.map prT), wh, .tup hs, .tup os, lim]))) M → fRepr [.tup [.tup (rl.map prT), wh, .tup hs, .tup os, lim]] Q M := fun q => rep_of hq.fine (by decide) (by decide) rfl q
    have fm : ∀ {Q : QE} {M : Mp}, Q (.str (shT (.tup ((mainPl 8 wh hs.length).map plc)))) M → fRepr [.tup ((mainPl 8 wh hs.length).map plc)] Q M := fun q =>
      rep_of (fine_tup (n := 1500) (k := 1) fun x hx => by
        obtain ⟨l, hl, rfl⟩ := List.mem_map.mp hx
        exact (f8 l hl).2) (by rw [List.length_map]; omega) (by decide) rfl q
    simp only [sFor, sSeq, sPar, sPut, sIf, sSet, sDrop, sRet, sRetN, sNext, dOp2, dOp1, dVar, dC, dB, dTup, dLst, dLstM, dNil, dCons, dSl, doNone, doSome, dCall, dLm, dLm0, dSm, dAnd, dOr, dNot, dAndV, dOrV, dChain, dFn, dFn0, dYes, dDisp, dDispM, dPairs, keysT, dNewD, dNewDM,
 oAdd, oSub, oMul, oFdiv, oMod, oPow, oInt2, oNeg, oIx, oSl, oRev, oRevM, oLt, oLe, oGt, oGe, oOrd, oIsN, L3.isNon, oNotB, oDGet, oDIn, oIn, oInS, mAppend, mPop, mJoin, isL, isS, fLen, fIsi, fAbs, fList, fListM, fTuple, fInt, fBls, seqOf, tyT,
 look, keyT, Pat.set, start3, pick, List.getElem?_cons_zero, List.getElem?_cons_succ, List.set_cons_zero, List.set_cons_succ, List.map_cons, List.map_nil, List.length_cons, List.length_nil, List.nil_append, List.cons_append, List.replicate_succ, List.replicate_zero, Nat.reduceSub, Nat.reduceAdd, flatOf, kit_NoneType_str, kit_bool_str, kit_int_str, kit_str_str, kit_tuple_str, kit_list_str, kit_dict_str, kit_NoneType_int, kit_bool_int, kit_int_int, kit_str_int, kit_tuple_int, kit_list_int, kit_dict_int, kit_NoneType_bool, kit_bool_bool, kit_int_bool, kit_str_bool, kit_tuple_bool, kit_list_bool, kit_dict_bool, kit_NoneType_tuple, kit_bool_tuple, kit_int_tuple, kit_str_tuple, kit_tuple_tuple, kit_list_tuple, kit_dict_tuple, kit_NoneType_list, kit_bool_list, kit_int_list, kit_str_list, kit_tuple_list, kit_list_list, kit_dict_list, kit_NoneType_dict, kit_bool_dict, kit_int_dict, kit_str_dict, kit_tuple_dict, kit_list_dict, kit_dict_dict, Bool.false_eq_true, if_false, if_true, reduceIte, true_and, sz_0, sz_1, sz_2, sz_3, sz_4, sz_5, sz_6, sz_7, sz_8, sz_9, sz_10, sz_11, sz_12, sz_13, sz_14, sz_15, sz_16, sz_17, sz_18, sz_19, sz_20, sz_21, sz_22, sz_23, sz_24, sz_25, sz_26, sz_27, sz_28, sz_29, sz_30, sz_31, sz_32, sz_33, sz_34, sz_35, sz_36, sz_37, sz_38, sz_39, sz_40, sz_41, sz_42, sz_43, sz_44, sz_45, sz_46, sz_47, atI_c0, atI_c1, atI_c2, atI_c3, atI_c4, List.append_nil, List.filterMap_cons, List.filterMap_nil, and_self, dStar, mSplit, fSortS, fSortT, L3.setAll, mExtend, dKGet, dB, oIn, seqOf, eqb_ss, eqb_ii, eqb_bb, eqb_nn, eqb_ni, eqb_in, eqb_ns, eqb_sn, eqb_is, eqb_si, Bool.not_true, Bool.not_false, flatT, List.all_cons, List.all_nil, Bool.and_self]
    refine cut_k (.lst ((rl.map (·.1)).map T.str)) M (fun K k => ?_) ?_
    · simp only [EV, dComp, iT]
      refine compL_allA (xs := rl) (g := prT) (f := fun a => T.str a.1) trivial (fun a ha => ⟨_, rfl, fun R kk => ?_⟩) (sz (by omega)) (by rw [List.map_map] at k; exact k)
      simp only [EV, wipe3]
      exact kk
    refine ⟨_, _, _, _, _, rfl, hq, ?_⟩
    refine cut_k (.lst ((if isNo wh then [] else (lvP 8 [1] wh).map (·.1)).map plc)) M (fun K k => ?_) ?_
    · rcases h2 with rfl | h2
      · simp only [EV, dC]
        exact k
      · have nn : L3.isNon wh = some false := by cases h2 <;> rfl
        have no : isNo wh = false := by cases h2 <;> rfl
        simp only [nn, sSeq, sPar, sPut, sIf, sSet, sDrop, sRet, sRetN, sNext, dOp2, dOp1, dVar, dC, dB, dTup, dLst, dLstM, dNil, dCons, dSl, doNone, doSome, dCall, dLm, dLm0, dSm, dAnd, dOr, dNot, dAndV, dOrV, dIf, dChain, dFn, dFn0, dYes, dDisp, dDispM, dPairs, keysT, dNewD, dNewDM,
 oAdd, oSub, oMul, oFdiv, oMod, oPow, oInt2, oNeg, oIx, oSl, oRev, oRevM, oLt, oLe, oGt, oGe, oOrd, oIsN, oNotB, oDGet, oDIn, oIn, oInS, mAppend, mPop, mJoin, isL, isS, fLen, fIsi, fAbs, fList, fListM, fTuple, fInt, fBls, seqOf, tyT,
 look, keyT, Pat.set, start3, pick, List.getElem?_cons_zero, List.getElem?_cons_succ, List.set_cons_zero, List.set_cons_succ, List.map_cons, List.map_nil, List.length_cons, List.length_nil, List.nil_append, List.cons_append, List.replicate_succ, List.replicate_zero, Nat.reduceSub, Nat.reduceAdd, flatOf, kit_NoneType_str, kit_bool_str, kit_int_str, kit_str_str, kit_tuple_str, kit_list_str, kit_dict_str, kit_NoneType_int, kit_bool_int, kit_int_int, kit_str_int, kit_tuple_int, kit_list_int, kit_dict_int, kit_NoneType_bool, kit_bool_bool, kit_int_bool, kit_str_bool, kit_tuple_bool, kit_list_bool, kit_dict_bool, kit_NoneType_tuple, kit_bool_tuple, kit_int_tuple, kit_str_tuple, kit_tuple_tuple, kit_list_tuple, kit_dict_tuple, kit_NoneType_list, kit_bool_list, kit_int_list, kit_str_list, kit_tuple_list, kit_list_list, kit_dict_list, kit_NoneType_dict, kit_bool_dict, kit_int_dict, kit_str_dict, kit_tuple_dict, kit_list_dict, kit_dict_dict, Bool.false_eq_true, if_false, if_true, reduceIte, true_and, sz_0, sz_1, sz_2, sz_3, sz_4, sz_5, sz_6, sz_7, sz_8, sz_9, sz_10, sz_11, sz_12, sz_13, sz_14, sz_15, sz_16, sz_17, sz_18, sz_19, sz_20, sz_21, sz_22, sz_23, sz_24, sz_25, sz_26, sz_27, sz_28, sz_29, sz_30, sz_31, sz_32, sz_33, sz_34, sz_35, sz_36, sz_37, sz_38, sz_39, sz_40, sz_41, sz_42, sz_43, sz_44, sz_45, sz_46, sz_47, atI_c0, atI_c1, atI_c2, atI_c3, atI_c4, List.append_nil, List.filterMap_cons, List.filterMap_nil, and_self, dStar, mSplit, fSortS, fSortT, L3.setAll, mExtend, dKGet, dB, oIn, seqOf, eqb_ss, eqb_ii, eqb_bb, eqb_nn, eqb_ni, eqb_in, eqb_ns, eqb_sn, eqb_is, eqb_si, Bool.not_true, Bool.not_false, flatT, List.all_cons, List.all_nil, Bool.and_self]
        refine ⟨wh, [1], rfl, h2, by decide, by decide, ?_⟩
        rw [no, if_neg Bool.false_ne_true, List.map_map] at k
        exact k
    refine cut_k (.lst (((List.range hs.length).map fun i => [2, i]).map plc)) M (fun K k => ?_) ?_
    · simp only [EV, dComp, iR1]
      refine ⟨⟨by omega, by omega⟩, ?_⟩
      rw [ups0]
      refine compL_allA (f := fun i : Nat => plc [2, i]) trivial (fun i hi => ⟨_, rfl, fun R kk => ?_⟩) (sz (by rw [List.length_range]; omega)) ?_
      · simp only [plc, List.map_cons, List.map_nil] at kk
        simp only [EV, wipe3]
        exact kk
      · rw [List.map_map] at k
        exact k
    have mp : List.map plc (if isNo wh then [] else (lvP 8 [1] wh).map (·.1)) ++ List.map plc ((List.range hs.length).map fun i => [2, i]) = (mainPl 8 wh hs.length).map plc := by
      rw [← List.map_append]
      rfl
    simp only [EV, mp]
    refine ⟨sz (by rw [List.length_map, List.length_map, ← List.length_append]; exact Nat.le_trans m8 (by decide)), 8, _, _, _, _, _, rfl, hq, by decide, ?_⟩
    refine fm (fm ?_)
    simp only [EV, decide_true, Bool.not_true]
    refine ⟨8, _, _, _, _, _, rfl, hq, by decide, ?_⟩
    refine fm (fm ?_)
    simp only [EV, decide_true, Bool.not_true]
    refine ⟨_, [], _, rfl, partAt_nil _, ?_⟩
    refine fq (fq ?_)
    simp only [EV, decide_true, Bool.not_true]
    refine cut_k (.lst []) M (fun K k => ?_) ?_
    · simp only [EV, dComp, iEnT, enumT]
      refine compL_none trivial (fun j t hj => ?_) k
      rw [List.getElem?_mapIdx] at hj
      obtain ⟨x, hx, rfl⟩ := Option.map_eq_some_iff.mp hj
      refine ⟨_, rfl, fun R r => ?_⟩
      simp only [EV, wipe3]
      refine ⟨_, [3, j], x, rfl, ?_, ?_⟩
      · rw [partAt_tup (x := .tup os) rfl, partAt_tup hx, partAt_nil]
      · have fx := (h6 x (List.mem_of_getElem? hx)).fine
        refine rep_of fx (by decide) (by decide) (by cases h6 x (List.mem_of_getElem? hx) <;> rfl) ?_
        refine rep_of fx (by decide) (by decide) (by cases h6 x (List.mem_of_getElem? hx) <;> rfl) ?_
        simp only [EV, decide_true, Bool.not_true]
        exact r
    refine eq_nil rfl (fun _ h => nomatch h) ?_
    simp only [EV, decide_true, Bool.not_true, iL]
    refine forL_inv (fun j ss M' => M' = M ∧ ∃ a b, ss = [some (.tup [.tup (rl.map prT), wh, .tup hs, .tup os, lim]), some (.lst ((rl.map (·.1)).map T.str)), some (.lst ((allQ 8 wh hs).map enc)), none, none, some (.lst ((if isNo wh then [] else (lvP 8 [1] wh).map (·.1)).map plc)), some (.tup ((mainPl 8 wh hs.length).map plc)), none, none, a, b, none, none, none, none]) (fun _ _ _ _ => by trivial) 0 ⟨rfl, none, none, rfl⟩ ?_ ?_
    · rintro j t ss M2 hj ⟨rfl, a, b, rfl⟩
      rw [List.getElem?_map] at hj
      obtain ⟨x, hxj, rfl⟩ := Option.map_eq_some_iff.mp hj
      obtain ⟨pa, ⟨m, hm, hp⟩, xl⟩ := f9 x (List.mem_of_getElem? hxj)
      obtain ⟨lead, part⟩ := x
      replace pa : partAt (.tup [.tup (rl.map prT), wh, .tup hs, .tup os, lim]) lead = some part := pa
      replace hp : Part m part := hp
      replace xl : lead.length ≤ 18 := xl
      have fp : ∀ {Q : QE} {M : Mp}, Q (.str (shT part)) M → fRepr [part] Q M := fun q => rep_of (hp.mono hm).fine (by decide) (by decide) (by cases hp <;> rfl) q
      refine ⟨_, rfl, fun N kk => ?_⟩
      simp only [EV, dC]
      refine ⟨_, lead, part, rfl, pa, ?_⟩
      refine fp (fp ?_)
      simp only [EV, decide_true, Bool.not_true]
      refine ⟨_, lead, part, rfl, pa, ?_⟩
      refine fp (fp ?_)
      have pb : ∀ {i c : T} {r : List T}, part = .tup (i :: c :: r) → partAt (.tup [.tup (rl.map prT), wh, .tup hs, .tup os, lim]) (lead ++ [1]) = some c := fun {i c r} e => by
        rw [partAt_app pa, e, partAt_tup (x := c) rfl, partAt_nil]
      cases hp with
      | col ha hb =>
        simp only [EV, decide_true, Bool.not_true, wi_column_0, wi_column_1, wi_column_2, wi_column_3, wi_column_4, wi_column_5, wi_column_6, wi_column_7, we_column_exists, we_column_not, we_column_and, we_column_or, wi_value_0, wi_value_1, wi_value_2, wi_value_3, wi_value_4, wi_value_5, wi_value_6, wi_value_7, we_value_exists, we_value_not, we_value_and, we_value_or, wi_plus_0, wi_plus_1, wi_plus_2, wi_plus_3, wi_plus_4, wi_plus_5, wi_plus_6, wi_plus_7, we_plus_exists, we_plus_not, we_plus_and, we_plus_or, wi_is_0, wi_is_1, wi_is_2, wi_is_3, wi_is_4, wi_is_5, wi_is_6, wi_is_7, we_is_exists, we_is_not, we_is_and, we_is_or, wi_not_0, wi_not_1, wi_not_2, wi_not_3, wi_not_4, wi_not_5, wi_not_6, wi_not_7, we_not_exists, we_not_not, we_not_and, we_not_or, wi_less_0, wi_less_1, wi_less_2, wi_less_3, wi_less_4, wi_less_5, wi_less_6, wi_less_7, we_less_exists, we_less_not, we_less_and, we_less_or, wi_most_0, wi_most_1, wi_most_2, wi_most_3, wi_most_4, wi_most_5, wi_most_6, wi_most_7, we_most_exists, we_most_not, we_most_and, we_most_or, wi_same_0, wi_same_1, wi_same_2, wi_same_3, wi_same_4, wi_same_5, wi_same_6, wi_same_7, we_same_exists, we_same_not, we_same_and, we_same_or, wi_and_0, wi_and_1, wi_and_2, wi_and_3, wi_and_4, wi_and_5, wi_and_6, wi_and_7, we_and_exists, we_and_not, we_and_and, we_and_or, wi_or_0, wi_or_1, wi_or_2, wi_or_3, wi_or_4, wi_or_5, wi_or_6, wi_or_7, we_or_exists, we_or_not, we_or_and, we_or_or, wi_exists_0, wi_exists_1, wi_exists_2, wi_exists_3, wi_exists_4, wi_exists_5, wi_exists_6, wi_exists_7, we_exists_exists, we_exists_not, we_exists_and, we_exists_or, wi_only_0, wi_only_1, wi_only_2, wi_only_3, wi_only_4, wi_only_5, wi_only_6, wi_only_7, we_only_exists, we_only_not, we_only_and, we_only_or, wi_first_0, wi_first_1, wi_first_2, wi_first_3, wi_first_4, wi_first_5, wi_first_6, wi_first_7, we_first_exists, we_first_not, we_first_and, we_first_or, flatT, List.all_cons, List.all_nil, Bool.and_self]
        exact kk _ _ ⟨rfl, _, _, rfl⟩
      | val hv =>
        simp only [EV, decide_true, Bool.not_true, wi_column_0, wi_column_1, wi_column_2, wi_column_3, wi_column_4, wi_column_5, wi_column_6, wi_column_7, we_column_exists, we_column_not, we_column_and, we_column_or, wi_value_0, wi_value_1, wi_value_2, wi_value_3, wi_value_4, wi_value_5, wi_value_6, wi_value_7, we_value_exists, we_value_not, we_value_and, we_value_or, wi_plus_0, wi_plus_1, wi_plus_2, wi_plus_3, wi_plus_4, wi_plus_5, wi_plus_6, wi_plus_7, we_plus_exists, we_plus_not, we_plus_and, we_plus_or, wi_is_0, wi_is_1, wi_is_2, wi_is_3, wi_is_4, wi_is_5, wi_is_6, wi_is_7, we_is_exists, we_is_not, we_is_and, we_is_or, wi_not_0, wi_not_1, wi_not_2, wi_not_3, wi_not_4, wi_not_5, wi_not_6, wi_not_7, we_not_exists, we_not_not, we_not_and, we_not_or, wi_less_0, wi_less_1, wi_less_2, wi_less_3, wi_less_4, wi_less_5, wi_less_6, wi_less_7, we_less_exists, we_less_not, we_less_and, we_less_or, wi_most_0, wi_most_1, wi_most_2, wi_most_3, wi_most_4, wi_most_5, wi_most_6, wi_most_7, we_most_exists, we_most_not, we_most_and, we_most_or, wi_same_0, wi_same_1, wi_same_2, wi_same_3, wi_same_4, wi_same_5, wi_same_6, wi_same_7, we_same_exists, we_same_not, we_same_and, we_same_or, wi_and_0, wi_and_1, wi_and_2, wi_and_3, wi_and_4, wi_and_5, wi_and_6, wi_and_7, we_and_exists, we_and_not, we_and_and, we_and_or, wi_or_0, wi_or_1, wi_or_2, wi_or_3, wi_or_4, wi_or_5, wi_or_6, wi_or_7, we_or_exists, we_or_not, we_or_and, we_or_or, wi_exists_0, wi_exists_1, wi_exists_2, wi_exists_3, wi_exists_4, wi_exists_5, wi_exists_6, wi_exists_7, we_exists_exists, we_exists_not, we_exists_and, we_exists_or, wi_only_0, wi_only_1, wi_only_2, wi_only_3, wi_only_4, wi_only_5, wi_only_6, wi_only_7, we_only_exists, we_only_not, we_only_and, we_only_or, wi_first_0, wi_first_1, wi_first_2, wi_first_3, wi_first_4, wi_first_5, wi_first_6, wi_first_7, we_first_exists, we_first_not, we_first_and, we_first_or, flatT, List.all_cons, List.all_nil, Bool.and_self]
        exact kk _ _ ⟨rfl, _, _, rfl⟩
      | @plus n w x v hw hx hv => rcases hw with rfl | rfl <;> simp only [EV, decide_true, Bool.not_true, wi_column_0, wi_column_1, wi_column_2, wi_column_3, wi_column_4, wi_column_5, wi_column_6, wi_column_7, we_column_exists, we_column_not, we_column_and, we_column_or, wi_value_0, wi_value_1, wi_value_2, wi_value_3, wi_value_4, wi_value_5, wi_value_6, wi_value_7, we_value_exists, we_value_not, we_value_and, we_value_or, wi_plus_0, wi_plus_1, wi_plus_2, wi_plus_3, wi_plus_4, wi_plus_5, wi_plus_6, wi_plus_7, we_plus_exists, we_plus_not, we_plus_and, we_plus_or, wi_is_0, wi_is_1, wi_is_2, wi_is_3, wi_is_4, wi_is_5, wi_is_6, wi_is_7, we_is_exists, we_is_not, we_is_and, we_is_or, wi_not_0, wi_not_1, wi_not_2, wi_not_3, wi_not_4, wi_not_5, wi_not_6, wi_not_7, we_not_exists, we_not_not, we_not_and, we_not_or, wi_less_0, wi_less_1, wi_less_2, wi_less_3, wi_less_4, wi_less_5, wi_less_6, wi_less_7, we_less_exists, we_less_not, we_less_and, we_less_or, wi_most_0, wi_most_1, wi_most_2, wi_most_3, wi_most_4, wi_most_5, wi_most_6, wi_most_7, we_most_exists, we_most_not, we_most_and, we_most_or, wi_same_0, wi_same_1, wi_same_2, wi_same_3, wi_same_4, wi_same_5, wi_same_6, wi_same_7, we_same_exists, we_same_not, we_same_and, we_same_or, wi_and_0, wi_and_1, wi_and_2, wi_and_3, wi_and_4, wi_and_5, wi_and_6, wi_and_7, we_and_exists, we_and_not, we_and_and, we_and_or, wi_or_0, wi_or_1, wi_or_2, wi_or_3, wi_or_4, wi_or_5, wi_or_6, wi_or_7, we_or_exists, we_or_not, we_or_and, we_or_or, wi_exists_0, wi_exists_1, wi_exists_2, wi_exists_3, wi_exists_4, wi_exists_5, wi_exists_6, wi_exists_7, we_exists_exists, we_exists_not, we_exists_and, we_exists_or, wi_only_0, wi_only_1, wi_only_2, wi_only_3, wi_only_4, wi_only_5, wi_only_6, wi_only_7, we_only_exists, we_only_not, we_only_and, we_only_or, wi_first_0, wi_first_1, wi_first_2, wi_first_3, wi_first_4, wi_first_5, wi_first_6, wi_first_7, we_first_exists, we_first_not, we_first_and, we_first_or, flatT, List.all_cons, List.all_nil, Bool.and_self] <;> exact kk _ _ ⟨rfl, _, _, rfl⟩
      | @not n x hx =>
        simp only [EV, decide_true, Bool.not_true, wi_column_0, wi_column_1, wi_column_2, wi_column_3, wi_column_4, wi_column_5, wi_column_6, wi_column_7, we_column_exists, we_column_not, we_column_and, we_column_or, wi_value_0, wi_value_1, wi_value_2, wi_value_3, wi_value_4, wi_value_5, wi_value_6, wi_value_7, we_value_exists, we_value_not, we_value_and, we_value_or, wi_plus_0, wi_plus_1, wi_plus_2, wi_plus_3, wi_plus_4, wi_plus_5, wi_plus_6, wi_plus_7, we_plus_exists, we_plus_not, we_plus_and, we_plus_or, wi_is_0, wi_is_1, wi_is_2, wi_is_3, wi_is_4, wi_is_5, wi_is_6, wi_is_7, we_is_exists, we_is_not, we_is_and, we_is_or, wi_not_0, wi_not_1, wi_not_2, wi_not_3, wi_not_4, wi_not_5, wi_not_6, wi_not_7, we_not_exists, we_not_not, we_not_and, we_not_or, wi_less_0, wi_less_1, wi_less_2, wi_less_3, wi_less_4, wi_less_5, wi_less_6, wi_less_7, we_less_exists, we_less_not, we_less_and, we_less_or, wi_most_0, wi_most_1, wi_most_2, wi_most_3, wi_most_4, wi_most_5, wi_most_6, wi_most_7, we_most_exists, we_most_not, we_most_and, we_most_or, wi_same_0, wi_same_1, wi_same_2, wi_same_3, wi_same_4, wi_same_5, wi_same_6, wi_same_7, we_same_exists, we_same_not, we_same_and, we_same_or, wi_and_0, wi_and_1, wi_and_2, wi_and_3, wi_and_4, wi_and_5, wi_and_6, wi_and_7, we_and_exists, we_and_not, we_and_and, we_and_or, wi_or_0, wi_or_1, wi_or_2, wi_or_3, wi_or_4, wi_or_5, wi_or_6, wi_or_7, we_or_exists, we_or_not, we_or_and, we_or_or, wi_exists_0, wi_exists_1, wi_exists_2, wi_exists_3, wi_exists_4, wi_exists_5, wi_exists_6, wi_exists_7, we_exists_exists, we_exists_not, we_exists_and, we_exists_or, wi_only_0, wi_only_1, wi_only_2, wi_only_3, wi_only_4, wi_only_5, wi_only_6, wi_only_7, we_only_exists, we_only_not, we_only_and, we_only_or, wi_first_0, wi_first_1, wi_first_2, wi_first_3, wi_first_4, wi_first_5, wi_first_6, wi_first_7, we_first_exists, we_first_not, we_first_and, we_first_or, flatT, List.all_cons, List.all_nil, Bool.and_self]
        exact kk _ _ ⟨rfl, _, _, rfl⟩
      | @two n w x y hw hx hy => rcases hw with rfl | rfl | rfl | rfl | rfl <;> simp only [EV, decide_true, Bool.not_true, wi_column_0, wi_column_1, wi_column_2, wi_column_3, wi_column_4, wi_column_5, wi_column_6, wi_column_7, we_column_exists, we_column_not, we_column_and, we_column_or, wi_value_0, wi_value_1, wi_value_2, wi_value_3, wi_value_4, wi_value_5, wi_value_6, wi_value_7, we_value_exists, we_value_not, we_value_and, we_value_or, wi_plus_0, wi_plus_1, wi_plus_2, wi_plus_3, wi_plus_4, wi_plus_5, wi_plus_6, wi_plus_7, we_plus_exists, we_plus_not, we_plus_and, we_plus_or, wi_is_0, wi_is_1, wi_is_2, wi_is_3, wi_is_4, wi_is_5, wi_is_6, wi_is_7, we_is_exists, we_is_not, we_is_and, we_is_or, wi_not_0, wi_not_1, wi_not_2, wi_not_3, wi_not_4, wi_not_5, wi_not_6, wi_not_7, we_not_exists, we_not_not, we_not_and, we_not_or, wi_less_0, wi_less_1, wi_less_2, wi_less_3, wi_less_4, wi_less_5, wi_less_6, wi_less_7, we_less_exists, we_less_not, we_less_and, we_less_or, wi_most_0, wi_most_1, wi_most_2, wi_most_3, wi_most_4, wi_most_5, wi_most_6, wi_most_7, we_most_exists, we_most_not, we_most_and, we_most_or, wi_same_0, wi_same_1, wi_same_2, wi_same_3, wi_same_4, wi_same_5, wi_same_6, wi_same_7, we_same_exists, we_same_not, we_same_and, we_same_or, wi_and_0, wi_and_1, wi_and_2, wi_and_3, wi_and_4, wi_and_5, wi_and_6, wi_and_7, we_and_exists, we_and_not, we_and_and, we_and_or, wi_or_0, wi_or_1, wi_or_2, wi_or_3, wi_or_4, wi_or_5, wi_or_6, wi_or_7, we_or_exists, we_or_not, we_or_and, we_or_or, wi_exists_0, wi_exists_1, wi_exists_2, wi_exists_3, wi_exists_4, wi_exists_5, wi_exists_6, wi_exists_7, we_exists_exists, we_exists_not, we_exists_and, we_exists_or, wi_only_0, wi_only_1, wi_only_2, wi_only_3, wi_only_4, wi_only_5, wi_only_6, wi_only_7, we_only_exists, we_only_not, we_only_and, we_only_or, wi_first_0, wi_first_1, wi_first_2, wi_first_3, wi_first_4, wi_first_5, wi_first_6, wi_first_7, we_first_exists, we_first_not, we_first_and, we_first_or, flatT, List.all_cons, List.all_nil, Bool.and_self] <;> exact kk _ _ ⟨rfl, _, _, rfl⟩
      | @«exists» n o x ho hx =>
        have pc := pb rfl
        have fi := (inner_fine ho hx).mono (show 370 + fz n ≤ 16000000 from by have := fz_le (show n ≤ 8 by omega); have e : fz 8 = 357400 := rfl; omega) (show 2 * n + 4 ≤ 60 by omega)
        simp only [EV, decide_true, Bool.not_true, plc, wi_column_0, wi_column_1, wi_column_2, wi_column_3, wi_column_4, wi_column_5, wi_column_6, wi_column_7, we_column_exists, we_column_not, we_column_and, we_column_or, wi_value_0, wi_value_1, wi_value_2, wi_value_3, wi_value_4, wi_value_5, wi_value_6, wi_value_7, we_value_exists, we_value_not, we_value_and, we_value_or, wi_plus_0, wi_plus_1, wi_plus_2, wi_plus_3, wi_plus_4, wi_plus_5, wi_plus_6, wi_plus_7, we_plus_exists, we_plus_not, we_plus_and, we_plus_or, wi_is_0, wi_is_1, wi_is_2, wi_is_3, wi_is_4, wi_is_5, wi_is_6, wi_is_7, we_is_exists, we_is_not, we_is_and, we_is_or, wi_not_0, wi_not_1, wi_not_2, wi_not_3, wi_not_4, wi_not_5, wi_not_6, wi_not_7, we_not_exists, we_not_not, we_not_and, we_not_or, wi_less_0, wi_less_1, wi_less_2, wi_less_3, wi_less_4, wi_less_5, wi_less_6, wi_less_7, we_less_exists, we_less_not, we_less_and, we_less_or, wi_most_0, wi_most_1, wi_most_2, wi_most_3, wi_most_4, wi_most_5, wi_most_6, wi_most_7, we_most_exists, we_most_not, we_most_and, we_most_or, wi_same_0, wi_same_1, wi_same_2, wi_same_3, wi_same_4, wi_same_5, wi_same_6, wi_same_7, we_same_exists, we_same_not, we_same_and, we_same_or, wi_and_0, wi_and_1, wi_and_2, wi_and_3, wi_and_4, wi_and_5, wi_and_6, wi_and_7, we_and_exists, we_and_not, we_and_and, we_and_or, wi_or_0, wi_or_1, wi_or_2, wi_or_3, wi_or_4, wi_or_5, wi_or_6, wi_or_7, we_or_exists, we_or_not, we_or_and, we_or_or, wi_exists_0, wi_exists_1, wi_exists_2, wi_exists_3, wi_exists_4, wi_exists_5, wi_exists_6, wi_exists_7, we_exists_exists, we_exists_not, we_exists_and, we_exists_or, wi_only_0, wi_only_1, wi_only_2, wi_only_3, wi_only_4, wi_only_5, wi_only_6, wi_only_7, we_only_exists, we_only_not, we_only_and, we_only_or, wi_first_0, wi_first_1, wi_first_2, wi_first_3, wi_first_4, wi_first_5, wi_first_6, wi_first_7, we_first_exists, we_first_not, we_first_and, we_first_or, flatT, List.all_cons, List.all_nil, Bool.and_self]
        refine ⟨sz (by rw [List.length_map]; omega), _, lead ++ [1], _, by rw [plc, List.map_append]; rfl, pc, ?_⟩
        refine rep_of fi (Nat.le_refl _) (Nat.le_refl _) rfl (rep_of fi (Nat.le_refl _) (Nat.le_refl _) rfl ?_)
        simp only [EV, decide_true, Bool.not_true]
        exact kk _ _ ⟨rfl, _, _, rfl⟩
      | @only n w o x y hw ho hx hy =>
        have pc := pb rfl
        have fi := (inner_fine ho hx).mono (show 370 + fz n ≤ 16000000 from by have := fz_le (show n ≤ 8 by omega); have e : fz 8 = 357400 := rfl; omega) (show 2 * n + 4 ≤ 60 by omega)
        rcases hw with rfl | rfl
        all_goals
          simp only [EV, decide_true, Bool.not_true, plc, wi_column_0, wi_column_1, wi_column_2, wi_column_3, wi_column_4, wi_column_5, wi_column_6, wi_column_7, we_column_exists, we_column_not, we_column_and, we_column_or, wi_value_0, wi_value_1, wi_value_2, wi_value_3, wi_value_4, wi_value_5, wi_value_6, wi_value_7, we_value_exists, we_value_not, we_value_and, we_value_or, wi_plus_0, wi_plus_1, wi_plus_2, wi_plus_3, wi_plus_4, wi_plus_5, wi_plus_6, wi_plus_7, we_plus_exists, we_plus_not, we_plus_and, we_plus_or, wi_is_0, wi_is_1, wi_is_2, wi_is_3, wi_is_4, wi_is_5, wi_is_6, wi_is_7, we_is_exists, we_is_not, we_is_and, we_is_or, wi_not_0, wi_not_1, wi_not_2, wi_not_3, wi_not_4, wi_not_5, wi_not_6, wi_not_7, we_not_exists, we_not_not, we_not_and, we_not_or, wi_less_0, wi_less_1, wi_less_2, wi_less_3, wi_less_4, wi_less_5, wi_less_6, wi_less_7, we_less_exists, we_less_not, we_less_and, we_less_or, wi_most_0, wi_most_1, wi_most_2, wi_most_3, wi_most_4, wi_most_5, wi_most_6, wi_most_7, we_most_exists, we_most_not, we_most_and, we_most_or, wi_same_0, wi_same_1, wi_same_2, wi_same_3, wi_same_4, wi_same_5, wi_same_6, wi_same_7, we_same_exists, we_same_not, we_same_and, we_same_or, wi_and_0, wi_and_1, wi_and_2, wi_and_3, wi_and_4, wi_and_5, wi_and_6, wi_and_7, we_and_exists, we_and_not, we_and_and, we_and_or, wi_or_0, wi_or_1, wi_or_2, wi_or_3, wi_or_4, wi_or_5, wi_or_6, wi_or_7, we_or_exists, we_or_not, we_or_and, we_or_or, wi_exists_0, wi_exists_1, wi_exists_2, wi_exists_3, wi_exists_4, wi_exists_5, wi_exists_6, wi_exists_7, we_exists_exists, we_exists_not, we_exists_and, we_exists_or, wi_only_0, wi_only_1, wi_only_2, wi_only_3, wi_only_4, wi_only_5, wi_only_6, wi_only_7, we_only_exists, we_only_not, we_only_and, we_only_or, wi_first_0, wi_first_1, wi_first_2, wi_first_3, wi_first_4, wi_first_5, wi_first_6, wi_first_7, we_first_exists, we_first_not, we_first_and, we_first_or, flatT, List.all_cons, List.all_nil, Bool.and_self]
          refine ⟨sz (by rw [List.length_map]; omega), _, lead ++ [1], _, by rw [plc, List.map_append]; rfl, pc, ?_⟩
          refine rep_of fi (Nat.le_refl _) (Nat.le_refl _) rfl (rep_of fi (Nat.le_refl _) (Nat.le_refl _) rfl ?_)
          simp only [EV, decide_true, Bool.not_true]
          exact kk _ _ ⟨rfl, _, _, rfl⟩
    rintro ss M2 ⟨rfl, a, b, rfl⟩
    simp only [EV, sFor, iT]
    refine forL_inv (fun j ss M' => M' = M2 ∧ ∃ a b c d e f, ss = [some (.tup [.tup (rl.map prT), wh, .tup hs, .tup os, lim]), some (.lst ((rl.map (·.1)).map T.str)), some (.lst ((allQ 8 wh hs).map enc)), none, none, some (.lst ((if isNo wh then [] else (lvP 8 [1] wh).map (·.1)).map plc)), some (.tup ((mainPl 8 wh hs.length).map plc)), none, none, a, b, c, d, e, f]) (fun _ _ _ _ => by trivial) 0 ⟨rfl, _, _, _, _, _, _, rfl⟩ ?_ ?_
    · rintro j t ss M3 hj ⟨rfl, a, b, c, d, e, f, rfl⟩
      rw [List.getElem?_map] at hj
      obtain ⟨l, hl, rfl⟩ := Option.map_eq_some_iff.mp hj
      obtain ⟨⟨m, p, hpa, hm, hp, hmem⟩, _⟩ := f8 l (List.mem_of_getElem? hl)
      refine ⟨_, rfl, fun N kk => ?_⟩
      simp only [EV, dC]
      have colB : ∀ x ∈ allQ 8 wh hs, (∃ a b, x.2 = .tup [.str "column", .str a, .str b]) ∨ ∃ w a r, x.2 = .tup (.str w :: a :: r) ∧ w ≠ "column" := fun x hx => by
        obtain ⟨_, ⟨m, _, hp⟩, _⟩ := f9 x hx
        rcases hp.colOr with ⟨a, b, e, _⟩ | h
        · exact Or.inl ⟨a, b, e⟩
        · exact Or.inr h
      have aql : (allQ 8 wh hs).length ≤ 4000 := by
        have e8 : cntP 8 = 511 := rfl
        have fl : ∀ ls : List (List (List Nat × T)), (∀ x ∈ ls, x.length ≤ cntP 8) → ls.flatten.length ≤ ls.length * cntP 8 := by
          intro ls
          induction ls with
          | nil => intro _; simp
          | cons a ls ih =>
            intro h
            have := ih fun x hx => h x (List.mem_cons_of_mem _ hx)
            have := h a List.mem_cons_self
            rw [List.flatten_cons, List.length_append, List.length_cons, Nat.succ_mul]
            omega
        have h7 := fl (hs.mapIdx fun i x => allP 8 [2, i] x) (fun x hx => by
          obtain ⟨i, hi, rfl⟩ := List.mem_mapIdx.mp hx
          exact allP_len (h4 _ (List.getElem_mem _)) _)
        rw [List.length_mapIdx] at h7
        have h8 : hs.length * cntP 8 ≤ 4 * cntP 8 := Nat.mul_le_mul_right _ h3
        rw [allQ, List.length_append]
        rcases h2 with rfl | h2
        · rw [if_pos (show isNo .non = true from rfl), List.length_nil]
          omega
        · have := allP_len h2 [1]
          split
          · rw [List.length_nil]
            omega
          · omega
      generalize hW : (allQ 8 wh hs).filter (fun x => decide (x.1.take l.length = l) && (colP x.2).isSome) = W
      have Wl : W.length ≤ 4000 := by rw [← hW]; exact Nat.le_trans (List.length_filter_le _ _) aql
      have Wm : ∀ x, x ∈ W ↔ (x ∈ allP m l p ∧ (colP x.2).isSome = true) := fun x => by
        rw [← hW, List.mem_filter, ← hmem, Bool.and_eq_true, decide_eq_true_eq, List.prefix_iff_eq_take]
        exact ⟨fun h => ⟨⟨h.1, h.2.1.symm⟩, h.2.2⟩, fun h => ⟨h.1.1, h.1.2.symm, h.2⟩⟩
      refine cut_k (.lst (W.map (·.2))) M3 (fun K k => ?_) ?_
      · simp only [EV, dComp, iL]
        refine compL_mapA (g := enc) (keep := fun x => decide (x.1.take l.length = l) && (colP x.2).isSome) (f := fun x => x.2) trivial (fun x hx => ⟨_, rfl, fun R R2 => ⟨fun r => ?_, fun _ r => ?_⟩⟩) (sz (by simp only [List.length_nil]; omega)) (by rw [hW, List.nil_append]; exact k)
        · simp only [EV, wipe3, plc, List.length_map, cut_map, cut_to, ← List.map_take]
          refine eq_plc (l := x.1.take l.length) (r := l) ?_
          simp only [Bool.false_eq_true, if_false] at r ⊢
          cases hd : decide (x.1.take l.length = l) with
          | false =>
            rw [hd] at r
            exact r
          | true =>
            rw [hd, Bool.true_and] at r
            rcases colB x hx with ⟨a, b, e⟩ | ⟨w', a, r', e, hw⟩
            · rw [e, colP_col] at r
              simp only [EV, e, decide_true]
              exact r
            · rw [e, colP_head hw] at r
              simp only [EV, e, decide_eq_false hw]
              exact r
        · simp only [EV, wipe3]
          exact r
      refine comp_go ?_
      simp only [EV, iL, fSortS, strsT_map]
      refine ⟨by rw [List.length_map]; omega, fun ys hp1 hs1 => ?_⟩
      have hyl : ys.length ≤ 4 := by rw [hp1.length_eq, List.length_map]; exact rl4
      have hyn : ys.Nodup := hp1.nodup_iff.mpr hnd
      have hyN : ∀ z ∈ ys, Nm z := fun z hz => by
        obtain ⟨rl', e1, _, rN⟩ := h1
        have hz2 := hp1.mem_iff.mp hz
        obtain ⟨c, hc, rfl⟩ := List.mem_map.mp hz2
        have hc2 : prT c ∈ rl'.map prT := by
          have e2 : rl.map prT = rl'.map prT := T.tup.inj e1
          rw [← e2]
          exact List.mem_map_of_mem hc
        obtain ⟨c', hc', e3⟩ := List.mem_map.mp hc2
        have e4 : c'.1 = c.1 := by
          have := T.tup.inj e3
          injection this with e5 _
          exact T.str.inj e5
        rw [← e4]
        exact (rN c' hc').1
      refine compL_mapA (g := T.str) (xs := ys) (keep := fun z => W.any fun x => decide ((colP x.2).map (·.1) = some z)) (f := T.str) trivial (fun z hz => ⟨_, rfl, fun R R2 => ⟨fun r => ?_, fun _ r => ?_⟩⟩) (sz (by simp only [List.length_nil]; omega)) ?_
      · simp only [EV, wipe3]
        refine cut_k (.lst ((W.filter fun x => decide ((colP x.2).map (·.1) = some z)).map fun _ => .int 1)) M3 (fun K k => ?_) ?_
        · refine comp_go ?_
          simp only [EV, iL]
          refine compL_mapA (g := fun x : List Nat × T => x.2) (keep := fun x => decide ((colP x.2).map (·.1) = some z)) (f := fun _ => .int 1) trivial (fun x hx => ⟨_, rfl, fun R R2 => ?_⟩) (sz (by simp only [List.length_nil]; omega)) (by rw [List.nil_append]; exact k)
          have hx2 := ((Wm x).mp hx).2
          obtain ⟨c, hc⟩ := Option.isSome_iff_exists.mp hx2
          obtain ⟨ca, cb⟩ := c
          have hx3 := colP_eq hc
          simp only [EV, hc, hx3, wipe3, colP_col, Option.map_some, Option.some.injEq]
          exact ⟨fun h => h, fun _ h => h⟩
        refine eq_nil rfl (fun t ht => ?_) ?_
        · obtain ⟨_, _, rfl⟩ := List.mem_map.mp ht
          exact shk_int _ _
        · rw [filter_nil]
          simp only [EV, Bool.not_not]
          exact r
      · simp only [EV, wipe3]
        exact r
      simp only [EV, finL, List.nil_append]
      have fn : ∀ {Q : QE} {M : Mp}, Q (.str (shT (.tup ((ys.filter fun z => W.any fun x => decide ((colP x.2).map (·.1) = some z)).map T.str)))) M → fRepr [.tup ((ys.filter fun z => W.any fun x => decide ((colP x.2).map (·.1) = some z)).map T.str)] Q M := fun q =>
        rep_of (fine_tup (n := 82) (k := 0) fun x hx => by
          obtain ⟨z, hz, rfl⟩ := List.mem_map.mp hx
          exact fine_word (hyN z (List.mem_filter.mp hz).1) 0) (by
            rw [List.length_map]
            have := List.length_filter_le (fun z => W.any fun x => decide ((colP x.2).map (·.1) = some z)) ys
            omega) (by decide) rfl q
      have nmd : ∀ (R : QE), R (.tup ((ys.filter fun z => W.any fun x => decide ((colP x.2).map (·.1) = some z)).map T.str)) M3 → spNamed [.tup [.tup (rl.map prT), wh, .tup hs, .tup os, lim], plc l] M3 R := by
        intro R k
        refine ⟨m, p, l, rl, [wh, .tup hs, .tup os, lim], rfl, hpa, hp, hm, by omega, fun zs s nd mem => ?_⟩
        have e : zs = ys.filter fun z => W.any fun x => decide ((colP x.2).map (·.1) = some z) := by
          refine sorted_filter s nd hs1 hyn fun z => ?_
          rw [mem, hp1.mem_iff, List.any_eq_true]
          refine and_congr_right fun _ => ?_
          constructor
          · rintro ⟨c, hc, rfl⟩
            obtain ⟨y, hy, hyc⟩ := List.mem_filterMap.mp hc
            refine ⟨(l ++ y.1, y.2), (Wm _).mpr ⟨?_, by rw [hyc]; rfl⟩, ?_⟩
            · rw [allP_shift l]
              exact List.mem_map_of_mem (f := fun x : List Nat × T => (l ++ x.1, x.2)) hy
            · rw [hyc]
              exact decide_eq_true rfl
          · rintro ⟨x, hx, hxz⟩
            obtain ⟨hx1, hx2⟩ := (Wm x).mp hx
            rw [allP_shift l] at hx1
            obtain ⟨y, hy, rfl⟩ := List.mem_map.mp hx1
            obtain ⟨c, hc⟩ := Option.isSome_iff_exists.mp hx2
            refine ⟨c, List.mem_filterMap.mpr ⟨y, hy, hc⟩, ?_⟩
            rw [hc] at hxz
            exact Option.some.inj (of_decide_eq_true hxz)
        rw [e]
        exact k
      refine nmd _ (fn (fn ?_))
      simp only [EV, decide_true, Bool.not_true]
      refine nmd _ (fn (fn ?_))
      simp only [EV, decide_true, Bool.not_true]
      exact kk _ _ ⟨rfl, _, _, _, _, _, _, rfl⟩
    · rintro ss M3 ⟨rfl, a, b, c, d, e, f, rfl⟩
      simp only [EV, dC]
      exact q

theorem ok_law (E : Fns K w mg) (hsy : SysAt base) (G_l_draw : FnD P w K mg base 1 E.f_l_draw E.fd_l_draw ["deck", "many"] spDraw) (G_l_deck : FnD P w K mg base 1 E.f_l_deck E.fd_l_deck ["script"] spDeck) (G_l_names : FnD P w K mg base 2 E.f_l_names E.fd_l_names ["deck", "many"] spNames) (G_l_schema : FnD P w K mg base 3 E.f_l_schema E.fd_l_schema ["deck", "names", "many"] spSchema) (G_l_drawn : FnD P w K mg base 11 E.f_l_drawn E.fd_l_drawn ["deck", "world", "names", "most"] spDrawnN) (G_l_widened : FnD P w K mg base 11 E.f_l_widened E.fd_l_widened ["deck", "world", "asked", "aliases"] spWid) (G_l_right : FnD P w K mg base 13 E.f_l_right E.fd_l_right ["asked"] spRight) : FnD P w K mg base 14 E.f_law E.fd_law ["script"] spLaw := by
  have nd := sc_law.nd
  refine okD E.F_law sc_law ?len fun cdv A outer s H X hr hgd => ⟨_, (dss_cons (ds_set 1 nd rfl (by first | exact Or.inl rfl | exact Or.inr rfl) (d_fn G_l_deck (hr.mono (by decide)) hgd (by rfl) E.g_l_deck E.F_l_deck.kp (kb_l_deck_1 E) (da_cons (d_var 0) da_nil) dk_nil))
  (dss_cons (ds_for PassesOwn.never rfl (di_range1 (by rfl) E.m_range d_int) (dg_nm 2 nd rfl (by first | exact Or.inl rfl | exact Or.inr rfl))
  (dss_cons (ds_set 3 nd rfl (by first | exact Or.inl rfl | exact Or.inr rfl) (d_fn G_l_names (hr.mono (by decide)) hgd (by rfl) E.g_l_names E.F_l_names.kp (kb_l_names_2 E) (da_cons (d_var 1) (da_cons d_int da_nil)) dk_nil))
  (dss_cons (ds_set 4 nd rfl (by first | exact Or.inl rfl | exact Or.inr rfl) (d_fn G_l_schema (hr.mono (by decide)) hgd (by rfl) E.g_l_schema E.F_l_schema.kp (kb_l_schema_3 E) (da_cons (d_var 1) (da_cons (d_var 3) (da_cons (d_add d_int (d_fn G_l_draw (hr.mono (by decide)) hgd (by rfl) E.g_l_draw E.F_l_draw.kp (kb_l_draw_2 E) (da_cons (d_var 1) (da_cons d_int da_nil)) dk_nil)) da_nil))) dk_nil))
  (dss_cons (ds_set 5 nd rfl (by first | exact Or.inl rfl | exact Or.inr rfl) (d_dispM (dps_cons d_str (d_var 4) (dps_cons d_str d_newDM dps_nil))))
  (dss_cons (ds_for PassesOwn.never rfl (di_tup (d_var 4)) (dg_tp [6, 7, 8, 9] rfl (pgs_cons (pg_name (i := 6) nd rfl (by first | exact Or.inl rfl | exact Or.inr rfl)) (pgs_cons (pg_name (i := 7) nd rfl (by first | exact Or.inl rfl | exact Or.inr rfl)) (pgs_cons (pg_name (i := 8) nd rfl (by first | exact Or.inl rfl | exact Or.inr rfl)) (pgs_cons (pg_name (i := 9) nd rfl (by first | exact Or.inl rfl | exact Or.inr rfl)) pgs_nil)))))
  (dss_one (ds_dput (hu_of hr) (d_dget (hu_of hr) (d_var 5) d_str (fun _ _ => rfl)) (d_var 6) (d_comp [("name", 10), ("some", 11)] fin_L rfl nd (di_tup (d_var 7)) (by kernel_rfl)
  (fun _ _ _ _ _ => (dg_tp [10, 11] rfl (pgs_cons (pg_name (i := 10) nd rfl (by first | exact Or.inl rfl | exact Or.inr rfl)) (pgs_cons (pg_name (i := 11) nd rfl (by first | exact Or.inl rfl | exact Or.inr rfl)) pgs_nil)))) (fun _ _ _ _ _ => dts_nil) (fun _ _ _ _ _ => (d_var 10))))))
  (dss_one (ds_for PassesOwn.never rfl (di_range1 (by rfl) E.m_range d_int) (dg_nm 12 nd rfl (by first | exact Or.inl rfl | exact Or.inr rfl))
  (dss_cons (ds_set 13 nd rfl (by first | exact Or.inl rfl | exact Or.inr rfl) (d_fn G_l_drawn (hr.mono (by decide)) hgd (by rfl) E.g_l_drawn E.F_l_drawn.kp (kb_l_drawn_4 E) (da_cons (d_var 1) (da_cons (d_var 5) (da_cons (d_slice (d_var 3) (do_some d_int) (do_some d_int)) (da_cons d_int da_nil)))) dk_nil))
  (dss_cons (ds_if (dt_eq hr.units (d_fn G_l_draw (hr.mono (by decide)) hgd (by rfl) E.g_l_draw E.F_l_draw.kp (kb_l_draw_2 E) (da_cons (d_var 1) (da_cons d_int da_nil)) dk_nil) d_int)
  (dss_one (ds_set 13 nd rfl (by first | exact Or.inl rfl | exact Or.inr rfl) (d_fn G_l_widened (hr.mono (by decide)) hgd (by rfl) E.g_l_widened E.F_l_widened.kp (kb_l_widened_4 E) (da_cons (d_var 1) (da_cons (d_var 5) (da_cons (d_var 13) (da_cons (d_slice (d_var 3) (do_some d_int) do_none) da_nil)))) dk_nil)))
  dss_nil)
  (dss_cons (ds_set 14 nd rfl (by first | exact Or.inl rfl | exact Or.inr rfl) (d_repr hgd hr.units hsy (by rfl) E.m_repr (da_cons (d_var 13) da_nil)))
  (dss_one (ds_if (PW.pt (dw_or (dt_not (dt_val (d_fn G_l_right (hr.mono (by decide)) hgd (by rfl) E.g_l_right E.F_l_right.kp (kb_l_right_1 E) (da_cons (d_var 13) da_nil) dk_nil))) (dw_or1 (dt_ne hr.units (d_repr hgd hr.units hsy (by rfl) E.m_repr (da_cons (d_var 13) da_nil)) (d_var 14)))))
  (dss_one (ds_ret d_bl))
  dss_nil))))))))))))
  (dss_one (ds_ret d_bl)))), ?_⟩
  case len =>
    rintro ts M Q ⟨ns, rfl, _⟩
    rfl
  · rintro ts M Q ⟨ns, rfl, hl, hM, q⟩
    simp only [EV, dC]
    refine ⟨ns, rfl, hl, fun dk c M1 _ _ D1 _ => ?_⟩
    simp only [EV, sFor, iR1]
    refine ⟨⟨by decide, by decide⟩, ?_⟩
    refine forL_inv (fun i ss M => DeckAt dk c M (0 + i * 20000) ∧ ∃ x0 x2 x3 x4 x5 x6 x7 x8 x9 x10 x11 x12 x13 x14 : Option T, ss = [x0, some (.raw (.ref dk)), x2, x3, x4, x5, x6, x7, x8, x9, x10, x11, x12, x13, x14]) (fun _ _ _ _ => by trivial) 0 ⟨by simpa using D1, _, _, _, _, _, _, _, _, _, _, _, _, _, _, rfl⟩ ?_ ?_
    · rintro i t ss M2 hj ⟨D2, x0, x2, x3, x4, x5, x6, x7, x8, x9, x10, x11, x12, x13, x14, rfl⟩
      obtain ⟨hi', rfl⟩ := ups_at hj
      have hi : i < 6 := hi'
      rw [Nat.zero_add] at D2
      refine ⟨_, rfl, fun N kk => ?_⟩
      simp only [EV, dC]
      refine ⟨dk, c, _, 16, rfl, D2, by omega, by decide, by decide, fun M3 al D3 _ al16 alN alD => ?_⟩
      have al16' : al.length = 16 := al16
      simp only [EV, dC]
      refine draw_fr D3 (by omega) (by decide) (by decide) fun M4 r4 D4 _ a4 b4 => ?_
      simp only [EV, dC]
      refine ⟨dk, c, _, al, 1 + r4, rfl, D4, by omega, by omega, by omega, alN, by omega, by omega, fun M5 S D5 hS hSl => ?_⟩
      simp only [EV, sFor, iT]
      intro cd hcd
      try refine ⟨by decide, ?_⟩
      intro wd hwd
      have dset : ∀ {m : Nat} {M : Mp} {a : Addr} {o : MO}, DeckAt dk c M m → a ≠ dk → a ≠ c → DeckAt dk c (mset M a o) m := fun {m M a o} h p1 p2 =>
        ⟨h.ne, let ⟨ns, t, k, a, b, d, e, f⟩ := h.at_; ⟨ns, t, k, (mset_ne p1.symm).trans a, (mset_ne p2.symm).trans b, d, e, f⟩⟩
      obtain ⟨kd, kc⟩ : M5 dk ≠ none ∧ M5 c ≠ none := by
        obtain ⟨_, _, _, h1, h2, _⟩ := D5.at_
        rw [h1, h2]
        exact ⟨by simp, by simp⟩
      have c1 : cd ≠ dk := fun z => kd (z ▸ hcd)
      have c2 : cd ≠ c := fun z => kc (z ▸ hcd)
      have wc : wd ≠ cd := fun z => by
        rw [z, mset_same] at hwd
        cases hwd
      rw [mset_ne wc] at hwd
      have w1 : wd ≠ dk := fun z => kd (z ▸ hwd)
      have w2 : wd ≠ c := fun z => kc (z ▸ hwd)
      have D6 : DeckAt dk c (mset (mset M5 cd (.dct [])) wd (.dct [(.inr "tables", .tup S), (.inr "columns", .raw (.ref cd))])) (i * 20000 + 103) := (dset (dset D5 c1 c2) w1 w2).le (by omega)
      rw [w_merge]
      refine forL_inv (fun j ss M => DeckAt dk c M (i * 20000 + 103) ∧ M wd = some (.dct [(.inr "tables", .tup S), (.inr "columns", .raw (.ref cd))]) ∧ (∃ kvs : KVs, M cd = some (.dct kvs) ∧ kvs.length ≤ j ∧ ∀ t ∈ S.take j, ∃ nm, TabT t nm ∧ HasC kvs nm) ∧
        ∃ x0 x2 x6 x7 x8 x9 x10 x11 x12 x13 x14 : Option T, ss = [x0, some (.raw (.ref dk)), x2, some (.lst (al.map T.str)), some (.tup S), some (.raw (.ref wd)), x6, x7, x8, x9, x10, x11, x12, x13, x14]) (fun _ _ _ _ => by trivial) 0 ⟨D6, mset_same, ⟨[], (mset_ne wc.symm).trans mset_same, Nat.le_refl _, fun t h => nomatch h⟩, _, _, _, _, _, _, _, _, _, _, _, rfl⟩ ?_ ?_
      · rintro j t ss M7 hj ⟨D7, hw7, ⟨kvs, hc7, hk7, hS7⟩, x0, x2, x6, x7, x8, x9, x10, x11, x12, x13, x14, rfl⟩
        obtain ⟨nm, hnm, cs, a, b, rfl, cs0, cs1, csN⟩ := (hS t (List.mem_of_getElem? hj)).tab
        have hj4 : j < 20 := by have := (List.getElem?_eq_some_iff.mp hj).1; omega
        rw [Nat.zero_add] at hk7 hS7
        refine ⟨_, rfl, fun N2 k2 => ?_⟩
        simp only [EV, sPut, dComp, iT]
        refine compL_inv (fun _ M' => M' = M7) (fun y => ∃ z, y = .str z ∧ Nm z) (fun _ _ _ => by trivial) 0 rfl ?_ ?_ ?_
        · rintro p t M8 hp rfl
          rw [List.getElem?_map] at hp
          obtain ⟨x, hx, rfl⟩ := Option.map_eq_some_iff.mp hp
          exact ⟨_, rfl, fun R k3 => k3 _ _ ⟨x.1, rfl, csN x (List.mem_of_getElem? hx)⟩ rfl⟩
        · rw [List.length_map]
          exact sz (by rw [List.length_nil]; omega)
        · rintro ys M8 hyl hys rfl
          rw [List.length_map] at hyl
          obtain ⟨cols, rfl, hcols⟩ := strs_of hys
          rw [List.length_map] at hyl
          simp only [EV, finL, List.nil_append, hw7, hc7, w_cols]
          refine ⟨sz' (by omega), k2 _ _ ⟨dset D7 c1 c2, (mset_ne wc).trans hw7, ⟨_, mset_same, Nat.le_trans putT_len (by omega), fun t ht => ?_⟩, _, _, _, _, _, _, _, _, _, _, _, rfl⟩⟩
          rw [Nat.zero_add] at ht
          rcases take_mem_succ hj ht with ht | rfl
          · obtain ⟨n', h1, h2⟩ := hS7 t ht
            exact ⟨n', h1, h2.put (by omega) (by omega) hcols⟩
          · exact ⟨nm, ⟨hnm, cs, a, b, rfl, cs0, cs1, csN⟩, .new (by omega) (by omega) hcols⟩
      · rintro ss M7 ⟨D7, hw7, ⟨kvs, hc7, hk7, hS7⟩, x0, x2, x6, x7, x8, x9, x10, x11, x12, x13, x14, rfl⟩
        rw [Nat.zero_add, List.take_length] at hS7
        have g7 : Gen dk c wd cd S kvs (i * 20000 + 103) M7 := ⟨D7, hw7, hc7, w1, w2, c1, c2, by omega, by omega, hS7⟩
        simp only [EV, sFor, iR1]
        refine ⟨⟨by decide, by decide⟩, ?_⟩
        refine forL_inv (fun j ss M => Gen dk c wd cd S kvs (i * 20000 + 103 + j * 2400) M ∧ ∃ x0 x2 x6 x7 x8 x9 x10 x11 x12 x13 x14 : Option T, ss = [x0, some (.raw (.ref dk)), x2, some (.lst (al.map T.str)), some (.tup S), some (.raw (.ref wd)), x6, x7, x8, x9, x10, x11, x12, x13, x14]) (fun _ _ _ _ => by trivial) 0 ⟨by simpa using g7, _, _, _, _, _, _, _, _, _, _, _, rfl⟩ ?_ ?_
        · rintro j t ss M8 hj ⟨g8, x0, x2, x6, x7, x8, x9, x10, x11, x12, x13, x14, rfl⟩
          obtain ⟨hj', rfl⟩ := ups_at hj
          have hj6 : j < 5 := hj'
          rw [Nat.zero_add] at g8
          have cl := cut_mid_len (xs := al) (a := 8) (b := 12) (by decide) (by omega)
          have cN : ∀ z ∈ cutT al (some ((8 : Nat) : Int)) (some ((12 : Nat) : Int)), Nm z := fun z hz => alN z (cut_mem hz)
          have cD : (cutT al (some ((8 : Nat) : Int)) (some ((12 : Nat) : Int))).Nodup := ((List.take_sublist _ _).trans (List.drop_sublist _ _)).nodup alD
          have e8 : cutT (al.map T.str) (some 8) (some 12) = (cutT al (some ((8 : Nat) : Int)) (some ((12 : Nat) : Int))).map T.str := cut_map _ _ _
          have e14 : cutT (al.map T.str) (some 14) none = (al.drop 14).map T.str := (cut_from 14).trans List.map_drop.symm
          refine ⟨_, rfl, fun N2 k2 => ?_⟩
          simp only [EV, e8, e14]
          generalize cutT al (some ((8 : Nat) : Int)) (some ((12 : Nat) : Int)) = bl at cl cN cD
          refine ⟨dk, c, wd, cd, S, kvs, _, bl, 4, rfl, by decide, by decide, by omega, by omega, cN, cD, g8, by omega, fun M9 rl wh hs ord lim g9 r9 d9 w9 h9 p9 o9 l9 => ?_⟩
          obtain ⟨os, rfl, os1, osP⟩ := o9
          try simp only [EV, e8, e14]
          refine gdraw g9 (by omega) (by decide) (by decide) fun M10 r10 g10 f10 a10 b10 => ?_
          by_cases e10 : r10 = 0
          · simp only [EV, decide_eq_true e10, e8, e14]
            refine ⟨dk, c, wd, cd, S, kvs, _, _, wh, hs, _, lim, al.drop 14, rfl, g10, by omega, r9, by omega, by rw [List.length_drop]; omega, fun a ha => alN a (List.mem_of_mem_drop ha), fun M11 t1 t2 g11 p1 p2 => ?_⟩
            have q8 : Q5 8 (.tup [.tup (rl.map prT), wh, .tup (hs ++ [t1, t2]), .tup os, lim]) := ⟨_, wh, _, _, lim, rfl, r9.own, w9.imp id fun h => h.mono (by decide), by rw [List.length_append]; simp only [List.length_cons, List.length_nil]; omega, fun h hh => by
              rcases List.mem_append.mp hh with hh | hh
              · exact (p9 h hh).mono (by decide)
              · simp only [List.mem_cons, List.not_mem_nil, or_false] at hh
                rcases hh with rfl | rfl <;> assumption, ⟨os, rfl, by omega, osP⟩, l9⟩
            simp only [EV, dC]
            refine q8.rep ?_
            refine ⟨rl, wh, _, os, lim, rfl, q8, d9, ?_⟩
            simp only [EV, dC]
            refine q8.rep ?_
            simp only [EV, decide_true, Bool.not_true]
            exact k2 _ _ ⟨g11.le (by omega), _, _, _, _, _, _, _, _, _, _, _, rfl⟩
          · have q8 : Q5 8 (.tup [.tup (rl.map prT), wh, .tup hs, .tup os, lim]) := ⟨_, wh, _, _, lim, rfl, r9.own, w9.imp id fun h => h.mono (by decide), by omega, fun h hh => (p9 h hh).mono (by decide), ⟨os, rfl, by omega, osP⟩, l9⟩
            simp only [EV, decide_eq_false e10]
            refine q8.rep ?_
            refine ⟨rl, wh, _, os, lim, rfl, q8, d9, ?_⟩
            simp only [EV, dC]
            refine q8.rep ?_
            simp only [EV, decide_true, Bool.not_true]
            exact k2 _ _ ⟨g10.le (by omega), _, _, _, _, _, _, _, _, _, _, _, rfl⟩
        · rintro ss M8 ⟨g8, x0, x2, x6, x7, x8, x9, x10, x11, x12, x13, x14, rfl⟩
          rw [ups_len] at g8
          exact kk _ _ ⟨g8.deck.le (by have e : (0 + Int.toNat 5) * 2400 = 12000 := rfl; omega), _, _, _, _, _, _, _, _, _, _, _, _, _, _, rfl⟩
    · rintro ss M2 ⟨D2, x0, x2, x3, x4, x5, x6, x7, x8, x9, x10, x11, x12, x13, x14, rfl⟩
      simp only [EV, dC]
      exact q _

end

theorem law_ok : ∀ ns : List Int, ns.length ≤ 63 → spLaw [.scr (ns.map T.int)] (fun _ => none) fun t _ => t = .bl true :=
  fun ns h => ⟨ns, rfl, h, fun _ => rfl, fun _ => rfl⟩
theorem all_mk {P : Program} {w : World} {K : PySem.W.Frag} {h : Heap} {mg : Str → Option Value} {fa : Addr} (X : K.In h) (G : h.Ns mainGlobals mg) (hfa : mg "law" = some (.ref fa))
    {f_part_at : Addr} {od_part_at an_part_at : Option Addr} {sl_part_at : Array (Option Value)} {oc_part_at kV_part_at dc_part_at pm_part_at cd_part_at ct_part_at : Value}
    (a_part_at : PySem.W.nsIn K mainGlobals "part_at" = some (some (.ref f_part_at)))
    (l_part_at : K.lookup f_part_at = some ⟨oc_part_at, od_part_at, .func (PySem.W.fnOf "part_at" "part_at" (defArgs s_part_at) (defBody s_part_at) (defScope s_part_at) .none kV_part_at dc_part_at pm_part_at an_part_at cd_part_at ct_part_at), sl_part_at⟩)
    (c_part_at : PySem.W.codeIn K cd_part_at "part_at" = true) (k_part_at : PySem.W.keepIn K (.ref f_part_at) = true)
    {f_straight_parts : Addr} {od_straight_parts an_straight_parts : Option Addr} {sl_straight_parts : Array (Option Value)} {oc_straight_parts kV_straight_parts dc_straight_parts pm_straight_parts cd_straight_parts ct_straight_parts : Value}
    (a_straight_parts : PySem.W.nsIn K mainGlobals "straight_parts" = some (some (.ref f_straight_parts)))
    (l_straight_parts : K.lookup f_straight_parts = some ⟨oc_straight_parts, od_straight_parts, .func (PySem.W.fnOf "straight_parts" "straight_parts" (defArgs s_straight_parts) (defBody s_straight_parts) (defScope s_straight_parts) .none kV_straight_parts dc_straight_parts pm_straight_parts an_straight_parts cd_straight_parts ct_straight_parts), sl_straight_parts⟩)
    (c_straight_parts : PySem.W.codeIn K cd_straight_parts "straight_parts" = true) (k_straight_parts : PySem.W.keepIn K (.ref f_straight_parts) = true)
    {f_all_parts : Addr} {od_all_parts an_all_parts : Option Addr} {sl_all_parts : Array (Option Value)} {oc_all_parts kV_all_parts dc_all_parts pm_all_parts cd_all_parts ct_all_parts : Value}
    (a_all_parts : PySem.W.nsIn K mainGlobals "all_parts" = some (some (.ref f_all_parts)))
    (l_all_parts : K.lookup f_all_parts = some ⟨oc_all_parts, od_all_parts, .func (PySem.W.fnOf "all_parts" "all_parts" (defArgs s_all_parts) (defBody s_all_parts) (defScope s_all_parts) .none kV_all_parts dc_all_parts pm_all_parts an_all_parts cd_all_parts ct_all_parts), sl_all_parts⟩)
    (c_all_parts : PySem.W.codeIn K cd_all_parts "all_parts" = true) (k_all_parts : PySem.W.keepIn K (.ref f_all_parts) = true)
    {f_columns_in : Addr} {od_columns_in an_columns_in : Option Addr} {sl_columns_in : Array (Option Value)} {oc_columns_in kV_columns_in dc_columns_in pm_columns_in cd_columns_in ct_columns_in : Value}
    (a_columns_in : PySem.W.nsIn K mainGlobals "columns_in" = some (some (.ref f_columns_in)))
    (l_columns_in : K.lookup f_columns_in = some ⟨oc_columns_in, od_columns_in, .func (PySem.W.fnOf "columns_in" "columns_in" (defArgs s_columns_in) (defBody s_columns_in) (defScope s_columns_in) .none kV_columns_in dc_columns_in pm_columns_in an_columns_in cd_columns_in ct_columns_in), sl_columns_in⟩)
    (c_columns_in : PySem.W.codeIn K cd_columns_in "columns_in" = true) (k_columns_in : PySem.W.keepIn K (.ref f_columns_in) = true)
    {f_leaves_of : Addr} {od_leaves_of an_leaves_of : Option Addr} {sl_leaves_of : Array (Option Value)} {oc_leaves_of kV_leaves_of dc_leaves_of pm_leaves_of cd_leaves_of ct_leaves_of : Value}
    (a_leaves_of : PySem.W.nsIn K mainGlobals "leaves_of" = some (some (.ref f_leaves_of)))
    (l_leaves_of : K.lookup f_leaves_of = some ⟨oc_leaves_of, od_leaves_of, .func (PySem.W.fnOf "leaves_of" "leaves_of" (defArgs s_leaves_of) (defBody s_leaves_of) (defScope s_leaves_of) .none kV_leaves_of dc_leaves_of pm_leaves_of an_leaves_of cd_leaves_of ct_leaves_of), sl_leaves_of⟩)
    (c_leaves_of : PySem.W.codeIn K cd_leaves_of "leaves_of" = true) (k_leaves_of : PySem.W.keepIn K (.ref f_leaves_of) = true)
    {f_main_parts : Addr} {od_main_parts an_main_parts : Option Addr} {sl_main_parts : Array (Option Value)} {oc_main_parts kV_main_parts dc_main_parts pm_main_parts cd_main_parts ct_main_parts : Value}
    (a_main_parts : PySem.W.nsIn K mainGlobals "main_parts" = some (some (.ref f_main_parts)))
    (l_main_parts : K.lookup f_main_parts = some ⟨oc_main_parts, od_main_parts, .func (PySem.W.fnOf "main_parts" "main_parts" (defArgs s_main_parts) (defBody s_main_parts) (defScope s_main_parts) .none kV_main_parts dc_main_parts pm_main_parts an_main_parts cd_main_parts ct_main_parts), sl_main_parts⟩)
    (c_main_parts : PySem.W.codeIn K cd_main_parts "main_parts" = true) (k_main_parts : PySem.W.keepIn K (.ref f_main_parts) = true)
    {f_named : Addr} {od_named an_named : Option Addr} {sl_named : Array (Option Value)} {oc_named kV_named dc_named pm_named cd_named ct_named : Value}
    (a_named : PySem.W.nsIn K mainGlobals "named" = some (some (.ref f_named)))
    (l_named : K.lookup f_named = some ⟨oc_named, od_named, .func (PySem.W.fnOf "named" "named" (defArgs s_named) (defBody s_named) (defScope s_named) .none kV_named dc_named pm_named an_named cd_named ct_named), sl_named⟩)
    (c_named : PySem.W.codeIn K cd_named "named" = true) (k_named : PySem.W.keepIn K (.ref f_named) = true)
    {f_l_deck : Addr} {od_l_deck an_l_deck : Option Addr} {sl_l_deck : Array (Option Value)} {oc_l_deck kV_l_deck dc_l_deck pm_l_deck cd_l_deck ct_l_deck : Value}
    (a_l_deck : PySem.W.nsIn K mainGlobals "_law_deck" = some (some (.ref f_l_deck)))
    (l_l_deck : K.lookup f_l_deck = some ⟨oc_l_deck, od_l_deck, .func (PySem.W.fnOf "_law_deck" "_law_deck" (defArgs s_l_deck) (defBody s_l_deck) (defScope s_l_deck) .none kV_l_deck dc_l_deck pm_l_deck an_l_deck cd_l_deck ct_l_deck), sl_l_deck⟩)
    (c_l_deck : PySem.W.codeIn K cd_l_deck "_law_deck" = true) (k_l_deck : PySem.W.keepIn K (.ref f_l_deck) = true)
    {f_l_draw : Addr} {od_l_draw an_l_draw : Option Addr} {sl_l_draw : Array (Option Value)} {oc_l_draw kV_l_draw dc_l_draw pm_l_draw cd_l_draw ct_l_draw : Value}
    (a_l_draw : PySem.W.nsIn K mainGlobals "_law_draw" = some (some (.ref f_l_draw)))
    (l_l_draw : K.lookup f_l_draw = some ⟨oc_l_draw, od_l_draw, .func (PySem.W.fnOf "_law_draw" "_law_draw" (defArgs s_l_draw) (defBody s_l_draw) (defScope s_l_draw) .none kV_l_draw dc_l_draw pm_l_draw an_l_draw cd_l_draw ct_l_draw), sl_l_draw⟩)
    (c_l_draw : PySem.W.codeIn K cd_l_draw "_law_draw" = true) (k_l_draw : PySem.W.keepIn K (.ref f_l_draw) = true)
    {f_l_pick : Addr} {od_l_pick an_l_pick : Option Addr} {sl_l_pick : Array (Option Value)} {oc_l_pick kV_l_pick dc_l_pick pm_l_pick cd_l_pick ct_l_pick : Value}
    (a_l_pick : PySem.W.nsIn K mainGlobals "_law_pick" = some (some (.ref f_l_pick)))
    (l_l_pick : K.lookup f_l_pick = some ⟨oc_l_pick, od_l_pick, .func (PySem.W.fnOf "_law_pick" "_law_pick" (defArgs s_l_pick) (defBody s_l_pick) (defScope s_l_pick) .none kV_l_pick dc_l_pick pm_l_pick an_l_pick cd_l_pick ct_l_pick), sl_l_pick⟩)
    (c_l_pick : PySem.W.codeIn K cd_l_pick "_law_pick" = true) (k_l_pick : PySem.W.keepIn K (.ref f_l_pick) = true)
    {f_l_names : Addr} {od_l_names an_l_names : Option Addr} {sl_l_names : Array (Option Value)} {oc_l_names kV_l_names dc_l_names pm_l_names cd_l_names ct_l_names : Value}
    (a_l_names : PySem.W.nsIn K mainGlobals "_law_names" = some (some (.ref f_l_names)))
    (l_l_names : K.lookup f_l_names = some ⟨oc_l_names, od_l_names, .func (PySem.W.fnOf "_law_names" "_law_names" (defArgs s_l_names) (defBody s_l_names) (defScope s_l_names) .none kV_l_names dc_l_names pm_l_names an_l_names cd_l_names ct_l_names), sl_l_names⟩)
    (c_l_names : PySem.W.codeIn K cd_l_names "_law_names" = true) (k_l_names : PySem.W.keepIn K (.ref f_l_names) = true)
    {f_l_schema : Addr} {od_l_schema an_l_schema : Option Addr} {sl_l_schema : Array (Option Value)} {oc_l_schema kV_l_schema dc_l_schema pm_l_schema cd_l_schema ct_l_schema : Value}
    (a_l_schema : PySem.W.nsIn K mainGlobals "_law_schema" = some (some (.ref f_l_schema)))
    (l_l_schema : K.lookup f_l_schema = some ⟨oc_l_schema, od_l_schema, .func (PySem.W.fnOf "_law_schema" "_law_schema" (defArgs s_l_schema) (defBody s_l_schema) (defScope s_l_schema) .none kV_l_schema dc_l_schema pm_l_schema an_l_schema cd_l_schema ct_l_schema), sl_l_schema⟩)
    (c_l_schema : PySem.W.codeIn K cd_l_schema "_law_schema" = true) (k_l_schema : PySem.W.keepIn K (.ref f_l_schema) = true)
    {f_l_any_value : Addr} {od_l_any_value an_l_any_value : Option Addr} {sl_l_any_value : Array (Option Value)} {oc_l_any_value kV_l_any_value dc_l_any_value pm_l_any_value cd_l_any_value ct_l_any_value : Value}
    (a_l_any_value : PySem.W.nsIn K mainGlobals "_law_any_value" = some (some (.ref f_l_any_value)))
    (l_l_any_value : K.lookup f_l_any_value = some ⟨oc_l_any_value, od_l_any_value, .func (PySem.W.fnOf "_law_any_value" "_law_any_value" (defArgs s_l_any_value) (defBody s_l_any_value) (defScope s_l_any_value) .none kV_l_any_value dc_l_any_value pm_l_any_value an_l_any_value cd_l_any_value ct_l_any_value), sl_l_any_value⟩)
    (c_l_any_value : PySem.W.codeIn K cd_l_any_value "_law_any_value" = true) (k_l_any_value : PySem.W.keepIn K (.ref f_l_any_value) = true)
    {f_l_column : Addr} {od_l_column an_l_column : Option Addr} {sl_l_column : Array (Option Value)} {oc_l_column kV_l_column dc_l_column pm_l_column cd_l_column ct_l_column : Value}
    (a_l_column : PySem.W.nsIn K mainGlobals "_law_column" = some (some (.ref f_l_column)))
    (l_l_column : K.lookup f_l_column = some ⟨oc_l_column, od_l_column, .func (PySem.W.fnOf "_law_column" "_law_column" (defArgs s_l_column) (defBody s_l_column) (defScope s_l_column) .none kV_l_column dc_l_column pm_l_column an_l_column cd_l_column ct_l_column), sl_l_column⟩)
    (c_l_column : PySem.W.codeIn K cd_l_column "_law_column" = true) (k_l_column : PySem.W.keepIn K (.ref f_l_column) = true)
    {f_l_some_term : Addr} {od_l_some_term an_l_some_term : Option Addr} {sl_l_some_term : Array (Option Value)} {oc_l_some_term kV_l_some_term dc_l_some_term pm_l_some_term cd_l_some_term ct_l_some_term : Value}
    (a_l_some_term : PySem.W.nsIn K mainGlobals "_law_some_term" = some (some (.ref f_l_some_term)))
    (l_l_some_term : K.lookup f_l_some_term = some ⟨oc_l_some_term, od_l_some_term, .func (PySem.W.fnOf "_law_some_term" "_law_some_term" (defArgs s_l_some_term) (defBody s_l_some_term) (defScope s_l_some_term) .none kV_l_some_term dc_l_some_term pm_l_some_term an_l_some_term cd_l_some_term ct_l_some_term), sl_l_some_term⟩)
    (c_l_some_term : PySem.W.codeIn K cd_l_some_term "_law_some_term" = true) (k_l_some_term : PySem.W.keepIn K (.ref f_l_some_term) = true)
    {f_l_some_leaf : Addr} {od_l_some_leaf an_l_some_leaf : Option Addr} {sl_l_some_leaf : Array (Option Value)} {oc_l_some_leaf kV_l_some_leaf dc_l_some_leaf pm_l_some_leaf cd_l_some_leaf ct_l_some_leaf : Value}
    (a_l_some_leaf : PySem.W.nsIn K mainGlobals "_law_some_leaf" = some (some (.ref f_l_some_leaf)))
    (l_l_some_leaf : K.lookup f_l_some_leaf = some ⟨oc_l_some_leaf, od_l_some_leaf, .func (PySem.W.fnOf "_law_some_leaf" "_law_some_leaf" (defArgs s_l_some_leaf) (defBody s_l_some_leaf) (defScope s_l_some_leaf) .none kV_l_some_leaf dc_l_some_leaf pm_l_some_leaf an_l_some_leaf cd_l_some_leaf ct_l_some_leaf), sl_l_some_leaf⟩)
    (c_l_some_leaf : PySem.W.codeIn K cd_l_some_leaf "_law_some_leaf" = true) (k_l_some_leaf : PySem.W.keepIn K (.ref f_l_some_leaf) = true)
    {f_l_inner : Addr} {od_l_inner an_l_inner : Option Addr} {sl_l_inner : Array (Option Value)} {oc_l_inner kV_l_inner dc_l_inner pm_l_inner cd_l_inner ct_l_inner : Value}
    (a_l_inner : PySem.W.nsIn K mainGlobals "_law_inner" = some (some (.ref f_l_inner)))
    (l_l_inner : K.lookup f_l_inner = some ⟨oc_l_inner, od_l_inner, .func (PySem.W.fnOf "_law_inner" "_law_inner" (defArgs s_l_inner) (defBody s_l_inner) (defScope s_l_inner) .none kV_l_inner dc_l_inner pm_l_inner an_l_inner cd_l_inner ct_l_inner), sl_l_inner⟩)
    (c_l_inner : PySem.W.codeIn K cd_l_inner "_law_inner" = true) (k_l_inner : PySem.W.keepIn K (.ref f_l_inner) = true)
    {f_l_condition : Addr} {od_l_condition an_l_condition : Option Addr} {sl_l_condition : Array (Option Value)} {oc_l_condition kV_l_condition dc_l_condition pm_l_condition cd_l_condition ct_l_condition : Value}
    (a_l_condition : PySem.W.nsIn K mainGlobals "_law_condition" = some (some (.ref f_l_condition)))
    (l_l_condition : K.lookup f_l_condition = some ⟨oc_l_condition, od_l_condition, .func (PySem.W.fnOf "_law_condition" "_law_condition" (defArgs s_l_condition) (defBody s_l_condition) (defScope s_l_condition) .none kV_l_condition dc_l_condition pm_l_condition an_l_condition cd_l_condition ct_l_condition), sl_l_condition⟩)
    (c_l_condition : PySem.W.codeIn K cd_l_condition "_law_condition" = true) (k_l_condition : PySem.W.keepIn K (.ref f_l_condition) = true)
    {f_l_drawn : Addr} {od_l_drawn an_l_drawn : Option Addr} {sl_l_drawn : Array (Option Value)} {oc_l_drawn kV_l_drawn dc_l_drawn pm_l_drawn cd_l_drawn ct_l_drawn : Value}
    (a_l_drawn : PySem.W.nsIn K mainGlobals "_law_drawn" = some (some (.ref f_l_drawn)))
    (l_l_drawn : K.lookup f_l_drawn = some ⟨oc_l_drawn, od_l_drawn, .func (PySem.W.fnOf "_law_drawn" "_law_drawn" (defArgs s_l_drawn) (defBody s_l_drawn) (defScope s_l_drawn) .none kV_l_drawn dc_l_drawn pm_l_drawn an_l_drawn cd_l_drawn ct_l_drawn), sl_l_drawn⟩)
    (c_l_drawn : PySem.W.codeIn K cd_l_drawn "_law_drawn" = true) (k_l_drawn : PySem.W.keepIn K (.ref f_l_drawn) = true)
    {f_l_below : Addr} {od_l_below an_l_below : Option Addr} {sl_l_below : Array (Option Value)} {oc_l_below kV_l_below dc_l_below pm_l_below cd_l_below ct_l_below : Value}
    (a_l_below : PySem.W.nsIn K mainGlobals "_law_below" = some (some (.ref f_l_below)))
    (l_l_below : K.lookup f_l_below = some ⟨oc_l_below, od_l_below, .func (PySem.W.fnOf "_law_below" "_law_below" (defArgs s_l_below) (defBody s_l_below) (defScope s_l_below) .none kV_l_below dc_l_below pm_l_below an_l_below cd_l_below ct_l_below), sl_l_below⟩)
    (c_l_below : PySem.W.codeIn K cd_l_below "_law_below" = true) (k_l_below : PySem.W.keepIn K (.ref f_l_below) = true)
    {f_l_all : Addr} {od_l_all an_l_all : Option Addr} {sl_l_all : Array (Option Value)} {oc_l_all kV_l_all dc_l_all pm_l_all cd_l_all ct_l_all : Value}
    (a_l_all : PySem.W.nsIn K mainGlobals "_law_all" = some (some (.ref f_l_all)))
    (l_l_all : K.lookup f_l_all = some ⟨oc_l_all, od_l_all, .func (PySem.W.fnOf "_law_all" "_law_all" (defArgs s_l_all) (defBody s_l_all) (defScope s_l_all) .none kV_l_all dc_l_all pm_l_all an_l_all cd_l_all ct_l_all), sl_l_all⟩)
    (c_l_all : PySem.W.codeIn K cd_l_all "_law_all" = true) (k_l_all : PySem.W.keepIn K (.ref f_l_all) = true)
    {f_l_every : Addr} {od_l_every an_l_every : Option Addr} {sl_l_every : Array (Option Value)} {oc_l_every kV_l_every dc_l_every pm_l_every cd_l_every ct_l_every : Value}
    (a_l_every : PySem.W.nsIn K mainGlobals "_law_every" = some (some (.ref f_l_every)))
    (l_l_every : K.lookup f_l_every = some ⟨oc_l_every, od_l_every, .func (PySem.W.fnOf "_law_every" "_law_every" (defArgs s_l_every) (defBody s_l_every) (defScope s_l_every) .none kV_l_every dc_l_every pm_l_every an_l_every cd_l_every ct_l_every), sl_l_every⟩)
    (c_l_every : PySem.W.codeIn K cd_l_every "_law_every" = true) (k_l_every : PySem.W.keepIn K (.ref f_l_every) = true)
    {f_l_leaves : Addr} {od_l_leaves an_l_leaves : Option Addr} {sl_l_leaves : Array (Option Value)} {oc_l_leaves kV_l_leaves dc_l_leaves pm_l_leaves cd_l_leaves ct_l_leaves : Value}
    (a_l_leaves : PySem.W.nsIn K mainGlobals "_law_leaves" = some (some (.ref f_l_leaves)))
    (l_l_leaves : K.lookup f_l_leaves = some ⟨oc_l_leaves, od_l_leaves, .func (PySem.W.fnOf "_law_leaves" "_law_leaves" (defArgs s_l_leaves) (defBody s_l_leaves) (defScope s_l_leaves) .none kV_l_leaves dc_l_leaves pm_l_leaves an_l_leaves cd_l_leaves ct_l_leaves), sl_l_leaves⟩)
    (c_l_leaves : PySem.W.codeIn K cd_l_leaves "_law_leaves" = true) (k_l_leaves : PySem.W.keepIn K (.ref f_l_leaves) = true)
    {f_l_widened : Addr} {od_l_widened an_l_widened : Option Addr} {sl_l_widened : Array (Option Value)} {oc_l_widened kV_l_widened dc_l_widened pm_l_widened cd_l_widened ct_l_widened : Value}
    (a_l_widened : PySem.W.nsIn K mainGlobals "_law_widened" = some (some (.ref f_l_widened)))
    (l_l_widened : K.lookup f_l_widened = some ⟨oc_l_widened, od_l_widened, .func (PySem.W.fnOf "_law_widened" "_law_widened" (defArgs s_l_widened) (defBody s_l_widened) (defScope s_l_widened) .none kV_l_widened dc_l_widened pm_l_widened an_l_widened cd_l_widened ct_l_widened), sl_l_widened⟩)
    (c_l_widened : PySem.W.codeIn K cd_l_widened "_law_widened" = true) (k_l_widened : PySem.W.keepIn K (.ref f_l_widened) = true)
    {f_l_right : Addr} {od_l_right an_l_right : Option Addr} {sl_l_right : Array (Option Value)} {oc_l_right kV_l_right dc_l_right pm_l_right cd_l_right ct_l_right : Value}
    (a_l_right : PySem.W.nsIn K mainGlobals "_law_right" = some (some (.ref f_l_right)))
    (l_l_right : K.lookup f_l_right = some ⟨oc_l_right, od_l_right, .func (PySem.W.fnOf "_law_right" "_law_right" (defArgs s_l_right) (defBody s_l_right) (defScope s_l_right) .none kV_l_right dc_l_right pm_l_right an_l_right cd_l_right ct_l_right), sl_l_right⟩)
    (c_l_right : PySem.W.codeIn K cd_l_right "_law_right" = true) (k_l_right : PySem.W.keepIn K (.ref f_l_right) = true)
    {f_law : Addr} {od_law an_law : Option Addr} {sl_law : Array (Option Value)} {oc_law kV_law dc_law pm_law cd_law ct_law : Value}
    (a_law : PySem.W.nsIn K mainGlobals "law" = some (some (.ref f_law)))
    (l_law : K.lookup f_law = some ⟨oc_law, od_law, .func (PySem.W.fnOf "law" "law" (defArgs s_law) (defBody s_law) (defScope s_law) .none kV_law dc_law pm_law an_law cd_law ct_law), sl_law⟩)
    (c_law : PySem.W.codeIn K cd_law "law" = true) (k_law : PySem.W.keepIn K (.ref f_law) = true)
    (z_len : PySem.W.nsIn K mainGlobals "len" = some none)
    (z_list : PySem.W.nsIn K mainGlobals "list" = some none)
    (z_tuple : PySem.W.nsIn K mainGlobals "tuple" = some none)
    (z_range : PySem.W.nsIn K mainGlobals "range" = some none)
    (z_repr : PySem.W.nsIn K mainGlobals "repr" = some none)
    (z_sorted : PySem.W.nsIn K mainGlobals "sorted" = some none)
    (z_enumerate : PySem.W.nsIn K mainGlobals "enumerate" = some none)
    {t_WHERE : Tok} (n_WHERE : PySem.W.nsIn K mainGlobals "WHERE" = some (some (.int 1 t_WHERE)))
    {t_TOLD : Tok} (n_TOLD : PySem.W.nsIn K mainGlobals "TOLD" = some (some (.int 2 t_TOLD)))
    {kt2 : Tok}
    {kt3 : Tok}
    {kt4 : Tok}
    {ka1 : Addr} {ka1o : Option Addr} {ka1n : Nat} {ka1s : Array (Option Value)}
    {d_SUB_PLACES : Addr} {es_SUB_PLACES : Array DictEntry} {dn_SUB_PLACES : Nat}
    {ka5 : Addr} {ka5o : Option Addr} {ka5n : Nat} {ka5s : Array (Option Value)}
    {ka6 : Addr} {ka6o : Option Addr} {ka6n : Nat} {ka6s : Array (Option Value)}
    {kt9 : Tok}
    {ka8 : Addr} {ka8o : Option Addr} {ka8n : Nat} {ka8s : Array (Option Value)}
    {ka7 : Addr} {ka7o : Option Addr} {ka7n : Nat} {ka7s : Array (Option Value)}
    {kt12 : Tok}
    {ka11 : Addr} {ka11o : Option Addr} {ka11n : Nat} {ka11s : Array (Option Value)}
    {kt14 : Tok}
    {ka13 : Addr} {ka13o : Option Addr} {ka13n : Nat} {ka13s : Array (Option Value)}
    {ka10 : Addr} {ka10o : Option Addr} {ka10n : Nat} {ka10s : Array (Option Value)}
    {kt17 : Tok}
    {ka16 : Addr} {ka16o : Option Addr} {ka16n : Nat} {ka16s : Array (Option Value)}
    {kt19 : Tok}
    {ka18 : Addr} {ka18o : Option Addr} {ka18n : Nat} {ka18s : Array (Option Value)}
    {ka15 : Addr} {ka15o : Option Addr} {ka15n : Nat} {ka15s : Array (Option Value)}
    {kt22 : Tok}
    {ka21 : Addr} {ka21o : Option Addr} {ka21n : Nat} {ka21s : Array (Option Value)}
    {kt24 : Tok}
    {ka23 : Addr} {ka23o : Option Addr} {ka23n : Nat} {ka23s : Array (Option Value)}
    {ka20 : Addr} {ka20o : Option Addr} {ka20n : Nat} {ka20s : Array (Option Value)}
    {kt27 : Tok}
    {ka26 : Addr} {ka26o : Option Addr} {ka26n : Nat} {ka26s : Array (Option Value)}
    {ka25 : Addr} {ka25o : Option Addr} {ka25n : Nat} {ka25s : Array (Option Value)}
    {kt30 : Tok}
    {ka29 : Addr} {ka29o : Option Addr} {ka29n : Nat} {ka29s : Array (Option Value)}
    {ka28 : Addr} {ka28o : Option Addr} {ka28n : Nat} {ka28s : Array (Option Value)}
    {kt33 : Tok}
    {ka32 : Addr} {ka32o : Option Addr} {ka32n : Nat} {ka32s : Array (Option Value)}
    {kt35 : Tok}
    {ka34 : Addr} {ka34o : Option Addr} {ka34n : Nat} {ka34s : Array (Option Value)}
    {ka31 : Addr} {ka31o : Option Addr} {ka31n : Nat} {ka31s : Array (Option Value)}
    {kt38 : Tok}
    {ka37 : Addr} {ka37o : Option Addr} {ka37n : Nat} {ka37s : Array (Option Value)}
    {kt40 : Tok}
    {ka39 : Addr} {ka39o : Option Addr} {ka39n : Nat} {ka39s : Array (Option Value)}
    {ka36 : Addr} {ka36o : Option Addr} {ka36n : Nat} {ka36s : Array (Option Value)}
    {kt43 : Tok}
    {kt44 : Tok}
    {ka42 : Addr} {ka42o : Option Addr} {ka42n : Nat} {ka42s : Array (Option Value)}
    {ka41 : Addr} {ka41o : Option Addr} {ka41n : Nat} {ka41s : Array (Option Value)}
    {kt47 : Tok}
    {kt48 : Tok}
    {ka46 : Addr} {ka46o : Option Addr} {ka46n : Nat} {ka46s : Array (Option Value)}
    {kt50 : Tok}
    {ka49 : Addr} {ka49o : Option Addr} {ka49n : Nat} {ka49s : Array (Option Value)}
    {ka45 : Addr} {ka45o : Option Addr} {ka45n : Nat} {ka45s : Array (Option Value)}
    {kt53 : Tok}
    {kt54 : Tok}
    {ka52 : Addr} {ka52o : Option Addr} {ka52n : Nat} {ka52s : Array (Option Value)}
    {kt56 : Tok}
    {ka55 : Addr} {ka55o : Option Addr} {ka55n : Nat} {ka55s : Array (Option Value)}
    {ka51 : Addr} {ka51o : Option Addr} {ka51n : Nat} {ka51s : Array (Option Value)}
    (a_JOINING : PySem.W.nsIn K mainGlobals "JOINING" = some (some (.ref ka1)))
    (lka1 : K.lookup ka1 = some ⟨.type "tuple", ka1o, .seq ([(.str "not" kt2), (.str "and" kt3), (.str "or" kt4)] : List Value).toArray ka1n, ka1s⟩)
    (a_SUB_PLACES : PySem.W.nsIn K mainGlobals "SUB_PLACES" = some (some (.ref d_SUB_PLACES)))
    (ld_SUB_PLACES : K.lookup d_SUB_PLACES = some ⟨.type "dict", none, .dict es_SUB_PLACES dn_SUB_PLACES, #[]⟩)
    (lit_SUB_PLACES : PySem.W.KeysLit w.params es_SUB_PLACES.toList)
    (e_SUB_PLACES_0 : PySem.W.nsIn K d_SUB_PLACES "column" = some (some (.ref ka5)))
    (lka5 : K.lookup ka5 = some ⟨.type "tuple", ka5o, .seq ([] : List Value).toArray ka5n, ka5s⟩)
    (e_SUB_PLACES_1 : PySem.W.nsIn K d_SUB_PLACES "value" = some (some (.ref ka6)))
    (lka6 : K.lookup ka6 = some ⟨.type "tuple", ka6o, .seq ([] : List Value).toArray ka6n, ka6s⟩)
    (e_SUB_PLACES_2 : PySem.W.nsIn K d_SUB_PLACES "plus" = some (some (.ref ka7)))
    (lka7 : K.lookup ka7 = some ⟨.type "tuple", ka7o, .seq ([(.ref ka8)] : List Value).toArray ka7n, ka7s⟩)
    (lka8 : K.lookup ka8 = some ⟨.type "tuple", ka8o, .seq ([(.int (1) kt9)] : List Value).toArray ka8n, ka8s⟩)
    (e_SUB_PLACES_3 : PySem.W.nsIn K d_SUB_PLACES "less" = some (some (.ref ka10)))
    (lka10 : K.lookup ka10 = some ⟨.type "tuple", ka10o, .seq ([(.ref ka11), (.ref ka13)] : List Value).toArray ka10n, ka10s⟩)
    (lka11 : K.lookup ka11 = some ⟨.type "tuple", ka11o, .seq ([(.int (1) kt12)] : List Value).toArray ka11n, ka11s⟩)
    (lka13 : K.lookup ka13 = some ⟨.type "tuple", ka13o, .seq ([(.int (2) kt14)] : List Value).toArray ka13n, ka13s⟩)
    (e_SUB_PLACES_4 : PySem.W.nsIn K d_SUB_PLACES "most" = some (some (.ref ka15)))
    (lka15 : K.lookup ka15 = some ⟨.type "tuple", ka15o, .seq ([(.ref ka16), (.ref ka18)] : List Value).toArray ka15n, ka15s⟩)
    (lka16 : K.lookup ka16 = some ⟨.type "tuple", ka16o, .seq ([(.int (1) kt17)] : List Value).toArray ka16n, ka16s⟩)
    (lka18 : K.lookup ka18 = some ⟨.type "tuple", ka18o, .seq ([(.int (2) kt19)] : List Value).toArray ka18n, ka18s⟩)
    (e_SUB_PLACES_5 : PySem.W.nsIn K d_SUB_PLACES "same" = some (some (.ref ka20)))
    (lka20 : K.lookup ka20 = some ⟨.type "tuple", ka20o, .seq ([(.ref ka21), (.ref ka23)] : List Value).toArray ka20n, ka20s⟩)
    (lka21 : K.lookup ka21 = some ⟨.type "tuple", ka21o, .seq ([(.int (1) kt22)] : List Value).toArray ka21n, ka21s⟩)
    (lka23 : K.lookup ka23 = some ⟨.type "tuple", ka23o, .seq ([(.int (2) kt24)] : List Value).toArray ka23n, ka23s⟩)
    (e_SUB_PLACES_6 : PySem.W.nsIn K d_SUB_PLACES "is" = some (some (.ref ka25)))
    (lka25 : K.lookup ka25 = some ⟨.type "tuple", ka25o, .seq ([(.ref ka26)] : List Value).toArray ka25n, ka25s⟩)
    (lka26 : K.lookup ka26 = some ⟨.type "tuple", ka26o, .seq ([(.int (1) kt27)] : List Value).toArray ka26n, ka26s⟩)
    (e_SUB_PLACES_7 : PySem.W.nsIn K d_SUB_PLACES "not" = some (some (.ref ka28)))
    (lka28 : K.lookup ka28 = some ⟨.type "tuple", ka28o, .seq ([(.ref ka29)] : List Value).toArray ka28n, ka28s⟩)
    (lka29 : K.lookup ka29 = some ⟨.type "tuple", ka29o, .seq ([(.int (1) kt30)] : List Value).toArray ka29n, ka29s⟩)
    (e_SUB_PLACES_8 : PySem.W.nsIn K d_SUB_PLACES "and" = some (some (.ref ka31)))
    (lka31 : K.lookup ka31 = some ⟨.type "tuple", ka31o, .seq ([(.ref ka32), (.ref ka34)] : List Value).toArray ka31n, ka31s⟩)
    (lka32 : K.lookup ka32 = some ⟨.type "tuple", ka32o, .seq ([(.int (1) kt33)] : List Value).toArray ka32n, ka32s⟩)
    (lka34 : K.lookup ka34 = some ⟨.type "tuple", ka34o, .seq ([(.int (2) kt35)] : List Value).toArray ka34n, ka34s⟩)
    (e_SUB_PLACES_9 : PySem.W.nsIn K d_SUB_PLACES "or" = some (some (.ref ka36)))
    (lka36 : K.lookup ka36 = some ⟨.type "tuple", ka36o, .seq ([(.ref ka37), (.ref ka39)] : List Value).toArray ka36n, ka36s⟩)
    (lka37 : K.lookup ka37 = some ⟨.type "tuple", ka37o, .seq ([(.int (1) kt38)] : List Value).toArray ka37n, ka37s⟩)
    (lka39 : K.lookup ka39 = some ⟨.type "tuple", ka39o, .seq ([(.int (2) kt40)] : List Value).toArray ka39n, ka39s⟩)
    (e_SUB_PLACES_10 : PySem.W.nsIn K d_SUB_PLACES "exists" = some (some (.ref ka41)))
    (lka41 : K.lookup ka41 = some ⟨.type "tuple", ka41o, .seq ([(.ref ka42)] : List Value).toArray ka41n, ka41s⟩)
    (lka42 : K.lookup ka42 = some ⟨.type "tuple", ka42o, .seq ([(.int (1) kt43), (.int (1) kt44)] : List Value).toArray ka42n, ka42s⟩)
    (e_SUB_PLACES_11 : PySem.W.nsIn K d_SUB_PLACES "only" = some (some (.ref ka45)))
    (lka45 : K.lookup ka45 = some ⟨.type "tuple", ka45o, .seq ([(.ref ka46), (.ref ka49)] : List Value).toArray ka45n, ka45s⟩)
    (lka46 : K.lookup ka46 = some ⟨.type "tuple", ka46o, .seq ([(.int (1) kt47), (.int (1) kt48)] : List Value).toArray ka46n, ka46s⟩)
    (lka49 : K.lookup ka49 = some ⟨.type "tuple", ka49o, .seq ([(.int (2) kt50)] : List Value).toArray ka49n, ka49s⟩)
    (e_SUB_PLACES_12 : PySem.W.nsIn K d_SUB_PLACES "first" = some (some (.ref ka51)))
    (lka51 : K.lookup ka51 = some ⟨.type "tuple", ka51o, .seq ([(.ref ka52), (.ref ka55)] : List Value).toArray ka51n, ka51s⟩)
    (lka52 : K.lookup ka52 = some ⟨.type "tuple", ka52o, .seq ([(.int (1) kt53), (.int (1) kt54)] : List Value).toArray ka52n, ka52s⟩)
    (lka55 : K.lookup ka55 = some ⟨.type "tuple", ka55o, .seq ([(.int (2) kt56)] : List Value).toArray ka55n, ka55s⟩)
    : ∃ fd : FuncData, (∀ (s : Shared) (u : Value), BindsTo s fd ⟨[u], []⟩ [("script", u)]) ∧ ∀ base : Heap, K.In base → base.Ns mainGlobals mg → SysAt base → FnD P w K mg base 14 fa fd ["script"] spLaw := by
  have e := hfa.symm.trans (PySem.W.mg_of X G a_law)
  cases e
  have F_part_at := fun_mk (st := s_part_at) l_part_at c_part_at k_part_at
  have F_straight_parts := fun_mk (st := s_straight_parts) l_straight_parts c_straight_parts k_straight_parts
  have F_all_parts := fun_mk (st := s_all_parts) l_all_parts c_all_parts k_all_parts
  have F_columns_in := fun_mk (st := s_columns_in) l_columns_in c_columns_in k_columns_in
  have F_leaves_of := fun_mk (st := s_leaves_of) l_leaves_of c_leaves_of k_leaves_of
  have F_main_parts := fun_mk (st := s_main_parts) l_main_parts c_main_parts k_main_parts
  have F_named := fun_mk (st := s_named) l_named c_named k_named
  have F_l_deck := fun_mk (st := s_l_deck) l_l_deck c_l_deck k_l_deck
  have F_l_draw := fun_mk (st := s_l_draw) l_l_draw c_l_draw k_l_draw
  have F_l_pick := fun_mk (st := s_l_pick) l_l_pick c_l_pick k_l_pick
  have F_l_names := fun_mk (st := s_l_names) l_l_names c_l_names k_l_names
  have F_l_schema := fun_mk (st := s_l_schema) l_l_schema c_l_schema k_l_schema
  have F_l_any_value := fun_mk (st := s_l_any_value) l_l_any_value c_l_any_value k_l_any_value
  have F_l_column := fun_mk (st := s_l_column) l_l_column c_l_column k_l_column
  have F_l_some_term := fun_mk (st := s_l_some_term) l_l_some_term c_l_some_term k_l_some_term
  have F_l_some_leaf := fun_mk (st := s_l_some_leaf) l_l_some_leaf c_l_some_leaf k_l_some_leaf
  have F_l_inner := fun_mk (st := s_l_inner) l_l_inner c_l_inner k_l_inner
  have F_l_condition := fun_mk (st := s_l_condition) l_l_condition c_l_condition k_l_condition
  have F_l_drawn := fun_mk (st := s_l_drawn) l_l_drawn c_l_drawn k_l_drawn
  have F_l_below := fun_mk (st := s_l_below) l_l_below c_l_below k_l_below
  have F_l_all := fun_mk (st := s_l_all) l_l_all c_l_all k_l_all
  have F_l_every := fun_mk (st := s_l_every) l_l_every c_l_every k_l_every
  have F_l_leaves := fun_mk (st := s_l_leaves) l_l_leaves c_l_leaves k_l_leaves
  have F_l_widened := fun_mk (st := s_l_widened) l_l_widened c_l_widened k_l_widened
  have F_l_right := fun_mk (st := s_l_right) l_l_right c_l_right k_l_right
  have F_law := fun_mk (st := s_law) l_law c_law k_law
  let E : Fns K w mg := { f_part_at := f_part_at, fd_part_at := _, F_part_at := F_part_at, g_part_at := PySem.W.mg_of X G a_part_at, f_straight_parts := f_straight_parts, fd_straight_parts := _, F_straight_parts := F_straight_parts, g_straight_parts := PySem.W.mg_of X G a_straight_parts, f_all_parts := f_all_parts, fd_all_parts := _, F_all_parts := F_all_parts, g_all_parts := PySem.W.mg_of X G a_all_parts, f_columns_in := f_columns_in, fd_columns_in := _, F_columns_in := F_columns_in, g_columns_in := PySem.W.mg_of X G a_columns_in, f_leaves_of := f_leaves_of, fd_leaves_of := _, F_leaves_of := F_leaves_of, g_leaves_of := PySem.W.mg_of X G a_leaves_of, f_main_parts := f_main_parts, fd_main_parts := _, F_main_parts := F_main_parts, g_main_parts := PySem.W.mg_of X G a_main_parts, f_named := f_named, fd_named := _, F_named := F_named, g_named := PySem.W.mg_of X G a_named, f_l_deck := f_l_deck, fd_l_deck := _, F_l_deck := F_l_deck, g_l_deck := PySem.W.mg_of X G a_l_deck, f_l_draw := f_l_draw, fd_l_draw := _, F_l_draw := F_l_draw, g_l_draw := PySem.W.mg_of X G a_l_draw, f_l_pick := f_l_pick, fd_l_pick := _, F_l_pick := F_l_pick, g_l_pick := PySem.W.mg_of X G a_l_pick, f_l_names := f_l_names, fd_l_names := _, F_l_names := F_l_names, g_l_names := PySem.W.mg_of X G a_l_names, f_l_schema := f_l_schema, fd_l_schema := _, F_l_schema := F_l_schema, g_l_schema := PySem.W.mg_of X G a_l_schema, f_l_any_value := f_l_any_value, fd_l_any_value := _, F_l_any_value := F_l_any_value, g_l_any_value := PySem.W.mg_of X G a_l_any_value, f_l_column := f_l_column, fd_l_column := _, F_l_column := F_l_column, g_l_column := PySem.W.mg_of X G a_l_column, f_l_some_term := f_l_some_term, fd_l_some_term := _, F_l_some_term := F_l_some_term, g_l_some_term := PySem.W.mg_of X G a_l_some_term, f_l_some_leaf := f_l_some_leaf, fd_l_some_leaf := _, F_l_some_leaf := F_l_some_leaf, g_l_some_leaf := PySem.W.mg_of X G a_l_some_leaf, f_l_inner := f_l_inner, fd_l_inner := _, F_l_inner := F_l_inner, g_l_inner := PySem.W.mg_of X G a_l_inner, f_l_condition := f_l_condition, fd_l_condition := _, F_l_condition := F_l_condition, g_l_condition := PySem.W.mg_of X G a_l_condition, f_l_drawn := f_l_drawn, fd_l_drawn := _, F_l_drawn := F_l_drawn, g_l_drawn := PySem.W.mg_of X G a_l_drawn, f_l_below := f_l_below, fd_l_below := _, F_l_below := F_l_below, g_l_below := PySem.W.mg_of X G a_l_below, f_l_all := f_l_all, fd_l_all := _, F_l_all := F_l_all, g_l_all := PySem.W.mg_of X G a_l_all, f_l_every := f_l_every, fd_l_every := _, F_l_every := F_l_every, g_l_every := PySem.W.mg_of X G a_l_every, f_l_leaves := f_l_leaves, fd_l_leaves := _, F_l_leaves := F_l_leaves, g_l_leaves := PySem.W.mg_of X G a_l_leaves, f_l_widened := f_l_widened, fd_l_widened := _, F_l_widened := F_l_widened, g_l_widened := PySem.W.mg_of X G a_l_widened, f_l_right := f_l_right, fd_l_right := _, F_l_right := F_l_right, g_l_right := PySem.W.mg_of X G a_l_right, f_law := fa, fd_law := _, F_law := F_law, g_law := PySem.W.mg_of X G a_law, m_len := PySem.W.mg_none_of X G z_len, m_list := PySem.W.mg_none_of X G z_list, m_tuple := PySem.W.mg_none_of X G z_tuple, m_range := PySem.W.mg_none_of X G z_range, m_repr := PySem.W.mg_none_of X G z_repr, m_sorted := PySem.W.mg_none_of X G z_sorted, m_enumerate := PySem.W.mg_none_of X G z_enumerate, c_WHERE := ⟨_, PySem.W.mg_of X G n_WHERE, ⟨_, rfl⟩⟩, c_TOLD := ⟨_, PySem.W.mg_of X G n_TOLD, ⟨_, rfl⟩⟩, v_JOINING := gv_of (PySem.W.mg_of X G a_JOINING) (kv_tup lka1 (show 3 ≤ sizeLine by decide) (kvs_cons (kv_str "not" kt2) (kvs_cons (kv_str "and" kt3) (kvs_cons (kv_str "or" kt4) kvs_nil)))), k_SUB_PLACES := ⟨d_SUB_PLACES, PySem.W.mg_of X G a_SUB_PLACES, (ktab_cons ld_SUB_PLACES lit_SUB_PLACES e_SUB_PLACES_0 (kv_tup lka5 (show 0 ≤ sizeLine by decide) kvs_nil) (ktab_cons ld_SUB_PLACES lit_SUB_PLACES e_SUB_PLACES_1 (kv_tup lka6 (show 0 ≤ sizeLine by decide) kvs_nil) (ktab_cons ld_SUB_PLACES lit_SUB_PLACES e_SUB_PLACES_2 (kv_tup lka7 (show 1 ≤ sizeLine by decide) (kvs_cons (kv_tup lka8 (show 1 ≤ sizeLine by decide) (kvs_cons (kv_int (1) kt9) kvs_nil)) kvs_nil)) (ktab_cons ld_SUB_PLACES lit_SUB_PLACES e_SUB_PLACES_3 (kv_tup lka10 (show 2 ≤ sizeLine by decide) (kvs_cons (kv_tup lka11 (show 1 ≤ sizeLine by decide) (kvs_cons (kv_int (1) kt12) kvs_nil)) (kvs_cons (kv_tup lka13 (show 1 ≤ sizeLine by decide) (kvs_cons (kv_int (2) kt14) kvs_nil)) kvs_nil))) (ktab_cons ld_SUB_PLACES lit_SUB_PLACES e_SUB_PLACES_4 (kv_tup lka15 (show 2 ≤ sizeLine by decide) (kvs_cons (kv_tup lka16 (show 1 ≤ sizeLine by decide) (kvs_cons (kv_int (1) kt17) kvs_nil)) (kvs_cons (kv_tup lka18 (show 1 ≤ sizeLine by decide) (kvs_cons (kv_int (2) kt19) kvs_nil)) kvs_nil))) (ktab_cons ld_SUB_PLACES lit_SUB_PLACES e_SUB_PLACES_5 (kv_tup lka20 (show 2 ≤ sizeLine by decide) (kvs_cons (kv_tup lka21 (show 1 ≤ sizeLine by decide) (kvs_cons (kv_int (1) kt22) kvs_nil)) (kvs_cons (kv_tup lka23 (show 1 ≤ sizeLine by decide) (kvs_cons (kv_int (2) kt24) kvs_nil)) kvs_nil))) (ktab_cons ld_SUB_PLACES lit_SUB_PLACES e_SUB_PLACES_6 (kv_tup lka25 (show 1 ≤ sizeLine by decide) (kvs_cons (kv_tup lka26 (show 1 ≤ sizeLine by decide) (kvs_cons (kv_int (1) kt27) kvs_nil)) kvs_nil)) (ktab_cons ld_SUB_PLACES lit_SUB_PLACES e_SUB_PLACES_7 (kv_tup lka28 (show 1 ≤ sizeLine by decide) (kvs_cons (kv_tup lka29 (show 1 ≤ sizeLine by decide) (kvs_cons (kv_int (1) kt30) kvs_nil)) kvs_nil)) (ktab_cons ld_SUB_PLACES lit_SUB_PLACES e_SUB_PLACES_8 (kv_tup lka31 (show 2 ≤ sizeLine by decide) (kvs_cons (kv_tup lka32 (show 1 ≤ sizeLine by decide) (kvs_cons (kv_int (1) kt33) kvs_nil)) (kvs_cons (kv_tup lka34 (show 1 ≤ sizeLine by decide) (kvs_cons (kv_int (2) kt35) kvs_nil)) kvs_nil))) (ktab_cons ld_SUB_PLACES lit_SUB_PLACES e_SUB_PLACES_9 (kv_tup lka36 (show 2 ≤ sizeLine by decide) (kvs_cons (kv_tup lka37 (show 1 ≤ sizeLine by decide) (kvs_cons (kv_int (1) kt38) kvs_nil)) (kvs_cons (kv_tup lka39 (show 1 ≤ sizeLine by decide) (kvs_cons (kv_int (2) kt40) kvs_nil)) kvs_nil))) (ktab_cons ld_SUB_PLACES lit_SUB_PLACES e_SUB_PLACES_10 (kv_tup lka41 (show 1 ≤ sizeLine by decide) (kvs_cons (kv_tup lka42 (show 2 ≤ sizeLine by decide) (kvs_cons (kv_int (1) kt43) (kvs_cons (kv_int (1) kt44) kvs_nil))) kvs_nil)) (ktab_cons ld_SUB_PLACES lit_SUB_PLACES e_SUB_PLACES_11 (kv_tup lka45 (show 2 ≤ sizeLine by decide) (kvs_cons (kv_tup lka46 (show 2 ≤ sizeLine by decide) (kvs_cons (kv_int (1) kt47) (kvs_cons (kv_int (1) kt48) kvs_nil))) (kvs_cons (kv_tup lka49 (show 1 ≤ sizeLine by decide) (kvs_cons (kv_int (2) kt50) kvs_nil)) kvs_nil))) (ktab_cons ld_SUB_PLACES lit_SUB_PLACES e_SUB_PLACES_12 (kv_tup lka51 (show 2 ≤ sizeLine by decide) (kvs_cons (kv_tup lka52 (show 2 ≤ sizeLine by decide) (kvs_cons (kv_int (1) kt53) (kvs_cons (kv_int (1) kt54) kvs_nil))) (kvs_cons (kv_tup lka55 (show 1 ≤ sizeLine by decide) (kvs_cons (kv_int (2) kt56) kvs_nil)) kvs_nil))) ktab_nil)))))))))))))⟩ }
  refine ⟨E.fd_law, fun s v => .of_eq rfl, fun base _ _ hsy => ?_⟩
  have G_part := ok_part_at (P := P) (w := w) (base := base) E
  have G_straight := ok_straight_parts E G_part
  have G_allp := ok_all_parts E G_straight
  have G_lv := ok_leaves_of E G_straight
  have G_cols := ok_columns_in E G_allp
  have G_main := ok_main_parts E G_lv
  have G_named := ok_named E G_part G_cols
  have G_draw := ok_l_draw (P := P) (w := w) (base := base) E
  have G_deck := ok_l_deck (P := P) (w := w) (base := base) E
  have G_pick := ok_l_pick E G_draw
  have G_names := ok_l_names E G_draw
  have G_any := ok_l_any_value E G_pick
  have G_col := ok_l_column E G_pick
  have T0 := ok_l_some_term (d := 0) E G_draw G_pick G_col G_any fnd_no
  have T1 := ok_l_some_term (d := 1) E G_draw G_pick G_col G_any T0
  have T2 := ok_l_some_term (d := 2) E G_draw G_pick G_col G_any T1
  have T3 := ok_l_some_term (d := 3) E G_draw G_pick G_col G_any T2
  have LF := ok_l_some_leaf (d := 1) E (by decide) G_pick T1
  have LF2 := ok_l_some_leaf (d := 2) E (by decide) G_pick T2
  have IN := ok_l_inner E G_draw G_pick LF
  have C0 := ok_l_condition (d := 0) E G_draw G_pick G_col LF IN fnd_no
  have C1 := ok_l_condition (d := 1) E G_draw G_pick G_col LF IN C0
  have C2 := ok_l_condition (d := 2) E G_draw G_pick G_col LF IN C1
  have G_drawn := ok_l_drawn E G_draw G_pick G_col T1 C2
  have G_schema := ok_l_schema E hsy G_draw G_pick
  have G_wid := ok_l_widened E G_draw G_pick G_col LF2 T3
  have BL := ok_l_below (P := P) (w := w) (base := base) E
  have A0 := ok_l_all (n := 0) E BL fnd_no
  have A1 := ok_l_all (n := 1) E BL A0
  have A2 := ok_l_all (n := 2) E BL A1
  have A3 := ok_l_all (n := 3) E BL A2
  have A4 := ok_l_all (n := 4) E BL A3
  have A5 := ok_l_all (n := 5) E BL A4
  have A6 := ok_l_all (n := 6) E BL A5
  have A7 := ok_l_all (n := 7) E BL A6
  have A8 := ok_l_all (n := 8) E BL A7
  have L0 := ok_l_leaves (n := 0) (P := P) (w := w) (base := base) E fnd_no
  have L1 := ok_l_leaves (n := 1) E L0
  have L2 := ok_l_leaves (n := 2) E L1
  have L3 := ok_l_leaves (n := 3) E L2
  have L4 := ok_l_leaves (n := 4) E L3
  have L5 := ok_l_leaves (n := 5) E L4
  have L6 := ok_l_leaves (n := 6) E L5
  have L7 := ok_l_leaves (n := 7) E L6
  have L8 := ok_l_leaves (n := 8) E L7
  have EV8 := ok_l_every (n := 8) E (by decide) A8
  have G_right := ok_l_right E hsy G_part G_main G_named EV8 L8
  exact ok_law E hsy G_draw G_deck G_names G_schema G_drawn G_wid G_right
end K17

open PySem PySem.W PyProof.Rows
set_option maxRecDepth 100000 in
set_option maxHeartbeats 0 in
theorem PySem.Challenge.cw_failswhole_k17_places_and_main_parts_holds : PySem.Challenge.rw_failswhole_k17_places_and_main_parts.Holds := by
  w_on; o_law; k_head; (case hw => w_witness2)
  k_fill
  refine L3.walkD (l := PySem.Challenge.rw_failswhole_k17_places_and_main_parts) (n := 63) (k := 14) (x := "script") (sp := K17.spLaw) rfl (by decide) rfl ⟨rfl, by decide, by decide⟩ (by decide +kernel) (fun w h Y => PySem.W.kIn_of Y) ?F ?S
  case F =>
    intro w mg fa h KX G XP hmg
    refine' K17.all_mk (w := w) KX G hmg ?a_part_at ?l_part_at ?c_part_at ?k_part_at ?a_straight_parts ?l_straight_parts ?c_straight_parts ?k_straight_parts ?a_all_parts ?l_all_parts ?c_all_parts ?k_all_parts ?a_columns_in ?l_columns_in ?c_columns_in ?k_columns_in ?a_leaves_of ?l_leaves_of ?c_leaves_of ?k_leaves_of ?a_main_parts ?l_main_parts ?c_main_parts ?k_main_parts ?a_named ?l_named ?c_named ?k_named ?a_l_deck ?l_l_deck ?c_l_deck ?k_l_deck ?a_l_draw ?l_l_draw ?c_l_draw ?k_l_draw ?a_l_pick ?l_l_pick ?c_l_pick ?k_l_pick ?a_l_names ?l_l_names ?c_l_names ?k_l_names ?a_l_schema ?l_l_schema ?c_l_schema ?k_l_schema ?a_l_any_value ?l_l_any_value ?c_l_any_value ?k_l_any_value ?a_l_column ?l_l_column ?c_l_column ?k_l_column ?a_l_some_term ?l_l_some_term ?c_l_some_term ?k_l_some_term ?a_l_some_leaf ?l_l_some_leaf ?c_l_some_leaf ?k_l_some_leaf ?a_l_inner ?l_l_inner ?c_l_inner ?k_l_inner ?a_l_condition ?l_l_condition ?c_l_condition ?k_l_condition ?a_l_drawn ?l_l_drawn ?c_l_drawn ?k_l_drawn ?a_l_below ?l_l_below ?c_l_below ?k_l_below ?a_l_all ?l_l_all ?c_l_all ?k_l_all ?a_l_every ?l_l_every ?c_l_every ?k_l_every ?a_l_leaves ?l_l_leaves ?c_l_leaves ?k_l_leaves ?a_l_widened ?l_l_widened ?c_l_widened ?k_l_widened ?a_l_right ?l_l_right ?c_l_right ?k_l_right ?a_law ?l_law ?c_law ?k_law ?z_len ?z_list ?z_tuple ?z_range ?z_repr ?z_sorted ?z_enumerate ?n_WHERE ?n_TOLD ?a_JOINING ?lka1 ?a_SUB_PLACES ?ld_SUB_PLACES ?lit_SUB_PLACES ?e_SUB_PLACES_0 ?lka5 ?e_SUB_PLACES_1 ?lka6 ?e_SUB_PLACES_2 ?lka7 ?lka8 ?e_SUB_PLACES_3 ?lka10 ?lka11 ?lka13 ?e_SUB_PLACES_4 ?lka15 ?lka16 ?lka18 ?e_SUB_PLACES_5 ?lka20 ?lka21 ?lka23 ?e_SUB_PLACES_6 ?lka25 ?lka26 ?e_SUB_PLACES_7 ?lka28 ?lka29 ?e_SUB_PLACES_8 ?lka31 ?lka32 ?lka34 ?e_SUB_PLACES_9 ?lka36 ?lka37 ?lka39 ?e_SUB_PLACES_10 ?lka41 ?lka42 ?e_SUB_PLACES_11 ?lka45 ?lka46 ?lka49 ?e_SUB_PLACES_12 ?lka51 ?lka52 ?lka55
    (case a_part_at => k_is)
    (case l_part_at => k_is)
    (case c_part_at => k_is)
    (case k_part_at => k_is)
    (case a_straight_parts => k_is)
    (case l_straight_parts => k_is)
    (case c_straight_parts => k_is)
    (case k_straight_parts => k_is)
    (case a_all_parts => k_is)
    (case l_all_parts => k_is)
    (case c_all_parts => k_is)
    (case k_all_parts => k_is)
    (case a_columns_in => k_is)
    (case l_columns_in => k_is)
    (case c_columns_in => k_is)
    (case k_columns_in => k_is)
    (case a_leaves_of => k_is)
    (case l_leaves_of => k_is)
    (case c_leaves_of => k_is)
    (case k_leaves_of => k_is)
    (case a_main_parts => k_is)
    (case l_main_parts => k_is)
    (case c_main_parts => k_is)
    (case k_main_parts => k_is)
    (case a_named => k_is)
    (case l_named => k_is)
    (case c_named => k_is)
    (case k_named => k_is)
    (case a_l_deck => k_is)
    (case l_l_deck => k_is)
    (case c_l_deck => k_is)
    (case k_l_deck => k_is)
    (case a_l_draw => k_is)
    (case l_l_draw => k_is)
    (case c_l_draw => k_is)
    (case k_l_draw => k_is)
    (case a_l_pick => k_is)
    (case l_l_pick => k_is)
    (case c_l_pick => k_is)
    (case k_l_pick => k_is)
    (case a_l_names => k_is)
    (case l_l_names => k_is)
    (case c_l_names => k_is)
    (case k_l_names => k_is)
    (case a_l_schema => k_is)
    (case l_l_schema => k_is)
    (case c_l_schema => k_is)
    (case k_l_schema => k_is)
    (case a_l_any_value => k_is)
    (case l_l_any_value => k_is)
    (case c_l_any_value => k_is)
    (case k_l_any_value => k_is)
    (case a_l_column => k_is)
    (case l_l_column => k_is)
    (case c_l_column => k_is)
    (case k_l_column => k_is)
    (case a_l_some_term => k_is)
    (case l_l_some_term => k_is)
    (case c_l_some_term => k_is)
    (case k_l_some_term => k_is)
    (case a_l_some_leaf => k_is)
    (case l_l_some_leaf => k_is)
    (case c_l_some_leaf => k_is)
    (case k_l_some_leaf => k_is)
    (case a_l_inner => k_is)
    (case l_l_inner => k_is)
    (case c_l_inner => k_is)
    (case k_l_inner => k_is)
    (case a_l_condition => k_is)
    (case l_l_condition => k_is)
    (case c_l_condition => k_is)
    (case k_l_condition => k_is)
    (case a_l_drawn => k_is)
    (case l_l_drawn => k_is)
    (case c_l_drawn => k_is)
    (case k_l_drawn => k_is)
    (case a_l_below => k_is)
    (case l_l_below => k_is)
    (case c_l_below => k_is)
    (case k_l_below => k_is)
    (case a_l_all => k_is)
    (case l_l_all => k_is)
    (case c_l_all => k_is)
    (case k_l_all => k_is)
    (case a_l_every => k_is)
    (case l_l_every => k_is)
    (case c_l_every => k_is)
    (case k_l_every => k_is)
    (case a_l_leaves => k_is)
    (case l_l_leaves => k_is)
    (case c_l_leaves => k_is)
    (case k_l_leaves => k_is)
    (case a_l_widened => k_is)
    (case l_l_widened => k_is)
    (case c_l_widened => k_is)
    (case k_l_widened => k_is)
    (case a_l_right => k_is)
    (case l_l_right => k_is)
    (case c_l_right => k_is)
    (case k_l_right => k_is)
    (case a_law => k_is)
    (case l_law => k_is)
    (case c_law => k_is)
    (case k_law => k_is)
    (case z_len => k_is)
    (case z_list => k_is)
    (case z_tuple => k_is)
    (case z_range => k_is)
    (case z_repr => k_is)
    (case z_sorted => k_is)
    (case z_enumerate => k_is)
    (case n_WHERE => k_is)
    (case n_TOLD => k_is)
    (case a_JOINING => k_is)
    (case lka1 => k_is)
    (case a_SUB_PLACES => k_is)
    (case ld_SUB_PLACES => k_is)
    (case lit_SUB_PLACES => exact ⟨⟨_, _, rfl, rfl⟩, ⟨_, _, rfl, rfl⟩, ⟨_, _, rfl, rfl⟩, ⟨_, _, rfl, rfl⟩, ⟨_, _, rfl, rfl⟩, ⟨_, _, rfl, rfl⟩, ⟨_, _, rfl, rfl⟩, ⟨_, _, rfl, rfl⟩, ⟨_, _, rfl, rfl⟩, ⟨_, _, rfl, rfl⟩, ⟨_, _, rfl, rfl⟩, ⟨_, _, rfl, rfl⟩, ⟨_, _, rfl, rfl⟩, trivial⟩)
    (case e_SUB_PLACES_0 => k_is)
    (case lka5 => k_is)
    (case e_SUB_PLACES_1 => k_is)
    (case lka6 => k_is)
    (case e_SUB_PLACES_2 => k_is)
    (case lka7 => k_is)
    (case lka8 => k_is)
    (case e_SUB_PLACES_3 => k_is)
    (case lka10 => k_is)
    (case lka11 => k_is)
    (case lka13 => k_is)
    (case e_SUB_PLACES_4 => k_is)
    (case lka15 => k_is)
    (case lka16 => k_is)
    (case lka18 => k_is)
    (case e_SUB_PLACES_5 => k_is)
    (case lka20 => k_is)
    (case lka21 => k_is)
    (case lka23 => k_is)
    (case e_SUB_PLACES_6 => k_is)
    (case lka25 => k_is)
    (case lka26 => k_is)
    (case e_SUB_PLACES_7 => k_is)
    (case lka28 => k_is)
    (case lka29 => k_is)
    (case e_SUB_PLACES_8 => k_is)
    (case lka31 => k_is)
    (case lka32 => k_is)
    (case lka34 => k_is)
    (case e_SUB_PLACES_9 => k_is)
    (case lka36 => k_is)
    (case lka37 => k_is)
    (case lka39 => k_is)
    (case e_SUB_PLACES_10 => k_is)
    (case lka41 => k_is)
    (case lka42 => k_is)
    (case e_SUB_PLACES_11 => k_is)
    (case lka45 => k_is)
    (case lka46 => k_is)
    (case lka49 => k_is)
    (case e_SUB_PLACES_12 => k_is)
    (case lka51 => k_is)
    (case lka52 => k_is)
    (case lka55 => k_is)
  case S =>
    exact K17.law_ok
#print axioms PySem.Challenge.cw_failswhole_k17_places_and_main_parts_holds
