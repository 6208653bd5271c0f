import PyProof.Rows.All
import Wide.All
import OpenK.AllK
import Wide.FinOn
import HandS.ForMost
import HandS.Wide
import HandS.TupAny
import HandS.IsInst
import HandS.Style
import HandS.Conv
import HandS.TupLe
import PyProof.StrLawsRepr
import PyProof.P3Eq
import PySem.Challenge.RW_failswhole_k01_values_and_kinds
set_option Elab.async false
set_option linter.all false
set_option maxRecDepth 100000
/-! L3A: promises of defs that also know that nothing is being shown (no repr guard runs), calls by position and by name, the law's end. -/
namespace L3
open PySem PySem.Spec PyProof.Rows L2

/-- a def keeps its promise wherever no guard runs -/
structure FnG (P : Program) (w : World) (K : PySem.W.Frag) (mg : Str → Option Value) (base : Heap) (CX : CXT) (k : Nat)
    (f : Addr) (fd : FuncData) (ps : List Str) (sp : Sp) : Prop where
  len : ∀ vs H Q E, sp vs H Q E → vs.length = ps.length
  run : ∀ (A : Around) (outer : List Env) (s : Shared) (H : Hp) (args : Args) (us : List Value) (vs : List V) (Q : VK) (E : XK),
    Room k A → A.guards = some [] → Env0 P w K mg base A outer s H → BindsTo s fd args (ps.zip us) → Vals vs us → sp vs H Q E →
    codeAny (model P w) A (.call (.ref f) args) (CR CX outer P w H s Q E) s

theorem FnG.mono {P : Program} {w : World} {K : PySem.W.Frag} {mg : Str → Option Value} {base : Heap} {CX : CXT} {j k : Nat} {f : Addr}
    {fd : FuncData} {ps : List Str} {sp : Sp} (F : FnG P w K mg base CX j f fd ps sp) (h : j ≤ k) : FnG P w K mg base CX k f fd ps sp :=
  ⟨F.len, fun A outer s H args us vs Q E hr => F.run A outer s H args us vs Q E (hr.mono h)⟩
theorem FnG.imp {P : Program} {w : World} {K : PySem.W.Frag} {mg : Str → Option Value} {base : Heap} {CX : CXT} {k : Nat} {f : Addr}
    {fd : FuncData} {ps : List Str} {sp sp' : Sp} (F : FnG P w K mg base CX k f fd ps sp) (h : ∀ vs H Q E, sp' vs H Q E → sp vs H Q E) :
    FnG P w K mg base CX k f fd ps sp' :=
  ⟨fun vs H Q E q => F.len vs H Q E (h _ _ _ _ q), fun A outer s H args us vs Q E hr hg he hb hv hs => F.run A outer s H args us vs Q E hr hg he hb hv (h _ _ _ _ hs)⟩

/-- a def's body keeps its promise -/
theorem okG {P : Program} {w : World} {K : PySem.W.Frag} {mg : Str → Option Value} {base : Heap} {CX : CXT} {x qual : Str} {st : Stmt} {f : Addr}
    {fd : FuncData} {N ps : List Str} {k : Nat} {sp : Sp} (F : Fun K x qual st f fd) (S : FnScope N ps (defScope st))
    (len : ∀ vs H Q E, sp vs H Q E → vs.length = ps.length)
    (hbody : ∀ (cdv : Value) (A : Around) (outer : List Env) (s : Shared) (H : Hp) (vs : List V) (Q : VK) (E : XK),
      Room k (A.deeper (envOfC qual (defScope st) s.heap.objs.size f cdv)) → A.guards = some [] → sp vs H Q E →
      ∃ t, PSs (cxOf CX P w K mg base N qual (defScope st) f cdv A outer s H E) (defBody st) t ∧
        t { nx := fun _ H' => Q .non H', rt := Q } (start N vs) H) : FnG P w K mg base CX (k + 1) f fd ps sp := by
  obtain ⟨oc, od, kV, doc, pm, an, cdv, ct, osl, rfl, lk, hcd⟩ := F.ex
  refine ⟨len, fun A outer s H args us vs Q E hr hgd e0 hb r hsp => ?_⟩
  have hl := len _ _ _ _ hsp
  have KX : K.In s.heap := e0.mod.kin.keeps (fun b o e => (e0.bs b o e).1)
  have lim : s.heap.NoLimit := e0.mod.nolimit.keeps (fun b o e => (e0.bs b o e).1)
  have hkind : ∀ y ∈ ps.zip us, (defScope st).names.lookup y.1 = some .local ∨ ((defScope st).names.lookup y.1 = some .cell ∧
      ((cellsFrom (s.heap.objs.size + 1) (defScope st).names []).lookup y.1).isSome = true) := by
    rintro ⟨n, v⟩ hy
    rcases S.par n (List.of_mem_zip hy).1 with q | q
    · exact Or.inl q
    · exact Or.inr ⟨q, PySem.W.cellsFrom_some _ _ _ (Or.inl q)⟩
  refine codeAny_call_function hr.depth (KX _ _ lk) rfl S.co S.gen rfl
    (PySem.W.codeRec_of KX hcd) (hb _ _ _ _ ?_)
  refine wpAny_newFunctionEnv_cells S.kind hkind ?_
  intro env he s1 x
  subst he
  refine ⟨lim.keeps x.toInCall.keep, codeAny_func ?_⟩
  obtain ⟨t, ht, hq⟩ := hbody cdv A outer s H vs Q E (hr.deeper _) hgd hsp
  have I := inv_start (P := P) (mg := mg) (cd := cdv) (f := f) (qual := qual) (CX := CX) (E := E) S hr.hd e0 hl r x
  refine wpAny_mono (ht.run [] s1 (start N vs) H _ I hq) ?_ (fun e s' hs => hs)
  intro fl s' hs
  cases fl with
  | ret u =>
    obtain ⟨v, σ', H', J, rv, q⟩ := hs
    exact ⟨v, H', J.os, J.bare, J.base, J.hok, rv, q⟩
  | next =>
    obtain ⟨σ', H', J, q⟩ := hs
    exact ⟨V.non, H', J.os, J.bare, J.base, J.hok, rfl, q⟩
  | brk => obtain ⟨_, _, _, q⟩ := hs; exact q.elim
  | cont => obtain ⟨_, _, _, q⟩ := hs; exact q.elim

section
variable {X : Cx} {CX : CXT} {k : Nat} {f : Addr} {fd : FuncData} {ps ks : List Str} {sp : Sp} {E : XK} {x : Str} {p pos : Pos} {es : List Expr} {kws : List Keyword} {t tk : TA}
  {g : List Value → List Value → List Value} {gV : List V → List V → List V}

/-- a callee runs: positional values us, keywords' values ws -/
theorem run_g {pins : List (Addr × Obj)} {σ : L2.St} {H : Hp} {s : Shared} {Q : VK} {us ws : List Value} {vs zs : List V}
    (F : FnG X.prog X.w X.K X.mg X.base CX k f fd ps sp) (hr : Room k X.A) (hgd : X.A.guards = some []) (hb : KBinds X.K fd ps ks g gV) (hx : Passes CX X E)
    (I : Inv X pins σ H s) (r : Vals vs us) (rz : Vals zs ws) (h : sp (gV vs zs) H Q E) :
    wpAny (model X.prog X.w) X.A (call (.ref f) us (ks.zip ws)) (EP X pins σ Q) X.xe s := by
  have r2 := hb.rel r rz
  have hl : (g us ws).length = ps.length := r2.length.symm.trans (F.len _ _ _ _ h)
  refine wpAny_call (codeAny_mono (F.run X.A X.stack s H ⟨us, ks.zip ws⟩ (g us ws) (gV vs zs) Q E hr hgd I.env0
    (hb.to s us ws I.kIn hl) r2 h) ?_)
  intro r s' hq
  match r, hq with
  | .error e, hq => exact hx pins σ H s e s' I hq
  | .ok (.ret u), hq => exact I.after hq
  | .ok .next, hq => exact hq.elim
  | .ok .brk, hq => exact hq.elim
  | .ok .cont, hq => exact hq.elim

/-- all positional, no keyword: the binding -/
theorem kb_pos {K : PySem.W.Frag} {ds : List Value} {dvs : List V} (hb : Binds K fd ps ds) (hd : Vals dvs ds) :
    KBinds K fd ps [] (fun us _ => us ++ ds) (fun vs _ => vs ++ dvs) :=
  ⟨fun s us ws h hl => hb s us h hl, fun r _ => r.append hd⟩

theorem zipnil {α β : Type} (l : List β) : List.zip ([] : List α) l = [] := rfl

/-- f(e, ..) and f(e, .., k = v, ..) -/
theorem pe_callG {e : Expr} (F : FnG X.prog X.w X.K X.mg X.base CX k f fd ps sp) (hr : Room k X.A) (hgd : X.A.guards = some []) (hg : Gl X x) (hm : X.mg x = some (.ref f))
    (hk : PySem.W.keepIn X.K (.ref f) = true) (hb : KBinds X.K fd ps ks g gV) (hx : Passes CX X E)
    (ha : PA X (e :: es) t) (hkw : PK X kws tk) (hall : (backToKw pos (keywordEach kws X.env)).all (·.1.isSome) = true := by rfl)
    (hks : (backToKw pos (keywordEach kws X.env)).filterMap (·.1) = ks := by rfl)
    (hdb : (x == ("__debug__" : Str)) = false := by decide) (he : starEach (e :: es) X.env = (false, eval e X.env) :: starEach es X.env := by rfl)
    (hpl : ((backTo pos (starEach (e :: es) X.env)).any (·.1) || (backToKw pos (keywordEach kws X.env)).any (·.1.isNone)) = false := by rfl) :
    PE X (.Call (.Name x p) (e :: es) kws pos) (tCallK sp gV E t tk) := by
  constructor
  intro pins s σ H Q I h
  refine wpAny_Call_Name_kw (ld_glob I hg hm ?_ hdb)
  refine PySem.W.callWith_KW (h₀ := X.base) I.ok.mod.kin hk hall (thn (ha.run pos pins s σ H _ I h) ?_) hpl he
  rintro us s1 ⟨vs, H1, I1, r, q⟩
  refine thn (hkw.run pos pins s1 σ H1 _ I1 q) ?_
  rintro ws s2 ⟨zs, H2, I2, rz, q2⟩
  refine ⟨I2.kIn, ?_⟩
  rw [hks]
  exact run_g F hr hgd hb hx I2 r rz q2
/-- f() -/
theorem pe_callG0 (F : FnG X.prog X.w X.K X.mg X.base CX k f fd ps sp) (hr : Room k X.A) (hgd : X.A.guards = some []) (hg : Gl X x) (hm : X.mg x = some (.ref f))
    (hk : PySem.W.keepIn X.K (.ref f) = true) (hb : KBinds X.K fd ps [] g gV) (hx : Passes CX X E)
    (hdb : (x == ("__debug__" : Str)) = false := by decide) : PE X (.Call (.Name x p) [] [] pos) (tCallK sp gV E tNil tNil) := by
  constructor
  intro pins s σ H Q I h
  refine wpAny_Call_Name_kw (ld_glob I hg hm ?_ hdb)
  exact PySem.W.callWith_K0 I.kIn hk (run_g (us := []) (ws := []) F hr hgd hb hx I .nil .nil h)
/-- f(k = v, ..) -/
theorem pe_callGk (F : FnG X.prog X.w X.K X.mg X.base CX k f fd ps sp) (hr : Room k X.A) (hgd : X.A.guards = some []) (hg : Gl X x) (hm : X.mg x = some (.ref f))
    (hk : PySem.W.keepIn X.K (.ref f) = true) (hb : KBinds X.K fd ps ks g gV) (hx : Passes CX X E)
    (hkw : PK X kws tk) (hall : (backToKw pos (keywordEach kws X.env)).all (·.1.isSome) = true := by rfl)
    (hks : (backToKw pos (keywordEach kws X.env)).filterMap (·.1) = ks := by rfl)
    (hdb : (x == ("__debug__" : Str)) = false := by decide)
    (hpl : ((backTo pos (starEach [] X.env)).any (·.1) || (backToKw pos (keywordEach kws X.env)).any (·.1.isNone)) = false := by rfl) :
    PE X (.Call (.Name x p) [] kws pos) (tCallK sp gV E tNil tk) := by
  constructor
  intro pins s σ H Q I h
  refine wpAny_Call_Name_kw (ld_glob I hg hm ?_ hdb)
  refine PySem.W.callWith_KW0 (h₀ := X.base) I.ok.mod.kin hk hall (thn (hkw.run pos pins s σ H _ I h) ?_) hpl
  rintro ws s2 ⟨zs, H2, I2, rz, q2⟩
  refine ⟨I2.kIn, ?_⟩
  rw [hks]
  exact run_g (us := []) (vs := []) F hr hgd hb hx I2 .nil rz q2
end

/-! ### the law's end -/
/-- where the table of modules stands -/
def SysAt (base : Heap) : Prop := ∃ o es ep, base.get? sysModules = some o ∧ o.data = .dict es ep
theorem law_end {P : Program} {w : World} {K : PySem.W.Frag} {mg mb : Str → Option Value} {CX : CXT} {k : Nat} {fa a : Addr} {fd : FuncData} {x : Str} {sp : Sp} {s₁ : Shared}
    {vs : List Value} {ns : List Int} (KX : K.In s₁.heap) (hns : s₁.heap.Ns mainGlobals mg) (hb : s₁.heap.Ns builtinsNs mb)
    (hbb : ∀ x : Str, x ≠ "__name__" → mb x = bootBuiltins x) (hlim : s₁.heap.NoLimit) (hg : s₁.gens = #[])
    (ha : s₁.heap.get? a = some { cls := .type "list", data := .seq vs.toArray }) (hi : IntsAre vs ns) (hl : ns.length ≤ sizeLine) (hr : Room k callerA)
    (hsy : ∃ mm, s₁.heap.Ns sysModules mm)
    (F : ∀ base : Heap, K.In base → base.Ns mainGlobals mg → SysAt base → FnG P w K mg base CX k fa fd [x] sp)
    (hbind : ∀ (s : Shared) (u : Value), BindsTo s fd ⟨[u], []⟩ [(x, u)])
    (hsp : ∀ H : Hp, Only H → SqL K H a (ns.map V.int) → sp [.ref a] H (fun v _ => v = .bl true) fun _ _ _ => False)
    (hCX : ∀ H e s', CX [] H s₁ (fun _ _ _ => False) e s' → False) :
    codeAny (model P w) callerA (.call (.ref fa) ⟨[.ref a], []⟩)
      (fun r s' => r = .ok (.ret (.bool true)) ∧ OldK s₁.heap s'.heap ∧ s'.os = s₁.os ∧ AllBare s'.gens) s₁ := by
  have rv := vals_ints hi
  have core : ∀ H : Hp, Only H → SqL K H a (ns.map V.int) → HOk P w H s₁.heap → (∀ b, H b ≠ none → b = a) → (H a ≠ none → K.lookup a = none) →
      codeAny (model P w) callerA (.call (.ref fa) ⟨[.ref a], []⟩)
        (fun r s' => r = .ok (.ret (.bool true)) ∧ OldK s₁.heap s'.heap ∧ s'.os = s₁.os ∧ AllBare s'.gens) s₁ := by
    intro H hO hS hok hA hK
    have tracked : ∀ {b : Addr} {u : HO}, H b = some u → b = a := by
      intro b u q
      exact hA b (by rw [q]; exact fun z => nomatch z)
    have base_of : ∀ {b : Addr} {o : Obj}, s₁.heap.get? b = some o → H b = none → (hidT s₁.heap H).get? b = some o :=
      fun e n => hidT_get e n
    have noA : ∀ {b : Addr} {o : Obj} {es : Array DictEntry} {ep : Nat}, s₁.heap.get? b = some o → o.data = .dict es ep → H b = none := by
      intro b o es ep e d
      cases q : H b with
      | none => rfl
      | some u =>
        obtain rfl := tracked q
        rw [ha] at e
        cases e
        have d' : Data.seq vs.toArray _ = Data.dict es ep := d
        cases d'
    have nsK : ∀ {b : Addr} {m : Str → Option Value}, s₁.heap.Ns b m → (hidT s₁.heap H).Ns b m := by
      rintro b m ⟨o, es, ep, e, d, r⟩
      exact ⟨o, es, ep, base_of e (noA e d), d, r⟩
    have hKb : K.In (hidT s₁.heap H) := by
      intro b o e
      refine base_of (KX b o e) ?_
      cases q : H b with
      | none => rfl
      | some u =>
        obtain rfl := tracked q
        rw [hK (by rw [q]; exact fun z => nomatch z)] at e
        cases e
    have hM : Mod K mg (hidT s₁.heap H) := by
      obtain ⟨mc, h1, h2⟩ := hlim
      exact ⟨hKb, nsK hns, ⟨mb, nsK hb, hbb⟩, ⟨mc, nsK h1, h2⟩⟩
    have e0 : Env0 P w K mg (hidT s₁.heap H) callerA [] s₁ H := by
      refine ⟨rfl, hM, fun b o e => of_hidT e, Nat.le_of_eq (hidT_size _ _), trivial, ?_, hok, .of_eq hg⟩
      intro b hb
      exact nomatch (show b ∈ ([] : List Addr) from hb)
    have hsB : SysAt (hidT s₁.heap H) := by
      obtain ⟨mm, hm⟩ := hsy
      obtain ⟨o, es, ep, e, d, _⟩ := nsK hm
      exact ⟨o, es, ep, e, d⟩
    refine codeAny_mono ((F _ hKb (nsK hns) hsB).run callerA [] s₁ H ⟨[.ref a], []⟩ [.ref a] [.ref a] _ _ hr rfl e0
      (hbind s₁ (.ref a)) (.cons rfl .nil) (hsp H hO hS)) ?_
    intro r s' h
    match r, h with
    | .error e, h => exact (hCX H e s' h).elim
    | .ok .next, h => exact h.elim
    | .ok .brk, h => exact h.elim
    | .ok .cont, h => exact h.elim
    | .ok (.ret u), h =>
      obtain ⟨v, H', os, bare, un, hok', r', q⟩ := h
      obtain rfl : v = .bl true := q
      obtain rfl : u = Value.bool true := r'
      refine ⟨rfl, OldK.of_keep ?_, os, bare⟩
      intro b o e
      cases q : H b with
      | none =>
        exact un.keep b o e q (fun z => nomatch (show b ∈ ([] : List Addr) from z)) (fun z => nomatch z)
      | some u =>
        rcases hO b with z | ⟨ob, xs, z⟩
        · rw [q] at z
          cases z
        · have e1 := (hok b _ z).1
          have e2 := (hok' b _ (un.frzs b ob _ z)).1
          rw [e] at e1
          cases e1
          exact e2
  cases hk : K.lookup a with
  | some o =>
    have e := KX a o hk
    rw [ha] at e
    cases e
    refine core (fun _ => none) (fun _ => .inl rfl) (.inr ⟨_, vs.toArray, _, hk, rfl, rfl, rfl, ?_, by simpa using rv⟩) ?_ (fun b z => absurd rfl z) (fun z => absurd rfl z)
    · rw [List.size_toArray, hi.length]
      exact hl
    · intro b u z
      exact nomatch (show (none : Option HO) = some u from z)
  | none =>
    have at_a : (if a = a then some (HO.frz { cls := .type "list", data := .seq vs.toArray } (.lst (ns.map V.int))) else none) =
        some (HO.frz { cls := .type "list", data := .seq vs.toArray } (.lst (ns.map V.int))) := if_pos rfl
    refine core (fun b => if b = a then some (.frz { cls := .type "list", data := .seq vs.toArray } (.lst (ns.map V.int))) else none) ?_ (.inl (.inr ⟨_, at_a⟩)) ?_ ?_ (fun _ => hk)
    · intro b
      by_cases hb : b = a
      · exact .inr ⟨_, _, if_pos hb⟩
      · exact .inl (if_neg hb)
    · intro b u z
      by_cases hb : b = a
      · have z' := (if_pos hb).symm.trans z
        cases z'
        subst hb
        refine ⟨ha, ?_, vs, _, rv, ha⟩
        rw [List.length_map]
        exact hl
      · exact nomatch (if_neg hb).symm.trans z
    · intro b z
      by_cases hb : b = a
      · exact hb
      · exact absurd (if_neg hb) z

theorem walkG {l : PySem.W.OpenLaw} {n k : Nat} {q : Program} {loose : List Str} {XP : (Str → Option Value) → Heap → Prop} {YP : World → Heap → Prop} {d : DefRec}
    {K : Params → PySem.W.Frag} {CX : World → CXT} {sp : World → Sp} {x : Str} (hn : l.most = some n) (hn2 : n ≤ sizeLine) (hdf : d.params.defaults = []) (hr : Room k callerA) (him : importsNone q = true)
    (hY : ∀ (w : World) (h : Heap), YP w h → (K w.params).In h)
    (F : ∀ (w : World) (mg : Str → Option Value) (fa : Addr) (h : Heap), (K w.params).In h → h.Ns mainGlobals mg → XP mg h → mg d.name = some (.ref fa) →
      ∃ fd : FuncData, (∀ (s : Shared) (u : Value), BindsTo s fd ⟨[u], []⟩ [(x, u)]) ∧
        ∀ base : Heap, (K w.params).In base → base.Ns mainGlobals mg → SysAt base → FnG l.prog w (K w.params) mg base (CX w) k fa fd [x] (sp w))
    (hsp : ∀ (w : World) (H : Hp) (a : Addr) (ns : List Int), ns.length ≤ n → Only H → SqL (K w.params) H a (ns.map V.int) → sp w [.ref a] H (fun v _ => v = .bl true) fun _ _ _ => False)
    (hCX : ∀ (w : World) (H : Hp) (s : Shared) (e : Value) (s' : Shared), CX w [] H s (fun _ _ _ => False) e s' → False) :
    PySem.W.WalkO q loose XP YP l.row.toRowW d [] (fun f vs => PySem.call f vs) := by
  refine Att.attach_call hn hdf ?_
  intro w s₀ s₁ mg mb fa o pm cd doc a vs ns G Y ho hd hcd hmg hobj hints hlen hg
  obtain ⟨fd, hb, hF⟩ := F w mg fa _ (hY w _ Y) G.T.g G.X hmg
  have hsy : ∃ mm, s₁.heap.Ns sysModules mm := (G.T.seer him).mods.imp fun _ h => h.1
  exact law_end (hY w _ Y) G.T.g G.T.b G.T.builtins G.T.nolimit hg hobj hints (Nat.le_trans hlen hn2) hr hsy hF hb
    (fun H hO hS => hsp w H a ns hlen hO hS) (fun H e s' => hCX w H s₁ e s')
end L3

set_option maxHeartbeats 1000000
/-! L3B: immutable data as trees, what changes by its address; readings over these. -/
namespace L3
open PySem PySem.Spec PyProof.Rows L2

/-- a value as a tree: what never changes any more stands whole; what may change is its bare reference -/
inductive T where
  | non | bl (b : Bool) | int (i : Int) | str (x : Str)
  | tup (xs : List T) | lst (xs : List T) | scr (xs : List T) | dic (kvs : List (Key × T)) | raw (v : V)
  deriving Inhabited
/-- what may change -/
inductive MO where
  | lst (xs : List T) | dct (kvs : List (Key × T)) | ins (C dx : Addr) (fs : List (Str × T))
abbrev Mp := Addr → Option MO
def mset (M : Mp) (a : Addr) (o : MO) : Mp := fun b => if b = a then some o else M b
def mdel (M : Mp) (a : Addr) : Mp := fun b => if b = a then none else M b
theorem mset_same {M : Mp} {a : Addr} {o : MO} : mset M a o a = some o := if_pos rfl
theorem mset_ne {M : Mp} {a b : Addr} {o : MO} (h : b ≠ a) : mset M a o b = M b := if_neg h
theorem mset_mset {M : Mp} {a : Addr} {o u : MO} : mset (mset M a o) a u = mset M a u := by
  funext b; unfold mset; split <;> rfl

section
variable (K : PySem.W.Frag) (F : Hp)
mutual
inductive Rep : V → T → Prop
  | non : Rep .non .non
  | bl (b : Bool) : Rep (.bl b) (.bl b)
  | int (i : Int) : Rep (.int i) (.int i)
  | str (x : Str) : Rep (.str x) (.str x)
  | tup {a : Addr} {vs : List V} {ts : List T} : SqT K F a vs → Reps vs ts → Rep (.ref a) (.tup ts)
  | lst {a : Addr} {vs : List V} {ts : List T} : F a = some (.lst vs) → Reps vs ts → Rep (.ref a) (.lst ts)
  | scr {a : Addr} {vs : List V} {ts : List T} : SqL K F a vs → Reps vs ts → Rep (.ref a) (.scr ts)
  | dic {a : Addr} {kvs : List (Key × V)} {kts : List (Key × T)} : F a = some (.dK kvs) → RepKV kvs kts → Rep (.ref a) (.dic kts)
  | raw (v : V) : Rep v (.raw v)
inductive Reps : List V → List T → Prop
  | nil : Reps [] []
  | cons {v : V} {vs : List V} {t : T} {ts : List T} : Rep v t → Reps vs ts → Reps (v :: vs) (t :: ts)
inductive RepKV : List (Key × V) → List (Key × T) → Prop
  | nil : RepKV [] []
  | cons {k : Key} {v : V} {vs : List (Key × V)} {t : T} {ts : List (Key × T)} : Rep v t → RepKV vs ts → RepKV ((k, v) :: vs) ((k, t) :: ts)
end
end

def Ex (F F' : Hp) : Prop := ∀ a o, F a = some o → F' a = some o
theorem Ex.refl {F : Hp} : Ex F F := fun _ _ h => h
theorem Ex.trans {F G H : Hp} (a : Ex F G) (b : Ex G H) : Ex F H := fun x o h => b x o (a x o h)
theorem Ex.upd {F : Hp} {p : Addr} {o : HO} (h : F p = none) : Ex F (upd F p o) := fun b x e => by
  rw [upd_ne (ne_of_none e h)]
  exact e
section
variable {K : PySem.W.Frag} {F F' H : Hp}
theorem Ex.rd (x : Ex F F') {a : Addr} {u : HO} (h : Rd F a u) : Rd F' a u := h.imp (x _ _) fun ⟨o, e⟩ => ⟨o, x _ _ e⟩
theorem Ex.sqL (x : Ex F F') {a : Addr} {vs : List V} (h : SqL K F a vs) : SqL K F' a vs := h.imp x.rd id
theorem Ex.sqT (x : Ex F F') {a : Addr} {vs : List V} (h : SqT K F a vs) : SqT K F' a vs := h.imp x.rd id
mutual
theorem Rep.mono (x : Ex F F') : ∀ {v : V} {t : T}, Rep K F v t → Rep K F' v t
  | _, _, .non => .non
  | _, _, .bl b => .bl b
  | _, _, .int i => .int i
  | _, _, .str z => .str z
  | _, _, .tup h r => .tup (x.sqT h) (Reps.mono x r)
  | _, _, .lst h r => .lst (x _ _ h) (Reps.mono x r)
  | _, _, .scr h r => .scr (x.sqL h) (Reps.mono x r)
  | _, _, .dic h r => .dic (x _ _ h) (RepKV.mono x r)
  | _, _, .raw v => .raw v
theorem Reps.mono (x : Ex F F') : ∀ {vs : List V} {ts : List T}, Reps K F vs ts → Reps K F' vs ts
  | _, _, .nil => .nil
  | _, _, .cons h r => .cons (Rep.mono x h) (Reps.mono x r)
theorem RepKV.mono (x : Ex F F') : ∀ {vs : List (Key × V)} {ts : List (Key × T)}, RepKV K F vs ts → RepKV K F' vs ts
  | _, _, .nil => .nil
  | _, _, .cons h r => .cons (Rep.mono x h) (RepKV.mono x r)
end
theorem Reps.length : ∀ {vs : List V} {ts : List T}, Reps K F vs ts → vs.length = ts.length
  | _, _, .nil => rfl
  | _, _, .cons _ r => congrArg (· + 1) (Reps.length r)
theorem Reps.get : ∀ {vs : List V} {ts : List T} {i : Nat} {t : T}, Reps K F vs ts → ts[i]? = some t → ∃ v, vs[i]? = some v ∧ Rep K F v t
  | _, _, 0, _, .cons h _, e => ⟨_, rfl, by have e' := Option.some.inj e; subst e'; exact h⟩
  | _, _, i + 1, t, .cons _ r, e => Reps.get (i := i) r e
theorem Reps.get' : ∀ {vs : List V} {ts : List T} {i : Nat} {v : V}, Reps K F vs ts → vs[i]? = some v → ∃ t, ts[i]? = some t ∧ Rep K F v t
  | _, _, 0, _, .cons h _, e => ⟨_, rfl, by have e' := Option.some.inj e; subst e'; exact h⟩
  | _, _, i + 1, t, .cons _ r, e => Reps.get' (i := i) r e
theorem Reps.append : ∀ {vs us : List V} {ts ws : List T}, Reps K F vs ts → Reps K F us ws → Reps K F (vs ++ us) (ts ++ ws)
  | _, _, _, _, .nil, q => q
  | _, _, _, _, .cons h r, q => .cons h (Reps.append r q)
theorem Reps.drop : ∀ {vs : List V} {ts : List T} (n : Nat), Reps K F vs ts → Reps K F (vs.drop n) (ts.drop n)
  | _, _, 0, r => r
  | _, _, _ + 1, .nil => .nil
  | _, _, n + 1, .cons _ r => Reps.drop n r
theorem Reps.take : ∀ {vs : List V} {ts : List T} (n : Nat), Reps K F vs ts → Reps K F (vs.take n) (ts.take n)
  | _, _, 0, _ => .nil
  | _, _, _ + 1, .nil => .nil
  | _, _, n + 1, .cons h r => .cons h (Reps.take n r)
theorem Reps.reverse : ∀ {vs : List V} {ts : List T}, Reps K F vs ts → Reps K F vs.reverse ts.reverse
  | _, _, .nil => .nil
  | _, _, .cons h r => by
    rw [List.reverse_cons, List.reverse_cons]
    exact (Reps.reverse r).append (.cons h .nil)
theorem Reps.ints : ∀ {vs : List V} {ns : List Int}, Reps K F vs (ns.map T.int) → vs = ns.map V.int
  | _, [], .nil => rfl
  | _, n :: ns, .cons h r => by
    cases h
    rw [Reps.ints (ns := ns) r]
    rfl
theorem Reps.of_ints : ∀ (ns : List Int), Reps K F (ns.map V.int) (ns.map T.int)
  | [] => .nil
  | n :: ns => .cons (.int n) (Reps.of_ints ns)
theorem Reps.strs : ∀ {vs : List V} {ns : List Str}, Reps K F vs (ns.map T.str) → vs = ns.map V.str
  | _, [], .nil => rfl
  | _, n :: ns, .cons h r => by
    cases h
    rw [Reps.strs (ns := ns) r]
    rfl
theorem Reps.of_strs : ∀ (ns : List Str), Reps K F (ns.map V.str) (ns.map T.str)
  | [] => .nil
  | n :: ns => .cons (.str n) (Reps.of_strs ns)
theorem Reps.bls : ∀ {vs : List V} {ns : List Bool}, Reps K F vs (ns.map T.bl) → vs = ns.map V.bl
  | _, [], .nil => rfl
  | _, n :: ns, .cons h r => by
    cases h
    rw [Reps.bls (ns := ns) r]
    rfl
theorem RepKV.length : ∀ {vs : List (Key × V)} {ts : List (Key × T)}, RepKV K F vs ts → vs.length = ts.length
  | _, _, .nil => rfl
  | _, _, .cons _ r => congrArg (· + 1) (RepKV.length r)
end

/-- an instance's attributes -/
def RepFs (K : PySem.W.Frag) (F : Hp) (fs : List (Str × V)) (ts : List (Str × T)) : Prop := Paired (fun (p : Str × V) (q : Str × T) => p.1 = q.1 ∧ Rep K F p.2 q.2) fs ts
theorem RepFs.mono {K : PySem.W.Frag} {F F' : Hp} (x : Ex F F') {fs : List (Str × V)} {ts : List (Str × T)} (h : RepFs K F fs ts) : RepFs K F' fs ts :=
  Paired.mapP h fun _ _ q => ⟨q.1, q.2.mono x⟩
inductive RepO (K : PySem.W.Frag) (F : Hp) : HO → MO → Prop
  | lst {vs : List V} {ts : List T} : Reps K F vs ts → RepO K F (.lst vs) (.lst ts)
  | dct {vs : List (Key × V)} {ts : List (Key × T)} : RepKV K F vs ts → RepO K F (.dK vs) (.dct ts)
  | ins {C dx : Addr} {fs : List (Str × V)} {ts : List (Str × T)} : RepFs K F fs ts → RepO K F (.ins C dx fs) (.ins C dx ts)
theorem RepO.mono {K : PySem.W.Frag} {F F' : Hp} (x : Ex F F') {o : HO} {m : MO} (h : RepO K F o m) : RepO K F' o m := by
  cases h with
  | lst h => exact .lst (h.mono x)
  | dct h => exact .dct (h.mono x)
  | ins h => exact .ins (h.mono x)

/-- the heap H in three parts: F never changes, O is nobody's here, M may change -/
structure Wd (K : PySem.W.Frag) (F O H : Hp) (M : Mp) : Prop where
  sub : ∀ a o, F a = some o → H a = some o
  oth : ∀ a o, O a = some o → H a = some o ∧ F a = none
  mo : ∀ a m, M a = some m → F a = none ∧ O a = none ∧ ∃ o, H a = some o ∧ RepO K F o m

section
variable {K : PySem.W.Frag} {F O H : Hp} {M : Mp} {p : Addr}
theorem Wd.fF (w : Wd K F O H M) (h : H p = none) : F p = none := by
  cases e : F p with
  | none => rfl
  | some o => rw [w.sub p o e] at h; cases h
theorem Wd.fO (w : Wd K F O H M) (h : H p = none) : O p = none := by
  cases e : O p with
  | none => rfl
  | some o => rw [(w.oth p o e).1] at h; cases h
theorem Wd.fM (w : Wd K F O H M) (h : H p = none) : M p = none := by
  cases e : M p with
  | none => rfl
  | some o => obtain ⟨_, _, u, e2, _⟩ := w.mo p o e; rw [e2] at h; cases h
/-- a new object that never changes -/
theorem Wd.newF (w : Wd K F O H M) (h : H p = none) (o : HO) : Wd K (upd F p o) O (upd H p o) M := by
  have x : Ex F (upd F p o) := Ex.upd (w.fF h)
  refine ⟨fun a u e => ?_, fun a u e => ?_, fun a m e => ?_⟩
  · by_cases hp : a = p
    · subst hp
      rw [upd_same] at e ⊢
      exact e
    · rw [upd_ne hp] at e ⊢
      exact w.sub a u e
  · obtain ⟨e1, e2⟩ := w.oth a u e
    have hp : a ≠ p := ne_of_none e1 h
    rw [upd_ne hp, upd_ne hp]
    exact ⟨e1, e2⟩
  · obtain ⟨e1, e2, u, e3, r⟩ := w.mo a m e
    have hp : a ≠ p := ne_of_none e3 h
    refine ⟨by rw [upd_ne hp]; exact e1, e2, u, by rw [upd_ne hp]; exact e3, r.mono x⟩
/-- a new object that may change -/
theorem Wd.newM (w : Wd K F O H M) (h : H p = none) {o : HO} {m : MO} (r : RepO K F o m) : Wd K F O (upd H p o) (mset M p m) := by
  refine ⟨fun a u e => ?_, fun a u e => ?_, fun a m' e => ?_⟩
  · have e1 := w.sub a u e
    rw [upd_ne (ne_of_none e1 h)]
    exact e1
  · obtain ⟨e1, e2⟩ := w.oth a u e
    rw [upd_ne (ne_of_none e1 h)]
    exact ⟨e1, e2⟩
  · by_cases hp : a = p
    · subst hp
      rw [mset_same] at e
      cases e
      exact ⟨w.fF h, w.fO h, o, upd_same, r⟩
    · rw [mset_ne hp] at e
      obtain ⟨e1, e2, u, e3, q⟩ := w.mo a m' e
      exact ⟨e1, e2, u, by rw [upd_ne hp]; exact e3, q⟩
/-- what may change changes -/
theorem Wd.write (w : Wd K F O H M) {m0 : MO} (h : M p = some m0) {o : HO} {m : MO} (r : RepO K F o m) : Wd K F O (upd H p o) (mset M p m) := by
  obtain ⟨f0, o0, _⟩ := w.mo p m0 h
  refine ⟨fun a u e => ?_, fun a u e => ?_, fun a m' e => ?_⟩
  · rw [upd_ne (ne_of_none e f0)]
    exact w.sub a u e
  · rw [upd_ne (ne_of_none e o0)]
    exact w.oth a u e
  · by_cases hp : a = p
    · subst hp
      rw [mset_same] at e
      cases e
      exact ⟨f0, o0, o, upd_same, r⟩
    · rw [mset_ne hp] at e
      obtain ⟨e1, e2, u, e3, q⟩ := w.mo a m' e
      exact ⟨e1, e2, u, by rw [upd_ne hp]; exact e3, q⟩
/-- what no longer changes: a list, a dict is from now on a tree -/
theorem Wd.freeze (w : Wd K F O H M) {m0 : MO} (h : M p = some m0) {o : HO} (ho : H p = some o) : Wd K (upd F p o) O H (mdel M p) := by
  obtain ⟨f0, o0, _⟩ := w.mo p m0 h
  refine ⟨fun a u e => ?_, fun a u e => ?_, fun a m' e => ?_⟩
  · by_cases hp : a = p
    · subst hp
      rw [upd_same] at e
      cases e
      exact ho
    · rw [upd_ne hp] at e
      exact w.sub a u e
  · obtain ⟨e1, e2⟩ := w.oth a u e
    refine ⟨e1, ?_⟩
    rw [upd_ne (ne_of_none e o0)]
    exact e2
  · by_cases hp : a = p
    · subst hp
      unfold mdel at e
      rw [if_pos rfl] at e
      cases e
    · unfold mdel at e
      rw [if_neg hp] at e
      obtain ⟨e1, e2, u, e3, q⟩ := w.mo a m' e
      exact ⟨by rw [upd_ne hp]; exact e1, e2, u, e3, q.mono (Ex.upd f0)⟩
end

abbrev SS := List (Option T)
def SlR (K : PySem.W.Frag) (F : Hp) (σ : L2.St) (ss : SS) : Prop := σ.length = ss.length ∧ ∀ (i : Nat) (t : T), ss[i]? = some (some t) → ∃ v, σ[i]? = some (some v) ∧ Rep K F v t
theorem SlR.mono {K : PySem.W.Frag} {F F' : Hp} (x : Ex F F') {σ : L2.St} {ss : SS} (h : SlR K F σ ss) : SlR K F' σ ss :=
  ⟨h.1, fun i t e => let ⟨v, e1, r⟩ := h.2 i t e; ⟨v, e1, r.mono x⟩⟩
theorem SlR.set {K : PySem.W.Frag} {F : Hp} {σ : L2.St} {ss : SS} (h : SlR K F σ ss) {v : V} {t : T} (r : Rep K F v t) (i : Nat) : SlR K F (σ.set i (some v)) (ss.set i (some t)) := by
  refine ⟨by rw [List.length_set, List.length_set]; exact h.1, fun j u e => ?_⟩
  rw [List.getElem?_set] at e ⊢
  by_cases hij : i = j
  · subst hij
    rw [if_pos rfl] at e ⊢
    by_cases hl : i < ss.length
    · rw [if_pos hl] at e
      rw [if_pos (h.1 ▸ hl)]
      cases e
      exact ⟨v, rfl, r⟩
    · rw [if_neg hl] at e
      cases e
  · rw [if_neg hij] at e ⊢
    exact h.2 j u e
theorem SlR.unset {K : PySem.W.Frag} {F : Hp} {σ : L2.St} {ss : SS} (h : SlR K F σ ss) (i : Nat) : SlR K F (σ.set i none) (ss.set i none) := by
  refine ⟨by rw [List.length_set, List.length_set]; exact h.1, fun j u e => ?_⟩
  rw [List.getElem?_set] at e ⊢
  by_cases hij : i = j
  · subst hij
    rw [if_pos rfl] at e
    split at e <;> cases e
  · rw [if_neg hij] at e ⊢
    exact h.2 j u e
def wipe3 (ss : SS) : List Nat → SS
  | [] => ss
  | v :: vs => (wipe3 ss vs).set v none
theorem SlR.wipe {K : PySem.W.Frag} {F : Hp} {σ : L2.St} {ss : SS} (h : SlR K F σ ss) : ∀ vs : List Nat, SlR K F (wipe σ vs) (wipe3 ss vs)
  | [] => h
  | v :: vs => (SlR.wipe h vs).unset v

abbrev QE := T → Mp → Prop
abbrev E3 := SS → Mp → QE → Prop
abbrev T3 := SS → Mp → (Bool → Mp → Prop) → Prop
abbrev A3 := SS → Mp → (List T → Mp → Prop) → Prop
structure Ends3 where
  nx : SS → Mp → Prop
  rt : QE
  bk : SS → Mp → Prop := fun _ _ => False
  ct : SS → Mp → Prop := fun _ _ => False
abbrev S3 := Ends3 → SS → Mp → Prop

/-- what follows a value, from what follows its tree -/
def LkV (K : PySem.W.Frag) (F O : Hp) (Q3 : QE) (Q : VK) : Prop := ∀ (v : V) (H' F' : Hp) (M' : Mp) (t : T), Ex F F' → Wd K F' O H' M' → Rep K F' v t → Q3 t M' → Q v H'
def LkS (K : PySem.W.Frag) (F O : Hp) (Q3 : SS → Mp → Prop) (Q : L2.St → Hp → Prop) : Prop :=
  ∀ (σ' : L2.St) (H' F' : Hp) (M' : Mp) (ss' : SS), Ex F F' → Wd K F' O H' M' → SlR K F' σ' ss' → Q3 ss' M' → Q σ' H'
structure Lnk (K : PySem.W.Frag) (F O : Hp) (D3 : Ends3) (D : Ends) : Prop where
  nx : LkS K F O D3.nx D.nx
  rt : LkV K F O D3.rt D.rt
  bk : LkS K F O D3.bk D.bk
  ct : LkS K F O D3.ct D.ct
theorem LkV.mono {K : PySem.W.Frag} {F F' O : Hp} (x : Ex F F') {Q3 : QE} {Q : VK} (h : LkV K F O Q3 Q) : LkV K F' O Q3 Q := fun v H' G M' t y => h v H' G M' t (x.trans y)
theorem LkS.mono {K : PySem.W.Frag} {F F' O : Hp} (x : Ex F F') {Q3 : SS → Mp → Prop} {Q : L2.St → Hp → Prop} (h : LkS K F O Q3 Q) : LkS K F' O Q3 Q := fun v H' G M' t y => h v H' G M' t (x.trans y)
theorem Lnk.mono {K : PySem.W.Frag} {F F' O : Hp} (x : Ex F F') {D3 : Ends3} {D : Ends} (h : Lnk K F O D3 D) : Lnk K F' O D3 D := ⟨h.nx.mono x, h.rt.mono x, h.bk.mono x, h.ct.mono x⟩

def liftE (K : PySem.W.Frag) (te : E3) : TE := fun σ H Q => ∃ F O M ss Q3, Wd K F O H M ∧ SlR K F σ ss ∧ te ss M Q3 ∧ LkV K F O Q3 Q
def liftT (K : PySem.W.Frag) (tt : T3) : TT := fun σ H Q => ∃ F O M ss Q3, Wd K F O H M ∧ SlR K F σ ss ∧ tt ss M Q3 ∧ ∀ (b : Bool) (H' F' : Hp) (M' : Mp), Ex F F' → Wd K F' O H' M' → Q3 b M' → Q b H'
def liftA (K : PySem.W.Frag) (ta : A3) : TA := fun σ H Q => ∃ F O M ss Q3, Wd K F O H M ∧ SlR K F σ ss ∧ ta ss M Q3 ∧ ∀ (vs : List V) (H' F' : Hp) (M' : Mp) (ts : List T), Ex F F' → Wd K F' O H' M' → Reps K F' vs ts → Q3 ts M' → Q vs H'
def liftS (K : PySem.W.Frag) (ts : S3) : TS := fun D σ H => ∃ F O M ss D3, Wd K F O H M ∧ SlR K F σ ss ∧ ts D3 ss M ∧ Lnk K F O D3 D

abbrev DE (X : Cx) (e : Expr) (te : E3) : Prop := PE X e (liftE X.K te)
abbrev DT (X : Cx) (e : Expr) (tt : T3) : Prop := PT X e (liftT X.K tt)
abbrev DW (X : Cx) (e : Expr) (tt : T3) : Prop := PW X e (liftT X.K tt)
abbrev DA (X : Cx) (es : List Expr) (ta : A3) : Prop := PA X es (liftA X.K ta)
abbrev DK (X : Cx) (es : List Keyword) (ta : A3) : Prop := PK X es (liftA X.K ta)
abbrev DS (X : Cx) (st : Stmt) (ts : S3) : Prop := PS X st (liftS X.K ts)
abbrev DSs (X : Cx) (st : List Stmt) (ts : S3) : Prop := PSs X st (liftS X.K ts)

theorem pe_weak {X : Cx} {e : Expr} {t t' : TE} (h : PE X e t) (i : ∀ σ H Q, t' σ H Q → t σ H Q) : PE X e t' := ⟨fun pins s σ H Q I q => h.run pins s σ H Q I (i σ H Q q)⟩
theorem pt_weak {X : Cx} {e : Expr} {t t' : TT} (h : PT X e t) (i : ∀ σ H Q, t' σ H Q → t σ H Q) : PT X e t' := ⟨fun pins s σ H Q I q => h.run pins s σ H Q I (i σ H Q q)⟩
theorem pw_weak {X : Cx} {e : Expr} {t t' : TT} (h : PW X e t) (i : ∀ σ H Q, t' σ H Q → t σ H Q) : PW X e t' := ⟨fun wh pins s σ H Q I q => h.run wh pins s σ H Q I (i σ H Q q)⟩
theorem pa_weak {X : Cx} {e : List Expr} {t t' : TA} (h : PA X e t) (i : ∀ σ H Q, t' σ H Q → t σ H Q) : PA X e t' := ⟨fun po pins s σ H Q I q => h.run po pins s σ H Q I (i σ H Q q)⟩
theorem pk_weak {X : Cx} {e : List Keyword} {t t' : TA} (h : PK X e t) (i : ∀ σ H Q, t' σ H Q → t σ H Q) : PK X e t' := ⟨fun po pins s σ H Q I q => h.run po pins s σ H Q I (i σ H Q q)⟩
theorem ps_weak {X : Cx} {e : Stmt} {t t' : TS} (h : PS X e t) (i : ∀ D σ H, t' D σ H → t D σ H) : PS X e t' := ⟨fun pins s σ H D I q => h.run pins s σ H D I (i D σ H q)⟩
theorem pss_weak {X : Cx} {e : List Stmt} {t t' : TS} (h : PSs X e t) (i : ∀ D σ H, t' D σ H → t D σ H) : PSs X e t' := ⟨fun pins s σ H D I q => h.run pins s σ H D I (i D σ H q)⟩

section
variable {X : Cx} {a b c e : Expr} {es : List Expr} {te ta tb : E3} {tt tu : T3} {tl : A3} {pos : Pos}
/-! ### names, constants -/
def dVar (i : Nat) : E3 := fun ss M Q => match ss[i]? with
  | some (some t) => Q t M
  | _ => False
def dC (t : T) : E3 := fun _ M Q => Q t M
theorem d_var (i : Nat) {x : Str} {pos : Pos} (hN : X.N[i]? = some x := by rfl) (hv : Vis X.env.scope x := by first | exact Or.inl rfl | exact Or.inr (Or.inl rfl) | exact Or.inr (Or.inr rfl))
    (hd : (x == ("__debug__" : Str)) = false := by decide) (hcd : (x == ("__classdict__" : Str)) = false := by decide) : DE X (.Name x pos) (dVar i) := by
  refine pe_weak (pe_var hN hv hd hcd) ?_
  rintro σ H Q ⟨F, O, M, ss, Q3, w, sl, q, k⟩
  unfold dVar at q
  split at q
  · rename_i t e
    obtain ⟨v, e1, r⟩ := sl.2 i t e
    exact ⟨v, e1, k v H F M t .refl w r q⟩
  · exact q.elim
theorem d_const {e : Expr} {v : V} {t : T} (h : PE X e (tC v)) (r : ∀ F, Rep X.K F v t) : DE X e (dC t) := by
  refine pe_weak h ?_
  rintro σ H Q ⟨F, O, M, ss, Q3, w, sl, q, k⟩
  exact k v H F M t .refl w (r F) q
theorem d_int {i j pos} : DE X (.Constant (.int i) j pos) (dC (.int i)) := d_const pe_int fun _ => .int i
theorem d_bl {i j pos} : DE X (.Constant (.bool i) j pos) (dC (.bl i)) := d_const pe_bl fun _ => .bl i
theorem d_non {j pos} : DE X (.Constant .none j pos) (dC .non) := d_const pe_non fun _ => .non
theorem d_str {i j pos} : DE X (.Constant (.str i) j pos) (dC (.str i)) := d_const pe_str fun _ => .str i
/-- a module's constant -/
theorem d_glob {x : Str} {v : V} {t : T} {u : Value} {pos : Pos} (hg : Gl X x) (hm : X.mg x = some u) (rv : RelV v u) (r : ∀ F, Rep X.K F v t) (hd : (x == ("__debug__" : Str)) = false := by decide) : DE X (.Name x pos) (dC t) :=
  d_const (pe_glob hg hm rv hd) r
/-- a built-in as a value (a type) -/
theorem d_bltn {x : Str} {v : V} {u : Value} {pos : Pos} (hg : Gl X x) (hm : X.mg x = none) (hv : bootBuiltins x = some u) (r : RelV v u) (hn : x ≠ "__name__" := by decide) (hd : (x == ("__debug__" : Str)) = false := by decide) : DE X (.Name x pos) (dC (.raw v)) :=
  d_const (pe_bltn hg hm hv r hn hd) fun _ => .raw v

/-! ### argument lists, displays -/
def dNil : A3 := fun _ M Q => Q [] M
def dCons (te : E3) (tl : A3) : A3 := fun ss M Q => te ss M fun t M1 => tl ss M1 fun ts M2 => Q (t :: ts) M2
theorem da_nil : DA X [] dNil := by
  refine pa_weak pa_nil ?_
  rintro σ H Q ⟨F, O, M, ss, Q3, w, sl, q, k⟩
  exact k [] H F M [] .refl w .nil q
theorem lift_cons {K : PySem.W.Frag} : ∀ σ H Q, liftA K (dCons te tl) σ H Q → tCons (liftE K te) (liftA K tl) σ H Q := by
  rintro σ H Q ⟨F, O, M, ss, Q3, w, sl, q, k⟩
  refine ⟨F, O, M, ss, _, w, sl, q, ?_⟩
  intro v H1 F1 M1 t x1 w1 r1 q1
  refine ⟨F1, O, M1, ss, _, w1, sl.mono x1, q1, ?_⟩
  intro vs H2 F2 M2 ts x2 w2 r2 q2
  exact k _ H2 F2 M2 _ (x1.trans x2) w2 (.cons (r1.mono x2) r2) q2
theorem da_cons (ha : DE X e te) (hr : DA X es tl) (hs : starEach (e :: es) X.env = (false, eval e X.env) :: starEach es X.env := by rfl) : DA X (e :: es) (dCons te tl) :=
  pa_weak (pa_cons ha hr hs) lift_cons
theorem dk_nil : DK X [] dNil := by
  refine pk_weak pk_nil ?_
  rintro σ H Q ⟨F, O, M, ss, Q3, w, sl, q, k⟩
  exact k [] H F M [] .refl w .nil q
theorem dk_cons {nm : Option Str} {kpos : Pos} {kws : List Keyword} (ha : DE X e te) (hr : DK X kws tl) : DK X (⟨nm, e, kpos⟩ :: kws) (dCons te tl) :=
  pk_weak (pk_cons ha hr) lift_cons
def dTup (tl : A3) : E3 := fun ss M Q => tl ss M fun ts M1 => ts.length ≤ sizeLine ∧ Q (.tup ts) M1
def dLst (tl : A3) : E3 := fun ss M Q => tl ss M fun ts M1 => ts.length ≤ sizeLine ∧ Q (.lst ts) M1
/-- a list that will change -/
def dLstM (tl : A3) : E3 := fun ss M Q => tl ss M fun ts M1 => ts.length ≤ sizeLine ∧ ∀ p, M1 p = none → Q (.raw (.ref p)) (mset M1 p (.lst ts))
theorem d_tup {x1} (h : DA X es tl) : DE X (.Tuple es x1 pos) (dTup tl) := by
  refine pe_weak (pe_tup h) ?_
  rintro σ H Q ⟨F, O, M, ss, Q3, w, sl, q, k⟩
  refine ⟨F, O, M, ss, _, w, sl, q, ?_⟩
  rintro vs H1 F1 M1 ts x1 w1 r1 ⟨z, q1⟩
  refine ⟨r1.length ▸ z, fun p hp => ?_⟩
  have x2 : Ex F1 (upd F1 p (.tup vs)) := .upd (w1.fF hp)
  exact k _ _ _ M1 _ (x1.trans x2) (w1.newF hp _) (.tup (.of upd_same) (r1.mono x2)) q1
theorem d_lst (h : DA X es tl) : DE X (.List es pos) (dLst tl) := by
  refine pe_weak (pe_lst h) ?_
  rintro σ H Q ⟨F, O, M, ss, Q3, w, sl, q, k⟩
  refine ⟨F, O, M, ss, _, w, sl, q, ?_⟩
  rintro vs H1 F1 M1 ts x1 w1 r1 ⟨z, q1⟩
  refine ⟨r1.length ▸ z, fun p hp => ?_⟩
  have x2 : Ex F1 (upd F1 p (.lst vs)) := .upd (w1.fF hp)
  exact k _ _ _ M1 _ (x1.trans x2) (w1.newF hp _) (.lst upd_same (r1.mono x2)) q1
theorem d_lstM (h : DA X es tl) : DE X (.List es pos) (dLstM tl) := by
  refine pe_weak (pe_lst h) ?_
  rintro σ H Q ⟨F, O, M, ss, Q3, w, sl, q, k⟩
  refine ⟨F, O, M, ss, _, w, sl, q, ?_⟩
  rintro vs H1 F1 M1 ts x1 w1 r1 ⟨z, q1⟩
  refine ⟨r1.length ▸ z, fun p hp => ?_⟩
  exact k _ _ _ _ _ x1 (w1.newM hp (.lst r1)) (.raw _) (q1 p (w1.fM hp))

/-! ### what does not touch the heap: operators on flat values -/
/-- an operation that asks something of two flat trees -/
def dOp2 (R : T → T → QE → Mp → Prop) (ta tb : E3) : E3 := fun ss M Q => ta ss M fun x M1 => tb ss M1 fun y M2 => R x y Q M2
def dOp1 (R : T → QE → Mp → Prop) (ta : E3) : E3 := fun ss M Q => ta ss M fun x M1 => R x Q M1
/-- a two-place operation's rule carried to trees -/
def OpD (K : PySem.W.Frag) (r : R2) (R : T → T → QE → Mp → Prop) : Prop :=
  ∀ (F O H : Hp) (M : Mp) (x y : V) (t u : T) (Q3 : QE) (Q : VK), Wd K F O H M → Rep K F x t → Rep K F y u → R t u Q3 M → LkV K F O Q3 Q → r x y H Q
def OpD1 (K : PySem.W.Frag) (r : V → Hp → VK → Prop) (R : T → QE → Mp → Prop) : Prop :=
  ∀ (F O H : Hp) (M : Mp) (x : V) (t : T) (Q3 : QE) (Q : VK), Wd K F O H M → Rep K F x t → R t Q3 M → LkV K F O Q3 Q → r x H Q
theorem lift_op2 {K : PySem.W.Frag} {r : R2} {R : T → T → QE → Mp → Prop} (h : OpD K r R) : ∀ σ H Q, liftE K (dOp2 R ta tb) σ H Q → tOp r (liftE K ta) (liftE K tb) σ H Q := by
  rintro σ H Q ⟨F, O, M, ss, Q3, w, sl, q, k⟩
  refine ⟨F, O, M, ss, _, w, sl, q, ?_⟩
  intro v H1 F1 M1 t x1 w1 r1 q1
  refine ⟨F1, O, M1, ss, _, w1, sl.mono x1, q1, ?_⟩
  intro u H2 F2 M2 t2 x2 w2 r2 q2
  exact h F2 O H2 M2 v u t t2 Q3 Q w2 (r1.mono x2) r2 q2 (k.mono (x1.trans x2))
theorem d_op {op : Operator} {r : R2} {R : T → T → QE → Mp → Prop} (ho : OpR X (binaryOp op) r) (h : OpD X.K r R) (ha : DE X a ta) (hb : DE X b tb) : DE X (.BinOp a op b pos) (dOp2 R ta tb) :=
  pe_weak (pe_op ho ha hb) (lift_op2 h)
theorem d_un {op : UnaryOp} {r : V → Hp → VK → Prop} {R : T → QE → Mp → Prop} (ho : UnR X (unaryOp op) r) (h : OpD1 X.K r R) (ha : DE X a ta) : DE X (.UnaryOp op a pos) (dOp1 R ta) := by
  refine pe_weak (pe_un ho ha) ?_
  rintro σ H Q ⟨F, O, M, ss, Q3, w, sl, q, k⟩
  refine ⟨F, O, M, ss, _, w, sl, q, ?_⟩
  intro v H1 F1 M1 t x1 w1 r1 q1
  exact h F1 O H1 M1 v t Q3 Q w1 r1 q1 (k.mono x1)
theorem d_cmp {op : CmpOp} {r : R2} {R : T → T → QE → Mp → Prop} (ho : OpR X (compareOp op) r) (h : OpD X.K r R) (ha : DE X a ta) (hb : DE X b tb) (hm : behindInMarks op b = false) : DE X (.Compare a [op] [b] pos) (dOp2 R ta tb) :=
  pe_weak (pe_cmpR ho ha hb hm) (lift_op2 h)
end
end L3

set_option maxHeartbeats 1000000
/-! L3C: operators over trees. -/
namespace L3
open PySem PySem.Spec PyProof.Rows L2

/-- what a bare reference shows now -/
def look (t : T) (M : Mp) : T := match t with
  | .raw (.ref a) => (match M a with
    | some (.lst xs) => .lst xs
    | some (.dct kvs) => .dic kvs
    | _ => .raw (.ref a))
  | t => t
/-- a value as it is read now -/
inductive Sees (K : PySem.W.Frag) (F H : Hp) : V → T → Prop
  | non : Sees K F H .non .non
  | bl (b : Bool) : Sees K F H (.bl b) (.bl b)
  | int (i : Int) : Sees K F H (.int i) (.int i)
  | str (x : Str) : Sees K F H (.str x) (.str x)
  | tup {a : Addr} {vs : List V} {ts : List T} : SqT K F a vs → Reps K F vs ts → Sees K F H (.ref a) (.tup ts)
  | lst {a : Addr} {vs : List V} {ts : List T} : H a = some (.lst vs) → Reps K F vs ts → Sees K F H (.ref a) (.lst ts)
  | scr {a : Addr} {vs : List V} {ts : List T} : SqL K H a vs → Reps K F vs ts → Sees K F H (.ref a) (.scr ts)
  | dic {a : Addr} {kvs : List (Key × V)} {kts : List (Key × T)} : H a = some (.dK kvs) → RepKV K F kvs kts → Sees K F H (.ref a) (.dic kts)
  | raw (v : V) : Sees K F H v (.raw v)
section
variable {K : PySem.W.Frag} {F O H : Hp} {M : Mp} {v : V} {t : T}
theorem Wd.ex (w : Wd K F O H M) : Ex F H := w.sub
theorem Rep.sees' (w : Wd K F O H M) (r : Rep K F v t) : Sees K F H v t := by
  cases r with
  | non => exact .non
  | bl b => exact .bl b
  | int i => exact .int i
  | str x => exact .str x
  | tup h r => exact .tup h r
  | lst h r => exact .lst (w.sub _ _ h) r
  | scr h r => exact .scr (w.ex.sqL h) r
  | dic h r => exact .dic (w.sub _ _ h) r
  | raw v => exact .raw v
theorem Rep.sees (w : Wd K F O H M) (r : Rep K F v t) : Sees K F H v (look t M) := by
  unfold look
  split
  · cases r
    rename_i a
    split
    · rename_i e
      obtain ⟨_, _, o, e2, q⟩ := w.mo a _ e
      cases q with
      | lst q => exact .lst e2 q
    · rename_i e
      obtain ⟨_, _, o, e2, q⟩ := w.mo a _ e
      cases q with
      | dct q => exact .dic e2 q
    · exact .raw _
  · exact r.sees' w
end

section
variable {X : Cx} {K : PySem.W.Frag}
/-! ### + - * // % ** -/
def oAdd (x y : T) (Q : QE) (M : Mp) : Prop := match look x M, look y M with
  | .int i, .int j => Q (.int (i + j)) M
  | .str a, .str b => a.length + b.length ≤ sizeLine ∧ Q (.str (a ++ b)) M
  | .tup xs, .tup ys => xs.length + ys.length ≤ sizeLine ∧ Q (.tup (xs ++ ys)) M
  | .lst xs, .lst ys => xs.length + ys.length ≤ sizeLine ∧ Q (.lst (xs ++ ys)) M
  | _, _ => False

theorem fin_flat {F O H : Hp} {M : Mp} {Q3 : QE} {Q : VK} (w : Wd K F O H M) (k : LkV K F O Q3 Q) {v : V} {t : T} (r : Rep K F v t) (q : Q3 t M) : Q v H := k v H F M t .refl w r q
theorem fin_new {F O H : Hp} {M : Mp} {Q3 : QE} {Q : VK} (w : Wd K F O H M) (k : LkV K F O Q3 Q) {o : HO} {t : T} (r : ∀ F' p, Ex F F' → F' p = some o → Rep K F' (.ref p) t) (q : Q3 t M) : ∀ p, H p = none → Q (.ref p) (upd H p o) := by
  intro p hp
  have x : Ex F (upd F p o) := .upd (w.fF hp)
  exact k _ _ _ M t x (w.newF hp o) (r _ p x upd_same) q
theorem od_add : OpD K (fun x y H Q => rI0 (fun i j => .int (i + j)) x y H Q ∨ (∃ i j, x = .str i ∧ y = .str j ∧ i.length + j.length ≤ sizeLine ∧ Q (.str (i ++ j)) H) ∨ rCatA K x y H Q ∨ rCat x y H Q) oAdd := by
  intro F O H M x y t u Q3 Q w rx ry q k
  have sx := rx.sees w
  have sy := ry.sees w
  unfold oAdd at q
  split at q
  · rename_i i j e1 e2
    rw [e1] at sx
    rw [e2] at sy
    cases sx; cases sy
    exact .inl ⟨i, j, rfl, rfl, fin_flat w k (.int _) q⟩
  · rename_i i j e1 e2
    rw [e1] at sx
    rw [e2] at sy
    cases sx; cases sy
    exact .inr (.inl ⟨i, j, rfl, rfl, q.1, fin_flat w k (.str _) q.2⟩)
  · rename_i xs ys e1 e2
    rw [e1] at sx
    rw [e2] at sy
    cases sx with
    | tup hx px =>
    cases sy with
    | tup hy py =>
    rename_i a vs b us
    have e3 := px.length
    have e4 := py.length
    refine .inr (.inr (.inl ⟨a, b, vs, us, rfl, rfl, w.ex.sqT hx, w.ex.sqT hy, by omega, fun z => ?_, fun _ z => ?_, fun _ _ => ?_⟩))
    · subst z
      cases px
      exact fin_flat w k (.tup hy py) q.2
    · subst z
      cases py
      rw [List.append_nil] at q
      exact fin_flat w k (.tup hx px) q.2
    · exact fin_new w k (fun F' p x e => .tup (.of e) ((px.append py).mono x)) q.2
  · rename_i xs ys e1 e2
    rw [e1] at sx
    rw [e2] at sy
    cases sx with
    | lst hx px =>
    cases sy with
    | lst hy py =>
    rename_i a vs b us
    have e3 := px.length
    have e4 := py.length
    exact .inr (.inr (.inr ⟨a, b, vs, us, rfl, rfl, hx, hy, by omega, fin_new w k (fun F' p x e => .lst e ((px.append py).mono x)) q.2⟩))
  · exact q.elim

def oInt2 (C : Int → Int → Prop) (g : Int → Int → T) (x y : T) (Q : QE) (M : Mp) : Prop := match x, y with
  | .int i, .int j => C i j ∧ Q (g i j) M
  | _, _ => False
theorem od_int2 {C : Int → Int → Prop} {g : Int → Int → T} {g' : Int → Int → V} (hg : ∀ F i j, Rep K F (g' i j) (g i j)) : OpD K (rI C g') (oInt2 C g) := by
  intro F O H M x y t u Q3 Q w rx ry q k
  unfold oInt2 at q
  split at q
  · cases rx; cases ry
    exact ⟨_, _, rfl, rfl, q.1, fin_flat w k (hg _ _ _) q.2⟩
  · exact q.elim
def oSub : T → T → QE → Mp → Prop := fun x y Q M => match x, y with
  | .int i, .int j => Q (.int (i - j)) M
  | _, _ => False
theorem od_sub : OpD K (rI0 fun i j => .int (i - j)) oSub := by
  intro F O H M x y t u Q3 Q w rx ry q k
  unfold oSub at q
  split at q
  · cases rx; cases ry
    exact ⟨_, _, rfl, rfl, fin_flat w k (.int _) q⟩
  · exact q.elim
theorem op_mulI : OpR X (binaryOp .Mult) (rI IntMulOk fun i j => .int (i * j)) := opI fun _ _ _ _ _ _ _ hc q => mul_int q hc
theorem op_mulS : OpR X (binaryOp .Mult) (fun x y H Q => ∃ z n, x = .str z ∧ y = .int n ∧ MulOk z n ∧ Q (.str (Txt.mul z n)) H) := by
  intro pins s σ H x y v u Q I rx ry h
  obtain ⟨z, n, rfl, rfl, c, q⟩ := h
  obtain ⟨t, rfl⟩ := rx
  obtain ⟨t', rfl⟩ := ry
  exact SB.mul c fun t2 kk => ⟨.str _, H, I.tok _, ⟨_, rfl⟩, q⟩
def oMul : T → T → QE → Mp → Prop := fun x y Q M => match look x M, look y M with
  | .int i, .int j => IntMulOk i j ∧ Q (.int (i * j)) M
  | .str z, .int n => MulOk z n ∧ Q (.str (Txt.mul z n)) M
  | .lst xs, .int n => (-(2 ^ 63) ≤ n ∧ n < 2 ^ 63 ∧ xs.length * n.toNat ≤ sizeLine) ∧ Q (.lst (List.replicate n.toNat xs).flatten) M
  | _, _ => False
theorem Reps.rep {F : Hp} {vs : List V} {ts : List T} (r : Reps K F vs ts) : ∀ n : Nat, Reps K F (List.replicate n vs).flatten (List.replicate n ts).flatten
  | 0 => .nil
  | n + 1 => by
    rw [List.replicate_succ, List.replicate_succ, List.flatten_cons, List.flatten_cons]
    exact r.append (Reps.rep r n)
theorem od_mul : OpD K (fun x y H Q => rI IntMulOk (fun i j => .int (i * j)) x y H Q ∨ (∃ z n, x = .str z ∧ y = .int n ∧ MulOk z n ∧ Q (.str (Txt.mul z n)) H) ∨ rRep x y H Q) oMul := by
  intro F O H M x y t u Q3 Q w rx ry q k
  have sx := rx.sees w
  have sy := ry.sees w
  unfold oMul at q
  split at q
  · rename_i i j e1 e2
    rw [e1] at sx
    rw [e2] at sy
    cases sx; cases sy
    exact .inl ⟨i, j, rfl, rfl, q.1, fin_flat w k (.int _) q.2⟩
  · rename_i i j e1 e2
    rw [e1] at sx
    rw [e2] at sy
    cases sx; cases sy
    exact .inr (.inl ⟨i, j, rfl, rfl, q.1, fin_flat w k (.str _) q.2⟩)
  · rename_i xs n e1 e2
    rw [e1] at sx
    rw [e2] at sy
    cases sy
    cases sx with
    | lst hx px =>
    rename_i a vs
    have e3 := px.length
    obtain ⟨⟨h1, h2, h3⟩, q⟩ := q
    exact .inr (.inr ⟨a, n, vs, rfl, rfl, hx, h1, h2, e3 ▸ h3, fin_new w k (fun F' p x e => .lst e ((px.rep _).mono x)) q⟩)
  · exact q.elim
section
variable {a b c e : Expr} {es : List Expr} {te ta tb tc : E3} {tt tu : T3} {tl : A3} {pos : Pos}
theorem d_add (ha : DE X a ta) (hb : DE X b tb) : DE X (.BinOp a .Add b pos) (dOp2 oAdd ta tb) := d_op (op_add.or (op_add_str.or (op_catA.or op_cat))) od_add ha hb
theorem d_sub (ha : DE X a ta) (hb : DE X b tb) : DE X (.BinOp a .Sub b pos) (dOp2 oSub ta tb) := d_op op_sub od_sub ha hb
theorem d_mul (ha : DE X a ta) (hb : DE X b tb) : DE X (.BinOp a .Mult b pos) (dOp2 oMul ta tb) := d_op (op_mulI.or (op_mulS.or op_rep)) od_mul ha hb
def oFdiv : T → T → QE → Mp → Prop := oInt2 CDivW fun i j => .int (i / j)
def oMod : T → T → QE → Mp → Prop := oInt2 (fun _ j => 0 < j) fun i j => .int (i % j)
def oPow : T → T → QE → Mp → Prop := oInt2 CPow fun i j => .int (i ^ j.toNat)
theorem d_fdiv (ha : DE X a ta) (hb : DE X b tb) : DE X (.BinOp a .FloorDiv b pos) (dOp2 oFdiv ta tb) := d_op op_fdivW (od_int2 fun _ _ _ => .int _) ha hb
theorem d_mod (ha : DE X a ta) (hb : DE X b tb) : DE X (.BinOp a .Mod b pos) (dOp2 oMod ta tb) := d_op op_mod (od_int2 fun _ _ _ => .int _) ha hb
theorem d_pow (ha : DE X a ta) (hb : DE X b tb) : DE X (.BinOp a .Pow b pos) (dOp2 oPow ta tb) := d_op op_pow (od_int2 fun _ _ _ => .int _) ha hb
def oNeg : T → QE → Mp → Prop := fun x Q M => match x with
  | .int i => Q (.int (-i)) M
  | _ => False
theorem d_neg (ha : DE X a ta) : DE X (.UnaryOp .USub a pos) (dOp1 oNeg ta) := d_un un_neg (by
  intro F O H M x t Q3 Q w rx q k
  unfold oNeg at q
  split at q
  · cases rx
    exact ⟨_, rfl, fin_flat w k (.int _) q⟩
  · exact q.elim) ha

/-! ### comparisons -/
mutual
def T.py : T → Option PyData
  | .non => some .none
  | .bl b => some (.bool b)
  | .int i => some (.int i)
  | .str x => some (.str x)
  | .tup xs => (T.pys xs).map PyData.tuple
  | .lst xs => (T.pys xs).map PyData.list
  | .scr xs => (T.pys xs).map PyData.list
  | .dic kvs => (T.pyKV kvs).map PyData.dict
  | .raw _ => none
def T.pys : List T → Option (List PyData)
  | [] => some []
  | x :: xs => match T.py x, T.pys xs with
    | some d, some ds => some (d :: ds)
    | _, _ => none
def T.pyKV : List (Key × T) → Option (List (PyData × PyData))
  | [] => some []
  | (k, x) :: xs => match T.py x, T.pyKV xs with
    | some d, some ds => some ((match k with | .inl i => PyData.int i | .inr s => PyData.str s, d) :: ds)
    | _, _ => none
end
mutual
theorem Rep.dp {F : Hp} : ∀ {v : V} {t : T} {d : PyData}, Rep K F v t → t.py = some d → d.canLay0 = true → Dp K F v d
  | _, _, _, .non, e, _ => by cases e; exact .non
  | _, _, _, .bl b, e, _ => by cases e; exact .bl b
  | _, _, _, .int i, e, _ => by cases e; exact .int i
  | _, _, _, .str x, e, _ => by cases e; exact .str x
  | _, _, _, .tup h r, e, c => by
    rw [T.py] at e
    obtain ⟨ds, e1, e2⟩ := Option.map_eq_some_iff.mp e
    subst e2
    exact .tup h (Reps.dp r e1 (by simpa only [PyData.canLay0] using c))
  | _, _, _, .lst h r, e, c => by
    rw [T.py] at e
    obtain ⟨ds, e1, e2⟩ := Option.map_eq_some_iff.mp e
    subst e2
    exact .lst (.of h) (Reps.dp r e1 (by simpa only [PyData.canLay0] using c))
  | _, _, _, .scr h r, e, c => by
    rw [T.py] at e
    obtain ⟨ds, e1, e2⟩ := Option.map_eq_some_iff.mp e
    subst e2
    exact .lst h (Reps.dp r e1 (by simpa only [PyData.canLay0] using c))
  | _, _, _, .dic _ _, e, c => by
    rw [T.py] at e
    obtain ⟨ds, e1, e2⟩ := Option.map_eq_some_iff.mp e
    subst e2
    simp [PyData.canLay0] at c
  | _, _, _, .raw _, e, _ => by cases e
theorem Reps.dp {F : Hp} : ∀ {vs : List V} {ts : List T} {ds : List PyData}, Reps K F vs ts → T.pys ts = some ds → PyData.canLayAll0 ds = true → DpAll K F vs ds
  | _, _, _, .nil, e, _ => by cases e; exact .nil
  | _, _, _, .cons h r, e, c => by
    rw [T.pys] at e
    split at e
    · rename_i e1 e2
      cases e
      simp only [PyData.canLayAll0, Bool.and_eq_true] at c
      exact .cons (Rep.dp h e1 c.1) (Reps.dp r e2 c.2)
    · cases e
end
mutual
theorem Dp.mono {F F' : Hp} (x : Ex F F') : ∀ {v : V} {d : PyData}, Dp K F v d → Dp K F' v d
  | _, _, .non => .non
  | _, _, .bl b => .bl b
  | _, _, .int i => .int i
  | _, _, .str z => .str z
  | _, _, .lst h r => .lst (x.sqL h) (DpAll.mono x r)
  | _, _, .tup h r => .tup (x.sqT h) (DpAll.mono x r)
theorem DpAll.mono {F F' : Hp} (x : Ex F F') : ∀ {v : List V} {d : List PyData}, DpAll K F v d → DpAll K F' v d
  | _, _, .nil => .nil
  | _, _, .cons h r => .cons (Dp.mono x h) (DpAll.mono x r)
end
theorem Sees.dp {F O H : Hp} {M : Mp} (w : Wd K F O H M) {v : V} {t : T} {d : PyData} (r : Sees K F H v t) (e : t.py = some d) (c : d.canLay0 = true) : Dp K H v d := by
  cases r with
  | non => cases e; exact .non
  | bl b => cases e; exact .bl b
  | int i => cases e; exact .int i
  | str x => cases e; exact .str x
  | tup h r => exact Dp.mono w.ex (Rep.dp (.tup h r) e c)
  | lst h r =>
    rw [T.py] at e
    obtain ⟨ds, e1, e2⟩ := Option.map_eq_some_iff.mp e
    subst e2
    exact .lst (.of h) (DpAll.mono w.ex (Reps.dp r e1 (by simpa only [PyData.canLay0] using c)))
  | scr h r =>
    rw [T.py] at e
    obtain ⟨ds, e1, e2⟩ := Option.map_eq_some_iff.mp e
    subst e2
    exact .lst h (DpAll.mono w.ex (Reps.dp r e1 (by simpa only [PyData.canLay0] using c)))
  | dic h r =>
    rw [T.py] at e
    obtain ⟨ds, e1, e2⟩ := Option.map_eq_some_iff.mp e
    subst e2
    simp [PyData.canLay0] at c
  | raw v => cases e
/-- == of flat values -/
def scalT : T → T → Option Bool
  | .non, .non => some true
  | .non, .int _ => some false | .int _, .non => some false
  | .non, .bl _ => some false | .bl _, .non => some false
  | .non, .str _ => some false | .str _, .non => some false
  | .int i, .int j => some (decide (i = j))
  | .bl i, .bl j => some (decide (i = j))
  | .str i, .str j => some (decide (i = j))
  | .int _, .str _ => some false | .str _, .int _ => some false
  | .bl _, .str _ => some false | .str _, .bl _ => some false
  | _, _ => none
theorem scalT_ok {F : Hp} {x y : V} {t u : T} {b : Bool} (rx : Rep K F x t) (ry : Rep K F y u) (h : scalT t u = some b) : scal x y = true ∧ decide (x = y) = b := by
  unfold scalT at h
  split at h <;> first | (cases h; done) | (cases rx; cases ry; cases h; refine ⟨rfl, ?_⟩; simp)
def oEqB (neg : Bool) (x y : T) (Q : QE) (M : Mp) : Prop := match scalT x y with
  | some b => Q (.bl (if neg then !b else b)) M
  | none => match (look x M).py, (look y M).py with
    | some d, some e => SeqAt.shaped d = true ∧ SeqAt.shaped e = true ∧ Q (.bl (if neg then !PyData.eqv d e else PyData.eqv d e)) M
    | _, _ => False
theorem od_eq : OpD K (fun x y H Q => rEq x y H Q ∨ rEqD K x y H Q) (oEqB false) := by
  intro F O H M x y t u Q3 Q w rx ry q k
  unfold oEqB at q
  split at q
  · rename_i b e
    obtain ⟨h1, h2⟩ := scalT_ok rx ry e
    exact .inl ⟨h1, h2 ▸ fin_flat w k (.bl _) q⟩
  · split at q
    · rename_i d e e1 e2
      obtain ⟨s1, s2, q⟩ := q
      exact .inr ⟨d, e, (rx.sees w).dp w e1 (SeqAt.canLay_of_shaped s1), (ry.sees w).dp w e2 (SeqAt.canLay_of_shaped s2), s1, s2, fin_flat w k (.bl _) q⟩
    · exact q.elim
theorem od_ne : OpD K (fun x y H Q => rNe x y H Q ∨ rNeD K x y H Q) (oEqB true) := by
  intro F O H M x y t u Q3 Q w rx ry q k
  unfold oEqB at q
  split at q
  · rename_i b e
    obtain ⟨h1, h2⟩ := scalT_ok rx ry e
    exact .inl ⟨h1, h2 ▸ fin_flat w k (.bl _) q⟩
  · split at q
    · rename_i d e e1 e2
      obtain ⟨s1, s2, q⟩ := q
      exact .inr ⟨d, e, (rx.sees w).dp w e1 (SeqAt.canLay_of_shaped s1), (ry.sees w).dp w e2 (SeqAt.canLay_of_shaped s2), s1, s2, fin_flat w k (.bl _) q⟩
    · exact q.elim
theorem d_eq (hu : X.A.units + 64 < cLine) (ha : DE X a ta) (hb : DE X b tb) : DE X (.Compare a [.Eq] [b] pos) (dOp2 (oEqB false) ta tb) := d_cmp (op_eq.or (op_eqD hu)) od_eq ha hb (nomark _)
theorem d_ne (hu : X.A.units + 64 < cLine) (ha : DE X a ta) (hb : DE X b tb) : DE X (.Compare a [.NotEq] [b] pos) (dOp2 (oEqB true) ta tb) := d_cmp (op_ne.or (op_neD hu)) od_ne ha hb (nomark _)
/-- order: ints, texts -/
def oOrd (f : Int → Int → Bool) (g : Str → Str → Bool) (x y : T) (Q : QE) (M : Mp) : Prop := match x, y with
  | .int i, .int j => Q (.bl (f i j)) M
  | .str i, .str j => Q (.bl (g i j)) M
  | _, _ => False
theorem od_ord {f : Int → Int → Bool} {g : Str → Str → Bool} : OpD K (fun x y H Q => rI0 (fun i j => .bl (f i j)) x y H Q ∨ ∃ i j, x = .str i ∧ y = .str j ∧ Q (.bl (g i j)) H) (oOrd f g) := by
  intro F O H M x y t u Q3 Q w rx ry q k
  unfold oOrd at q
  split at q
  · cases rx; cases ry
    exact .inl ⟨_, _, rfl, rfl, fin_flat w k (.bl _) q⟩
  · cases rx; cases ry
    exact .inr ⟨_, _, rfl, rfl, fin_flat w k (.bl _) q⟩
  · exact q.elim
def ltS (i j : Str) : Bool := decide (i.cps.toList < j.cps.toList)
def oLt := oOrd (fun i j => decide (i < j)) ltS
def oLe := oOrd (fun i j => decide (i ≤ j)) fun i j => !ltS j i
def oGt := oOrd (fun i j => decide (j < i)) fun i j => ltS j i
def oGe := oOrd (fun i j => decide (j ≤ i)) fun i j => !ltS i j
theorem d_lt (ha : DE X a ta) (hb : DE X b tb) : DE X (.Compare a [.Lt] [b] pos) (dOp2 oLt ta tb) := d_cmp (op_lt.or op_lt_str) od_ord ha hb (nomark _)
theorem d_le (ha : DE X a ta) (hb : DE X b tb) : DE X (.Compare a [.LtE] [b] pos) (dOp2 oLe ta tb) := d_cmp (op_le.or op_le_str) od_ord ha hb (nomark _)
theorem d_gt (ha : DE X a ta) (hb : DE X b tb) : DE X (.Compare a [.Gt] [b] pos) (dOp2 oGt ta tb) := d_cmp (op_gt.or op_gt_str) od_ord ha hb (nomark _)
theorem d_ge (ha : DE X a ta) (hb : DE X b tb) : DE X (.Compare a [.GtE] [b] pos) (dOp2 oGe ta tb) := d_cmp (op_ge.or op_ge_str) od_ord ha hb (nomark _)
/-- a chain of two comparisons -/
def dChain (R R' : T → T → QE → Mp → Prop) (ta tb tc : E3) : E3 := fun ss M Q => ta ss M fun x M1 => tb ss M1 fun y M2 => R x y (fun z M3 => match z with
  | .bl true => tc ss M3 fun z' M4 => R' y z' Q M4
  | .bl false => Q (.bl false) M3
  | _ => False) M2
theorem d_chain {op op' : CmpOp} {r r' : R2} {R R' : T → T → QE → Mp → Prop} (ho : OpR X (compareOp op) r) (h : OpD X.K r R) (ho' : OpR X (compareOp op') r') (h' : OpD X.K r' R') (ha : DE X a ta) (hb : DE X b tb) (hc : DE X c tc)
    (hm : lastMarks [op, op'] [b, c] = false) : DE X (.Compare a [op, op'] [b, c] pos) (dChain R R' ta tb tc) := by
  refine pe_weak (pe_chain ho ho' ha hb hc hm) ?_
  rintro σ H Q ⟨F, O, M, ss, Q3, w, sl, q, k⟩
  refine ⟨F, O, M, ss, _, w, sl, q, ?_⟩
  intro v H1 F1 M1 t x1 w1 r1 q1
  refine ⟨F1, O, M1, ss, _, w1, sl.mono x1, q1, ?_⟩
  intro u H2 F2 M2 t2 x2 w2 r2 q2
  refine h F2 O H2 M2 v u t t2 _ _ w2 (r1.mono x2) r2 q2 ?_
  intro z H3 F3 M3 t3 x3 w3 r3 q3
  split at q3
  · cases r3
    refine ⟨true, rfl, ?_⟩
    rw [if_pos rfl]
    refine ⟨F3, O, M3, ss, _, w3, sl.mono (x1.trans (x2.trans x3)), q3, ?_⟩
    intro z' H4 F4 M4 t4 x4 w4 r4 q4
    exact h' F4 O H4 M4 u z' t2 t4 Q3 Q w4 (r2.mono (x3.trans x4)) r4 q4 (k.mono (x1.trans (x2.trans (x3.trans x4))))
  · cases r3
    refine ⟨false, rfl, ?_⟩
    rw [if_neg Bool.false_ne_true]
    exact k _ H3 F3 M3 _ (x1.trans (x2.trans x3)) w3 (.bl _) q3
  · exact q3.elim
theorem d_lele (ha : DE X a ta) (hb : DE X b tb) (hc : DE X c tc) (hm : lastMarks [.LtE, .LtE] [b, c] = false := by with_unfolding_all rfl) : DE X (.Compare a [.LtE, .LtE] [b, c] pos) (dChain oLe oLe ta tb tc) := d_chain (op_le.or op_le_str) od_ord (op_le.or op_le_str) od_ord ha hb hc hm
theorem d_ltlt (ha : DE X a ta) (hb : DE X b tb) (hc : DE X c tc) (hm : lastMarks [.Lt, .Lt] [b, c] = false := by with_unfolding_all rfl) : DE X (.Compare a [.Lt, .Lt] [b, c] pos) (dChain oLt oLt ta tb tc) := d_chain (op_lt.or op_lt_str) od_ord (op_lt.or op_lt_str) od_ord ha hb hc hm
/-- is None, is not None -/
def isNon : T → Option Bool
  | .non => some true
  | .raw _ => none
  | _ => some false
def oIsN (neg : Bool) (x : T) (Q : QE) (M : Mp) : Prop := match isNon x with
  | some b => Q (.bl (if neg then !b else b)) M
  | none => False
theorem isNon_ok {F : Hp} {x : V} {t : T} {b : Bool} (rx : Rep K F x t) (h : isNon t = some b) : decide (x = .non) = b := by
  unfold isNon at h
  split at h
  · cases rx; cases h; rfl
  · cases h
  · rename_i h1 h2
    cases h
    cases rx <;> first | rfl | exact absurd rfl h1 | exact absurd rfl (h2 _) | simp
theorem d_isN {j pos'} (ha : DE X a ta) : DE X (.Compare a [.Is] [.Constant .none j pos'] pos) (dOp1 (oIsN false) ta) := by
  refine pe_weak (pe_cmp (pc_isN ha)) ?_
  rintro σ H Q ⟨F, O, M, ss, Q3, w, sl, q, k⟩
  refine ⟨F, O, M, ss, _, w, sl, q, ?_⟩
  intro v H1 F1 M1 t x1 w1 r1 q1
  unfold oIsN at q1
  split at q1
  · rename_i b e
    rw [isNon_ok r1 e]
    exact fin_flat w1 (k.mono x1) (.bl _) q1
  · exact q1.elim
theorem d_notN {j pos'} (ha : DE X a ta) : DE X (.Compare a [.IsNot] [.Constant .none j pos'] pos) (dOp1 (oIsN true) ta) := by
  refine pe_weak (pe_cmp (pc_notN ha)) ?_
  rintro σ H Q ⟨F, O, M, ss, Q3, w, sl, q, k⟩
  refine ⟨F, O, M, ss, _, w, sl, q, ?_⟩
  intro v H1 F1 M1 t x1 w1 r1 q1
  unfold oIsN at q1
  split at q1
  · rename_i b e
    rw [isNon_ok r1 e]
    exact fin_flat w1 (k.mono x1) (.bl _) q1
  · exact q1.elim

/-! ### tests -/
def dB (te : E3) : T3 := fun ss M Q => te ss M fun t M1 => match t with
  | .bl b => Q b M1
  | _ => False
theorem lift_bool {K : PySem.W.Frag} {te : E3} {σ : L2.St} {H : Hp} {Q : Bool → Hp → Prop} (h : liftT K (dB te) σ H Q) : liftE K te σ H fun x H1 => ∃ c, x = .bl c ∧ Q c H1 := by
  obtain ⟨F, O, M, ss, Q3, w, sl, q, k⟩ := h
  refine ⟨F, O, M, ss, _, w, sl, q, ?_⟩
  intro v H1 F1 M1 t x1 w1 r1 q1
  split at q1
  · cases r1
    exact ⟨_, rfl, k _ H1 F1 M1 x1 w1 q1⟩
  · exact q1.elim
/-- an expression whose value is a bool -/
theorem dt_val (h : DE X e te) (he : ∀ whole, isTrue e X.env whole = (do let v ← whole; standAt e.pos; holding [v] (truthy v)) := by intro _; rfl) : DT X e (dB te) :=
  pt_weak (pt_val h he) fun _ _ _ => lift_bool
theorem pt_cmp1 {op : CmpOp} {t : TE} (h : PE X (.Compare a [op] [b] pos) t) : PC X op a b t → True := fun _ => trivial
theorem dt_cmp {op : CmpOp} {r : R2} {R : T → T → QE → Mp → Prop} (ho : OpR X (compareOp op) r) (h : OpD X.K r R) (ha : DE X a ta) (hb : DE X b tb) (hm : behindInMarks op b = false) : DT X (.Compare a [op] [b] pos) (dB (dOp2 R ta tb)) := by
  refine pt_weak (pt_cmpR ho ha hb hm) ?_
  intro σ H Q hh
  exact lift_op2 h _ _ _ (lift_bool hh)
theorem dt_eq (hu : X.A.units + 64 < cLine) (ha : DE X a ta) (hb : DE X b tb) : DT X (.Compare a [.Eq] [b] pos) (dB (dOp2 (oEqB false) ta tb)) := dt_cmp (op_eq.or (op_eqD hu)) od_eq ha hb (nomark _)
theorem dt_ne (hu : X.A.units + 64 < cLine) (ha : DE X a ta) (hb : DE X b tb) : DT X (.Compare a [.NotEq] [b] pos) (dB (dOp2 (oEqB true) ta tb)) := dt_cmp (op_ne.or (op_neD hu)) od_ne ha hb (nomark _)
theorem dt_lt (ha : DE X a ta) (hb : DE X b tb) : DT X (.Compare a [.Lt] [b] pos) (dB (dOp2 oLt ta tb)) := dt_cmp (op_lt.or op_lt_str) od_ord ha hb (nomark _)
theorem dt_le (ha : DE X a ta) (hb : DE X b tb) : DT X (.Compare a [.LtE] [b] pos) (dB (dOp2 oLe ta tb)) := dt_cmp (op_le.or op_le_str) od_ord ha hb (nomark _)
theorem dt_gt (ha : DE X a ta) (hb : DE X b tb) : DT X (.Compare a [.Gt] [b] pos) (dB (dOp2 oGt ta tb)) := dt_cmp (op_gt.or op_gt_str) od_ord ha hb (nomark _)
theorem dt_ge (ha : DE X a ta) (hb : DE X b tb) : DT X (.Compare a [.GtE] [b] pos) (dB (dOp2 oGe ta tb)) := dt_cmp (op_ge.or op_ge_str) od_ord ha hb (nomark _)
theorem dt_isN {j pos'} (ha : DE X a ta) : DT X (.Compare a [.Is] [.Constant .none j pos'] pos) (dB (dOp1 (oIsN false) ta)) := by
  refine pt_weak (pt_cmp (pc_isN ha)) ?_
  intro σ H Q hh
  obtain ⟨F, O, M, ss, Q3, w, sl, q, k⟩ := lift_bool hh
  refine ⟨F, O, M, ss, _, w, sl, q, ?_⟩
  intro v H1 F1 M1 t x1 w1 r1 q1
  unfold oIsN at q1
  split at q1
  · rename_i b e
    rw [isNon_ok r1 e]
    exact fin_flat w1 (k.mono x1) (.bl _) q1
  · exact q1.elim
theorem dt_notN {j pos'} (ha : DE X a ta) : DT X (.Compare a [.IsNot] [.Constant .none j pos'] pos) (dB (dOp1 (oIsN true) ta)) := by
  refine pt_weak (pt_cmp (pc_notN ha)) ?_
  intro σ H Q hh
  obtain ⟨F, O, M, ss, Q3, w, sl, q, k⟩ := lift_bool hh
  refine ⟨F, O, M, ss, _, w, sl, q, ?_⟩
  intro v H1 F1 M1 t x1 w1 r1 q1
  unfold oIsN at q1
  split at q1
  · rename_i b e
    rw [isNon_ok r1 e]
    exact fin_flat w1 (k.mono x1) (.bl _) q1
  · exact q1.elim
def dAnd (t u : T3) : T3 := fun ss M Q => t ss M fun b M1 => match b with
  | true => u ss M1 Q
  | false => Q false M1
def dOr (t u : T3) : T3 := fun ss M Q => t ss M fun b M1 => match b with
  | true => Q true M1
  | false => u ss M1 Q
def dNot (t : T3) : T3 := fun ss M Q => t ss M fun b M1 => Q (!b) M1
variable {rest : List Expr}
theorem dw_and1 (ha : DT X a tt) : DW X (.BoolOp .And [a] pos) tt := pw_and1 ha
theorem dw_or1 (ha : DT X a tt) : DW X (.BoolOp .Or [a] pos) tt := pw_or1 ha
theorem dw_and (ha : DT X a tt) (hb : DW X (.BoolOp .And (b :: rest) pos) tu) : DW X (.BoolOp .And (a :: b :: rest) pos) (dAnd tt tu) := by
  refine pw_weak (pw_and ha hb) ?_
  rintro σ H Q ⟨F, O, M, ss, Q3, w, sl, q, k⟩
  refine ⟨F, O, M, ss, _, w, sl, q, ?_⟩
  intro c H1 F1 M1 x1 w1 q1
  cases c with
  | true => exact ⟨F1, O, M1, ss, Q3, w1, sl.mono x1, q1, fun d H2 F2 M2 x2 => k d H2 F2 M2 (x1.trans x2)⟩
  | false => exact k false H1 F1 M1 x1 w1 q1
theorem dw_or (ha : DT X a tt) (hb : DW X (.BoolOp .Or (b :: rest) pos) tu) : DW X (.BoolOp .Or (a :: b :: rest) pos) (dOr tt tu) := by
  refine pw_weak (pw_or ha hb) ?_
  rintro σ H Q ⟨F, O, M, ss, Q3, w, sl, q, k⟩
  refine ⟨F, O, M, ss, _, w, sl, q, ?_⟩
  intro c H1 F1 M1 x1 w1 q1
  cases c with
  | true => exact k true H1 F1 M1 x1 w1 q1
  | false => exact ⟨F1, O, M1, ss, Q3, w1, sl.mono x1, q1, fun d H2 F2 M2 x2 => k d H2 F2 M2 (x1.trans x2)⟩
theorem dt_not (ha : DT X a tt) : DT X (.UnaryOp .Not a pos) (dNot tt) := by
  refine pt_weak (pt_not ha) ?_
  rintro σ H Q ⟨F, O, M, ss, Q3, w, sl, q, k⟩
  exact ⟨F, O, M, ss, _, w, sl, q, fun d H2 F2 M2 x2 w2 q2 => k _ H2 F2 M2 x2 w2 q2⟩
/-- .. as values -/
def dAndV (ta tb : E3) : E3 := fun ss M Q => ta ss M fun x M1 => match x with
  | .bl true => tb ss M1 Q
  | .bl false => Q (.bl false) M1
  | _ => False
def dOrV (ta tb : E3) : E3 := fun ss M Q => ta ss M fun x M1 => match x with
  | .bl true => Q (.bl true) M1
  | .bl false => tb ss M1 Q
  | _ => False
theorem d_one {op} (h : DE X a te) : DE X (.BoolOp op [a] pos) te := pe_one h
theorem d_and (ha : DE X a ta) (hb : DE X (.BoolOp .And (b :: rest) pos) tb) : DE X (.BoolOp .And (a :: b :: rest) pos) (dAndV ta tb) := by
  refine pe_weak (pe_and ha hb) ?_
  rintro σ H Q ⟨F, O, M, ss, Q3, w, sl, q, k⟩
  refine ⟨F, O, M, ss, _, w, sl, q, ?_⟩
  intro c H1 F1 M1 t x1 w1 r1 q1
  split at q1
  · cases r1
    refine ⟨true, rfl, ?_⟩
    rw [if_pos rfl]
    exact ⟨F1, O, M1, ss, Q3, w1, sl.mono x1, q1, k.mono x1⟩
  · cases r1
    refine ⟨false, rfl, ?_⟩
    rw [if_neg Bool.false_ne_true]
    exact k _ H1 F1 M1 _ x1 w1 (.bl _) q1
  · exact q1.elim
theorem d_or (ha : DE X a ta) (hb : DE X (.BoolOp .Or (b :: rest) pos) tb) : DE X (.BoolOp .Or (a :: b :: rest) pos) (dOrV ta tb) := by
  refine pe_weak (pe_or ha hb) ?_
  rintro σ H Q ⟨F, O, M, ss, Q3, w, sl, q, k⟩
  refine ⟨F, O, M, ss, _, w, sl, q, ?_⟩
  intro c H1 F1 M1 t x1 w1 r1 q1
  split at q1
  · cases r1
    refine ⟨true, rfl, ?_⟩
    rw [if_pos rfl]
    exact k _ H1 F1 M1 _ x1 w1 (.bl _) q1
  · cases r1
    refine ⟨false, rfl, ?_⟩
    rw [if_neg Bool.false_ne_true]
    exact ⟨F1, O, M1, ss, Q3, w1, sl.mono x1, q1, k.mono x1⟩
  · exact q1.elim
/-- not e as a value, e a bool -/
def oNotB : T → QE → Mp → Prop := fun x Q M => match x with
  | .bl b => Q (.bl (!b)) M
  | _ => False
theorem d_not (ha : DE X a ta) : DE X (.UnaryOp .Not a pos) (dOp1 oNotB ta) := by
  refine pe_weak (pe_not ha) ?_
  rintro σ H Q ⟨F, O, M, ss, Q3, w, sl, q, k⟩
  refine ⟨F, O, M, ss, _, w, sl, q, ?_⟩
  intro c H1 F1 M1 t x1 w1 r1 q1
  unfold oNotB at q1
  split at q1
  · cases r1
    exact ⟨_, rfl, k _ H1 F1 M1 _ x1 w1 (.bl _) q1⟩
  · exact q1.elim
def dIf (t : T3) (ta tb : E3) : E3 := fun ss M Q => t ss M fun b M1 => match b with
  | true => ta ss M1 Q
  | false => tb ss M1 Q
theorem d_ifExp (hc : DT X c tt) (ha : DE X a ta) (hb : DE X b tb) : DE X (.IfExp c a b pos) (dIf tt ta tb) := by
  refine pe_weak (pe_ifExp hc ha hb) ?_
  rintro σ H Q ⟨F, O, M, ss, Q3, w, sl, q, k⟩
  refine ⟨F, O, M, ss, _, w, sl, q, ?_⟩
  intro d H1 F1 M1 x1 w1 q1
  cases d with
  | true =>
    rw [if_pos rfl]
    exact ⟨F1, O, M1, ss, Q3, w1, sl.mono x1, q1, k.mono x1⟩
  | false =>
    rw [if_neg Bool.false_ne_true]
    exact ⟨F1, O, M1, ss, Q3, w1, sl.mono x1, q1, k.mono x1⟩
end
end
end L3

set_option maxHeartbeats 1000000
/-! L3D: subscripts, slices, loops, comprehensions, statements, calls. -/
namespace L3
open PySem PySem.Spec PyProof.Rows L2

section
variable {X : Cx} {K : PySem.W.Frag} {a b c e : Expr} {es : List Expr} {te ta tb tc : E3} {tt tu : T3} {tl : A3} {pos : Pos}

/-! ### subscripts -/
def oIx (x y : T) (Q : QE) (M : Mp) : Prop := match look x M, y with
  | .lst xs, .int i => (match atI xs i with | some t => Q t M | none => False)
  | .scr xs, .int i => (match atI xs i with | some t => Q t M | none => False)
  | .tup xs, .int i => (match atI xs i with | some t => Q t M | none => False)
  | .str z, .int i => z.length ≤ sizeLine ∧ (match atI z.cps.toList i with | some c => Q (.str ⟨#[c]⟩) M | none => False)
  | _, _ => False
theorem Reps.atI {F : Hp} {vs : List V} {ts : List T} (r : Reps K F vs ts) {i : Int} {t : T} (h : atI ts i = some t) : ∃ v, L2.atI vs i = some v ∧ Rep K F v t := by
  unfold L2.atI at h ⊢
  rw [r.length]
  cases e : ixN ts.length i with
  | none => rw [e] at h; cases h
  | some j =>
    rw [e] at h
    exact r.get h
theorem od_ix : OpD K (rIx K) oIx := by
  intro F O H M x y t u Q3 Q w rx ry q k
  have sx := rx.sees w
  unfold oIx at q
  split at q
  · rename_i xs i e1
    rw [e1] at sx
    cases ry
    cases sx with
    | lst hx px =>
    split at q
    · rename_i t' e
      obtain ⟨v, e2, r⟩ := px.atI e
      exact .inl ⟨_, _, _, v, rfl, rfl, .of hx, e2, fin_flat w k r q⟩
    · exact q.elim
  · rename_i xs i e1
    rw [e1] at sx
    cases ry
    cases sx with
    | scr hx px =>
    split at q
    · rename_i t' e
      obtain ⟨v, e2, r⟩ := px.atI e
      exact .inl ⟨_, _, _, v, rfl, rfl, hx, e2, fin_flat w k r q⟩
    · exact q.elim
  · rename_i xs i e1
    rw [e1] at sx
    cases ry
    cases sx with
    | tup hx px =>
    split at q
    · rename_i t' e
      obtain ⟨v, e2, r⟩ := px.atI e
      exact .inr (.inl ⟨_, _, _, v, rfl, rfl, w.ex.sqT hx, e2, fin_flat w k r q⟩)
    · exact q.elim
  · rename_i z i e1
    rw [e1] at sx
    cases ry
    cases sx
    obtain ⟨hz, q⟩ := q
    split at q
    · rename_i c e
      exact .inr (.inr ⟨z, i, c, rfl, rfl, hz, e, fin_flat w k (.str _) q⟩)
    · exact q.elim
  · exact q.elim
theorem d_ix (ha : DE X a ta) (hb : DE X b tb) (hs : PlainIx b) : DE X (.Subscript a b pos) (dOp2 oIx ta tb) := pe_weak (pe_ix ix_seq ha hb hs) (lift_op2 od_ix)

/-! ### slices -/
abbrev O3 := SS → Mp → (Option Int → Mp → Prop) → Prop
def liftO (K : PySem.W.Frag) (t : O3) : TO := fun σ H Q => ∃ F O M ss Q3, Wd K F O H M ∧ SlR K F σ ss ∧ t ss M Q3 ∧ ∀ (o : Option Int) (H' F' : Hp) (M' : Mp), Ex F F' → Wd K F' O H' M' → Q3 o M' → Q o H'
def doNone : O3 := fun _ M Q => Q none M
def doSome (te : E3) : O3 := fun ss M Q => te ss M fun t M1 => match t with
  | .int i => Q (some i) M1
  | _ => False
theorem do_none : PO X none (liftO X.K doNone) := ⟨fun pins s σ H Q I h => po_none.run pins s σ H Q I (by
  obtain ⟨F, O, M, ss, Q3, w, sl, q, k⟩ := h
  exact k none H F M .refl w q)⟩
theorem do_some (h : DE X e te) : PO X (some e) (liftO X.K (doSome te)) := ⟨fun pins s σ H Q I hq => (po_some h).run pins s σ H Q I (by
  obtain ⟨F, O, M, ss, Q3, w, sl, q, k⟩ := hq
  refine ⟨F, O, M, ss, _, w, sl, q, ?_⟩
  intro v H1 F1 M1 t x1 w1 r1 q1
  split at q1
  · cases r1
    exact ⟨_, rfl, k _ H1 F1 M1 x1 w1 q1⟩
  · exact q1.elim)⟩
def cutT {α : Type} (xs : List α) (lo hi : Option Int) : List α := (xs.drop (HT.sIx xs.length 0 lo)).take (HT.sIx xs.length xs.length hi - HT.sIx xs.length 0 lo)
theorem Reps.cut {F : Hp} {vs : List V} {ts : List T} (r : Reps K F vs ts) (lo hi : Option Int) : Reps K F (cutV vs lo hi) (cutT ts lo hi) := by
  unfold cutV cutT
  rw [r.length]
  exact (r.drop _).take _
def oSl (x : T) (lo hi : Option Int) (Q : QE) (M : Mp) : Prop := match look x M with
  | .str z => z.length ≤ sizeLine ∧ Q (.str (cutS z lo hi)) M
  | .lst xs => Q (.lst (cutT xs lo hi)) M
  | .scr xs => Q (.lst (cutT xs lo hi)) M
  | .tup xs => Q (.tup (cutT xs lo hi)) M
  | _ => False
def dSl (te : E3) (lo hi : O3) : E3 := fun ss M Q => te ss M fun x M1 => lo ss M1 fun l M2 => hi ss M2 fun h M3 => oSl x l h Q M3
theorem d_slice {lo hi : Option Expr} {tlo thi : O3} {p2 : Pos} (he : DE X e te) (hl : PO X lo (liftO X.K tlo)) (hh : PO X hi (liftO X.K thi)) : DE X (.Subscript e (.Slice lo hi none p2) pos) (dSl te tlo thi) := by
  refine pe_weak (pe_slice (sl_str.or (sl_list.or sl_tupA)) he hl hh) ?_
  rintro σ H Q ⟨F, O, M, ss, Q3, w, sl, q, k⟩
  refine ⟨F, O, M, ss, _, w, sl, q, ?_⟩
  intro v H1 F1 M1 t x1 w1 r1 q1
  refine ⟨F1, O, M1, ss, _, w1, sl.mono x1, q1, ?_⟩
  intro l H2 F2 M2 x2 w2 q2
  refine ⟨F2, O, M2, ss, _, w2, sl.mono (x1.trans x2), q2, ?_⟩
  intro h H3 F3 M3 x3 w3 q3
  have kk := k.mono (x1.trans (x2.trans x3))
  have sx := (r1.mono (x2.trans x3)).sees w3
  unfold oSl at q3
  split at q3
  · rename_i z e1
    rw [e1] at sx
    cases sx
    exact .inl ⟨z, rfl, q3.1, fin_flat w3 kk (.str _) q3.2⟩
  · rename_i xs e1
    rw [e1] at sx
    cases sx with
    | lst hx px =>
    exact .inr (.inl ⟨_, _, rfl, .of hx, fin_new w3 kk (fun F' p x e => .lst e ((px.cut l h).mono x)) q3⟩)
  · rename_i xs e1
    rw [e1] at sx
    cases sx with
    | scr hx px =>
    exact .inr (.inl ⟨_, _, rfl, hx, fin_new w3 kk (fun F' p x e => .lst e ((px.cut l h).mono x)) q3⟩)
  · rename_i xs e1
    rw [e1] at sx
    cases sx with
    | tup hx px =>
    rename_i a vs
    refine .inr (.inr ⟨a, vs, rfl, w3.ex.sqT hx, fun z => ?_, fun _ => fin_new w3 kk (fun F' p x e => .tup (.of e) ((px.cut l h).mono x)) q3⟩)
    have e2 : cutT xs l h = xs := by
      unfold cutT
      rw [← px.length, z.1, z.2, List.drop_zero, Nat.sub_zero, px.length, List.take_length]
    rw [e2] at q3
    exact fin_flat w3 kk (.tup hx px) q3
  · exact q3.elim
/-- xs[::-1] -/
def oRev (x : T) (Q : QE) (M : Mp) : Prop := match look x M with
  | .lst xs => Q (.lst xs.reverse) M
  | .scr xs => Q (.lst xs.reverse) M
  | _ => False
/-- .. a list that will change -/
def oRevM (x : T) (Q : QE) (M : Mp) : Prop := match look x M with
  | .lst xs => ∀ p, M p = none → Q (.raw (.ref p)) (mset M p (.lst xs.reverse))
  | .scr xs => ∀ p, M p = none → Q (.raw (.ref p)) (mset M p (.lst xs.reverse))
  | _ => False
theorem d_rev {k : Nat} {p1 p2 p3 : Pos} (he : DE X e te) : DE X (.Subscript e (.Slice none none (some (.UnaryOp .USub (.Constant (.int 1) k p1) p2)) p3) pos) (dOp1 oRev te) := by
  refine pe_weak (pe_revL he) ?_
  rintro σ H Q ⟨F, O, M, ss, Q3, w, sl, q, k⟩
  refine ⟨F, O, M, ss, _, w, sl, q, ?_⟩
  intro v H1 F1 M1 t x1 w1 r1 q1
  have sx := r1.sees w1
  unfold oRev at q1
  split at q1
  · rename_i xs e1
    rw [e1] at sx
    cases sx with
    | lst hx px => exact ⟨_, _, rfl, .of hx, fin_new w1 (k.mono x1) (fun F' p x e => .lst e (px.reverse.mono x)) q1⟩
  · rename_i xs e1
    rw [e1] at sx
    cases sx with
    | scr hx px => exact ⟨_, _, rfl, hx, fin_new w1 (k.mono x1) (fun F' p x e => .lst e (px.reverse.mono x)) q1⟩
  · exact q1.elim
theorem fin_newM {F O H : Hp} {M : Mp} {Q3 : QE} {Q : VK} (w : Wd K F O H M) (k : LkV K F O Q3 Q) {o : HO} {m : MO} (r : RepO K F o m) (q : ∀ p, M p = none → Q3 (.raw (.ref p)) (mset M p m)) : ∀ p, H p = none → Q (.ref p) (upd H p o) :=
  fun p hp => k _ _ _ _ _ .refl (w.newM hp r) (.raw _) (q p (w.fM hp))
theorem d_revM {k : Nat} {p1 p2 p3 : Pos} (he : DE X e te) : DE X (.Subscript e (.Slice none none (some (.UnaryOp .USub (.Constant (.int 1) k p1) p2)) p3) pos) (dOp1 oRevM te) := by
  refine pe_weak (pe_revL he) ?_
  rintro σ H Q ⟨F, O, M, ss, Q3, w, sl, q, k⟩
  refine ⟨F, O, M, ss, _, w, sl, q, ?_⟩
  intro v H1 F1 M1 t x1 w1 r1 q1
  have sx := r1.sees w1
  unfold oRevM at q1
  split at q1
  · rename_i xs e1
    rw [e1] at sx
    cases sx with
    | lst hx px => exact ⟨_, _, rfl, .of hx, fin_newM w1 (k.mono x1) (.lst px.reverse) q1⟩
  · rename_i xs e1
    rw [e1] at sx
    cases sx with
    | scr hx px => exact ⟨_, _, rfl, hx, fin_newM w1 (k.mono x1) (.lst px.reverse) q1⟩
  · exact q1.elim

/-! ### built-in functions and types -/
def CallD (K : PySem.W.Frag) (r : List V → Hp → VK → Prop) (R : List T → QE → Mp → Prop) : Prop :=
  ∀ (F O H : Hp) (M : Mp) (vs : List V) (ts : List T) (Q3 : QE) (Q : VK), Wd K F O H M → Reps K F vs ts → R ts Q3 M → LkV K F O Q3 Q → r vs H Q
def dCall (R : List T → QE → Mp → Prop) (tl : A3) : E3 := fun ss M Q => tl ss M fun ts M1 => R ts Q M1
theorem lift_call {r : List V → Hp → VK → Prop} {R : List T → QE → Mp → Prop} (h : CallD K r R) : ∀ σ H Q, liftE K (dCall R tl) σ H Q → tCB r (liftA K tl) σ H Q := by
  rintro σ H Q ⟨F, O, M, ss, Q3, w, sl, q, k⟩
  refine ⟨F, O, M, ss, _, w, sl, q, ?_⟩
  intro vs H1 F1 M1 ts x1 w1 r1 q1
  exact h F1 O H1 M1 vs ts Q3 Q w1 r1 q1 (k.mono x1)
section
variable {x : Str} {p : Pos} {id Ty : String} {r : List V → Hp → VK → Prop} {R : List T → QE → Mp → Prop}
theorem d_callB (hc : CallR X (.builtin id) r) (h : CallD X.K r R) (hg : Gl X x) (hm : X.mg x = none) (hv : bootBuiltins x = some (.builtin id)) (ha : DA X (e :: es) tl) (hn : x ≠ "__name__" := by decide) (hdb : (x == ("__debug__" : Str)) = false := by decide)
    (he : starEach (e :: es) X.env = (false, eval e X.env) :: starEach es X.env := by rfl) (hpl : (backTo pos (starEach es X.env)).any (·.1) = false := by rfl) : DE X (.Call (.Name x p) (e :: es) [] pos) (dCall R tl) :=
  pe_weak (pe_callB hc hg hm hv ha hn hdb he hpl) (lift_call h)
theorem d_callTy (hc : CallR X (.type Ty) r) (h : CallD X.K r R) (hg : Gl X x) (hm : X.mg x = none) (hv : bootBuiltins x = some (.type Ty)) (ha : DA X (e :: es) tl) (hn : x ≠ "__name__" := by decide) (hdb : (x == ("__debug__" : Str)) = false := by decide)
    (he : starEach (e :: es) X.env = (false, eval e X.env) :: starEach es X.env := by rfl) (hpl : (backTo pos (starEach es X.env)).any (·.1) = false := by rfl) : DE X (.Call (.Name x p) (e :: es) [] pos) (dCall R tl) :=
  pe_weak (pe_callTy hc hg hm hv ha hn hdb he hpl) (lift_call h)
end
def fLen (ts : List T) (Q : QE) (M : Mp) : Prop := match ts with
  | [x] => (match look x M with
    | .str z => z.length ≤ sizeLine ∧ Q (.int z.length) M
    | .lst xs => Q (.int xs.length) M
    | .scr xs => Q (.int xs.length) M
    | .tup xs => Q (.int xs.length) M
    | .dic kvs => Q (.int kvs.length) M
    | _ => False)
  | _ => False
theorem cd_len : CallD K (fun xs H Q => (∃ x n, xs = [x] ∧ LenV K x H n ∧ Q (.int n) H) ∨ ∃ a kvs, xs = [V.ref a] ∧ H a = some (.dK kvs) ∧ Q (.int kvs.length) H) fLen := by
  intro F O H M vs ts Q3 Q w rs q k
  unfold fLen at q
  split at q
  · cases rs with
    | cons rx rn =>
    cases rn
    have sx := rx.sees w
    split at q
    · rename_i e1; rw [e1] at sx; cases sx
      exact .inl ⟨_, _, rfl, ⟨q.1, rfl⟩, fin_flat w k (.int _) q.2⟩
    · rename_i e1; rw [e1] at sx
      cases sx with
      | lst hx px => exact .inl ⟨_, _, rfl, .inl ⟨_, .of hx, rfl⟩, px.length ▸ fin_flat w k (.int _) q⟩
    · rename_i e1; rw [e1] at sx
      cases sx with
      | scr hx px => exact .inl ⟨_, _, rfl, .inl ⟨_, hx, rfl⟩, px.length ▸ fin_flat w k (.int _) q⟩
    · rename_i e1; rw [e1] at sx
      cases sx with
      | tup hx px => exact .inl ⟨_, _, rfl, .inr ⟨_, w.ex.sqT hx, rfl⟩, px.length ▸ fin_flat w k (.int _) q⟩
    · rename_i e1; rw [e1] at sx
      cases sx with
      | dic hx px => exact .inr ⟨_, _, rfl, hx, px.length ▸ fin_flat w k (.int _) q⟩
    · exact q.elim
  · exact q.elim
theorem cr_len : CallR X (.builtin "len") (fun xs H Q => (∃ x n, xs = [x] ∧ LenV X.K x H n ∧ Q (.int n) H) ∨ ∃ a kvs, xs = [V.ref a] ∧ H a = some (.dK kvs) ∧ Q (.int kvs.length) H) := call_len.or call_lenD
/-- isinstance of a built-in type -/
def tyT : T → Option String
  | .non => some "NoneType" | .bl _ => some "bool" | .int _ => some "int" | .str _ => some "str"
  | .tup _ => some "tuple" | .lst _ => some "list" | .scr _ => some "list" | .dic _ => some "dict"
  | .raw _ => none
def fIsi (ts : List T) (Q : QE) (M : Mp) : Prop := match ts with
  | [x, .raw (.ty n)] => (match tyT (look x M) with
    | some m => (match kitB m n with | some b => Q (.bl b) M | none => False)
    | none => False)
  | _ => False
theorem Sees.ty {F O H : Hp} {M : Mp} (w : Wd K F O H M) {v : V} {t : T} {m : String} (s : Sees K F H v t) (h : tyT t = some m) : TyX K H v (.type m) := by
  cases s with
  | non => cases h; exact .base .non
  | bl b => cases h; exact .base (.bl b)
  | int i => cases h; exact .base (.int i)
  | str x => cases h; exact .base (.str x)
  | tup hx px =>
    cases h
    rcases w.ex.sqT hx with (e | ⟨o, e⟩) | ⟨o, its, n, e, c, _⟩
    · exact .base (.tup e)
    · exact .fTuple e
    · exact .kTuple e c
  | lst hx px => cases h; exact .base (.lst hx)
  | scr hx px =>
    cases h
    rcases hx with (e | ⟨o, e⟩) | ⟨o, its, n, e, c, _⟩
    · exact .base (.lst e)
    · exact .base (.frz e)
    · exact .kList e c
  | dic hx px => cases h; exact .base (.dK hx)
  | raw v => cases h
theorem cd_isi : CallD K (rIsi K) fIsi := by
  intro F O H M vs ts Q3 Q w rs q k
  unfold fIsi at q
  split at q
  · cases rs with
    | cons rx rn =>
    cases rn with
    | cons ry rn =>
    cases rn
    cases ry
    split at q
    · rename_i m e1
      split at q
      · rename_i b e2
        exact ⟨_, _, _, _, b, rfl, .ty _, (rx.sees w).ty w e1, kit_ty e2, fin_flat w k (.bl _) q⟩
      · exact q.elim
    · exact q.elim
  · exact q.elim
def fAbs (ts : List T) (Q : QE) (M : Mp) : Prop := match ts with
  | [.int i] => Q (.int (if i < 0 then -i else i)) M
  | _ => False
theorem cd_abs : CallD K (fun xs H Q => ∃ i, xs = [.int i] ∧ Q (.int (if i < 0 then -i else i)) H) fAbs := by
  intro F O H M vs ts Q3 Q w rs q k
  unfold fAbs at q
  split at q
  · cases rs with
    | cons rx rn =>
    cases rn
    cases rx
    exact ⟨_, rfl, fin_flat w k (.int _) q⟩
  · exact q.elim
/-- all(list of bools), any(..) -/
def bls : List T → Option (List Bool)
  | [] => some []
  | .bl b :: r => (bls r).map (b :: ·)
  | _ => none
theorem bls_eq : ∀ {ts : List T} {bs : List Bool}, bls ts = some bs → ts = bs.map T.bl
  | [], bs, h => by cases h; rfl
  | t :: r, bs, h => by
    unfold bls at h
    split at h
    · rename_i e; cases e
    · rename_i e
      cases e
      obtain ⟨cs, e1, e2⟩ := Option.map_eq_some_iff.mp h
      subst e2
      rw [List.map_cons, bls_eq e1]
    · cases h
def fBls (f : List Bool → Bool) (ts : List T) (Q : QE) (M : Mp) : Prop := match ts with
  | [x] => (match look x M with
    | .lst xs => (match bls xs with | some bs => Q (.bl (f bs)) M | none => False)
    | _ => False)
  | _ => False
theorem cd_bls {f : List Bool → Bool} : CallD K (fun vs H Q => ∃ (a : Addr) (bs : List Bool), vs = [V.ref a] ∧ SqL K H a (bs.map V.bl) ∧ Q (.bl (f bs)) H) (fBls f) := by
  intro F O H M vs ts Q3 Q w rs q k
  unfold fBls at q
  split at q
  · cases rs with
    | cons rx rn =>
    cases rn
    have sx := rx.sees w
    split at q
    · rename_i e1; rw [e1] at sx
      cases sx with
      | lst hx px =>
        split at q
        · rename_i bs e2
          have e3 := bls_eq e2
          subst e3
          have e4 := px.bls
          subst e4
          exact ⟨_, bs, rfl, .of hx, fin_flat w k (.bl _) q⟩
        · exact q.elim
    · exact q.elim
  · exact q.elim
theorem d_all {p : Pos} (hc : X.calm = true) (hg : Gl X "all") (hm : X.mg "all" = none) (ha : DA X [e] tl) (he : starEach [e] X.env = (false, eval e X.env) :: starEach [] X.env := by rfl) : DE X (.Call (.Name "all" p) [e] [] pos) (dCall (fBls (·.all id)) tl) :=
  d_callB (cr_all hc) cd_bls hg hm (by decide +kernel) ha (he := he)
theorem d_any {p : Pos} (hc : X.calm = true) (hg : Gl X "any") (hm : X.mg "any" = none) (ha : DA X [e] tl) (he : starEach [e] X.env = (false, eval e X.env) :: starEach [] X.env := by rfl) : DE X (.Call (.Name "any" p) [e] [] pos) (dCall (fBls (·.any id)) tl) :=
  d_callB (cr_any hc) cd_bls hg hm (by decide +kernel) ha (he := he)
theorem d_len {p : Pos} (hg : Gl X "len") (hm : X.mg "len" = none) (ha : DA X [e] tl) (he : starEach [e] X.env = (false, eval e X.env) :: starEach [] X.env := by rfl) : DE X (.Call (.Name "len" p) [e] [] pos) (dCall fLen tl) :=
  d_callB cr_len cd_len hg hm (by decide +kernel) ha (he := he)
theorem d_isi {p : Pos} {e2 : Expr} (hg : Gl X "isinstance") (hm : X.mg "isinstance" = none) (ha : DA X [e, e2] tl) (he : starEach [e, e2] X.env = (false, eval e X.env) :: starEach [e2] X.env := by rfl) (hpl : (backTo pos (starEach [e2] X.env)).any (·.1) = false := by rfl) :
    DE X (.Call (.Name "isinstance" p) [e, e2] [] pos) (dCall fIsi tl) :=
  d_callB call_isi cd_isi hg hm (by decide +kernel) ha (he := he) (hpl := hpl)
theorem d_abs {p : Pos} (hg : Gl X "abs") (hm : X.mg "abs" = none) (ha : DA X [e] tl) (he : starEach [e] X.env = (false, eval e X.env) :: starEach [] X.env := by rfl) : DE X (.Call (.Name "abs" p) [e] [] pos) (dCall fAbs tl) :=
  d_callB call_abs cd_abs hg hm (by decide +kernel) ha (he := he)
/-- list(xs), tuple(xs) -/
def seqOf : T → Option (List T)
  | .lst xs => some xs | .scr xs => some xs | .tup xs => some xs | _ => none
def fList (ts : List T) (Q : QE) (M : Mp) : Prop := match ts with
  | [x] => (match seqOf (look x M) with | some xs => Q (.lst xs) M | none => False)
  | _ => False
def fListM (ts : List T) (Q : QE) (M : Mp) : Prop := match ts with
  | [x] => (match seqOf (look x M) with | some xs => ∀ p, M p = none → Q (.raw (.ref p)) (mset M p (.lst xs)) | none => False)
  | _ => False
def fTuple (ts : List T) (Q : QE) (M : Mp) : Prop := match ts with
  | [x] => (match seqOf (look x M) with | some xs => Q (.tup xs) M | none => False)
  | _ => False
theorem Sees.seq {F O H : Hp} {M : Mp} (w : Wd K F O H M) {v : V} {t : T} {xs : List T} (s : Sees K F H v t) (h : seqOf t = some xs) : ∃ a vs, v = .ref a ∧ (SqL K H a vs ∨ SqT K H a vs) ∧ Reps K F vs xs := by
  cases s with
  | lst hx px => cases h; exact ⟨_, _, rfl, .inl (.of hx), px⟩
  | scr hx px => cases h; exact ⟨_, _, rfl, .inl hx, px⟩
  | tup hx px => cases h; exact ⟨_, _, rfl, .inr (w.ex.sqT hx), px⟩
  | _ => cases h
theorem cd_list : CallD K (fun xs H Q => ∃ p ys, xs = [.ref p] ∧ (SqL K H p ys ∨ SqT K H p ys) ∧ ∀ l, H l = none → Q (.ref l) (upd H l (.lst ys))) fList := by
  intro F O H M vs ts Q3 Q w rs q k
  unfold fList at q
  split at q
  · cases rs with
    | cons rx rn =>
    cases rn
    split at q
    · rename_i xs e1
      obtain ⟨a, us, rfl, h, px⟩ := (rx.sees w).seq w e1
      exact ⟨a, us, rfl, h, fin_new w k (fun F' p x e => .lst e (px.mono x)) q⟩
    · exact q.elim
  · exact q.elim
theorem cd_listM : CallD K (fun xs H Q => ∃ p ys, xs = [.ref p] ∧ (SqL K H p ys ∨ SqT K H p ys) ∧ ∀ l, H l = none → Q (.ref l) (upd H l (.lst ys))) fListM := by
  intro F O H M vs ts Q3 Q w rs q k
  unfold fListM at q
  split at q
  · cases rs with
    | cons rx rn =>
    cases rn
    split at q
    · rename_i xs e1
      obtain ⟨a, us, rfl, h, px⟩ := (rx.sees w).seq w e1
      exact ⟨a, us, rfl, h, fin_newM w k (.lst px) q⟩
    · exact q.elim
  · exact q.elim
theorem cd_tuple : CallD K (fun xs H Q => ∃ p ys, xs = [.ref p] ∧ ((SqL K H p ys ∧ ∀ l, H l = none → Q (.ref l) (upd H l (.tup ys))) ∨ (SqT K H p ys ∧ Q (.ref p) H))) fTuple := by
  intro F O H M vs ts Q3 Q w rs q k
  unfold fTuple at q
  split at q
  · cases rs with
    | cons rx rn =>
    cases rn
    have sx := rx.sees w
    split at q
    · rename_i xs e1
      cases hs : look _ M with
      | lst ys =>
        rw [hs] at sx e1
        cases e1
        cases sx with
        | lst hx px => exact ⟨_, _, rfl, .inl ⟨.of hx, fin_new w k (fun F' p x e => .tup (.of e) (px.mono x)) q⟩⟩
      | scr ys =>
        rw [hs] at sx e1
        cases e1
        cases sx with
        | scr hx px => exact ⟨_, _, rfl, .inl ⟨hx, fin_new w k (fun F' p x e => .tup (.of e) (px.mono x)) q⟩⟩
      | tup ys =>
        rw [hs] at sx e1
        cases e1
        cases sx with
        | tup hx px => exact ⟨_, _, rfl, .inr ⟨w.ex.sqT hx, fin_flat w k (.tup hx px) q⟩⟩
      | _ => rw [hs] at e1; cases e1
    · exact q.elim
  · exact q.elim
theorem d_list {p : Pos} (hg : Gl X "list") (hm : X.mg "list" = none) (ha : DA X [e] tl) (he : starEach [e] X.env = (false, eval e X.env) :: starEach [] X.env := by rfl) : DE X (.Call (.Name "list" p) [e] [] pos) (dCall fList tl) := d_callTy call_list_of cd_list hg hm (by decide +kernel) ha (he := he)
theorem d_listM {p : Pos} (hg : Gl X "list") (hm : X.mg "list" = none) (ha : DA X [e] tl) (he : starEach [e] X.env = (false, eval e X.env) :: starEach [] X.env := by rfl) : DE X (.Call (.Name "list" p) [e] [] pos) (dCall fListM tl) := d_callTy call_list_of cd_listM hg hm (by decide +kernel) ha (he := he)
theorem d_tuple {p : Pos} (hg : Gl X "tuple") (hm : X.mg "tuple" = none) (ha : DA X [e] tl) (he : starEach [e] X.env = (false, eval e X.env) :: starEach [] X.env := by rfl) : DE X (.Call (.Name "tuple" p) [e] [] pos) (dCall fTuple tl) := d_callTy call_tuple_of cd_tuple hg hm (by decide +kernel) ha (he := he)
/-- int(i), int(b) -/
def fInt (ts : List T) (Q : QE) (M : Mp) : Prop := match ts with
  | [.int i] => Q (.int i) M
  | [.bl b] => Q (.int (if b then 1 else 0)) M
  | _ => False
theorem cd_int : CallD K (fun xs H Q => (∃ i, xs = [.int i] ∧ Q (.int i) H) ∨ ∃ k, xs = [.bl k] ∧ Q (.int (if k then 1 else 0)) H) fInt := by
  intro F O H M vs ts Q3 Q w rs q k
  unfold fInt at q
  split at q
  · cases rs with
    | cons rx rn =>
    cases rn
    cases rx
    exact .inl ⟨_, rfl, fin_flat w k (.int _) q⟩
  · cases rs with
    | cons rx rn =>
    cases rn
    cases rx
    exact .inr ⟨_, rfl, fin_flat w k (.int _) q⟩
  · exact q.elim
theorem d_intc {p : Pos} (hg : Gl X "int") (hm : X.mg "int" = none) (ha : DA X [e] tl) (he : starEach [e] X.env = (false, eval e X.env) :: starEach [] X.env := by rfl) : DE X (.Call (.Name "int" p) [e] [] pos) (dCall fInt tl) := d_callTy call_int1 cd_int hg hm (by decide +kernel) ha (he := he)
end

/-! ### targets -/
inductive Pat where
  | nm (i : Nat) | tp (is : List Nat)
def setAll (ss : SS) : List Nat → List T → SS
  | i :: r, t :: ts => setAll (ss.set i (some t)) r ts
  | _, _ => ss
def Pat.set : Pat → T → SS → Option SS
  | .nm i, t, ss => some (ss.set i (some t))
  | .tp is, t, ss => match t with
    | .tup ts => if ts.length = is.length then some (setAll ss is ts) else none
    | _ => none
def gNames : List Nat → TGs
  | [] => gNil
  | i :: r => gCons (gName i) (gNames r)
def Pat.gV (K : PySem.W.Frag) : Pat → TG
  | .nm i => gName i
  | .tp is => gTup K is.length (gNames is)
def Pat.ixs : Pat → List Nat
  | .nm i => [i]
  | .tp is => is
abbrev DG (X : Cx) (tg : Expr) (P : Pat) : Prop := PG X tg (P.gV X.K)
section
variable {X : Cx} {K : PySem.W.Frag}
theorem wipe_set {σ : L2.St} {i : Nat} {v : Option V} : ∀ {vs : List Nat}, i ∈ vs → wipe (σ.set i v) vs = wipe σ vs
  | w :: vs, h => by
    unfold wipe
    by_cases e : i = w
    · subst e
      by_cases h2 : i ∈ vs
      · rw [wipe_set h2]
      · clear h
        have aux : ∀ vs : List Nat, wipe (σ.set i v) vs = wipe σ vs ∨ wipe (σ.set i v) vs = (wipe σ vs).set i v := by
          intro vs
          induction vs with
          | nil => exact .inr rfl
          | cons u us ih =>
            unfold wipe
            rcases ih with ih | ih
            · exact .inl (by rw [ih])
            · rw [ih]
              by_cases e2 : i = u
              · subst e2
                exact .inl (by rw [List.set_set])
              · exact .inr (by rw [List.set_comm _ _ e2])
        rcases aux vs with e | e
        · rw [e]
        · rw [e, List.set_set]
    · have h2 : i ∈ vs := by
        rcases List.mem_cons.mp h with z | z
        · exact absurd z e
        · exact z
      rw [wipe_set h2]
theorem gNames_run {F O H : Hp} {M : Mp} (w : Wd K F O H M) : ∀ {is : List Nat} {vs : List V} {ts : List T} {σ : L2.St} {ss : SS} {Q : L2.St → Hp → Prop} {ws : List Nat}, Reps K F vs ts → ts.length = is.length → SlR K F σ ss →
    (∀ σ', SlR K F σ' (setAll ss is ts) → ((∀ i ∈ is, i ∈ ws) → wipe σ' ws = wipe σ ws) → Q σ' H) → gNames is vs σ H Q
  | [], _, _, σ, ss, Q, ws, .nil, _, sl, q => ⟨rfl, q σ sl fun _ => rfl⟩
  | i :: is, _, _, σ, ss, Q, ws, .cons (v := v) (t := t) h r, e, sl, q => by
    refine ⟨_, _, rfl, gNames_run w (ws := ws) r (Nat.succ.inj e) (sl.set h i) fun σ' sl' e' => q σ' sl' fun hm => ?_⟩
    rw [e' fun j hj => hm j (List.mem_cons_of_mem _ hj)]
    exact wipe_set (hm i List.mem_cons_self)
theorem Pat.run {F O H : Hp} {M : Mp} (w : Wd K F O H M) {P : Pat} {v : V} {t : T} {σ : L2.St} {ss ss' : SS} {Q : L2.St → Hp → Prop} {ws : List Nat} (r : Rep K F v t) (sl : SlR K F σ ss) (e : P.set t ss = some ss')
    (q : ∀ σ', SlR K F σ' ss' → ((∀ i ∈ P.ixs, i ∈ ws) → wipe σ' ws = wipe σ ws) → Q σ' H) : P.gV K v σ H Q := by
  cases P with
  | nm i =>
    cases e
    exact q _ (sl.set r i) fun hm => wipe_set (hm i List.mem_cons_self)
  | tp is =>
    cases t with
    | tup ts =>
      have e' : (if ts.length = is.length then some (setAll ss is ts) else none) = some ss' := e
      split at e'
      · rename_i hl
        cases e'
        cases r with
        | tup h r => exact ⟨_, _, rfl, w.ex.sqT h, r.length.trans hl, gNames_run w r hl sl q⟩
      · cases e'
    | _ => exact nomatch e
theorem dg_nm (i : Nat) {x : Str} {pos : Pos} (hN : X.N.Nodup) (hi : X.N[i]? = some x) (hx : Loc X.env.scope x) (hf : X.fn x = true ∨ X.env.scope.names.lookup x = some .local := by first | exact .inl rfl | exact .inr rfl | assumption) : DG X (.Name x pos) (.nm i) := pg_name hN hi hx hf
end

/-! ### what is walked -/
structure Src where
  xs : List T
  ok : Mp → Prop
abbrev I3 := SS → Mp → (Src → Mp → Prop) → Prop
def SrcOk (K : PySem.W.Frag) (F : Hp) (J : It) (S : Src) : Prop :=
  ∀ (F' O' H' : Hp) (M' : Mp), Ex F F' → Wd K F' O' H' M' → S.ok M' → ∀ i : Nat, (S.xs.length ≤ i → J.stop i H') ∧
    ∀ t, S.xs[i]? = some t → J.go i H' ∧ ∀ x H'', J.yld i H' x H'' → ∃ F'', Ex F' F'' ∧ Wd K F'' O' H'' M' ∧ Rep K F'' x t
def liftI (K : PySem.W.Frag) (w3 : I3) : TI := fun σ H R => ∃ F O M ss R3, Wd K F O H M ∧ SlR K F σ ss ∧ w3 ss M R3 ∧
  ∀ (J : It) (H' F' : Hp) (M' : Mp) (S : Src), Ex F F' → Wd K F' O H' M' → SrcOk K F' J S → R3 S M' → R J H'
abbrev DI (X : Cx) (tg e : Expr) (w3 : I3) : Prop := PI X tg e (liftI X.K w3)
theorem pi_weak {X : Cx} {tg e : Expr} {t t' : TI} (h : PI X tg e t) (i : ∀ σ H Q, t' σ H Q → t σ H Q) : PI X tg e t' := ⟨fun pins s σ H Q I q => h.run pins s σ H Q I (i σ H Q q)⟩
section
variable {X : Cx} {K : PySem.W.Frag} {tg e : Expr} {te : E3}
def iL (te : E3) : I3 := fun ss M R => te ss M fun t M1 => match look t M1 with
  | .lst xs => R ⟨xs, fun M' => look t M' = .lst xs⟩ M1
  | .scr xs => R ⟨xs, fun M' => look t M' = .scr xs⟩ M1
  | _ => False
theorem srcL {F : Hp} {v : V} {t : T} {a : Addr} {xs : List T} (ev : v = .ref a) (r : Rep K F v t) {c : List T → T} (hc : ∀ F H v ys, Sees K F H v (c ys) → ∃ b us, v = .ref b ∧ SqL K H b us ∧ Reps K F us ys) : SrcOk K F (Itl K a) ⟨xs, fun M' => look t M' = c xs⟩ := by
  intro F' O' H' M' x w ok i
  have s := (r.mono x).sees w
  rw [show look t M' = c xs from ok] at s
  obtain ⟨b, us, e1, hx, px⟩ := hc _ _ _ _ s
  subst ev
  cases e1
  refine ⟨fun hl => ⟨us, hx, by rw [px.length]; exact hl⟩, fun t' e => ?_⟩
  obtain ⟨u, e2, r2⟩ := px.get e
  refine ⟨⟨us, u, hx, e2⟩, ?_⟩
  rintro y H'' ⟨rfl, f⟩
  have e3 := Option.some.inj ((f us hx).symm.trans e2)
  subst e3
  exact ⟨F', .refl, w, r2⟩
theorem di_list (he : DE X e te) : DI X tg e (iL te) := by
  refine pi_weak (pi_list he) ?_
  rintro σ H R ⟨F, O, M, ss, R3, w, sl, q, k⟩
  refine ⟨F, O, M, ss, _, w, sl, q, ?_⟩
  intro v H1 F1 M1 t x1 w1 r1 q1
  have sx := r1.sees w1
  split at q1
  · rename_i xs e1
    rw [e1] at sx
    cases sx with
    | lst hx px =>
    refine ⟨_, rfl, ⟨_, .of hx⟩, k _ H1 F1 M1 _ x1 w1 (srcL (c := .lst) rfl r1 ?_) q1⟩
    rintro F H v ys s
    cases s with
    | lst hx px => exact ⟨_, _, rfl, .of hx, px⟩
  · rename_i xs e1
    rw [e1] at sx
    cases sx with
    | scr hx px =>
    refine ⟨_, rfl, ⟨_, hx⟩, k _ H1 F1 M1 _ x1 w1 (srcL (c := .scr) rfl r1 ?_) q1⟩
    rintro F H v ys s
    cases s with
    | scr hx px => exact ⟨_, _, rfl, hx, px⟩
  · exact q1.elim
def iT (te : E3) : I3 := fun ss M R => te ss M fun t M1 => match t with
  | .tup xs => R ⟨xs, fun _ => True⟩ M1
  | _ => False
theorem di_tup (he : DE X e te) : DI X tg e (iT te) := by
  refine pi_weak (pi_tup he) ?_
  rintro σ H R ⟨F, O, M, ss, R3, w, sl, q, k⟩
  refine ⟨F, O, M, ss, _, w, sl, q, ?_⟩
  intro v H1 F1 M1 t x1 w1 r1 q1
  split at q1
  · cases r1 with
    | tup hx px =>
    refine ⟨_, rfl, ⟨_, w1.ex.sqT hx⟩, k _ H1 F1 M1 _ x1 w1 ?_ q1⟩
    intro F' O' H' M' x w2 _ i
    have hx' := w2.ex.sqT (x.sqT hx)
    refine ⟨fun hl => ⟨_, hx', by rw [px.length]; exact hl⟩, fun t' e => ?_⟩
    obtain ⟨u, e2, r2⟩ := px.get e
    refine ⟨⟨_, u, hx', e2⟩, ?_⟩
    rintro y H'' ⟨rfl, f⟩
    have e3 := Option.some.inj ((f _ hx').symm.trans e2)
    subst e3
    exact ⟨F', .refl, w2, r2.mono x⟩
  · exact q1.elim
def signsT (z : Str) : List T := z.cps.toList.map fun c => T.str ⟨#[c]⟩
def iS (te : E3) : I3 := fun ss M R => te ss M fun t M1 => match t with
  | .str z => R ⟨signsT z, fun _ => True⟩ M1
  | _ => False
theorem di_str (he : DE X e te) : DI X tg e (iS te) := by
  refine pi_weak (pi_str he) ?_
  rintro σ H R ⟨F, O, M, ss, R3, w, sl, q, k⟩
  refine ⟨F, O, M, ss, _, w, sl, q, ?_⟩
  intro v H1 F1 M1 t x1 w1 r1 q1
  split at q1
  · rename_i z
    cases r1
    refine ⟨_, rfl, k _ H1 F1 M1 _ x1 w1 ?_ q1⟩
    intro F' O' H' M' x w2 _ i
    have hlen : (signsT z).length = z.cps.size := by unfold signsT; rw [List.length_map, Array.length_toList]
    refine ⟨fun hl => by show z.cps.size ≤ i; rw [← hlen]; exact hl, fun t' e => ?_⟩
    have e' : (z.cps.toList.map fun c => T.str ⟨#[c]⟩)[i]? = some t' := e
    rw [List.getElem?_map, Array.getElem?_toList] at e'
    obtain ⟨c, e2, e3⟩ := Option.map_eq_some_iff.mp e'
    subst e3
    refine ⟨(Array.getElem?_eq_some_iff.mp e2).1, ?_⟩
    rintro y H'' ⟨rfl, c', e4, rfl⟩
    rw [e2] at e4
    cases e4
    exact ⟨F', .refl, w2, .str _⟩
  · exact q1.elim
def ups (lo : Int) (n : Nat) : List T := (List.range n).map fun (k : Nat) => T.int (lo + (k : Int))
def iR1 (te : E3) : I3 := fun ss M R => te ss M fun t M1 => match t with
  | .int j => (-(2 ^ 62) ≤ j ∧ j < 2 ^ 62) ∧ R ⟨ups 0 j.toNat, fun _ => True⟩ M1
  | _ => False
theorem src_range {F : Hp} (lo : Int) (n : Nat) : SrcOk K F (Itr lo n) ⟨ups lo n, fun _ => True⟩ := by
  intro F' O' H' M' x w2 _ i
  have hlen : (ups lo n).length = n := by unfold ups; rw [List.length_map, List.length_range]
  refine ⟨fun hl => by show n ≤ i; rw [← hlen]; exact hl, fun t' e => ?_⟩
  have e' : ((List.range n).map fun (k : Nat) => T.int (lo + (k : Int)))[i]? = some t' := e
  have hi : i < n := by
    have := (List.getElem?_eq_some_iff.mp e).1
    rw [hlen] at this
    exact this
  rw [List.getElem?_map, List.getElem?_range hi] at e'
  cases e'
  refine ⟨hi, ?_⟩
  rintro y H'' ⟨rfl, rfl⟩
  exact ⟨F', .refl, w2, .int _⟩
theorem di_range1 {a : Expr} {p pos : Pos} (hg : Gl X "range") (hm : X.mg "range" = none) (ha : DE X a te) (hs : starEach [a] X.env = [(false, eval a X.env)] := by rfl) : DI X tg (.Call (.Name "range" p) [a] [] pos) (iR1 te) := by
  refine pi_weak (pi_range1 hg hm (da_cons ha da_nil (by exact hs)) hs) ?_
  rintro σ H R ⟨F, O, M, ss, R3, w, sl, q, k⟩
  refine ⟨F, O, M, ss, fun ts M1 => match ts with
    | [t] => (match t with
      | .int j => (-(2 ^ 62) ≤ j ∧ j < 2 ^ 62) ∧ R3 ⟨ups 0 j.toNat, fun _ => True⟩ M1
      | _ => False)
    | _ => False, w, sl, q, ?_⟩
  intro vs H1 F1 M1 ts x1 w1 r1 q1
  split at q1
  · split at q1
    · cases r1 with
      | cons r rr =>
      cases rr
      cases r
      exact ⟨_, rfl, q1.1.1, q1.1.2, k _ H1 F1 M1 _ x1 w1 (src_range 0 _) q1.2⟩
    · exact q1.elim
  · exact q1.elim
def iR2 (ta tb : E3) : I3 := fun ss M R => ta ss M fun t M1 => tb ss M1 fun u M2 => match t, u with
  | .int i, .int j => (-(2 ^ 62) ≤ i ∧ i < 2 ^ 62 ∧ -(2 ^ 62) ≤ j ∧ j < 2 ^ 62) ∧ R ⟨ups i (j - i).toNat, fun _ => True⟩ M2
  | _, _ => False
theorem di_range2 {a b : Expr} {ta tb : E3} {p pos : Pos} (hg : Gl X "range") (hm : X.mg "range" = none) (ha : DE X a ta) (hb : DE X b tb) (hs : starEach [a, b] X.env = [(false, eval a X.env), (false, eval b X.env)] := by rfl)
    (h1 : starEach [a, b] X.env = (false, eval a X.env) :: starEach [b] X.env := by rfl) (h2 : starEach [b] X.env = (false, eval b X.env) :: starEach [] X.env := by rfl) : DI X tg (.Call (.Name "range" p) [a, b] [] pos) (iR2 ta tb) := by
  refine pi_weak (pi_range2 hg hm (da_cons ha (da_cons hb da_nil h2) h1) hs (hs2 := h2)) ?_
  rintro σ H R ⟨F, O, M, ss, R3, w, sl, q, k⟩
  refine ⟨F, O, M, ss, fun ts M1 => match ts with
    | [t, u] => (match t, u with
      | .int i, .int j => (-(2 ^ 62) ≤ i ∧ i < 2 ^ 62 ∧ -(2 ^ 62) ≤ j ∧ j < 2 ^ 62) ∧ R3 ⟨ups i (j - i).toNat, fun _ => True⟩ M1
      | _, _ => False)
    | _ => False, w, sl, q, ?_⟩
  intro vs H1 F1 M1 ts x1 w1 r1 q1
  split at q1
  · split at q1
    · cases r1 with
      | cons r rr =>
      cases rr with
      | cons r2 rr =>
      cases rr
      cases r
      cases r2
      exact ⟨_, _, rfl, q1.1, k _ H1 F1 M1 _ x1 w1 (src_range _ _) q1.2⟩
    · exact q1.elim
  · exact q1.elim
end

/-! ### for -/
def forL (ok : Mp → Prop) (P : Pat) (tb : S3) (D : Ends3) : List T → SS → Mp → Prop
  | [], ss, M => ok M ∧ D.nx ss M
  | t :: r, ss, M => ok M ∧ match P.set t ss with
    | some ss2 => tb { D with nx := forL ok P tb D r, ct := forL ok P tb D r, bk := D.nx } ss2 M
    | none => False
def sFor (w3 : I3) (P : Pat) (tb : S3) : S3 := fun D ss M => w3 ss M fun S M1 => forL S.ok P tb D S.xs ss M1
section
variable {X : Cx} {K : PySem.W.Frag} {tg iter e : Expr} {te : E3} {w3 : I3} {P : Pat} {tb : S3} {pos : Pos}
theorem ds_for {body : List Stmt} (hp : PassesOwn (model X.prog X.w) X.A X.env X.xe) (hc : X.calm = true) (hi : DI X tg iter w3) (hg : DG X tg P) (hb : DSs X body tb)
    (hs : ∀ x, foldedSetIterable iter X.env x = pure x := by intro _; rfl) : DS X (.For tg iter body [] pos) (sFor w3 P tb) := by
  refine ps_weak (ps_for hp hc hi hg hb hs) ?_
  rintro D σ H ⟨F, O, M, ss, D3, w, sl, q, k⟩
  refine ⟨F, O, M, ss, _, w, sl, q, ?_⟩
  intro J H1 F1 M1 S x1 w1 so q1
  refine ⟨fun i m σ' H' => m = S.xs.length - i ∧ i ≤ S.xs.length ∧ ∃ F' M' ss', Ex F1 F' ∧ Wd X.K F' O H' M' ∧ SlR X.K F' σ' ss' ∧ forL S.ok P tb D3 (S.xs.drop i) ss' M', ⟨S.xs.length, rfl, Nat.zero_le _, F1, M1, ss, .refl, w1, sl.mono x1, q1⟩, ?_⟩
  rintro i m σ' H' ⟨rfl, hi, F', M', ss', x2, w2, sl2, q2⟩
  by_cases hl : i < S.xs.length
  · rw [List.drop_eq_getElem_cons hl] at q2
    obtain ⟨ok, q2⟩ := q2
    obtain ⟨_, hgo⟩ := so F' O H' M' x2 w2 ok i
    obtain ⟨go, hy⟩ := hgo _ (List.getElem?_eq_getElem hl)
    refine .inr ⟨go, fun σ' H' => ∃ F' M' ss', Ex F1 F' ∧ Wd X.K F' O H' M' ∧ SlR X.K F' σ' ss' ∧ forL S.ok P tb D3 (S.xs.drop (i + 1)) ss' M', ?_, ?_⟩
    · rintro σ'' H'' hN
      exact ⟨S.xs.length - (i + 1), by omega, rfl, hl, hN⟩
    · intro x H'' y
      obtain ⟨F'', x3, w3', r3⟩ := hy x H'' y
      split at q2
      · rename_i ss2 e
        refine Pat.run w3' (ws := []) r3 (sl2.mono x3) e fun σ2 sl3 _ => ?_
        refine ⟨F'', O, M', ss2, _, w3', sl3, q2, ?_⟩
        have kk := k.mono (x1.trans (x2.trans x3))
        have nxt : LkS X.K F'' O (forL S.ok P tb D3 (S.xs.drop (i + 1))) fun σ' H' => ∃ F' M' ss', Ex F1 F' ∧ Wd X.K F' O H' M' ∧ SlR X.K F' σ' ss' ∧ forL S.ok P tb D3 (S.xs.drop (i + 1)) ss' M' :=
          fun σ3 H3 F3 M3 ss3 x4 w4 sl4 q4 => ⟨F3, M3, ss3, x2.trans (x3.trans x4), w4, sl4, q4⟩
        exact ⟨nxt, kk.rt, kk.nx, nxt⟩
      · exact q2.elim
  · rw [List.drop_of_length_le (by omega)] at q2
    obtain ⟨ok, q2⟩ := q2
    obtain ⟨hst, _⟩ := so F' O H' M' x2 w2 ok i
    exact .inl ⟨hst (by omega), k.nx σ' H' F' M' ss' (x1.trans x2) w2 sl2 q2⟩

/-! ### blocks and small statements -/
variable {st : Stmt} {rest : List Stmt} {t u : S3} {tt : T3} {c : Expr}
def sNext : S3 := fun D ss M => D.nx ss M
def sSeq (t u : S3) : S3 := fun D ss M => t { D with nx := u D } ss M
theorem dss_nil : DSs X [] sNext := by
  refine pss_weak pss_nil ?_
  rintro D σ H ⟨F, O, M, ss, D3, w, sl, q, k⟩
  exact k.nx σ H F M ss .refl w sl q
theorem dss_cons (h1 : DS X st t) (h2 : DSs X rest u) : DSs X (st :: rest) (sSeq t u) := by
  refine pss_weak (pss_cons h1 h2) ?_
  rintro D σ H ⟨F, O, M, ss, D3, w, sl, q, k⟩
  refine ⟨F, O, M, ss, _, w, sl, q, ?_, k.rt, k.bk, k.ct⟩
  intro σ' H' F' M' ss' x' w' sl' q'
  exact ⟨F', O, M', ss', D3, w', sl', q', k.mono x'⟩
theorem dss_one (h1 : DS X st t) : DSs X [st] t := pss_one h1
theorem ds_pass : DS X (.Pass pos) sNext := by
  refine ps_weak ps_pass ?_
  rintro D σ H ⟨F, O, M, ss, D3, w, sl, q, k⟩
  exact k.nx σ H F M ss .refl w sl q
def sBreak : S3 := fun D ss M => D.bk ss M
def sCont : S3 := fun D ss M => D.ct ss M
theorem ds_break : DS X (.Break pos) sBreak := by
  refine ps_weak ps_break ?_
  rintro D σ H ⟨F, O, M, ss, D3, w, sl, q, k⟩
  exact k.bk σ H F M ss .refl w sl q
theorem ds_cont : DS X (.Continue pos) sCont := by
  refine ps_weak ps_continue ?_
  rintro D σ H ⟨F, O, M, ss, D3, w, sl, q, k⟩
  exact k.ct σ H F M ss .refl w sl q
def sDrop (te : E3) : S3 := fun D ss M => te ss M fun _ M1 => D.nx ss M1
theorem ds_expr (he : DE X e te) (hs : swapsWith e none pos.line X.env = pure false := by rfl) : DS X (.Expr e pos) (sDrop te) := by
  refine ps_weak (ps_expr he hs) ?_
  rintro D σ H ⟨F, O, M, ss, D3, w, sl, q, k⟩
  refine ⟨F, O, M, ss, _, w, sl, q, ?_⟩
  intro v H1 F1 M1 t x1 w1 r1 q1
  exact k.nx σ H1 F1 M1 ss x1 w1 (sl.mono x1) q1
def sRet (te : E3) : S3 := fun D ss M => te ss M D.rt
theorem ds_ret (he : DE X e te) : DS X (.Return (some e) pos) (sRet te) := by
  refine ps_weak (ps_ret he) ?_
  rintro D σ H ⟨F, O, M, ss, D3, w, sl, q, k⟩
  exact ⟨F, O, M, ss, _, w, sl, q, k.rt⟩
def sRetN : S3 := fun D _ M => D.rt .non M
theorem ds_retN : DS X (.Return none pos) sRetN := by
  refine ps_weak ps_retN ?_
  rintro D σ H ⟨F, O, M, ss, D3, w, sl, q, k⟩
  exact k.rt _ H F M _ .refl w .non q
def sIf (tt : T3) (t u : S3) : S3 := fun D ss M => tt ss M fun b M1 => match b with
  | true => t D ss M1
  | false => u D ss M1
theorem ds_if {a b : List Stmt} (hc : DT X c tt) (ha : DSs X a t) (hb : DSs X b u) : DS X (.If c a b pos) (sIf tt t u) := by
  refine ps_weak (ps_if hc ha hb) ?_
  rintro D σ H ⟨F, O, M, ss, D3, w, sl, q, k⟩
  refine ⟨F, O, M, ss, _, w, sl, q, ?_⟩
  intro d H1 F1 M1 x1 w1 q1
  cases d with
  | true => exact ⟨F1, O, M1, ss, D3, w1, sl.mono x1, q1, k.mono x1⟩
  | false => exact ⟨F1, O, M1, ss, D3, w1, sl.mono x1, q1, k.mono x1⟩
def sNever : S3 := fun _ _ _ => False
theorem ds_never : DS X st sNever := ps_weak ps_never fun D σ H ⟨_, _, _, _, _, _, _, q, _⟩ => q
theorem dss_never {sts : List Stmt} : DSs X sts sNever := pss_weak pss_never fun D σ H ⟨_, _, _, _, _, _, _, q, _⟩ => q
/-- target = e -/
def sSet (P : Pat) (te : E3) : S3 := fun D ss M => te ss M fun t M1 => match P.set t ss with
  | some ss2 => D.nx ss2 M1
  | none => False
theorem lift_set {D : Ends} {σ : L2.St} {H : Hp} (h : liftS K (sSet P te) D σ H) : tAsg (liftE K te) (P.gV K) D σ H := by
  obtain ⟨F, O, M, ss, D3, w, sl, q, k⟩ := h
  refine ⟨F, O, M, ss, _, w, sl, q, ?_⟩
  intro v H1 F1 M1 t x1 w1 r1 q1
  split at q1
  · rename_i ss2 e
    exact Pat.run w1 (ws := []) r1 (sl.mono x1) e fun σ2 sl2 _ => k.nx σ2 H1 F1 M1 ss2 x1 w1 sl2 q1
  · exact q1.elim
theorem ds_set (i : Nat) {x : Str} {pos' : Pos} (hN : X.N.Nodup) (hi : X.N[i]? = some x) (hx : Loc X.env.scope x) (he : DE X e te) (hs : swapsWith e (some (.Name x pos')) pos.line X.env = pure false := by rfl)
    (hf : X.fn x = true ∨ X.env.scope.names.lookup x = some .local := by first | exact .inl rfl | exact .inr rfl | assumption) : DS X (.Assign [.Name x pos'] e pos) (sSet (.nm i) te) :=
  ps_weak (ps_set hN hi hx he hs hf) fun _ _ _ => lift_set (P := .nm i)
theorem ds_asg (he : DE X e te) (hg : DG X tg P) (hs : swapsWithSole [tg] e pos.line X.env = pure false := by rfl) (hw : swappedStores [tg] e X.env = pure none := by rfl)
    (h1 : (assignEach [tg] X.env).map (·.2) = [assign tg X.env] := by rfl) : DS X (.Assign [tg] e pos) (sSet P te) :=
  ps_weak (ps_asg he hg hs hw h1) fun _ _ _ => lift_set
/-- x, y = a, b -/
def sPar (i j : Nat) (ta tb : E3) : S3 := fun D ss M => ta ss M fun t M1 => tb ss M1 fun u M2 => D.nx ((ss.set i (some t)).set j (some u)) M2
theorem ds_par (i j : Nat) {x y : Str} {a b : Expr} {ta tb : E3} {px py pt : Pos} {kt k2 pt2} (hc : X.calm = true) (hN : X.N.Nodup) (hi : X.N[i]? = some x) (hj : X.N[j]? = some y) (hij : i ≠ j)
    (hx : X.env.scope.names.lookup x = some .local) (hy : X.env.scope.names.lookup y = some .local) (ha : DE X a ta) (hb : DE X b tb)
    (h1 : starEach [a, b] X.env = (false, eval a X.env) :: starEach [b] X.env := by rfl) (h2 : starEach [b] X.env = (false, eval b X.env) :: starEach [] X.env := by rfl)
    (hw : swappedStores [.Tuple [.Name x px, .Name y py] kt pt] (.Tuple [a, b] k2 pt2) X.env = pure (some [x, y]) := by rfl)
    (hs : swapsWithSole [.Tuple [.Name x px, .Name y py] kt pt] (.Tuple [a, b] k2 pt2) pos.line X.env = pure false := by rfl) :
    DS X (.Assign [.Tuple [.Name x px, .Name y py] kt pt] (.Tuple [a, b] k2 pt2) pos) (sPar i j ta tb) := by
  refine ps_weak (ps_par hc hN hi hj hij hx hy (da_cons ha (da_cons hb da_nil h2) h1) hw hs) ?_
  rintro D σ H ⟨F, O, M, ss, D3, w, sl, q, k⟩
  refine ⟨F, O, M, ss, fun ts M1 => match ts with
    | [t, u] => D3.nx ((ss.set i (some t)).set j (some u)) M1
    | _ => False, w, sl, q, ?_⟩
  intro vs H1 F1 M1 ts x1 w1 r1 q1
  split at q1
  · cases r1 with
    | cons r rr =>
    cases rr with
    | cons r2 rr =>
    cases rr
    exact ⟨_, _, rfl, k.nx _ H1 F1 M1 _ x1 w1 (((sl.mono x1).set r i).set r2 j) q1⟩
  · exact q1.elim
end

/-! ### comprehensions -/
def compL (ok : Mp → Prop) (P : Pat) (tt : T3) (te : E3) (vs : List Nat) (ss0 : SS) (Q : List T → Mp → Prop) : List T → List T → Mp → Prop
  | [], acc, M => ok M ∧ Q acc M
  | t :: r, acc, M => ok M ∧ match P.set t (wipe3 ss0 vs) with
    | some ss2 => tt ss2 M fun b M3 => match b with
      | true => te ss2 M3 fun y M4 => acc.length < sizeLine ∧ compL ok P tt te vs ss0 Q r (acc ++ [y]) M4
      | false => compL ok P tt te vs ss0 Q r acc M3
    | none => False
def dYes : T3 := fun _ M Q => Q true M
def dComp (w3 : I3) (P : Pat) (tt : T3) (te : E3) (vs : List Nat) (fin : List T → QE → Mp → Prop) : E3 := fun ss M Q => w3 ss M fun S M1 => compL S.ok P tt te vs ss (fun acc M2 => fin acc Q M2) S.xs [] M1
/-- the list never changes any more -/
def finL : List T → QE → Mp → Prop := fun acc Q M => Q (.lst acc) M
def finM : List T → QE → Mp → Prop := fun acc Q M => ∀ p, M p = none → Q (.raw (.ref p)) (mset M p (.lst acc))
section
variable {X : Cx} {K : PySem.W.Frag}
theorem Wd.keepO {F O H : Hp} {M : Mp} {D : Addr} {o : HO} (w : Wd K F O H M) (h : H D = none) : Wd K F (upd O D o) (upd H D o) M := by
  have hF := w.fF h
  have hM := w.fM h
  refine ⟨fun a u e => ?_, fun a u e => ?_, fun a m e => ?_⟩
  · rw [upd_ne (ne_of_none e hF)]
    exact w.sub a u e
  · by_cases hp : a = D
    · subst hp
      rw [upd_same] at e ⊢
      exact ⟨e, hF⟩
    · rw [upd_ne hp] at e ⊢
      exact w.oth a u e
  · obtain ⟨e1, e2, u, e3, q⟩ := w.mo a m e
    have hp : a ≠ D := ne_of_none e3 h
    exact ⟨e1, by rw [upd_ne hp]; exact e2, u, by rw [upd_ne hp]; exact e3, q⟩
theorem Wd.turnO {F O H : Hp} {M : Mp} {D : Addr} {o o' : HO} (w : Wd K F (upd O D o) H M) : Wd K F (upd O D o') (upd H D o') M := by
  obtain ⟨hD, hF⟩ := w.oth D o upd_same
  refine ⟨fun a u e => ?_, fun a u e => ?_, fun a m e => ?_⟩
  · rw [upd_ne (ne_of_none e hF)]
    exact w.sub a u e
  · by_cases hp : a = D
    · subst hp
      rw [upd_same] at e ⊢
      exact ⟨e, hF⟩
    · rw [upd_ne hp] at e ⊢
      exact w.oth a u (by rw [upd_ne hp]; exact e)
  · obtain ⟨e1, e2, u, e3, q⟩ := w.mo a m e
    have hp : a ≠ D := by
      intro z
      rw [z, upd_same] at e2
      cases e2
    rw [upd_ne hp] at e2
    exact ⟨e1, by rw [upd_ne hp]; exact e2, u, by rw [upd_ne hp]; exact e3, q⟩
theorem Wd.freeO {F O H : Hp} {M : Mp} {D : Addr} {o : HO} (w : Wd K F (upd O D o) H M) (hO : O D = none) : Wd K (upd F D o) O H M := by
  obtain ⟨hD, hF⟩ := w.oth D o upd_same
  refine ⟨fun a u e => ?_, fun a u e => ?_, fun a m e => ?_⟩
  · by_cases hp : a = D
    · subst hp
      rw [upd_same] at e
      cases e
      exact hD
    · rw [upd_ne hp] at e
      exact w.sub a u e
  · have hp : a ≠ D := ne_of_none e hO
    rw [upd_ne hp]
    exact w.oth a u (by rw [upd_ne hp]; exact e)
  · obtain ⟨e1, e2, u, e3, q⟩ := w.mo a m e
    have hp : a ≠ D := by
      intro z
      rw [z, upd_same] at e2
      cases e2
    rw [upd_ne hp] at e2
    exact ⟨by rw [upd_ne hp]; exact e1, e2, u, e3, q.mono (.upd hF)⟩
theorem Wd.freeOM {F O H : Hp} {M : Mp} {D : Addr} {o : HO} {m : MO} (w : Wd K F (upd O D o) H M) (hO : O D = none) (r : RepO K F o m) : M D = none ∧ Wd K F O H (mset M D m) := by
  obtain ⟨hD, hF⟩ := w.oth D o upd_same
  have hM : M D = none := by
    cases e : M D with
    | none => rfl
    | some m' =>
      have := (w.mo D m' e).2.1
      rw [upd_same] at this
      cases this
  refine ⟨hM, fun a u e => w.sub a u e, fun a u e => ?_, fun a m' e => ?_⟩
  · have hp : a ≠ D := ne_of_none e hO
    exact w.oth a u (by rw [upd_ne hp]; exact e)
  · by_cases hp : a = D
    · subst hp
      rw [mset_same] at e
      cases e
      exact ⟨hF, hO, o, hD, r⟩
    · rw [mset_ne hp] at e
      obtain ⟨e1, e2, u, e3, q⟩ := w.mo a m' e
      rw [upd_ne hp] at e2
      exact ⟨e1, e2, u, e3, q⟩
def FinOk (K : PySem.W.Frag) (fin : List T → QE → Mp → Prop) : Prop := ∀ (F O H : Hp) (M : Mp) (D : Addr) (vs : List V) (ts : List T) (Q3 : QE) (Q : VK), Wd K F (upd O D (.lst vs)) H M → O D = none → Reps K F vs ts → fin ts Q3 M → LkV K F O Q3 Q → Q (.ref D) H
theorem fin_L : FinOk K finL := by
  intro F O H M D vs ts Q3 Q w hO r q k
  have w' := w.freeO hO
  have x : Ex F (upd F D (.lst vs)) := .upd (w.oth D _ upd_same).2
  exact k _ H _ M _ x w' (.lst upd_same (r.mono x)) q
theorem fin_M : FinOk K finM := by
  intro F O H M D vs ts Q3 Q w hO r q k
  obtain ⟨h1, w'⟩ := w.freeOM (m := .lst ts) hO (.lst r)
  exact k _ H _ _ _ .refl w' (.raw _) (q D h1)
variable {elt tg iter : Expr} {ifs : List Expr} {scope : Scope} {own : List (Str × Nat)} {pos : Pos} {w3 : I3} {P : Pat} {tt : T3} {te : E3} {fin : List T → QE → Mp → Prop}
theorem lift_comp {vs : List Nat} (hf : FinOk K fin) (hP : ∀ i ∈ P.ixs, i ∈ vs) : ∀ σ H Q, liftE K (dComp w3 P tt te vs fin) σ H Q → tLc (liftI K w3) (P.gV K) (liftT K tt) (liftE K te) vs σ H Q := by
  rintro σ H Q ⟨F, O, M, ss, Q3, w, sl, q, k⟩
  refine ⟨F, O, M, ss, _, w, sl, q, ?_⟩
  intro J H1 F1 M1 S x1 w1 so q1
  intro D hD
  have hO := w1.fO hD
  refine ⟨fun i m H' => m = S.xs.length - i ∧ i ≤ S.xs.length ∧ ∃ F' M' us acc, Ex F1 F' ∧ Wd K F' (upd O D (.lst us)) H' M' ∧ Reps K F' us acc ∧
    compL S.ok P tt te vs ss (fun acc M2 => fin acc Q3 M2) (S.xs.drop i) acc M', ⟨S.xs.length, rfl, Nat.zero_le _, F1, M1, [], [], .refl, w1.keepO hD, .nil, q1⟩, ?_⟩
  rintro i m H' ⟨rfl, hi, F', M', us, acc, x2, w2, ra, q2⟩
  have hD' := (w2.oth D _ upd_same).1
  by_cases hl : i < S.xs.length
  · rw [List.drop_eq_getElem_cons hl] at q2
    obtain ⟨ok, q2⟩ := q2
    obtain ⟨_, hgo⟩ := so F' _ H' M' x2 w2 ok i
    obtain ⟨go, hy⟩ := hgo _ (List.getElem?_eq_getElem hl)
    refine .inr ⟨go, fun H' => ∃ F' M' us acc, Ex F1 F' ∧ Wd K F' (upd O D (.lst us)) H' M' ∧ Reps K F' us acc ∧ compL S.ok P tt te vs ss (fun acc M2 => fin acc Q3 M2) (S.xs.drop (i + 1)) acc M', ?_, ?_⟩
    · rintro H'' hN
      exact ⟨S.xs.length - (i + 1), by omega, rfl, hl, hN⟩
    · intro x H'' y
      obtain ⟨F'', x3, w3', r3⟩ := hy x H'' y
      split at q2
      · rename_i ss2 e
        refine Pat.run w3' (ws := vs) r3 ((sl.mono (x1.trans (x2.trans x3))).wipe vs) e fun σ2 sl3 hw => ?_
        have wiped : wipe (wipe σ vs) vs = wipe σ vs := by
          clear hw sl3 e
          have aux : ∀ us : List Nat, (∀ i ∈ us, i ∈ vs) → wipe (wipe σ us) vs = wipe σ vs := by
            intro us
            induction us with
            | nil => intro _; rfl
            | cons u us ih =>
              intro h
              show wipe ((wipe σ us).set u none) vs = wipe σ vs
              rw [wipe_set (h u List.mem_cons_self)]
              exact ih fun j hj => h j (List.mem_cons_of_mem _ hj)
          exact aux vs fun _ h => h
        refine ⟨(hw hP).trans wiped, F'', _, M', ss2, _, w3', sl3, q2, ?_⟩
        intro b H3 F3 M3 x4 w4 q4
        cases b with
        | true =>
          rw [if_pos rfl]
          refine ⟨F3, _, M3, ss2, _, w4, sl3.mono x4, q4, ?_⟩
          intro v H4 F4 M4 t x5 w5 r5 q5
          refine ⟨us, (w5.oth D _ upd_same).1, ra.length ▸ q5.1, F4, M4, us ++ [v], acc ++ [t], x2.trans (x3.trans (x4.trans x5)), w5.turnO, ?_, q5.2⟩
          exact (ra.mono (x3.trans (x4.trans x5))).append (.cons r5 .nil)
        | false =>
          rw [if_neg Bool.false_ne_true]
          exact ⟨F3, M3, us, acc, x2.trans (x3.trans x4), w4, ra.mono (x3.trans x4), q4⟩
      · exact q2.elim
  · rw [List.drop_of_length_le (by omega)] at q2
    obtain ⟨ok, q2⟩ := q2
    obtain ⟨hst, _⟩ := so F' _ H' M' x2 w2 ok i
    exact .inl ⟨hst (by omega), hf F' O H' M' D us acc Q3 Q w2 hO ra q2 (k.mono (x1.trans x2))⟩
abbrev DTs (X : Cx) (ifs : List Expr) (tt : T3) : Prop := PTs X ifs (liftT X.K tt)
theorem dts_nil : DTs X [] dYes := ⟨fun pins s σ H Q I h => pts_nil.run pins s σ H Q I (by
  obtain ⟨F, O, M, ss, Q3, w, sl, q, k⟩ := h
  exact k true H F M .refl w q)⟩
theorem dts_one {c : Expr} (h : DT X c tt) : DTs X [c] tt := pts_one h
/-- [elt for tg in iter if ..] -/
theorem d_comp (own : List (Str × Nat)) (hf : FinOk X.K fin) (hc : X.calm = true) (hN : X.N.Nodup) (hi : DI X tg iter w3) (ok : blkC X.N X.env.scope scope own = true)
    (hg : ∀ (s : Shared) (H : Hp) (C : Addr) (cl : List (Str × Addr)) (fp : List Addr), DG (X.blk s H scope (compEnvC scope cl C X.env) fp) tg P)
    (ht : ∀ (s : Shared) (H : Hp) (C : Addr) (cl : List (Str × Addr)) (fp : List Addr), DTs (X.blk s H scope (compEnvC scope cl C X.env) fp) ifs tt)
    (he : ∀ (s : Shared) (H : Hp) (C : Addr) (cl : List (Str × Addr)) (fp : List Addr), DE (X.blk s H scope (compEnvC scope cl C X.env) fp) elt te)
    (hP : ∀ i ∈ P.ixs, i ∈ own.map (·.2) := by decide) (hs : ∀ x, foldedSetIterable iter X.env x = pure x := by intro _; rfl) :
    DE X (.ListComp elt [⟨tg, iter, ifs, 0⟩] scope pos) (dComp w3 P tt te (own.map (·.2)) fin) :=
  pe_weak (pe_lc hc hN hi (blkOk_by ok) hg ht he hs) (lift_comp hf hP)
/-- name = [..] on one line -/
theorem ds_setComp (i : Nat) {y : Str} {py spos : Pos} (own : List (Str × Nat)) (hf : FinOk X.K fin) (hc : X.calm = true) (hN : X.N.Nodup) (hy : X.N[i]? = some y) (hyl : X.env.scope.names.lookup y = some .local)
    (hsw : swapsWith (.ListComp elt [⟨tg, iter, ifs, 0⟩] scope pos) (some (.Name y py)) spos.line X.env = pure true) (hi : DI X tg iter w3) (ok : blkC X.N X.env.scope scope own = true)
    (hg : ∀ (s : Shared) (H : Hp) (C : Addr) (cl : List (Str × Addr)) (fp : List Addr), DG (X.blk s H scope (compEnvC scope cl C X.env) fp) tg P)
    (ht : ∀ (s : Shared) (H : Hp) (C : Addr) (cl : List (Str × Addr)) (fp : List Addr), DTs (X.blk s H scope (compEnvC scope cl C X.env) fp) ifs tt)
    (he : ∀ (s : Shared) (H : Hp) (C : Addr) (cl : List (Str × Addr)) (fp : List Addr), DE (X.blk s H scope (compEnvC scope cl C X.env) fp) elt te)
    (hP : ∀ i ∈ P.ixs, i ∈ own.map (·.2) := by decide) (hs : ∀ x, foldedSetIterable iter X.env x = pure x := by intro _; rfl) :
    DS X (.Assign [.Name y py] (.ListComp elt [⟨tg, iter, ifs, 0⟩] scope pos) spos) (sSet (.nm i) (dComp w3 P tt te (own.map (·.2)) fin)) := by
  refine ps_weak (ps_setLc (g := P.gV X.K) (tt := liftT X.K tt) (te := liftE X.K te) hc hN hy hyl hsw hi (blkOk_by ok) hg ht he hs) ?_
  intro D σ H h
  obtain ⟨F, O, M, ss, D3, w, sl, q, k⟩ := h
  refine lift_comp hf hP σ H _ ⟨F, O, M, ss, fun t M1 => D3.nx (ss.set i (some t)) M1, w, sl, q, ?_⟩
  intro v H1 F1 M1 t x1 w1 r1 q1
  exact k.nx _ H1 F1 M1 _ x1 w1 ((sl.mono x1).set r1 i) q1
end
end L3

set_option maxHeartbeats 1000000
/-! L3E: dicts, methods of lists and texts, repr, calls of defs, a def's promise. -/
namespace L3
open PySem PySem.Spec PyProof.Rows L2

/-! ### dicts -/
def getT (kvs : List (Key × T)) (k : Key) : Option T := (kvs.find? fun kv => decide (kv.1 = k)).map (·.2)
def putT (kvs : List (Key × T)) (k : Key) (v : T) : List (Key × T) :=
  if (kvs.any fun kv => decide (kv.1 = k)) = true then kvs.map (fun kv => if kv.1 = k then (kv.1, v) else kv) else kvs ++ [(k, v)]
def mergeT (kvs more : List (Key × T)) : List (Key × T) := more.foldl (fun acc kv => putT acc kv.1 kv.2) kvs
def keyT : T → Option Key
  | .int i => some (.inl i)
  | .str s => some (.inr s)
  | _ => none
section
variable {K : PySem.W.Frag} {F O H : Hp} {M : Mp}
theorem keyT_ok {x : V} {t : T} {k : Key} (r : Rep K F x t) (h : keyT t = some k) : x = kV k := by
  unfold keyT at h
  split at h
  · cases r; cases h; rfl
  · cases r; cases h; rfl
  · cases h
theorem RepKV.get : ∀ {vs : List (Key × V)} {ts : List (Key × T)} {k : Key}, RepKV K F vs ts → (∀ {t : T}, getT ts k = some t → ∃ v, valV vs k = some v ∧ Rep K F v t) ∧ (getT ts k = none → valV vs k = none)
  | _, _, k, .nil => ⟨fun h => (nomatch h), fun _ => rfl⟩
  | _, _, k, .cons (k := j) (v := v) (t := t) (vs := us) (ts := ws) h r => by
    by_cases e : j = k
    · have e1 : getT ((j, t) :: ws) k = some t := by unfold getT; rw [List.find?_cons_of_pos (by simpa using e)]; rfl
      rw [e1]
      refine ⟨fun {t'} h' => ?_, fun h' => nomatch h'⟩
      cases h'
      exact ⟨v, valV_pos e, h⟩
    · have e1 : getT ((j, t) :: ws) k = getT ws k := by unfold getT; rw [List.find?_cons_of_neg (by simpa using e)]
      have ih := RepKV.get (k := k) r
      rw [e1, valV_neg (show ¬ (j, v).1 = k from e)]
      exact ih
theorem RepKV.any : ∀ {vs : List (Key × V)} {ts : List (Key × T)} {k : Key}, RepKV K F vs ts → (vs.any fun kv => decide (kv.1 = k)) = (ts.any fun kv => decide (kv.1 = k))
  | _, _, k, .nil => rfl
  | _, _, k, .cons h r => by
    rw [List.any_cons, List.any_cons, RepKV.any r]
theorem RepKV.repl {v : V} {t : T} (q : Rep K F v t) : ∀ {vs : List (Key × V)} {ts : List (Key × T)} {k : Key}, RepKV K F vs ts → RepKV K F (vs.map fun kv => if kv.1 = k then (kv.1, v) else kv) (ts.map fun kv => if kv.1 = k then (kv.1, t) else kv)
  | _, _, k, .nil => .nil
  | _, _, k, .cons (k := j) h r => by
    rw [List.map_cons, List.map_cons]
    by_cases e : j = k
    · rw [if_pos e, if_pos e]
      exact .cons q (RepKV.repl q r)
    · rw [if_neg e, if_neg e]
      exact .cons h (RepKV.repl q r)
theorem RepKV.snoc {k : Key} {v : V} {t : T} (q : Rep K F v t) : ∀ {vs : List (Key × V)} {ts : List (Key × T)}, RepKV K F vs ts → RepKV K F (vs ++ [(k, v)]) (ts ++ [(k, t)])
  | _, _, .nil => .cons q .nil
  | _, _, .cons h r => .cons h (RepKV.snoc q r)
theorem RepKV.put {v : V} {t : T} (q : Rep K F v t) {vs : List (Key × V)} {ts : List (Key × T)} {k : Key} (r : RepKV K F vs ts) : RepKV K F (putK vs k v) (putT ts k t) := by
  unfold putK putT
  rw [r.any]
  split
  · exact r.repl q
  · exact r.snoc q
theorem RepKV.merge : ∀ {more : List (Key × V)} {mt : List (Key × T)} {vs : List (Key × V)} {ts : List (Key × T)}, RepKV K F more mt → RepKV K F vs ts → RepKV K F (mergeK vs more) (mergeT ts mt)
  | _, _, _, _, .nil, q => q
  | _, _, _, _, .cons (k := k) (v := v) (t := t) (vs := more) (ts := mt) h r, q => by
    show RepKV K F (mergeK (putK _ k v) more) (mergeT (putT _ k t) mt)
    exact RepKV.merge r (q.put h)
end
section
variable {X : Cx} {K : PySem.W.Frag} {o i e value : Expr} {es : List Expr} {td ty tv te ta : E3} {tl : A3} {pos pos' : Pos}
def oDGet (x y : T) (Q : QE) (M : Mp) : Prop := match look x M, keyT y with
  | .dic kvs, some k => (match getT kvs k with | some t => Q t M | none => False)
  | _, _ => False
theorem d_dget (hu : X.A.units + 1 < cLine) (ho : DE X o td) (hi : DE X i ty) (hs : NoSl i) : DE X (.Subscript o i pos) (dOp2 oDGet td ty) := by
  refine pe_weak (pe_dget hu ho hi hs) ?_
  rintro σ H Q ⟨F, O, M, ss, Q3, w, sl, q, k⟩
  refine ⟨F, O, M, ss, _, w, sl, q, ?_⟩
  intro v H1 F1 M1 t x1 w1 r1 q1
  refine ⟨F1, O, M1, ss, _, w1, sl.mono x1, q1, ?_⟩
  intro u H2 F2 M2 t2 x2 w2 r2 q2
  unfold oDGet at q2
  have sx := (r1.mono x2).sees w2
  split at q2
  · rename_i kvs kk e1 e2
    rw [e1] at sx
    split at q2
    · rename_i t' e3
      cases sx with
      | dic hx px =>
      obtain ⟨v', e4, r4⟩ := (px.get (k := kk)).1 e3
      have := keyT_ok r2 e2
      subst this
      exact ⟨_, v', rfl, e4 ▸ DGet.k hx, fin_flat w2 (k.mono (x1.trans x2)) r4 q2⟩
    · exact q2.elim
  · exact q2.elim
/-- y in d, y not in d, d a dict -/
def oDIn (neg : Bool) (y x : T) (Q : QE) (M : Mp) : Prop := match look x M, keyT y with
  | .dic kvs, some k => Q (.bl (if neg then !(getT kvs k).isSome else (getT kvs k).isSome)) M
  | _, _ => False
theorem RepKV.some_eq {F : Hp} {vs : List (Key × V)} {ts : List (Key × T)} {k : Key} (r : RepKV K F vs ts) : (valV vs k).isSome = (getT ts k).isSome := by
  cases e : getT ts k with
  | none => rw [(r.get (k := k)).2 e]; rfl
  | some t => obtain ⟨v, e2, _⟩ := (r.get (k := k)).1 e; rw [e2]; rfl
theorem d_din (hu : X.A.units + 1 < cLine) (hi : DE X i ty) (ho : DE X o td) (hm : behindInMarks .In o = false) : DE X (.Compare i [.In] [o] pos) (dOp2 (oDIn false) ty td) := by
  refine pe_weak (pe_cmp (pc_din hu hi ho) hm) ?_
  rintro σ H Q ⟨F, O, M, ss, Q3, w, sl, q, k⟩
  refine ⟨F, O, M, ss, _, w, sl, q, ?_⟩
  intro v H1 F1 M1 t x1 w1 r1 q1
  refine ⟨F1, O, M1, ss, _, w1, sl.mono x1, q1, ?_⟩
  intro u H2 F2 M2 t2 x2 w2 r2 q2
  unfold oDIn at q2
  have sx := r2.sees w2
  split at q2
  · rename_i kvs kk e1 e2
    rw [e1] at sx
    cases sx with
    | dic hx px =>
    have := keyT_ok (r1.mono x2) e2
    subst this
    refine ⟨_, _, rfl, DGet.k hx, fin_flat w2 (k.mono (x1.trans x2)) (.bl _) ?_⟩
    rw [px.some_eq]
    exact q2
  · exact q2.elim
theorem d_dnotin (hu : X.A.units + 1 < cLine) (hi : DE X i ty) (ho : DE X o td) (hm : behindInMarks .NotIn o = false) : DE X (.Compare i [.NotIn] [o] pos) (dOp2 (oDIn true) ty td) := by
  refine pe_weak (pe_cmp (pc_dnotin hu hi ho) hm) ?_
  rintro σ H Q ⟨F, O, M, ss, Q3, w, sl, q, k⟩
  refine ⟨F, O, M, ss, _, w, sl, q, ?_⟩
  intro v H1 F1 M1 t x1 w1 r1 q1
  refine ⟨F1, O, M1, ss, _, w1, sl.mono x1, q1, ?_⟩
  intro u H2 F2 M2 t2 x2 w2 r2 q2
  unfold oDIn at q2
  have sx := r2.sees w2
  split at q2
  · rename_i kvs kk e1 e2
    rw [e1] at sx
    cases sx with
    | dic hx px =>
    have := keyT_ok (r1.mono x2) e2
    subst this
    refine ⟨_, _, rfl, DGet.k hx, fin_flat w2 (k.mono (x1.trans x2)) (.bl _) ?_⟩
    rw [px.some_eq]
    exact q2
  · exact q2.elim
/-- d[y] = v -/
def sPut (td ty tv : E3) : S3 := fun D ss M => tv ss M fun v M1 => td ss M1 fun x M2 => ty ss M2 fun y M3 => match x, keyT y with
  | .raw (.ref a), some k => (match M3 a with
    | some (.dct kvs) => kvs.length < sizeLine ∧ D.nx ss (mset M3 a (.dct (putT kvs k v)))
    | _ => False)
  | _, _ => False
theorem ds_dput (hu : X.A.units + 1 < cLine) (ho : DE X o td) (hi : DE X i ty) (hv : DE X value tv) (hs : swapsWith value (some (.Subscript o i pos')) pos.line X.env = pure false := by rfl) :
    DS X (.Assign [.Subscript o i pos'] value pos) (sPut td ty tv) := by
  refine ps_weak (ps_dput hu ho hi hv hs) ?_
  rintro D σ H ⟨F, O, M, ss, D3, w, sl, q, k⟩
  refine ⟨F, O, M, ss, _, w, sl, q, ?_⟩
  intro v H1 F1 M1 t x1 w1 r1 q1
  refine ⟨F1, O, M1, ss, _, w1, sl.mono x1, q1, ?_⟩
  intro u H2 F2 M2 t2 x2 w2 r2 q2
  refine ⟨F2, O, M2, ss, _, w2, sl.mono (x1.trans x2), q2, ?_⟩
  intro y H3 F3 M3 t3 x3 w3 r3 q3
  split at q3
  · rename_i a kk e2
    split at q3
    · rename_i kvs e3
      cases r2
      have := keyT_ok r3 e2
      subst this
      obtain ⟨_, _, ho, e4, ro⟩ := w3.mo a _ e3
      cases ro with
      | dct rk =>
      exact ⟨a, _, rfl, DPut.k e4 (by rw [rk.length]; exact q3.1), k.nx σ _ F3 _ ss (x1.trans (x2.trans x3)) (w3.write e3 (.dct (rk.put (r1.mono (x2.trans x3))))) (sl.mono (x1.trans (x2.trans x3))) q3.2⟩
    · exact q3.elim
  · exact q3.elim
/-- the pairs of a display -/
def dPairs : List (E3 × E3) → SS → Mp → (List (T × T) → Mp → Prop) → Prop
  | [], _, M, Q => Q [] M
  | (tk, tv) :: r, ss, M, Q => tk ss M fun x M1 => tv ss M1 fun y M2 => dPairs r ss M2 fun ps M3 => Q ((x, y) :: ps) M3
def keysT : List (T × T) → Option (List (Key × T))
  | [] => some []
  | (x, y) :: r => match keyT x, keysT r with
    | some k, some s => some ((k, y) :: s)
    | _, _ => none
def dDisp (trs : List (E3 × E3)) : E3 := fun ss M Q => dPairs trs ss M fun ps M1 => match keysT ps with
  | some kvs => kvs.length ≤ 15 ∧ Q (.dic (mergeT [] kvs)) M1
  | none => False
def dDispM (trs : List (E3 × E3)) : E3 := fun ss M Q => dPairs trs ss M fun ps M1 => match keysT ps with
  | some kvs => kvs.length ≤ 15 ∧ ∀ p, M1 p = none → Q (.raw (.ref p)) (mset M1 p (.dct (mergeT [] kvs)))
  | none => False
inductive RepPs (K : PySem.W.Frag) (F : Hp) : List (V × V) → List (T × T) → Prop
  | nil : RepPs K F [] []
  | cons {x y : V} {t u : T} {ps : List (V × V)} {ts : List (T × T)} : Rep K F x t → Rep K F y u → RepPs K F ps ts → RepPs K F ((x, y) :: ps) ((t, u) :: ts)
theorem RepPs.keys {F : Hp} : ∀ {ps : List (V × V)} {ts : List (T × T)} {kvs : List (Key × T)}, RepPs K F ps ts → keysT ts = some kvs → ∃ vs : List (Key × V), ps = vs.map (fun kv => (kV kv.1, kv.2)) ∧ RepKV K F vs kvs
  | _, _, kvs, .nil, h => by cases h; exact ⟨[], rfl, .nil⟩
  | _, _, kvs, .cons hx hy r, h => by
    unfold keysT at h
    split at h
    · rename_i k s e1 e2
      cases h
      obtain ⟨vs, e3, r3⟩ := RepPs.keys r e2
      have := keyT_ok hx e1
      subst this
      subst e3
      exact ⟨(k, _) :: vs, rfl, .cons hy r3⟩
    · cases h
theorem lift_pairs {F0 O : Hp} {σ : L2.St} {ss : SS} {R : List (V × V) → Hp → Prop} : ∀ {trs : List (E3 × E3)} {F H : Hp} {M : Mp} {Q3 : List (T × T) → Mp → Prop}, Ex F0 F → Wd K F O H M → SlR K F σ ss → dPairs trs ss M Q3 →
    (∀ ps H' F' M' ts, Ex F F' → Wd K F' O H' M' → RepPs K F' ps ts → Q3 ts M' → R ps H') → tPairs (trs.map fun p => (liftE K p.1, liftE K p.2)) σ H R
  | [], F, H, M, Q3, x, w, sl, q, k => k [] H F M [] .refl w .nil q
  | (tk, tv) :: r, F, H, M, Q3, x, w, sl, q, k => by
    refine ⟨F, O, M, ss, _, w, sl, q, ?_⟩
    intro v H1 F1 M1 t x1 w1 r1 q1
    refine ⟨F1, O, M1, ss, _, w1, sl.mono x1, q1, ?_⟩
    intro u H2 F2 M2 t2 x2 w2 r2 q2
    refine lift_pairs (x.trans (x1.trans x2)) w2 (sl.mono (x1.trans x2)) q2 ?_
    intro ps H3 F3 M3 ts x3 w3 r3 q3
    exact k _ H3 F3 M3 _ (x1.trans (x2.trans x3)) w3 (.cons (r1.mono (x2.trans x3)) (r2.mono x3) r3) q3
abbrev DPs (X : Cx) (pos : Pos) (keys : List (Option Expr)) (values : List Expr) (trs : List (E3 × E3)) : Prop := PPs X pos keys values (trs.map fun p => (liftE X.K p.1, liftE X.K p.2))
theorem dps_nil : DPs X pos [] [] [] := pps_nil
theorem dps_cons {k v : Expr} {ks : List (Option Expr)} {vs : List Expr} {tk tv : E3} {trs : List (E3 × E3)} (hk : DE X k tk) (hv : DE X v tv) (hr : DPs X pos ks vs trs) : DPs X pos (some k :: ks) (v :: vs) ((tk, tv) :: trs) := pps_cons hk hv hr
theorem Wd.freeW {F O H : Hp} {M : Mp} {D : Addr} {o o' : HO} (w : Wd K F (upd O D o) H M) (hO : O D = none) : Wd K (upd F D o') O (upd H D o') M := (w.turnO (o' := o')).freeO hO
theorem d_disp {keys : List (Option Expr)} {values : List Expr} {trs : List (E3 × E3)} (h : DPs X pos keys values trs) (hall : keys.all (·.isSome) = true := by rfl) (hl : keys.length = values.length := by rfl) (h0 : keys ≠ [] := by intro z; cases z)
    (h15 : keys.length ≤ 15 := by decide) : DE X (.Dict keys values pos) (dDisp trs) := by
  refine pe_weak (pe_disp h hall hl h0 h15) ?_
  rintro σ H Q ⟨F, O, M, ss, Q3, w, sl, q, k⟩ p hp
  have hO := w.fO hp
  refine lift_pairs .refl (w.keepO hp) sl q ?_
  intro ps H1 F1 M1 ts x1 w1 r1 q1
  split at q1
  · rename_i kvs e1
    obtain ⟨vs, e2, r2⟩ := r1.keys e1
    obtain ⟨hD, hF⟩ := w1.oth p _ upd_same
    refine ⟨hD, vs, e2, by rw [r2.length]; exact q1.1, ?_⟩
    have x2 : Ex F1 (upd F1 p (.dK (mergeK [] vs))) := .upd hF
    exact k _ _ _ M1 _ (x1.trans x2) (w1.freeW hO) (.dic upd_same (RepKV.mono x2 (RepKV.merge r2 .nil))) q1.2
  · exact q1.elim
theorem d_dispM {keys : List (Option Expr)} {values : List Expr} {trs : List (E3 × E3)} (h : DPs X pos keys values trs) (hall : keys.all (·.isSome) = true := by rfl) (hl : keys.length = values.length := by rfl) (h0 : keys ≠ [] := by intro z; cases z)
    (h15 : keys.length ≤ 15 := by decide) : DE X (.Dict keys values pos) (dDispM trs) := by
  refine pe_weak (pe_disp h hall hl h0 h15) ?_
  rintro σ H Q ⟨F, O, M, ss, Q3, w, sl, q, k⟩ p hp
  have hO := w.fO hp
  refine lift_pairs .refl (w.keepO hp) sl q ?_
  intro ps H1 F1 M1 ts x1 w1 r1 q1
  split at q1
  · rename_i kvs e1
    obtain ⟨vs, e2, r2⟩ := r1.keys e1
    obtain ⟨hD, hF⟩ := w1.oth p _ upd_same
    refine ⟨hD, vs, e2, by rw [r2.length]; exact q1.1, ?_⟩
    obtain ⟨h3, w3⟩ := (w1.turnO (o' := .dK (mergeK [] vs))).freeOM hO (.dct (RepKV.merge r2 .nil))
    exact k _ _ _ _ _ x1 w3 (.raw _) (q1.2 p h3)
  · exact q1.elim
/-- {} -/
def dNewD : E3 := fun _ M Q => Q (.dic []) M
def dNewDM : E3 := fun _ M Q => ∀ p, M p = none → Q (.raw (.ref p)) (mset M p (.dct []))
theorem d_newD : DE X (.Dict [] [] pos) dNewD := by
  refine pe_weak pe_dnewK ?_
  rintro σ H Q ⟨F, O, M, ss, Q3, w, sl, q, k⟩
  exact fin_new w k (fun F' p x e => .dic e .nil) q
theorem d_newDM : DE X (.Dict [] [] pos) dNewDM := by
  refine pe_weak pe_dnewK ?_
  rintro σ H Q ⟨F, O, M, ss, Q3, w, sl, q, k⟩
  exact fin_newM w k (.dct .nil) q

/-! ### methods of lists -/
def isL (x : T) (M : Mp) : Prop := match look x M with | .lst _ => True | _ => False
/-- o.m(e, ..) of a list that changes -/
def dLm (R : T → List T → QE → Mp → Prop) (te : E3) (tl : A3) : E3 := fun ss M Q => te ss M fun x M1 => isL x M1 ∧ tl ss M1 fun ts M2 => R x ts Q M2
def mAppend (x : T) (ts : List T) (Q : QE) (M : Mp) : Prop := match x, ts with
  | .raw (.ref a), [y] => (match M a with
    | some (.lst xs) => xs.length < sizeLine ∧ Q .non (mset M a (.lst (xs ++ [y])))
    | _ => False)
  | _, _ => False
def MtD (K : PySem.W.Frag) (r : V → List V → Hp → VK → Prop) (R : T → List T → QE → Mp → Prop) : Prop :=
  ∀ (F O H : Hp) (M : Mp) (x : V) (t : T) (vs : List V) (ts : List T) (Q3 : QE) (Q : VK), Wd K F O H M → Rep K F x t → Reps K F vs ts → R t ts Q3 M → LkV K F O Q3 Q → r x vs H Q
theorem isL_ok {F O H : Hp} {M : Mp} (w : Wd K F O H M) {v : V} {t : T} (r : Rep K F v t) (h : isL t M) : tyV K "list" v H := by
  unfold isL at h
  have s := r.sees w
  split at h
  · rename_i e
    rw [e] at s
    cases s with
    | lst hx px => exact .inl ⟨rfl, _, .of hx⟩
  · exact h.elim
theorem d_lm {name : Str} {id : String} {apos cpos : Pos} {r : V → List V → Hp → VK → Prop} {R : T → List T → QE → Mp → Prop} (slot : Slot "list" name id) (hty : typeOf (.builtin id) = pure (.type "method_descriptor")) (hm : MtR X id r) (h : MtD X.K r R)
    (ho : DE X o te) (ha : DA X (e :: es) tl) (hbase : attributeBase o name X.env (eval o X.env) = eval o X.env := by rfl)
    (hfew : ((backTo cpos (starEach (e :: es) X.env)).all (fun x => !x.1) && (backToKw cpos (keywordEach [] X.env)).all (fun x => x.1.isSome)
      && decide ((e :: es).length + ([] : List Keyword).length + (if ([] : List Keyword).isEmpty then 0 else 1) < 30)) = true := by rfl)
    (hline : (apos.endLine == cpos.line) = true := by rfl) (hs : starEach (e :: es) X.env = (false, eval e X.env) :: starEach es X.env := by rfl) (hplain : (backTo cpos (starEach es X.env)).any (·.1) = false := by rfl) :
    DE X (.Call (.Attribute o name apos) (e :: es) [] cpos) (dLm R te tl) := by
  refine pe_weak (pe_bm PySem.F.plainAttrs_list slot hty hm ho ha hbase hfew hline hs hplain) ?_
  rintro σ H Q ⟨F, O, M, ss, Q3, w, sl, q, k⟩
  refine ⟨F, O, M, ss, _, w, sl, q, ?_⟩
  rintro v H1 F1 M1 t x1 w1 r1 ⟨c1, q1⟩
  refine ⟨isL_ok w1 r1 c1, F1, O, M1, ss, _, w1, sl.mono x1, q1, ?_⟩
  intro vs H2 F2 M2 ts x2 w2 r2 q2
  exact h F2 O H2 M2 v t vs ts Q3 Q w2 (r1.mono x2) r2 q2 (k.mono (x1.trans x2))
/-- o.m() -/
def dLm0 (R : T → List T → QE → Mp → Prop) (te : E3) : E3 := fun ss M Q => te ss M fun x M1 => isL x M1 ∧ R x [] Q M1
theorem d_lm0 {name : Str} {id : String} {apos cpos : Pos} {r : V → List V → Hp → VK → Prop} {R : T → List T → QE → Mp → Prop} (slot : Slot "list" name id) (hty : typeOf (.builtin id) = pure (.type "method_descriptor")) (hm : MtR X id r) (h : MtD X.K r R)
    (ho : DE X o te) (hbase : attributeBase o name X.env (eval o X.env) = eval o X.env := by rfl) (hline : (apos.endLine == cpos.line) = true := by rfl) :
    DE X (.Call (.Attribute o name apos) [] [] cpos) (dLm0 R te) := by
  refine pe_weak (pe_bm0 PySem.F.plainAttrs_list slot hty hm ho hbase hline) ?_
  rintro σ H Q ⟨F, O, M, ss, Q3, w, sl, q, k⟩
  refine ⟨F, O, M, ss, _, w, sl, q, ?_⟩
  rintro v H1 F1 M1 t x1 w1 r1 ⟨c1, q1⟩
  exact ⟨isL_ok w1 r1 c1, h F1 O H1 M1 v t [] [] Q3 Q w1 r1 .nil q1 (k.mono x1)⟩
theorem md_append : MtD K rAppend mAppend := by
  intro F O H M x t vs ts Q3 Q w rx rs q k
  unfold mAppend at q
  split at q
  · rename_i a y
    cases rx
    cases rs with
    | cons ry rn =>
    cases rn
    split at q
    · rename_i xs e1
      obtain ⟨_, _, ho, e2, ro⟩ := w.mo a _ e1
      cases ro with
      | lst rl =>
      exact ⟨a, _, _, rfl, rfl, e2, by rw [rl.length]; exact q.1, k _ _ F _ _ .refl (w.write e1 (.lst (rl.append (.cons ry .nil)))) .non q.2⟩
    · exact q.elim
  · exact q.elim
def mPop (x : T) (ts : List T) (Q : QE) (M : Mp) : Prop := match x, ts with
  | .raw (.ref a), [] => (match M a with
    | some (.lst xs) => (match xs[xs.length - 1]? with | some t => Q t (mset M a (.lst xs.dropLast)) | none => False)
    | _ => False)
  | _, _ => False
theorem Reps.dropLast {F : Hp} {vs : List V} {ts : List T} (r : Reps K F vs ts) : Reps K F vs.dropLast ts.dropLast := by
  rw [List.dropLast_eq_take, List.dropLast_eq_take, r.length]
  exact r.take _
theorem md_pop : MtD K rPop mPop := by
  intro F O H M x t vs ts Q3 Q w rx rs q k
  unfold mPop at q
  split at q
  · rename_i a
    cases rx
    cases rs
    split at q
    · rename_i xs e1
      obtain ⟨_, _, ho, e2, ro⟩ := w.mo a _ e1
      cases ro with
      | lst rl =>
      split at q
      · rename_i t' e3
        obtain ⟨v, e4, rv⟩ := rl.get e3
        exact ⟨a, _, v, rfl, rfl, e2, by rw [rl.length]; exact e4, k _ _ F _ _ .refl (w.write e1 (.lst rl.dropLast)) rv q⟩
      · exact q.elim
    · exact q.elim
  · exact q.elim
theorem d_append {apos cpos : Pos} (ho : DE X o te) (ha : DA X [e] tl) (hbase : attributeBase o "append" X.env (eval o X.env) = eval o X.env := by rfl)
    (hfew : ((backTo cpos (starEach [e] X.env)).all (fun x => !x.1) && (backToKw cpos (keywordEach [] X.env)).all (fun x => x.1.isSome)
      && decide (([e] : List Expr).length + ([] : List Keyword).length + (if ([] : List Keyword).isEmpty then 0 else 1) < 30)) = true := by rfl)
    (hline : (apos.endLine == cpos.line) = true := by rfl) (hs : starEach [e] X.env = (false, eval e X.env) :: starEach [] X.env := by rfl) :
    DE X (.Call (.Attribute o "append" apos) [e] [] cpos) (dLm mAppend te tl) := d_lm PySem.F.slot_list_append PySem.F.type_list_append mt_append md_append ho ha hbase hfew hline hs rfl
theorem d_pop {apos cpos : Pos} (ho : DE X o te) (hbase : attributeBase o "pop" X.env (eval o X.env) = eval o X.env := by rfl) (hline : (apos.endLine == cpos.line) = true := by rfl) :
    DE X (.Call (.Attribute o "pop" apos) [] [] cpos) (dLm0 mPop te) := d_lm0 PySem.F.slot_list_pop PySem.F.type_list_pop mt_pop md_pop ho hbase hline
/-! ### methods of texts -/
def isS (x : T) : Prop := match x with | .str _ => True | _ => False
def dSm (R : T → List T → QE → Mp → Prop) (te : E3) (tl : A3) : E3 := fun ss M Q => te ss M fun x M1 => isS x ∧ tl ss M1 fun ts M2 => R x ts Q M2
theorem isS_ok {F H : Hp} {v : V} {t : T} (r : Rep K F v t) (h : isS t) : tyV K "str" v H := by
  unfold isS at h
  split at h
  · cases r; rfl
  · exact h.elim
theorem d_sm {name : Str} {id : String} {apos cpos : Pos} {r : V → List V → Hp → VK → Prop} {R : T → List T → QE → Mp → Prop} (slot : Slot "str" name id) (hty : typeOf (.builtin id) = pure (.type "method_descriptor")) (hm : MtR X id r) (h : MtD X.K r R)
    (ho : DE X o te) (ha : DA X (e :: es) tl) (hbase : attributeBase o name X.env (eval o X.env) = eval o X.env := by rfl)
    (hfew : ((backTo cpos (starEach (e :: es) X.env)).all (fun x => !x.1) && (backToKw cpos (keywordEach [] X.env)).all (fun x => x.1.isSome)
      && decide ((e :: es).length + ([] : List Keyword).length + (if ([] : List Keyword).isEmpty then 0 else 1) < 30)) = true := by rfl)
    (hline : (apos.endLine == cpos.line) = true := by rfl) (hs : starEach (e :: es) X.env = (false, eval e X.env) :: starEach es X.env := by rfl) (hplain : (backTo cpos (starEach es X.env)).any (·.1) = false := by rfl) :
    DE X (.Call (.Attribute o name apos) (e :: es) [] cpos) (dSm R te tl) := by
  refine pe_weak (pe_bm PySem.F.plainAttrs_str slot hty hm ho ha hbase hfew hline hs hplain) ?_
  rintro σ H Q ⟨F, O, M, ss, Q3, w, sl, q, k⟩
  refine ⟨F, O, M, ss, _, w, sl, q, ?_⟩
  rintro v H1 F1 M1 t x1 w1 r1 ⟨c1, q1⟩
  refine ⟨isS_ok r1 c1, F1, O, M1, ss, _, w1, sl.mono x1, q1, ?_⟩
  intro vs H2 F2 M2 ts x2 w2 r2 q2
  exact h F2 O H2 M2 v t vs ts Q3 Q w2 (r1.mono x2) r2 q2 (k.mono (x1.trans x2))
def strsT : List T → Option (List Str)
  | [] => some []
  | .str b :: r => (strsT r).map (b :: ·)
  | _ => none
theorem strs_eq : ∀ {ts : List T} {bs : List Str}, strsT ts = some bs → ts = bs.map T.str
  | [], bs, h => by cases h; rfl
  | t :: r, bs, h => by
    unfold strsT at h
    split at h
    · rename_i e; cases e
    · rename_i e
      cases e
      obtain ⟨cs, e1, e2⟩ := Option.map_eq_some_iff.mp h
      subst e2
      rw [List.map_cons, strs_eq e1]
    · cases h
def mJoin (x : T) (ts : List T) (Q : QE) (M : Mp) : Prop := match x, ts with
  | .str a, [y] => (match seqOf (look y M) with
    | some xs => (match strsT xs with | some ys => (ys.map (·.length)).sum + ys.length * a.length ≤ 16777216 ∧ Q (.str (Txt.join a ys)) M | none => False)
    | none => False)
  | _, _ => False
theorem md_join : MtD K (fun x xs H Q => ∃ a p, ∃ ys : List Str, x = .str a ∧ xs = [.ref p] ∧ (SqL K H p (ys.map V.str) ∨ SqT K H p (ys.map V.str)) ∧
    (ys.map (·.length)).sum + ys.length * a.length ≤ 16777216 ∧ Q (.str (Txt.join a ys)) H) mJoin := by
  intro F O H M x t vs ts Q3 Q w rx rs q k
  unfold mJoin at q
  split at q
  · rename_i a y
    cases rx
    cases rs with
    | cons ry rn =>
    cases rn
    split at q
    · rename_i xs e1
      split at q
      · rename_i ys e2
        obtain ⟨p, us, rfl, hq, px⟩ := (ry.sees w).seq w e1
        have e3 := strs_eq e2
        subst e3
        have e4 := px.strs
        subst e4
        exact ⟨a, p, ys, rfl, rfl, hq, q.1, fin_flat w k (.str _) q.2⟩
      · exact q.elim
    · exact q.elim
  · exact q.elim
theorem d_join {apos cpos : Pos} (ho : DE X o te) (ha : DA X [e] tl) (hbase : attributeBase o "join" X.env (eval o X.env) = eval o X.env := by rfl)
    (hfew : ((backTo cpos (starEach [e] X.env)).all (fun x => !x.1) && (backToKw cpos (keywordEach [] X.env)).all (fun x => x.1.isSome)
      && decide (([e] : List Expr).length + ([] : List Keyword).length + (if ([] : List Keyword).isEmpty then 0 else 1) < 30)) = true := by rfl)
    (hline : (apos.endLine == cpos.line) = true := by rfl) (hs : starEach [e] X.env = (false, eval e X.env) :: starEach [] X.env := by rfl) :
    DE X (.Call (.Attribute o "join" apos) [e] [] cpos) (dSm mJoin te tl) := d_sm PySem.F.slot_str_join PySem.F.type_str_join mt_join md_join ho ha hbase hfew hline hs rfl
end

/-! ### in, not in: a sign in a text, a flat value in a list or tuple -/
section
variable {X : Cx} {K : PySem.W.Frag} {a b : Expr} {ta tb : E3} {pos : Pos}
def oInS (neg : Bool) (x y : T) (Q : QE) (M : Mp) : Prop := match x, y with
  | .str s, .str z => (match s.cps.toList with | [c] => Q (.bl (if neg then !decide (c ∈ z.cps.toList) else decide (c ∈ z.cps.toList))) M | _ => False)
  | _, _ => False
theorem one_sign {s : Str} {c : Nat} (h : s.cps.toList = [c]) : s = ⟨#[c]⟩ := by
  obtain ⟨⟨l⟩⟩ := s
  have h' : l = [c] := h
  subst h'
  rfl
theorem od_inS : OpD K (fun x y H Q => ∃ (c : Nat) (z : Str), x = .str ⟨#[c]⟩ ∧ y = .str z ∧ Q (.bl (decide (c ∈ z.cps.toList))) H) (oInS false) := by
  intro F O H M x y t u Q3 Q w rx ry q k
  unfold oInS at q
  split at q
  · split at q
    · rename_i c e
      cases rx; cases ry
      exact ⟨c, _, by rw [one_sign e], rfl, fin_flat w k (.bl _) q⟩
    · exact q.elim
  · exact q.elim
theorem od_ninS : OpD K (fun x y H Q => ∃ (c : Nat) (z : Str), x = .str ⟨#[c]⟩ ∧ y = .str z ∧ Q (.bl (!decide (c ∈ z.cps.toList))) H) (oInS true) := by
  intro F O H M x y t u Q3 Q w rx ry q k
  unfold oInS at q
  split at q
  · split at q
    · rename_i c e
      cases rx; cases ry
      exact ⟨c, _, by rw [one_sign e], rfl, fin_flat w k (.bl _) q⟩
    · exact q.elim
  · exact q.elim
theorem d_inS (ha : DE X a ta) (hb : DE X b tb) (hm : behindInMarks .In b = false) : DE X (.Compare a [.In] [b] pos) (dOp2 (oInS false) ta tb) := d_cmp op_in_sign od_inS ha hb hm
theorem d_ninS (ha : DE X a ta) (hb : DE X b tb) (hm : behindInMarks .NotIn b = false) : DE X (.Compare a [.NotIn] [b] pos) (dOp2 (oInS true) ta tb) := d_cmp op_notIn_sign od_ninS ha hb hm
/-- a flat value among flat values -/
def eqF : T → T → Bool
  | .non, .non => true
  | .bl a, .bl b => a == b
  | .bl a, .int j => (if a then 1 else 0) == j
  | .int i, .bl b => i == (if b then 1 else 0)
  | .int i, .int j => i == j
  | .str a, .str b => a == b
  | _, _ => false
def flatT : T → Bool
  | .non => true | .bl _ => true | .int _ => true | .str _ => true | _ => false
theorem flatT_ok {F O H : Hp} {M : Mp} {v : V} {t : T} (r : Rep K F v t) (h : flatT t = true) : flatV v = true := by
  cases r <;> first | rfl | cases h
theorem eqF_ok {F : Hp} {v u : V} {t s : T} (r : Rep K F v t) (q : Rep K F u s) (h : flatT t = true) (h' : flatT s = true) : eqV v u = eqF t s := by
  cases r <;> first | (cases h; done) | (cases q <;> first | rfl | (cases h'; done))
def inT (x : T) (xs : List T) : Bool := xs.any fun y => eqF y x
theorem inT_ok {F : Hp} {x : V} {t : T} (r : Rep K F x t) (h : flatT t = true) : ∀ {vs : List V} {ts : List T}, Reps K F vs ts → ts.all flatT = true → vs.all flatV = true ∧ inV x vs = inT t ts
  | _, _, .nil, _ => ⟨rfl, rfl⟩
  | _, _, .cons q rs, e => by
    rw [List.all_cons, Bool.and_eq_true] at e
    obtain ⟨h1, h2⟩ := inT_ok r h rs e.2
    refine ⟨by rw [List.all_cons, flatT_ok (F := F) (O := F) (H := F) (M := fun _ => none) q e.1, h1]; rfl, ?_⟩
    unfold inV inT at *
    rw [List.any_cons, List.any_cons, eqF_ok q r e.1 h, h2]
def oIn (neg : Bool) (x y : T) (Q : QE) (M : Mp) : Prop := match seqOf (look y M) with
  | some xs => flatT x = true ∧ xs.all flatT = true ∧ Q (.bl (if neg then !inT x xs else inT x xs)) M
  | none => False
theorem od_in {neg : Bool} : OpD K (rIn K neg) (oIn neg) := by
  intro F O H M x y t u Q3 Q w rx ry q k
  unfold oIn at q
  split at q
  · rename_i xs e
    obtain ⟨p, us, rfl, hq, px⟩ := (ry.sees w).seq w e
    obtain ⟨f1, f2, q⟩ := q
    obtain ⟨h1, h2⟩ := inT_ok rx f1 px f2
    exact ⟨p, us, rfl, hq, flatT_ok (F := F) (O := O) (H := H) (M := M) rx f1, h1, by rw [h2]; exact fin_flat w k (.bl _) q⟩
  · exact q.elim
theorem d_in (ha : DE X a ta) (hb : DE X b tb) (hm : behindInMarks .In b = false) : DE X (.Compare a [.In] [b] pos) (dOp2 (oIn false) ta tb) := d_cmp op_in_seq od_in ha hb hm
theorem d_nin (ha : DE X a ta) (hb : DE X b tb) (hm : behindInMarks .NotIn b = false) : DE X (.Compare a [.NotIn] [b] pos) (dOp2 (oIn true) ta tb) := d_cmp op_notIn_seq od_in ha hb hm
theorem dt_in (ha : DE X a ta) (hb : DE X b tb) (hm : behindInMarks .In b = false) : DT X (.Compare a [.In] [b] pos) (dB (dOp2 (oIn false) ta tb)) := dt_cmp op_in_seq od_in ha hb hm
theorem dt_nin (ha : DE X a ta) (hb : DE X b tb) (hm : behindInMarks .NotIn b = false) : DT X (.Compare a [.NotIn] [b] pos) (dB (dOp2 (oIn true) ta tb)) := dt_cmp op_notIn_seq od_in ha hb hm

/-! ### repr -/
section
variable {pins : List (Addr × Obj)} {σ : L2.St} {s : Shared} {F O H : Hp} {M : Mp}
theorem list_apart (I : Inv X pins σ H s) (hy : SysAt X.base) {p : Addr} {o : Obj} {its : Array Value} {n : Nat} (e : s.heap.get? p = some o) (d : o.data = .seq its n) : sysModules ≠ p := by
  obtain ⟨o', es, ep, e1, d1⟩ := hy
  intro z
  have e2 := I.bk _ _ e1
  rw [z, e] at e2
  cases e2
  rw [d] at d1
  cases d1
mutual
theorem Rep.reads (I : Inv X pins σ H s) (w : Wd X.K F O H M) (hy : SysAt X.base) : ∀ {v : V} {t : T} {d : PyData} {u : Value}, Rep X.K F v t → t.py = some d → RelV v u → ∃ as, Reads s.heap u d as ∧ sysModules ∉ as
  | _, _, _, _, .non, e, r => by cases e; cases r; exact ⟨[], .none, List.not_mem_nil⟩
  | _, _, _, _, .bl b, e, r => by cases e; cases r; exact ⟨[], .bool b, List.not_mem_nil⟩
  | _, _, _, _, .int i, e, r => by cases e; obtain ⟨t, rfl⟩ := r; exact ⟨[], .int i t, List.not_mem_nil⟩
  | _, _, _, _, .str x, e, r => by cases e; obtain ⟨t, rfl⟩ := r; exact ⟨[], .str x t, List.not_mem_nil⟩
  | _, _, _, _, .tup h rs, e, r => by
    rw [T.py] at e
    obtain ⟨ds, e1, e2⟩ := Option.map_eq_some_iff.mp e
    subst e2
    cases r
    obtain ⟨its, rv, ⟨o, e3, c, n, dd⟩, _⟩ := I.tuple (w.ex.sqT h)
    obtain ⟨as, h1, h2⟩ := Reps.reads I w hy rs e1 rv
    exact ⟨as, .tuple e3 c dd h1, h2⟩
  | _, _, _, _, .lst h rs, e, r => by
    rw [T.py] at e
    obtain ⟨ds, e1, e2⟩ := Option.map_eq_some_iff.mp e
    subst e2
    cases r
    obtain ⟨its, rv, ⟨o, n, e3, c, _, dd⟩, _⟩ := I.list (.of (w.sub _ _ h))
    obtain ⟨as, h1, h2⟩ := Reps.reads I w hy rs e1 rv
    exact ⟨_, .list e3 c dd h1, fun z => (List.mem_cons.mp z).elim (list_apart I hy e3 dd) h2⟩
  | _, _, _, _, .scr h rs, e, r => by
    rw [T.py] at e
    obtain ⟨ds, e1, e2⟩ := Option.map_eq_some_iff.mp e
    subst e2
    cases r
    obtain ⟨its, rv, ⟨o, n, e3, c, _, dd⟩, _⟩ := I.list (w.ex.sqL h)
    obtain ⟨as, h1, h2⟩ := Reps.reads I w hy rs e1 rv
    exact ⟨_, .list e3 c dd h1, fun z => (List.mem_cons.mp z).elim (list_apart I hy e3 dd) h2⟩
  | _, _, _, _, .dic (kvs := kvs) h rs, e, r => by
    rw [T.py] at e
    obtain ⟨ds, e1, e2⟩ := Option.map_eq_some_iff.mp e
    subst e2
    cases r
    obtain ⟨_, ne, vs, rk, o, es, ep, e3, ex, dd, _, pr, _⟩ := dk_of I.hok (w.sub _ _ h)
    obtain ⟨as, bs, h1, h2, h3, h4⟩ := RepKV.reads I w hy rs e1 rk pr
    refine ⟨_, .dict e3 ex.1 dd h1 h2, fun z => ?_⟩
    rcases List.mem_append.mp z with z | z
    · rcases List.mem_cons.mp z with z | z
      · rw [← z] at ne
        exact absurd ne (by decide)
      · exact h3 z
    · exact h4 z
  | _, _, _, _, .raw _, e, _ => by cases e
theorem Reps.reads (I : Inv X pins σ H s) (w : Wd X.K F O H M) (hy : SysAt X.base) : ∀ {vs : List V} {ts : List T} {ds : List PyData} {us : List Value}, Reps X.K F vs ts → T.pys ts = some ds → Vals vs us → ∃ as, ReadsAll s.heap us ds as ∧ sysModules ∉ as
  | _, _, _, _, .nil, e, r => by cases e; cases r; exact ⟨[], .nil, List.not_mem_nil⟩
  | _, _, _, _, .cons h rs, e, r => by
    rw [T.pys] at e
    split at e
    · rename_i e1 e2
      cases e
      cases r with
      | cons r1 r2 =>
      obtain ⟨as, h1, h2⟩ := Rep.reads I w hy h e1 r1
      obtain ⟨bs, h3, h4⟩ := Reps.reads I w hy rs e2 r2
      exact ⟨as ++ bs, .cons h1 h3, fun z => (List.mem_append.mp z).elim h2 h4⟩
    · cases e
theorem RepKV.reads (I : Inv X pins σ H s) (w : Wd X.K F O H M) (hy : SysAt X.base) : ∀ {vs : List (Key × V)} {ts : List (Key × T)} {ds : List (PyData × PyData)} {us : List (Key × Value)} {es : List DictEntry}, RepKV X.K F vs ts → T.pyKV ts = some ds → KV vs us →
    Pairs (mixKind X.prog X.w) es us → ∃ as bs, ReadsAll s.heap (es.map (·.key)) (ds.map (·.1)) as ∧ ReadsAll s.heap (es.map (·.val)) (ds.map (·.2)) bs ∧ sysModules ∉ as ∧ sysModules ∉ bs
  | _, _, _, _, _, .nil, e, r, p => by cases e; cases r; cases p; exact ⟨[], [], .nil, .nil, List.not_mem_nil, List.not_mem_nil⟩
  | _, _, _, _, _, .cons (k := k) h rs, e, r, p => by
    rw [T.pyKV.eq_def] at e
    dsimp only at e
    split at e
    · rename_i e1 e2
      cases e
      cases r with
      | cons r1 r2 =>
      cases p with
      | cons p1 p2 p3 =>
      obtain ⟨as, h1, h2⟩ := Rep.reads I w hy h e1 r1.2
      obtain ⟨as', bs, g1, g2, g3, g4⟩ := RepKV.reads I w hy rs e2 r2 p3
      have hk := r1.1
      rw [← hk] at p1
      refine ⟨[] ++ as', as ++ bs, ?_, ?_, g3, fun z => (List.mem_append.mp z).elim h2 g4⟩
      · refine ReadsAll.cons ?_ g1
        rcases keyIs_shape (show keyIs k _ = true from p1) with ⟨i, t, e3, e4⟩ | ⟨x, t, e3, e4⟩
        · subst e3
          dsimp only
          rw [e4]
          exact .int i t
        · subst e3
          dsimp only
          rw [e4]
          exact .str x t
      · refine ReadsAll.cons ?_ g2
        dsimp only
        rw [p2]
        exact h1
    · cases e
end
theorem Sees.reads (I : Inv X pins σ H s) (w : Wd X.K F O H M) (hy : SysAt X.base) {v : V} {t : T} {d : PyData} {u : Value} (r : Sees X.K F H v t) (e : t.py = some d) (rv : RelV v u) : ∃ as, Reads s.heap u d as ∧ sysModules ∉ as := by
  cases r with
  | non => exact Rep.reads I w hy .non e rv
  | bl b => exact Rep.reads I w hy (.bl b) e rv
  | int i => exact Rep.reads I w hy (.int i) e rv
  | str x => exact Rep.reads I w hy (.str x) e rv
  | tup h r => exact Rep.reads I w hy (.tup h r) e rv
  | lst h rs =>
    rw [T.py] at e
    obtain ⟨ds, e1, e2⟩ := Option.map_eq_some_iff.mp e
    subst e2
    cases rv
    obtain ⟨its, rv, ⟨o, n, e3, c, _, dd⟩, _⟩ := I.list (.of h)
    obtain ⟨as, h1, h2⟩ := Reps.reads I w hy rs e1 rv
    exact ⟨_, .list e3 c dd h1, fun z => (List.mem_cons.mp z).elim (list_apart I hy e3 dd) h2⟩
  | scr h rs =>
    rw [T.py] at e
    obtain ⟨ds, e1, e2⟩ := Option.map_eq_some_iff.mp e
    subst e2
    cases rv
    obtain ⟨its, rv, ⟨o, n, e3, c, _, dd⟩, _⟩ := I.list h
    obtain ⟨as, h1, h2⟩ := Reps.reads I w hy rs e1 rv
    exact ⟨_, .list e3 c dd h1, fun z => (List.mem_cons.mp z).elim (list_apart I hy e3 dd) h2⟩
  | dic h rs =>
    rw [T.py] at e
    obtain ⟨ds, e1, e2⟩ := Option.map_eq_some_iff.mp e
    subst e2
    cases rv
    obtain ⟨_, ne, vs, rk, o, es, ep, e3, ex, dd, _, pr, _⟩ := dk_of I.hok h
    obtain ⟨as, bs, h1, h2, h3, h4⟩ := RepKV.reads I w hy rs e1 rk pr
    refine ⟨_, .dict e3 ex.1 dd h1 h2, fun z => ?_⟩
    rcases List.mem_append.mp z with z | z
    · rcases List.mem_cons.mp z with z | z
      · rw [← z] at ne
        exact absurd ne (by decide)
      · exact h3 z
    · exact h4 z
  | raw v => cases e
end
/-- what repr shows, if it can be shown -/
def Shows (d : PyData) : Prop := d.showable = true ∧ d.depth ≤ 60 ∧ d.shown.length ≤ sizeLine
def fRepr (ts : List T) (Q : QE) (M : Mp) : Prop := match ts with
  | [x] => (match (look x M).py with | some d => Shows d ∧ Q (.str d.shown) M | none => False)
  | _ => False
theorem d_repr {e : Expr} {tl : A3} {p pos : Pos} (hgd : X.A.guards = some []) (hu : X.A.units + 64 < cLine) (hy : SysAt X.base) (hg : Gl X "repr") (hm : X.mg "repr" = none) (ha : DA X [e] tl)
    (he : starEach [e] X.env = (false, eval e X.env) :: starEach [] X.env := by rfl) : DE X (.Call (.Name "repr" p) [e] [] pos) (dCall fRepr tl) := by
  constructor
  rintro pins s σ H Q I ⟨F, O, M, ss, Q3, w, sl, q, k⟩
  refine wpAny_Call_Name_kw (ld_blt I hg hm (u := .builtin "repr") (by decide +kernel) ?_)
  refine PyProof.Rows.callWith_builtin1 (thn (ha.run pos pins s σ H (fun vs H1 => ∃ F1 M1 ts, Ex F F1 ∧ Wd X.K F1 O H1 M1 ∧ Reps X.K F1 vs ts ∧ fRepr ts Q3 M1) I
    ⟨F, O, M, ss, _, w, sl, q, fun vs H1 F1 M1 ts x1 w1 r1 q1 => ⟨F1, M1, ts, x1, w1, r1, q1⟩⟩) ?_) he rfl
  rintro us s1 ⟨vs, H1, I1, rv, F1, M1, ts, x1, w1, rs, q1⟩
  unfold fRepr at q1
  split at q1
  · rename_i x
    cases rs with
    | cons rx rn =>
    cases rn
    cases rv with
    | cons rv rn =>
    cases rn
    split at q1
    · rename_i d e1
      obtain ⟨⟨c1, c2, c3⟩, q1⟩ := q1
      have kk : ∀ (tk : Nat) (t : Tok), EP X pins σ Q (.str d.shown t) { s1 with toks := tk } := fun tk t => ⟨.str d.shown, H1, I1.tok _, ⟨_, rfl⟩, k _ H1 F1 M1 _ x1 w1 (.str _) q1⟩
      have sx := rx.sees w1
      obtain ⟨as, hr, hs⟩ := sx.reads I1 w1 hy e1 rv
      cases hr with
      | none => exact P.repr_of_none (kk _ _)
      | bool b => exact P.repr_of_bool (kk _ _)
      | int i t => exact P.repr_of_int (by simpa [PyData.showable] using c1) (kk _ _)
      | str x t => exact P.repr_of_str (kk _ _) (by simpa [PyData.shown] using c3)
      | list h1 h2 h3 h4 =>
        exact repr_of_reads' (.list h1 h2 h3 h4) c1 (fun _ => hs) hgd (by omega) (fun _ _ z => z) (fun h' u tk hk => ⟨.str _, H1, I1.kept (t' := tk) hk, ⟨_, rfl⟩, k _ H1 F1 M1 _ x1 w1 (.str _) q1⟩) c3
      | tuple h1 h2 h3 h4 =>
        exact repr_of_reads' (.tuple h1 h2 h3 h4) c1 (fun _ => hs) hgd (by omega) (fun _ _ z => z) (fun h' u tk hk => ⟨.str _, H1, I1.kept (t' := tk) hk, ⟨_, rfl⟩, k _ H1 F1 M1 _ x1 w1 (.str _) q1⟩) c3
      | dict h1 h2 h3 h4 h5 =>
        exact repr_of_reads' (.dict h1 h2 h3 h4 h5) c1 (fun _ => hs) hgd (by omega) (fun _ _ z => z) (fun h' u tk hk => ⟨.str _, H1, I1.kept (t' := tk) hk, ⟨_, rfl⟩, k _ H1 F1 M1 _ x1 w1 (.str _) q1⟩) c3
    · exact q1.elim
  · exact q1.elim
end
end L3

set_option maxHeartbeats 1000000
/-! L3F: promises of defs over trees, calls, the law's end. -/
namespace L3
open PySem PySem.Spec PyProof.Rows L2

/-- a def's promise: its arguments, what may change, what is wanted behind it -/
abbrev Sp3 := List T → Mp → QE → Prop
def liftSp (K : PySem.W.Frag) (sp : Sp3) : Sp := fun vs H Q _ => ∃ F O M ts Q3, Wd K F O H M ∧ Reps K F vs ts ∧ sp ts M Q3 ∧ LkV K F O Q3 Q
abbrev FnD (P : Program) (w : World) (K : PySem.W.Frag) (mg : Str → Option Value) (base : Heap) (k : Nat) (f : Addr) (fd : FuncData) (ps : List Str) (sp : Sp3) : Prop :=
  FnG P w K mg base CX0 k f fd ps (liftSp K sp)
def start3 (N : List Str) (ts : List T) : SS := ts.map some ++ List.replicate (N.length - ts.length) none

theorem slr_start {K : PySem.W.Frag} {F : Hp} {N : List Str} {vs : List V} {ts : List T} (r : Reps K F vs ts) : SlR K F (L2.start N vs) (start3 N ts) := by
  have hl := r.length
  refine ⟨?_, fun i t e => ?_⟩
  · unfold L2.start start3
    rw [List.length_append, List.length_append, List.length_map, List.length_map, List.length_replicate, List.length_replicate, hl]
  · unfold start3 at e
    unfold L2.start
    by_cases hi : i < ts.length
    · rw [List.getElem?_append_left (by rw [List.length_map]; exact hi), List.getElem?_map] at e
      obtain ⟨t', e1, e2⟩ := Option.map_eq_some_iff.mp e
      cases e2
      obtain ⟨v, e3, r3⟩ := r.get e1
      refine ⟨v, ?_, r3⟩
      rw [List.getElem?_append_left (by rw [List.length_map]; omega), List.getElem?_map, e3]
      rfl
    · rw [List.getElem?_append_right (by rw [List.length_map]; omega), List.getElem?_replicate] at e
      split at e <;> cases e

theorem okD {P : Program} {w : World} {K : PySem.W.Frag} {mg : Str → Option Value} {base : Heap} {x qual : Str} {st : Stmt} {f : Addr}
    {fd : FuncData} {N ps : List Str} {k : Nat} {sp : Sp3} (F : Fun K x qual st f fd) (S : FnScope N ps (defScope st))
    (len : ∀ ts M Q, sp ts M Q → ts.length = ps.length)
    (hbody : ∀ (cdv : Value) (A : Around) (outer : List Env) (s : Shared) (H : Hp) (E : XK),
      Room k (A.deeper (envOfC qual (defScope st) s.heap.objs.size f cdv)) → (A.deeper (envOfC qual (defScope st) s.heap.objs.size f cdv)).guards = some [] →
      ∃ t : S3, DSs (cxOf CX0 P w K mg base N qual (defScope st) f cdv A outer s H E).nox (defBody st) t ∧
        ∀ (ts : List T) (M : Mp) (Q : QE), sp ts M Q → t { nx := fun _ M' => Q .non M', rt := Q } (start3 N ts) M) :
    FnD P w K mg base (k + 1) f fd ps sp := by
  refine okG F S ?_ ?_
  · rintro vs H Q E ⟨F, O, M, ts, Q3, w, r, h, _⟩
    exact r.length.trans (len ts M Q3 h)
  · rintro cdv A outer s H vs Q E hr hg ⟨F0, O, M, ts, Q3, w0, r, h, lk⟩
    obtain ⟨t, ht, hq⟩ := hbody cdv A outer s H E hr hg
    refine ⟨_, ht.nox, F0, O, M, start3 N ts, _, w0, slr_start r, hq ts M Q3 h, ?_, lk, ?_, ?_⟩
    · intro σ' H' F' M' ss' x' w' sl' q'
      exact lk _ H' F' M' _ x' w' .non q'
    · intro _ _ _ _ _ _ _ _ q
      exact q
    · intro _ _ _ _ _ _ _ _ q
      exact q

/-- arguments in the parameters' order: n positional ones, m by name, then defaults -/
def pick {α : Type} (n m : Nat) (perm : List Nat) (ds us ws : List α) : List α :=
  if us.length = n ∧ ws.length = m then perm.filterMap fun i => (us ++ ws ++ ds)[i]? else []
def Rel2 {α β : Type} (R : α → β → Prop) : List α → List β → Prop
  | [], [] => True
  | a :: as, b :: bs => R a b ∧ Rel2 R as bs
  | _, _ => False
theorem pick_vals {n m : Nat} {perm : List Nat} {dvs : List V} {ds : List Value} (hd : Vals dvs ds) {vs zs : List V} {us ws : List Value} (r : Vals vs us) (q : Vals zs ws) : Vals (pick n m perm dvs vs zs) (pick n m perm ds us ws) := by
  unfold pick
  rw [r.length, q.length]
  split
  · have a := (r.append q).append hd
    induction perm with
    | nil => exact .nil
    | cons i is ih =>
      rw [List.filterMap_cons, List.filterMap_cons]
      cases e : (vs ++ zs ++ dvs)[i]? with
      | none => rw [a.none_of e]; exact ih
      | some v =>
        obtain ⟨u, e2, r2⟩ := a.get e
        rw [e2]
        exact .cons r2 ih
  · exact .nil
theorem pick_reps {K : PySem.W.Frag} {F : Hp} {n m : Nat} {perm : List Nat} {dvs : List V} {ds : List T} (hd : Reps K F dvs ds) {vs zs : List V} {us ws : List T} (r : Reps K F vs us) (q : Reps K F zs ws) : Reps K F (pick n m perm dvs vs zs) (pick n m perm ds us ws) := by
  unfold pick
  rw [r.length, q.length]
  split
  · have a := (r.append q).append hd
    induction perm with
    | nil => exact .nil
    | cons i is ih =>
      rw [List.filterMap_cons, List.filterMap_cons]
      cases e : (us ++ ws ++ ds)[i]? with
      | none =>
        have e2 : (vs ++ zs ++ dvs)[i]? = none := by
          rw [List.getElem?_eq_none_iff] at e ⊢
          rw [a.length]
          exact e
        rw [e2]
        exact ih
      | some t =>
        obtain ⟨v, e2, r2⟩ := a.get e
        rw [e2]
        exact .cons r2 ih
  · exact .nil

section
variable {X : Cx} {k : Nat} {f : Addr} {fd : FuncData} {ps ks : List Str} {sp : Sp3} {x : Str} {p pos : Pos} {e : Expr} {es : List Expr} {kws : List Keyword} {tl tk : A3} {n m : Nat} {perm : List Nat} {ds : List Value} {dvs : List V} {dts : List T}
/-- how the call's arguments come to the parameters -/
structure KB (K : PySem.W.Frag) (fd : FuncData) (ps ks : List Str) (n m : Nat) (perm : List Nat) (ds : List Value) (dvs : List V) (dts : List T) : Prop where
  to : ∀ (s : Shared) (us ws : List Value), K.In s.heap → us.length = n → ws.length = m → BindsTo s fd ⟨us, ks.zip ws⟩ (ps.zip (pick n m perm ds us ws))
  rel : Vals dvs ds
  rep : ∀ F, Reps K F dvs dts
  ne : ps ≠ []
theorem KB.kb {K : PySem.W.Frag} (h : KB K fd ps ks n m perm ds dvs dts) : KBinds K fd ps ks (pick n m perm ds) (pick n m perm dvs) := by
  refine ⟨fun s us ws hk hl => ?_, fun r q => pick_vals h.rel r q⟩
  by_cases c : us.length = n ∧ ws.length = m
  · exact h.to s us ws hk c.1 c.2
  · unfold pick at hl
    rw [if_neg c] at hl
    exact absurd (List.length_eq_zero_iff.mp hl.symm) h.ne
/-- no defaults -/
theorem KB.mk0 {K : PySem.W.Frag} {x qual : Str} {st : Stmt} (F : Fun K x qual st f fd) (ne : ps ≠ [])
    (h : ∀ (kV doc pm : Value) (an : Option Addr) (cdv ct : Value) (us ws : List Value), us.length = n → ws.length = m →
      bindArgs (PySem.W.fnOf x qual (defArgs st) (defBody st) (defScope st) .none kV doc pm an cdv ct) ⟨us, ks.zip ws⟩ = pure (ps.zip (pick n m perm [] us ws))) : KB K fd ps ks n m perm [] [] [] := by
  obtain ⟨oc, od, kV, doc, pm, an, cdv, ct, osl, rfl, lk, hcd⟩ := F.ex
  exact ⟨fun s us ws _ hn hm => .of_eq (h kV doc pm an cdv ct us ws hn hm), .nil, fun _ => .nil, ne⟩
def dFn (sp : Sp3) (n m : Nat) (perm : List Nat) (dts : List T) (tl tk : A3) : E3 := fun ss M Q => tl ss M fun ts M1 => tk ss M1 fun us M2 => sp (pick n m perm dts ts us) M2 Q
theorem lift_fn {K : PySem.W.Frag} (rep : ∀ F, Reps K F dvs dts) : ∀ σ H Q, liftE K (dFn sp n m perm dts tl tk) σ H Q → tCallK (liftSp K sp) (pick n m perm dvs) (fun _ _ _ => False) (liftA K tl) (liftA K tk) σ H Q := by
  rintro σ H Q ⟨F, O, M, ss, Q3, w, sl, q, k⟩
  refine ⟨F, O, M, ss, _, w, sl, q, ?_⟩
  intro vs H1 F1 M1 ts x1 w1 r1 q1
  refine ⟨F1, O, M1, ss, _, w1, sl.mono x1, q1, ?_⟩
  intro zs H2 F2 M2 us x2 w2 r2 q2
  exact ⟨F2, O, M2, _, Q3, w2, pick_reps (rep F2) (r1.mono x2) r2, q2, k.mono (x1.trans x2)⟩
theorem d_fn (F : FnD X.prog X.w X.K X.mg X.base k f fd ps sp) (hr : Room k X.A) (hgd : X.A.guards = some []) (hg : Gl X x) (hm : X.mg x = some (.ref f))
    (hk : PySem.W.keepIn X.K (.ref f) = true) (hb : KB X.K fd ps ks n m perm ds dvs dts) (ha : DA X (e :: es) tl) (hkw : DK X kws tk)
    (hall : (backToKw pos (keywordEach kws X.env)).all (·.1.isSome) = true := by rfl) (hks : (backToKw pos (keywordEach kws X.env)).filterMap (·.1) = ks := by rfl)
    (hdb : (x == ("__debug__" : Str)) = false := by decide) (he : starEach (e :: es) X.env = (false, eval e X.env) :: starEach es X.env := by rfl)
    (hpl : ((backTo pos (starEach (e :: es) X.env)).any (·.1) || (backToKw pos (keywordEach kws X.env)).any (·.1.isNone)) = false := by rfl) :
    DE X (.Call (.Name x p) (e :: es) kws pos) (dFn sp n m perm dts tl tk) :=
  pe_weak (pe_callG (E := fun _ _ _ => False) F hr hgd hg hm hk hb.kb (fun _ _ _ _ _ _ _ h => h.elim) ha hkw hall hks hdb he hpl) (lift_fn hb.rep)
theorem d_fnK (F : FnD X.prog X.w X.K X.mg X.base k f fd ps sp) (hr : Room k X.A) (hgd : X.A.guards = some []) (hg : Gl X x) (hm : X.mg x = some (.ref f))
    (hk : PySem.W.keepIn X.K (.ref f) = true) (hb : KB X.K fd ps ks n m perm ds dvs dts) (hkw : DK X kws tk)
    (hall : (backToKw pos (keywordEach kws X.env)).all (·.1.isSome) = true := by rfl) (hks : (backToKw pos (keywordEach kws X.env)).filterMap (·.1) = ks := by rfl)
    (hdb : (x == ("__debug__" : Str)) = false := by decide) (hpl : ((backTo pos (starEach [] X.env)).any (·.1) || (backToKw pos (keywordEach kws X.env)).any (·.1.isNone)) = false := by rfl) :
    DE X (.Call (.Name x p) [] kws pos) (dFn sp n m perm dts dNil tk) := by
  refine pe_weak (pe_callGk (E := fun _ _ _ => False) F hr hgd hg hm hk hb.kb (fun _ _ _ _ _ _ _ h => h.elim) hkw hall hks hdb hpl) ?_
  rintro σ H Q ⟨F, O, M, ss, Q3, w, sl, q, k⟩
  refine ⟨F, O, M, ss, _, w, sl, q, ?_⟩
  intro zs H2 F2 M2 us x2 w2 r2 q2
  exact ⟨F2, O, M2, _, Q3, w2, pick_reps (hb.rep F2) .nil r2, q2, k.mono x2⟩
/-- f() of a def without parameters -/
def dFn0 (sp : Sp3) : E3 := fun _ M Q => sp [] M Q
theorem kb_none {K : PySem.W.Frag} {x qual : Str} {st : Stmt} (F : Fun K x qual st f fd)
    (h : ∀ (kV doc pm : Value) (an : Option Addr) (cdv ct : Value), bindArgs (PySem.W.fnOf x qual (defArgs st) (defBody st) (defScope st) .none kV doc pm an cdv ct) ⟨[], []⟩ = pure []) :
    KBinds K fd [] [] (fun us _ => us) (fun vs _ => vs) := by
  obtain ⟨oc, od, kV, doc, pm, an, cdv, ct, osl, rfl, lk, hcd⟩ := F.ex
  refine ⟨fun s us ws _ hl => ?_, fun r _ => r⟩
  obtain rfl := List.length_eq_zero_iff.mp hl
  exact .of_eq (h kV doc pm an cdv ct)
theorem d_fn0 (F : FnD X.prog X.w X.K X.mg X.base k f fd [] sp) (hr : Room k X.A) (hgd : X.A.guards = some []) (hg : Gl X x) (hm : X.mg x = some (.ref f))
    (hk : PySem.W.keepIn X.K (.ref f) = true) (hb : KBinds X.K fd [] [] (fun us _ => us) (fun vs _ => vs)) (hdb : (x == ("__debug__" : Str)) = false := by decide) :
    DE X (.Call (.Name x p) [] [] pos) (dFn0 sp) := by
  refine pe_weak (pe_callG0 (E := fun _ _ _ => False) F hr hgd hg hm hk hb (fun _ _ _ _ _ _ _ h => h.elim) hdb) ?_
  rintro σ H Q ⟨F, O, M, ss, Q3, w, sl, q, k⟩
  exact ⟨F, O, M, [], Q3, w, .nil, q, k⟩
end

/-! ### the end -/
/-- the script, as the law gets it -/
theorem law_start {K : PySem.W.Frag} {sp : Sp3} {H : Hp} {a : Addr} {ns : List Int} (hO : Only H) (hS : SqL K H a (ns.map V.int))
    (h : sp [.scr (ns.map T.int)] (fun _ => none) fun t _ => t = .bl true) : liftSp K sp [.ref a] H (fun v _ => v = .bl true) fun _ _ _ => False := by
  refine ⟨H, fun _ => none, fun _ => none, _, _, ⟨fun _ _ e => e, fun _ _ e => (nomatch e), fun _ _ e => (nomatch e)⟩, .cons (.scr hS (Reps.of_ints ns)) .nil, h, ?_⟩
  intro v H' F' M' t x w r e
  subst e
  cases r
  rfl
theorem walkD {l : PySem.W.OpenLaw} {n k : Nat} {q : Program} {loose : List Str} {XP : (Str → Option Value) → Heap → Prop} {YP : World → Heap → Prop} {d : DefRec}
    {K : Params → PySem.W.Frag} {sp : Sp3} {x : Str} (hn : l.most = some n) (hn2 : n ≤ sizeLine) (hdf : d.params.defaults = []) (hr : Room k callerA) (him : importsNone q = true)
    (hY : ∀ (w : World) (h : Heap), YP w h → (K w.params).In h)
    (F : ∀ (w : World) (mg : Str → Option Value) (fa : Addr) (h : Heap), (K w.params).In h → h.Ns mainGlobals mg → XP mg h → mg d.name = some (.ref fa) →
      ∃ fd : FuncData, (∀ (s : Shared) (u : Value), BindsTo s fd ⟨[u], []⟩ [(x, u)]) ∧
        ∀ base : Heap, (K w.params).In base → base.Ns mainGlobals mg → SysAt base → FnD l.prog w (K w.params) mg base k fa fd [x] sp)
    (hsp : ∀ ns : List Int, ns.length ≤ n → sp [.scr (ns.map T.int)] (fun _ => none) fun t _ => t = .bl true) :
    PySem.W.WalkO q loose XP YP l.row.toRowW d [] (fun f vs => PySem.call f vs) :=
  walkG (CX := fun _ => CX0) (sp := fun w => liftSp (K w.params) sp) hn hn2 hdf hr him hY F (fun w H a ns hl hO hS => law_start hO hS (hsp ns hl)) (fun _ _ _ _ _ h => h.elim)
end L3

set_option maxHeartbeats 1000000
/-! L3G: constants of the module, targets, the deck of draws. -/
namespace L3
open PySem PySem.Spec PyProof.Rows L2
/-- a constant of the module: a flat value -/
def GC (mg : Str → Option Value) (x : Str) (v : V) : Prop := ∃ u, mg x = some u ∧ RelV v u
def flatOf : V → T
  | .non => .non | .bl b => .bl b | .int i => .int i | .str x => .str x | v => .raw v
theorem flatOf_rep {K : PySem.W.Frag} {F : Hp} (v : V) : Rep K F v (flatOf v) := by
  cases v <;> first | exact .raw _ | constructor
section
variable {X : Cx} {K : PySem.W.Frag} {a b c e : Expr} {es : List Expr} {te ta tb tc : E3} {pos : Pos}
theorem d_gc {x : Str} {v : V} {pos : Pos} (hg : Gl X x) (h : GC X.mg x v) (hd : (x == ("__debug__" : Str)) = false := by decide) : DE X (.Name x pos) (dC (flatOf v)) := by
  obtain ⟨u, hm, r⟩ := h
  exact d_glob hg hm r (fun F => flatOf_rep v) hd
theorem dg_tp (is : List Nat) {k : Nat} (hc : X.calm = true) (h : PGs X es (gNames is)) (hn : (assignEach es X.env).length = is.length := by rfl) (hst : (assignEach es X.env).findIdx? (·.1) = none := by rfl) : DG X (.Tuple es k pos) (.tp is) :=
  pg_tup hc h hn hst
theorem dt_chain {op op' : CmpOp} {r r' : R2} {R R' : T → T → QE → Mp → Prop} (ho : OpR X (compareOp op) r) (h : OpD X.K r R) (ho' : OpR X (compareOp op') r') (h' : OpD X.K r' R') (ha : DE X a ta) (hb : DE X b tb) (hc : DE X c tc)
    (hm : lastMarks [op, op'] [b, c] = false) : DT X (.Compare a [op, op'] [b, c] pos) (dB (dChain R R' ta tb tc)) := by
  refine pt_weak (pt_chain ho ho' ha hb hc hm) ?_
  intro σ H Q hh
  obtain ⟨F, O, M, ss, Q3, w, sl, q, k⟩ := lift_bool hh
  show tChain r r' (liftE X.K ta) (liftE X.K tb) (liftE X.K tc) σ H _
  refine ⟨F, O, M, ss, _, w, sl, q, ?_⟩
  intro v H1 F1 M1 t x1 w1 r1 q1
  refine ⟨F1, O, M1, ss, _, w1, sl.mono x1, q1, ?_⟩
  intro u H2 F2 M2 t2 x2 w2 r2 q2
  refine h F2 O H2 M2 v u t t2 _ _ w2 (r1.mono x2) r2 q2 ?_
  intro z H3 F3 M3 t3 x3 w3 r3 q3
  split at q3
  · cases r3
    refine ⟨true, rfl, ?_⟩
    rw [if_pos rfl]
    refine ⟨F3, O, M3, ss, _, w3, sl.mono (x1.trans (x2.trans x3)), q3, ?_⟩
    intro z' H4 F4 M4 t4 x4 w4 r4 q4
    exact h' F4 O H4 M4 u z' t2 t4 Q3 _ w4 (r2.mono (x3.trans x4)) r4 q4 (k.mono (x1.trans (x2.trans (x3.trans x4))))
  · cases r3
    refine ⟨false, rfl, ?_⟩
    rw [if_neg Bool.false_ne_true]
    exact k _ H3 F3 M3 _ (x1.trans (x2.trans x3)) w3 (.bl _) q3
  · exact q3.elim
theorem dt_lele (ha : DE X a ta) (hb : DE X b tb) (hc : DE X c tc) (hm : lastMarks [.LtE, .LtE] [b, c] = false := by with_unfolding_all rfl) : DT X (.Compare a [.LtE, .LtE] [b, c] pos) (dB (dChain oLe oLe ta tb tc)) := dt_chain (op_le.or op_le_str) od_ord (op_le.or op_le_str) od_ord ha hb hc hm
theorem dt_ltlt (ha : DE X a ta) (hb : DE X b tb) (hc : DE X c tc) (hm : lastMarks [.Lt, .Lt] [b, c] = false := by with_unfolding_all rfl) : DT X (.Compare a [.Lt, .Lt] [b, c] pos) (dB (dChain oLt oLt ta tb tc)) := dt_chain (op_lt.or op_lt_str) od_ord (op_lt.or op_lt_str) od_ord ha hb hc hm
end

/-! ### the deck of draws -/
def deckD (c : Addr) (t k : Int) : MO := .dct [(.inr "cells", .raw (.ref c)), (.inr "total", .int t), (.inr "draws", .int k)]
/-- a deck at dk with its cells at c, from which at most n draws were made -/
structure DeckAt (dk c : Addr) (M : Mp) (n : Nat) : Prop where
  ne : dk ≠ c
  at_ : ∃ (ns : List Int) (t k : Int), M dk = some (deckD c t k) ∧ M c = some (.lst (ns.map T.int)) ∧ ns.length ≤ 63 ∧ 0 ≤ k ∧ k ≤ n
theorem DeckAt.le {dk c : Addr} {M : Mp} {n m : Nat} (h : DeckAt dk c M n) (l : n ≤ m) : DeckAt dk c M m :=
  ⟨h.ne, let ⟨ns, t, k, a, b, d, e, f⟩ := h.at_; ⟨ns, t, k, a, b, d, e, by omega⟩⟩
/-- nothing but the deck has changed -/
def Fr2 (dk c : Addr) (M M' : Mp) : Prop := ∀ a, a ≠ dk → a ≠ c → M' a = M a
theorem Fr2.refl {dk c : Addr} {M : Mp} : Fr2 dk c M M := fun _ _ _ => rfl
theorem Fr2.trans {dk c : Addr} {M M' M'' : Mp} (a : Fr2 dk c M M') (b : Fr2 dk c M' M'') : Fr2 dk c M M'' := fun x h1 h2 => (b x h1 h2).trans (a x h1 h2)
def spDraw : Sp3 := fun ts M Q => ∃ (dk c : Addr) (n : Nat) (many : Int), ts = [.raw (.ref dk), .int many] ∧ DeckAt dk c M n ∧ n < 2 ^ 60 ∧ 0 < many ∧ many < 2 ^ 60 ∧
  ∀ M' r, DeckAt dk c M' (n + 1) → Fr2 dk c M M' → 0 ≤ r → r < many → Q (.int r) M'
/-- what may be picked from -/
def itemsOf : T → List T
  | .lst xs => xs | .scr xs => xs | .tup xs => xs | .str z => signsT z | _ => []
def spPick : Sp3 := fun ts M Q => ∃ (dk c : Addr) (n : Nat) (x : T), ts = [.raw (.ref dk), x] ∧ DeckAt dk c M n ∧ n < 2 ^ 60 ∧ 0 < (itemsOf x).length ∧ (itemsOf x).length ≤ sizeLine ∧
  ∀ M' t, DeckAt dk c M' (n + 1) → Fr2 dk c M M' → t ∈ itemsOf x → Q t M'
/-- a new deck -/
def spDeck : Sp3 := fun ts M Q => ∃ ns : List Int, ts = [.scr (ns.map T.int)] ∧ ns.length ≤ 63 ∧ ∀ dk c M', M dk = none → M c = none → DeckAt dk c M' 0 → Fr2 dk c M M' → Q (.raw (.ref dk)) M'
end L3
namespace L3
open PySem PySem.Spec PyProof.Rows L2
theorem st_ct : ¬ (("cells" : Str) = "total") := by decide +kernel
theorem st_cd : ¬ (("cells" : Str) = "draws") := by decide +kernel
theorem st_td : ¬ (("total" : Str) = "draws") := by decide +kernel
theorem st_tc : ¬ (("total" : Str) = "cells") := by decide +kernel
theorem st_dc : ¬ (("draws" : Str) = "cells") := by decide +kernel
theorem st_dt : ¬ (("draws" : Str) = "total") := by decide +kernel
theorem getT_hit {k : Key} {t : T} {r : List (Key × T)} : getT ((k, t) :: r) k = some t := by
  unfold getT
  rw [List.find?_cons_of_pos (by simp)]
  rfl
theorem getT_miss {k j : Key} {t : T} {r : List (Key × T)} (h : ¬ j = k) : getT ((j, t) :: r) k = getT r k := by
  unfold getT
  rw [List.find?_cons_of_neg (by simpa using h)]
theorem inr_ne {a b : Str} (h : ¬ a = b) : ¬ (Sum.inr a : Key) = Sum.inr b := fun e => h (Sum.inr.inj e)
variable {c : Addr} {t k j : Int} {x : T}
def deckL (c : Addr) (t k : Int) : List (Key × T) := [(.inr "cells", .raw (.ref c)), (.inr "total", .int t), (.inr "draws", .int k)]
theorem deckD_eq : deckD c t k = .dct (deckL c t k) := rfl
theorem deck_cells : getT (deckL c t k) (.inr "cells") = some (.raw (.ref c)) := getT_hit
theorem deck_total : getT (deckL c t k) (.inr "total") = some (.int t) := (getT_miss (inr_ne st_ct)).trans getT_hit
theorem deck_draws : getT (deckL c t k) (.inr "draws") = some (.int k) := (getT_miss (inr_ne st_cd)).trans ((getT_miss (inr_ne st_td)).trans getT_hit)
theorem deck_put : putT (deckL c t k) (.inr "draws") (.int j) = deckL c t j := by
  unfold putT deckL
  simp [st_cd, st_td]
theorem deck_len : (deckL c t k).length = 3 := rfl
theorem deck_mk : mergeT [] [(.inr "cells", .raw (.ref c)), (.inr "total", .int t), (.inr "draws", .int k)] = deckL c t k := by
  unfold mergeT deckL putT
  simp [st_ct, st_cd, st_td]
end L3
namespace L3
open PySem PySem.Spec PyProof.Rows L2
theorem pys_ints : ∀ ns : List Int, T.pys (ns.map T.int) = some (ns.map PyData.int)
  | [] => by rw [List.map_nil, List.map_nil, T.pys]
  | n :: ns => by rw [List.map_cons, List.map_cons, T.pys, T.py, pys_ints ns]
theorem py_ints (ns : List Int) : (T.lst (ns.map T.int)).py = some (.list (ns.map PyData.int)) := by rw [T.py, pys_ints]; rfl
theorem py_nil : (T.lst []).py = some (.list []) := by rw [T.py, T.pys]; rfl
theorem lay_ints : ∀ ns : List Int, PyData.canLayAll0 (ns.map PyData.int) = true
  | [] => by rw [List.map_nil, PyData.canLayAll0]
  | n :: ns => by rw [List.map_cons, PyData.canLayAll0, PyData.canLay0, lay_ints ns]; rfl
theorem dep_ints : ∀ ns : List Int, PyData.depthAll (ns.map PyData.int) = 0
  | [] => by rw [List.map_nil, PyData.depthAll]
  | n :: ns => by rw [List.map_cons, PyData.depthAll, PyData.depth, dep_ints ns]; rfl
theorem shaped_ints (ns : List Int) : SeqAt.shaped (.list (ns.map PyData.int)) = true := by
  unfold SeqAt.shaped
  rw [PyData.canLay0, lay_ints, PyData.depth, dep_ints]
  rfl
theorem shaped_nil : SeqAt.shaped (.list []) = true := shaped_ints []
theorem eqv_nil (ns : List Int) : PyData.eqv (.list (ns.map PyData.int)) (.list []) = decide (ns = []) := by
  cases ns with
  | nil => rw [List.map_nil, PyData.eqv, PyData.eqvAll]; rfl
  | cons n r => rw [List.map_cons, PyData.eqv, PyData.eqvAll]; rfl
theorem last_get (l : List Int) (x : Int) : ((l ++ [x]).map T.int)[((l ++ [x]).map T.int).length - 1]? = some (.int x) := by
  rw [List.map_append, List.length_append]
  simp
theorem last_drop (l : List Int) (x : Int) : ((l ++ [x]).map T.int).dropLast = l.map T.int := by
  rw [List.map_append]
  simp
theorem small_mul {i j : Int} (h : j.natAbs < 2 ^ 64) : IntMulOk i j := .of_right (intBits_le_64 (by omega) (by omega))
theorem small_mulL {i j : Int} (h : i.natAbs < 2 ^ 64) : IntMulOk i j := .of_left (intBits_le_64 (by omega) (by omega))
theorem small_div {i j : Int} (h : 0 < j) (h2 : j < 2 ^ 60) : CDivW i j := wide_div (b := 60) h (by omega) (by decide) (by decide)
theorem sz {n : Nat} (h : n ≤ 100000) : n ≤ sizeLine := Nat.le_trans h (by decide)
theorem sz' {n : Nat} (h : n ≤ 100000) : n < sizeLine := Nat.lt_of_le_of_lt h (by decide)
end L3
namespace L3
open PySem PySem.Spec PyProof.Rows L2
/-! ### slices -/
section
variable {α : Type} {xs : List α}
theorem cut_to (k : Nat) : cutT xs none (some (k : Int)) = xs.take k := by
  unfold cutT
  rw [HT.sIx_none, show HT.sIx xs.length xs.length (some (k : Int)) = min k xs.length from HT.sIx_nat xs.length xs.length k, List.drop_zero, Nat.sub_zero]
  by_cases h : k ≤ xs.length
  · rw [Nat.min_eq_left h]
  · rw [Nat.min_eq_right (by omega), List.take_length, List.take_of_length_le (by omega)]
theorem cut_from (k : Nat) : cutT xs (some (k : Int)) none = xs.drop k := by
  unfold cutT
  rw [HT.sIx_none, show HT.sIx xs.length 0 (some (k : Int)) = min k xs.length from HT.sIx_nat xs.length 0 k]
  by_cases h : k ≤ xs.length
  · rw [Nat.min_eq_left h, List.take_of_length_le (by rw [List.length_drop]; omega)]
  · rw [Nat.min_eq_right (by omega), Nat.sub_self, List.take_zero, List.drop_of_length_le (by omega)]
theorem cut_map {β : Type} (f : α → β) (lo hi : Option Int) : cutT (xs.map f) lo hi = (cutT xs lo hi).map f := by
  unfold cutT
  rw [List.length_map, List.map_take, List.map_drop]
end
theorem atI_ok {α : Type} {xs : List α} {i : Int} (h0 : 0 ≤ i) (h1 : i < xs.length) : ∃ t, atI xs i = some t ∧ t ∈ xs := by
  have hi : i.toNat < xs.length := by omega
  refine ⟨xs[i.toNat], ?_, List.getElem_mem hi⟩
  unfold atI ixN
  rw [if_pos h0, if_pos h1, Option.bind_some, List.getElem?_eq_getElem hi]
theorem signs_len (z : Str) : (signsT z).length = z.length := by
  unfold signsT
  rw [List.length_map, Array.length_toList]
  rfl
theorem atI_signs {z : Str} {i : Int} (h0 : 0 ≤ i) (h1 : i < (z.length : Int)) : ∃ c, atI z.cps.toList i = some c ∧ T.str ⟨#[c]⟩ ∈ signsT z := by
  obtain ⟨c, e, m⟩ := atI_ok (xs := z.cps.toList) h0 (by rw [Array.length_toList]; exact h1)
  exact ⟨c, e, List.mem_map.mpr ⟨c, m, rfl⟩⟩
end L3

set_option maxHeartbeats 1000000
/-! L3H: how long a text repr makes; the order of tuples. -/
namespace L3
open PySem PySem.Spec PyProof.Rows L2

/-- t is shown within n signsT, at most k deep -/
def Fine (t : T) (n k : Nat) : Prop := ∃ d, t.py = some d ∧ d.showable = true ∧ d.shown.length ≤ n ∧ d.depth ≤ k
theorem Fine.mono {t : T} {n k n' k' : Nat} (h : Fine t n k) (a : n ≤ n') (b : k ≤ k') : Fine t n' k' :=
  let ⟨d, e, s, l, p⟩ := h; ⟨d, e, s, by omega, by omega⟩
theorem Fine.shows {t : T} {n k : Nat} (h : Fine t n k) (a : n ≤ 16000000) (b : k ≤ 60) : ∃ d, t.py = some d ∧ Shows d :=
  let ⟨d, e, s, l, p⟩ := h; ⟨d, e, s, by omega, by rw [sizeLine_eq]; omega⟩
theorem fine_non : Fine .non 4 0 := ⟨.none, rfl, rfl, by decide +kernel, Nat.le_refl _⟩
theorem fine_bl (b : Bool) : Fine (.bl b) 5 0 := ⟨.bool b, rfl, rfl, by cases b <;> decide +kernel, Nat.le_refl _⟩
theorem fine_int {i : Int} (h : i.natAbs < 10 ^ 60) : Fine (.int i) 61 0 := by
  refine ⟨.int i, rfl, ?_, ?_, Nat.le_refl _⟩
  · have : i.natAbs.log2 < 1920 := PySem.Flt.log2_lt_of (by decide) (Nat.lt_of_lt_of_le h (by decide))
    simpa [PyData.showable] using this
  · have e := int_text_length_le10 (k := 60) (by decide) h
    show (Str.ofString (toString i)).length ≤ 61
    rw [PySem.ofString_length]
    exact e
/-- signsT that repr shows in at most ten -/
def Low (z : Str) : Prop := ∀ c ∈ z.cps.toList, c < 0x110000
theorem fine_str {z : Str} (h : Low z) : Fine (.str z) (10 * z.length + 2) 0 := by
  refine ⟨.str z, rfl, rfl, ?_, Nat.le_refl _⟩
  rw [PyData.shown]
  exact PySem.StrLaws.reprText_len z fun c hc => Nat.lt_trans (h c hc) (by decide)
theorem fine_all {n k : Nat} : ∀ {xs : List T}, (∀ x ∈ xs, Fine x n k) → ∃ ds, T.pys xs = some ds ∧ PyData.showableAll ds = true ∧ ((PyData.shownAll ds).map (·.length)).sum ≤ xs.length * n ∧ (PyData.shownAll ds).length = xs.length ∧ PyData.depthAll ds ≤ k
  | [], _ => ⟨[], rfl, rfl, by rw [PyData.shownAll]; exact Nat.zero_le _, by rw [PyData.shownAll]; rfl, by rw [PyData.depthAll]; exact Nat.zero_le _⟩
  | x :: xs, h => by
    obtain ⟨d, e, s, l, p⟩ := h x List.mem_cons_self
    obtain ⟨ds, e', s', l', q', p'⟩ := fine_all fun y hy => h y (List.mem_cons_of_mem _ hy)
    refine ⟨d :: ds, by rw [T.pys, e, e'], by rw [PyData.showableAll, s, s']; rfl, ?_, ?_, ?_⟩
    · rw [PyData.shownAll, List.map_cons, List.sum_cons, List.length_cons, Nat.succ_mul]
      omega
    · rw [PyData.shownAll, List.length_cons, List.length_cons, q']
    · rw [PyData.depthAll]
      omega
theorem fine_tup {n k : Nat} {xs : List T} (h : ∀ x ∈ xs, Fine x n k) : Fine (.tup xs) (xs.length * (n + 2) + 3) (k + 1) := by
  obtain ⟨ds, e, s, l, q, p⟩ := fine_all h
  refine ⟨.tuple ds, by rw [T.py, e]; rfl, by rw [PyData.showable]; exact s, ?_, by rw [PyData.depth]; omega⟩
  rw [PyData.shown]
  have := tupleText_len_le (PyData.shownAll ds)
  rw [q] at this
  rw [Nat.mul_add]
  omega
theorem fine_lst {n k : Nat} {xs : List T} (h : ∀ x ∈ xs, Fine x n k) : Fine (.lst xs) (xs.length * (n + 2) + 3) (k + 1) := by
  obtain ⟨ds, e, s, l, q, p⟩ := fine_all h
  refine ⟨.list ds, by rw [T.py, e]; rfl, by rw [PyData.showable]; exact s, ?_, by rw [PyData.depth]; omega⟩
  rw [PyData.shown]
  have := listText_len_le (PyData.shownAll ds)
  rw [q] at this
  rw [Nat.mul_add]
  omega
theorem fine_dic1 {n k : Nat} {z : Str} {x : T} (hz : Low z) (h : Fine x n k) : Fine (.dic [(.inr z, x)]) (10 * z.length + n + 20) (k + 1) := by
  obtain ⟨d, e, s, l, p⟩ := h
  have ek : T.pyKV [((.inr z : Key), x)] = some [(PyData.str z, d)] := by
    rw [T.pyKV.eq_def]
    dsimp only
    rw [e, T.pyKV.eq_def]
  refine ⟨.dict [(.str z, d)], by rw [T.py, ek]; rfl, ?_, ?_, ?_⟩
  · rw [PyData.showable, PyData.showableKv, s, PyData.showableKv]
    rfl
  · rw [PyData.shown]
    have h1 := dictText_len_le (PyData.shownKv [(PyData.str z, d)])
    have h2 : ((PyData.shownKv [(PyData.str z, d)]).map (·.length)).sum = (PyData.shown (.str z)).length + 2 + d.shown.length := by
      rw [PyData.shownKv, PyData.shownKv, List.map_cons, List.map_nil, List.sum_cons, List.sum_nil]
      have e1 : ∀ a b : Str, (a ++ b).length = a.length + b.length := fun a b => by
        show (a.cps ++ b.cps).size = _
        rw [Array.size_append]
        rfl
      rw [e1, e1]
      rfl
    have h3 : (PyData.shownKv [(PyData.str z, d)]).length = 1 := by rw [PyData.shownKv, PyData.shownKv]; rfl
    have h4 : (PyData.shown (.str z)).length ≤ 10 * z.length + 2 := by
      rw [PyData.shown]
      exact PySem.StrLaws.reprText_len z fun c hc => Nat.lt_trans (hz c hc) (by decide)
    omega
  · rw [PyData.depth, PyData.depthKv, PyData.depthKv, PyData.depth]
    omega
theorem fine_dic0 : Fine (.dic []) 3 1 := by
  refine ⟨.dict [], by rw [T.py, T.pyKV]; rfl, by rw [PyData.showable, PyData.showableKv], ?_, by rw [PyData.depth, PyData.depthKv]; exact Nat.le_refl _⟩
  rw [PyData.shown, PyData.shownKv]
  exact dictText_len_le []
theorem Fine.repr {t : T} {n k : Nat} {Q : QE} {M : Mp} (h : Fine t n k) (a : n ≤ 16000000) (b : k ≤ 60) (hl : look t M = t) (q : ∀ d, t.py = some d → Q (.str d.shown) M) : fRepr [t] Q M := by
  obtain ⟨d, e, s⟩ := h.shows a b
  unfold fRepr
  dsimp only
  rw [hl, e]
  exact ⟨s, q d e⟩

/-! ### the order of tuples -/
def eqT (x y : T) : Option Bool := match x.py, y.py with
  | some d, some e => if SeqAt.shaped d && SeqAt.shaped e then some (PyData.eqv d e) else none
  | _, _ => none
def ltL (f : T → T → Option Bool) : List T → List T → Option Bool
  | [], [] => some false
  | [], _ :: _ => some true
  | _ :: _, [] => some false
  | x :: xs, y :: ys => match eqT x y, ltL f xs ys with
    | some true, some r => some r
    | some false, some _ => f x y
    | _, _ => none
/-- one value ahead of another, tuples at most so deep -/
def ltN : Nat → T → T → Option Bool
  | 0, x, y => (match x, y with
    | .int i, .int j => some (decide (i < j))
    | .str a, .str b => some (ltS a b)
    | _, _ => none)
  | k + 1, x, y => (match x, y with
    | .int i, .int j => some (decide (i < j))
    | .str a, .str b => some (ltS a b)
    | .tup xs, .tup ys => ltL (ltN k) xs ys
    | _, _ => none)
section
variable {X : Cx} {K : PySem.W.Frag} {pins : List (Addr × Obj)} {σ : L2.St} {s : Shared} {F O H : Hp} {M : Mp}
theorem eqT_at (I : Inv X pins σ H s) (w : Wd X.K F O H M) (hy : SysAt X.base) {A : Around} (hu : A.units + 64 < cLine) {x y : V} {t u : T} {v z : Value} {b : Bool} (rx : Rep X.K F x t) (ry : Rep X.K F y u) (vx : RelV x v) (vy : RelV y z) (h : eqT t u = some b) :
    SeqAt.EqAt A s v z b := by
  unfold eqT at h
  split at h
  · rename_i d e e1 e2
    split at h
    · rename_i hs
      cases h
      rw [Bool.and_eq_true] at hs
      obtain ⟨as, r1, _⟩ := Rep.reads I w hy rx e1 vx
      obtain ⟨bs, r2, _⟩ := Rep.reads I w hy ry e2 vy
      exact SeqAt.eqAt_reads d e A s v z as bs r1 r2 (SeqAt.canLay_of_shaped hs.1) (SeqAt.canLay_of_shaped hs.2) (SeqAt.room_of_shaped hs.1 hu)
    · cases h
  · cases h
/-- what the items say of two lists of trees -/
theorem ltL_eq {f : T → T → Option Bool} : ∀ {xs ys : List T} {b : Bool}, ltL f xs ys = some b → ∃ e r : Nat → Bool, (∀ j x y, xs[j]? = some x → ys[j]? = some y → eqT x y = some (e j) ∧ (e j = false → f x y = some (r j))) ∧
    ∀ i0, Ob.lexAt (fun j => e (j - i0)) (fun j => r (j - i0)) (decide (xs.length < ys.length)) i0 (min xs.length ys.length) = b
  | [], [], b, h => by
    rw [ltL] at h
    cases h
    exact ⟨fun _ => true, fun _ => true, fun j x y h => (nomatch h), fun _ => rfl⟩
  | [], _ :: _, b, h => by
    rw [ltL] at h
    cases h
    exact ⟨fun _ => true, fun _ => true, fun j x y h => (nomatch h), fun _ => by rw [List.length_nil, Nat.zero_min]; rfl⟩
  | _ :: _, [], b, h => by
    rw [ltL] at h
    cases h
    exact ⟨fun _ => true, fun _ => true, fun j x y _ h => (nomatch h), fun _ => by rw [List.length_nil, Nat.min_zero]; rfl⟩
  | x :: xs, y :: ys, b, h => by
    rw [ltL] at h
    have hm : min (x :: xs).length (y :: ys).length = min xs.length ys.length + 1 := by
      rw [List.length_cons, List.length_cons]
      omega
    have hd : decide ((x :: xs).length < (y :: ys).length) = decide (xs.length < ys.length) := by
      rw [List.length_cons, List.length_cons]
      simp
    split at h
    · rename_i r0 e0 e1
      cases h
      obtain ⟨e, r, h1, h2⟩ := ltL_eq e1
      refine ⟨fun j => match j with | 0 => true | j + 1 => e j, fun j => match j with | 0 => true | j + 1 => r j, ?_, fun i0 => ?_⟩
      · intro j a c ha hc
        cases j with
        | zero =>
          cases ha; cases hc
          exact ⟨e0, fun z => (nomatch z)⟩
        | succ j => exact h1 j a c ha hc
      · rw [hm, hd, Ob.lexAt_succ, Nat.sub_self, if_pos rfl, ← h2 (i0 + 1)]
        have aux : ∀ (k i : Nat), i0 + 1 ≤ i → Ob.lexAt (fun j => match j - i0 with | 0 => true | j + 1 => e j) (fun j => match j - i0 with | 0 => true | j + 1 => r j) (decide (xs.length < ys.length)) i k = Ob.lexAt (fun j => e (j - (i0 + 1))) (fun j => r (j - (i0 + 1))) (decide (xs.length < ys.length)) i k := by
          intro k
          induction k with
          | zero => intro i _; rfl
          | succ k ih =>
            intro i hi
            have e1 : i - i0 = (i - (i0 + 1)) + 1 := by omega
            rw [Ob.lexAt_succ, Ob.lexAt_succ, ih (i + 1) (by omega), e1]
        exact aux _ _ (Nat.le_refl _)
    · rename_i r0 e0 e1
      obtain ⟨e, r, h1, h2⟩ := ltL_eq e1
      refine ⟨fun j => match j with | 0 => false | j + 1 => e j, fun j => match j with | 0 => b | j + 1 => r j, ?_, fun i0 => ?_⟩
      · intro j a c ha hc
        cases j with
        | zero =>
          cases ha; cases hc
          exact ⟨e0, fun _ => h⟩
        | succ j => exact h1 j a c ha hc
      · rw [hm, Ob.lexAt_succ, Nat.sub_self, if_neg Bool.false_ne_true]
    · cases h
theorem ltN_ok (I : Inv X pins σ H s) (w : Wd X.K F O H M) (hy : SysAt X.base) : ∀ (n : Nat) {t u : T} {b : Bool} {A : Around} {x y : V} {v z : Value}, A.units + 64 + n < cLine → Rep X.K F x t → Rep X.K F y u → RelV x v → RelV y z → ltN n t u = some b → Ob.RcOp .Lt A s v z b := by
  have flat : ∀ {t u : T} {b : Bool} {A : Around} {x y : V} {v z : Value}, Rep X.K F x t → Rep X.K F y u → RelV x v → RelV y z → (match t, u with
    | .int i, .int j => some (decide (i < j))
    | .str a, .str b => some (ltS a b)
    | _, _ => none) = some b → Ob.RcOp .Lt A s v z b := by
    intro t u b A x y v z rx ry vx vy h
    split at h
    · cases h
      cases rx; cases ry
      obtain ⟨_, rfl⟩ := vx
      obtain ⟨_, rfl⟩ := vy
      exact Ob.RcOp.lt_int _ _ _ _
    · cases h
      cases rx; cases ry
      obtain ⟨_, rfl⟩ := vx
      obtain ⟨_, rfl⟩ := vy
      exact fun _ _ _ _ q => PyProof.Rows.lt_str q
    · cases h
  intro n
  induction n with
  | zero =>
    intro t u b A x y v z hu rx ry vx vy h
    exact flat rx ry vx vy h
  | succ n ih =>
    intro t u b A x y v z hu rx ry vx vy h
    rw [ltN.eq_def] at h
    dsimp only at h
    split at h
    · exact flat (t := .int _) (u := .int _) rx ry vx vy h
    · exact flat (t := .str _) (u := .str _) rx ry vx vy h
    · rename_i xs ys
      cases rx with
      | tup h1 r1 =>
      cases ry with
      | tup h2 r2 =>
      cases vx; cases vy
      obtain ⟨its, q1, p1, _⟩ := I.tuple (w.ex.sqT h1)
      obtain ⟨its2, q2, p2, _⟩ := I.tuple (w.ex.sqT h2)
      obtain ⟨e, r, k1, k2⟩ := ltL_eq h
      have l1 : its.toArray.size = xs.length := by rw [List.size_toArray, ← q1.length, r1.length]
      have l2 : its2.toArray.size = ys.length := by rw [List.size_toArray, ← q2.length, r2.length]
      have at_ : ∀ {its : List Value} {us : List V} {xs : List T}, Vals us its → Reps X.K F us xs → ∀ j, (h1 : j < its.toArray.size) → ∃ t v, xs[j]? = some t ∧ Rep X.K F v t ∧ RelV v its.toArray[j] := fun {its us xs} q1 r1 j hj => by
        have hj' : j < xs.length := by
          rw [List.size_toArray, ← q1.length, r1.length] at hj
          exact hj
        obtain ⟨v, e1, rv⟩ := r1.get (List.getElem?_eq_getElem hj')
        obtain ⟨u, e2, ru⟩ := q1.get e1
        refine ⟨_, v, List.getElem?_eq_getElem hj', rv, ?_⟩
        have e3 : its.toArray[j] = u := by
          obtain ⟨_, e4⟩ := List.getElem?_eq_some_iff.mp e2
          simpa using e4
        rw [e3]
        exact ru
      have R := Ob.RcOp.tuples_lt (A := A) (e := e) (r := r) p1 p2 (by omega) (fun j j1 j2 => by
        obtain ⟨t, v, e1, r1, v1⟩ := at_ q1 r1 j j1
        obtain ⟨u, z, e2, r2, v2⟩ := at_ q2 r2 j j2
        exact eqT_at I w hy (A := A.in1) (by show A.units + 1 + 64 < cLine; omega) r1 r2 v1 v2 (k1 j t u e1 e2).1) (fun j j1 j2 ej => by
        obtain ⟨t, v, e1, r1, v1⟩ := at_ q1 r1 j j1
        obtain ⟨u, z, e2, r2, v2⟩ := at_ q2 r2 j j2
        exact ih (A := A.in1) (by show A.units + 1 + 64 + n < cLine; omega) r1 r2 v1 v2 ((k1 j t u e1 e2).2 ej))
      rw [l1, l2] at R
      have k3 := k2 0
      simp only [Nat.sub_zero] at k3
      rw [k3] at R
      exact R
    · cases h
end
section
variable {X : Cx} {a b : Expr} {ta tb : E3} {pos : Pos}
def oLtT (n : Nat) (x y : T) (Q : QE) (M : Mp) : Prop := match ltN n x y with
  | some b => Q (.bl b) M
  | none => False
def rLtN (X : Cx) (n : Nat) : R2 := fun x y H Q => ∃ F O M t u b, Wd X.K F O H M ∧ Rep X.K F x t ∧ Rep X.K F y u ∧ ltN n t u = some b ∧ Q (.bl b) H
theorem op_ltN (hy : SysAt X.base) {n : Nat} (hu : X.A.units + 64 + n < cLine) : OpR X (compareOp .Lt) (rLtN X n) := by
  intro pins s σ H x y v u Q I rx ry h
  obtain ⟨F, O, M, t, t', b, w, r1, r2, e, q⟩ := h
  have R := ltN_ok I w hy n hu r1 r2 rx ry e
  have z : wpAny (model X.prog X.w) X.A (compareOp .Lt v u) (EP X pins σ Q) X.xe s := R X.prog X.w X.xe (EP X pins σ Q) ⟨.bl _, H, I, rfl, q⟩
  exact z
theorem d_ltT (hu : X.A.units + 84 < cLine) (hy : SysAt X.base) (ha : DE X a ta) (hb : DE X b tb) : DE X (.Compare a [.Lt] [b] pos) (dOp2 (oLtT 20) ta tb) :=
  d_cmp (op_ltN hy hu) (by
    intro F O H M x y t u Q3 Q w rx ry q k
    unfold oLtT at q
    split at q
    · rename_i b e
      exact ⟨F, O, M, t, u, b, w, rx, ry, e, fin_flat w k (.bl _) q⟩
    · exact q.elim) ha hb (nomark _)
end
end L3

set_option maxHeartbeats 1000000
/-! L3I: comprehensions by what their element gives; data. -/
namespace L3
open PySem PySem.Spec PyProof.Rows L2
theorem hu84 {A : Around} {k : Nat} (hr : Room k A) : A.units + 84 < cLine := by
  have := hr.un
  omega
/-- not a bare reference -/
def Dat (t : T) : Prop := (tyT t).isSome = true
theorem look_dat {t : T} {M : Mp} (h : Dat t) : look t M = t := by
  cases t <;> first | rfl | cases h
section
variable {ok : Mp → Prop} {P : Pat} {tt : T3} {te : E3} {vs : List Nat} {ss0 : SS} {Q : List T → Mp → Prop}
/-- elements that change nothing -/
theorem compL_map {f : T → T} {keep : T → Bool} {M : Mp} (hok : ok M) : ∀ {xs acc : List T}, (∀ t ∈ xs, ∃ ss2, P.set t (wipe3 ss0 vs) = some ss2 ∧ (∀ R : Bool → Mp → Prop, R (keep t) M → tt ss2 M R) ∧ (keep t = true → ∀ R : QE, R (f t) M → te ss2 M R)) →
    acc.length + xs.length ≤ sizeLine → Q (acc ++ (xs.filter keep).map f) M → compL ok P tt te vs ss0 Q xs acc M
  | [], acc, _, _, q => ⟨hok, by simpa using q⟩
  | t :: xs, acc, h, hz, q => by
    obtain ⟨ss2, e, h1, h2⟩ := h t List.mem_cons_self
    refine ⟨hok, ?_⟩
    rw [e]
    refine h1 _ ?_
    rw [List.length_cons] at hz
    cases hk : keep t with
    | true =>
      refine h2 hk _ ⟨by omega, compL_map hok (fun u hu => h u (List.mem_cons_of_mem _ hu)) (by rw [List.length_append, List.length_singleton]; omega) ?_⟩
      rw [List.filter_cons_of_pos hk, List.map_cons] at q
      rw [List.append_assoc]
      exact q
    | false =>
      refine compL_map hok (fun u hu => h u (List.mem_cons_of_mem _ hu)) (by omega) ?_
      rw [List.filter_cons_of_neg (by rw [hk]; decide)] at q
      exact q
/-- elements that keep an invariant and are as Pd says -/
theorem compL_inv (Iv : Nat → Mp → Prop) (Pd : T → Prop) (hok : ∀ i M, Iv i M → ok M) : ∀ {xs acc : List T} {M : Mp} (i : Nat), Iv i M →
    (∀ j t M, xs[j]? = some t → Iv (i + j) M → ∃ ss2, P.set t (wipe3 ss0 vs) = some ss2 ∧ ∀ R : QE, (∀ y M4, Pd y → Iv (i + j + 1) M4 → R y M4) → te ss2 M R) →
    acc.length + xs.length ≤ sizeLine → (∀ ys M', ys.length = xs.length → (∀ y ∈ ys, Pd y) → Iv (i + xs.length) M' → Q (acc ++ ys) M') → compL ok P dYes te vs ss0 Q xs acc M
  | [], acc, M, i, h0, _, _, q => ⟨hok i M h0, by simpa using q [] M rfl (fun _ h => (nomatch h)) h0⟩
  | t :: xs, acc, M, i, h0, h, hz, q => by
    obtain ⟨ss2, e, h1⟩ := h 0 t M rfl h0
    refine ⟨hok i M h0, ?_⟩
    rw [e]
    show te ss2 M _
    rw [List.length_cons] at hz
    refine h1 _ fun y M4 hy h4 => ⟨by omega, compL_inv Iv Pd hok (i + 1) h4 (fun j u M5 hu h5 => ?_) (by rw [List.length_append, List.length_singleton]; omega) fun ys M' hl hp hI => ?_⟩
    · have h6 := h (j + 1) u M5 hu (by rw [show i + (j + 1) = i + 1 + j by omega]; exact h5)
      rw [show i + (j + 1) + 1 = i + 1 + j + 1 by omega] at h6
      exact h6
    · rw [List.append_assoc]
      refine q (y :: ys) M' (by rw [List.length_cons, List.length_cons, hl]) (fun z hz => ?_) (by rw [List.length_cons, show i + (xs.length + 1) = i + 1 + xs.length by omega]; exact hI)
      rcases List.mem_cons.mp hz with rfl | hz
      · exact hy
      · exact hp z hz
end
theorem ups_len (lo : Int) (n : Nat) : (ups lo n).length = n := by unfold ups; rw [List.length_map, List.length_range]
theorem bls_map (bs : List Bool) : bls (bs.map T.bl) = some bs := by
  induction bs with
  | nil => rfl
  | cons b r ih => rw [List.map_cons, bls, ih]; rfl
theorem bls_map' {α : Type} (f : α → Bool) (xs : List α) : bls (xs.map fun x => T.bl (f x)) = some (xs.map f) := by
  induction xs with
  | nil => rfl
  | cons x r ih => rw [List.map_cons, bls, ih]; rfl
theorem strsT_map (bs : List Str) : strsT (bs.map T.str) = some bs := by
  induction bs with
  | nil => rfl
  | cons b r ih => rw [List.map_cons, strsT, ih]; rfl
end L3
namespace L3
open PySem PySem.Spec PyProof.Rows L2
theorem kit_NoneType_str : kitB "NoneType" "str" = some false := by decide +kernel
theorem kit_bool_str : kitB "bool" "str" = some false := by decide +kernel
theorem kit_int_str : kitB "int" "str" = some false := by decide +kernel
theorem kit_str_str : kitB "str" "str" = some true := by decide +kernel
theorem kit_tuple_str : kitB "tuple" "str" = some false := by decide +kernel
theorem kit_list_str : kitB "list" "str" = some false := by decide +kernel
theorem kit_dict_str : kitB "dict" "str" = some false := by decide +kernel
theorem kit_NoneType_int : kitB "NoneType" "int" = some false := by decide +kernel
theorem kit_bool_int : kitB "bool" "int" = some true := by decide +kernel
theorem kit_int_int : kitB "int" "int" = some true := by decide +kernel
theorem kit_str_int : kitB "str" "int" = some false := by decide +kernel
theorem kit_tuple_int : kitB "tuple" "int" = some false := by decide +kernel
theorem kit_list_int : kitB "list" "int" = some false := by decide +kernel
theorem kit_dict_int : kitB "dict" "int" = some false := by decide +kernel
theorem kit_NoneType_bool : kitB "NoneType" "bool" = some false := by decide +kernel
theorem kit_bool_bool : kitB "bool" "bool" = some true := by decide +kernel
theorem kit_int_bool : kitB "int" "bool" = some false := by decide +kernel
theorem kit_str_bool : kitB "str" "bool" = some false := by decide +kernel
theorem kit_tuple_bool : kitB "tuple" "bool" = some false := by decide +kernel
theorem kit_list_bool : kitB "list" "bool" = some false := by decide +kernel
theorem kit_dict_bool : kitB "dict" "bool" = some false := by decide +kernel
theorem kit_NoneType_tuple : kitB "NoneType" "tuple" = some false := by decide +kernel
theorem kit_bool_tuple : kitB "bool" "tuple" = some false := by decide +kernel
theorem kit_int_tuple : kitB "int" "tuple" = some false := by decide +kernel
theorem kit_str_tuple : kitB "str" "tuple" = some false := by decide +kernel
theorem kit_tuple_tuple : kitB "tuple" "tuple" = some true := by decide +kernel
theorem kit_list_tuple : kitB "list" "tuple" = some false := by decide +kernel
theorem kit_dict_tuple : kitB "dict" "tuple" = some false := by decide +kernel
theorem kit_NoneType_list : kitB "NoneType" "list" = some false := by decide +kernel
theorem kit_bool_list : kitB "bool" "list" = some false := by decide +kernel
theorem kit_int_list : kitB "int" "list" = some false := by decide +kernel
theorem kit_str_list : kitB "str" "list" = some false := by decide +kernel
theorem kit_tuple_list : kitB "tuple" "list" = some false := by decide +kernel
theorem kit_list_list : kitB "list" "list" = some true := by decide +kernel
theorem kit_dict_list : kitB "dict" "list" = some false := by decide +kernel
theorem kit_NoneType_dict : kitB "NoneType" "dict" = some false := by decide +kernel
theorem kit_bool_dict : kitB "bool" "dict" = some false := by decide +kernel
theorem kit_int_dict : kitB "int" "dict" = some false := by decide +kernel
theorem kit_str_dict : kitB "str" "dict" = some false := by decide +kernel
theorem kit_tuple_dict : kitB "tuple" "dict" = some false := by decide +kernel
theorem kit_list_dict : kitB "list" "dict" = some false := by decide +kernel
theorem kit_dict_dict : kitB "dict" "dict" = some true := by decide +kernel
end L3
namespace L3
theorem filter_tt {α : Type} (xs : List α) : xs.filter (fun _ => true) = xs := List.filter_eq_self.mpr fun _ _ => rfl
end L3
namespace L3
open PySem PySem.Spec PyProof.Rows L2
theorem low_ok {z : Str} (h : Low z) : PyData.strOk z = true := by
  unfold PyData.strOk
  rw [← Array.all_toList, List.all_eq_true]
  exact fun c hc => decide_eq_true (h c hc)
theorem shaped_str {z : Str} (h : Low z) : SeqAt.shaped (.str z) = true := by
  unfold SeqAt.shaped
  rw [PyData.canLay0, low_ok h]
  rfl
theorem shaped_int (i : Int) : SeqAt.shaped (.int i) = true := rfl
theorem hu65 {A : Around} {k : Nat} (hr : Room k A) : A.units + 65 < cLine := by
  have := hr.un
  omega
section
variable {X : Cx} {K : PySem.W.Frag} {a b : Expr} {ta tb : E3} {pos : Pos}
/-- a value among the items of a list, a tuple, whatever they are -/
def rInT (K : PySem.W.Frag) (neg : Bool) : R2 := fun x y H Q => ∃ d ds, Dp K H x d ∧ (Dp K H y (.list ds) ∨ Dp K H y (.tuple ds)) ∧ SeqAt.shaped d = true ∧ SeqAt.shaped (.list ds) = true ∧
  Q (.bl (if neg then !ds.any fun z => PyData.eqv z d else ds.any fun z => PyData.eqv z d)) H
theorem op_inT (hu : X.A.units + 65 < cLine) : OpR X (compareOp .In) (rInT X.K false) := by
  intro pins s σ H x y v u Q I rx ry h
  obtain ⟨d, ds, hd, he, sd, se, q⟩ := h
  obtain ⟨as, r1⟩ := Dp.reads I d x v hd rx
  have room := PyProof.Rows.room_in_shaped (xs := ds) sd hu
  have lay : PyData.canLayAll0 ds = true := by simpa only [PyData.canLay0] using SeqAt.canLay_of_shaped se
  rcases he with he | he
  · obtain ⟨bs, r2⟩ := Dp.reads I (.list ds) y u he ry
    exact SeqAt.in_list_reads r2 r1 lay (SeqAt.canLay_of_shaped sd) room ⟨.bl _, H, I, rfl, q⟩
  · obtain ⟨bs, r2⟩ := Dp.reads I (.tuple ds) y u he ry
    exact SeqAt.in_tuple_reads r2 r1 lay (SeqAt.canLay_of_shaped sd) room ⟨.bl _, H, I, rfl, q⟩
theorem op_ninT (hu : X.A.units + 65 < cLine) : OpR X (compareOp .NotIn) (rInT X.K true) := by
  intro pins s σ H x y v u Q I rx ry h
  obtain ⟨d, ds, hd, he, sd, se, q⟩ := h
  obtain ⟨as, r1⟩ := Dp.reads I d x v hd rx
  have room := PyProof.Rows.room_in_shaped (xs := ds) sd hu
  have lay : PyData.canLayAll0 ds = true := by simpa only [PyData.canLay0] using SeqAt.canLay_of_shaped se
  rcases he with he | he
  · obtain ⟨bs, r2⟩ := Dp.reads I (.list ds) y u he ry
    exact SeqAt.notIn_list_reads r2 r1 lay (SeqAt.canLay_of_shaped sd) room ⟨.bl _, H, I, rfl, q⟩
  · obtain ⟨bs, r2⟩ := Dp.reads I (.tuple ds) y u he ry
    exact SeqAt.notIn_tuple_reads r2 r1 lay (SeqAt.canLay_of_shaped sd) room ⟨.bl _, H, I, rfl, q⟩
def oInD (neg : Bool) (x y : T) (Q : QE) (M : Mp) : Prop := match (look x M).py, (look y M).py with
  | some d, some (.list ds) => SeqAt.shaped d = true ∧ SeqAt.shaped (.list ds) = true ∧ Q (.bl (if neg then !ds.any fun z => PyData.eqv z d else ds.any fun z => PyData.eqv z d)) M
  | some d, some (.tuple ds) => SeqAt.shaped d = true ∧ SeqAt.shaped (.list ds) = true ∧ Q (.bl (if neg then !ds.any fun z => PyData.eqv z d else ds.any fun z => PyData.eqv z d)) M
  | _, _ => False
theorem shaped_tl (ds : List PyData) : SeqAt.shaped (.tuple ds) = SeqAt.shaped (.list ds) := by
  unfold SeqAt.shaped
  rw [PyData.canLay0, PyData.canLay0, PyData.depth, PyData.depth]
theorem od_inD {neg : Bool} : OpD K (rInT K neg) (oInD neg) := by
  intro F O H M x y t u Q3 Q w rx ry q k
  unfold oInD at q
  split at q
  · rename_i d ds e1 e2
    exact ⟨d, ds, (rx.sees w).dp w e1 (SeqAt.canLay_of_shaped q.1), .inl ((ry.sees w).dp w e2 (SeqAt.canLay_of_shaped q.2.1)), q.1, q.2.1, fin_flat w k (.bl _) q.2.2⟩
  · rename_i d ds e1 e2
    exact ⟨d, ds, (rx.sees w).dp w e1 (SeqAt.canLay_of_shaped q.1), .inr ((ry.sees w).dp w e2 (SeqAt.canLay_of_shaped (by rw [shaped_tl]; exact q.2.1))), q.1, q.2.1, fin_flat w k (.bl _) q.2.2⟩
  · exact q.elim
theorem d_inD (hu : X.A.units + 65 < cLine) (ha : DE X a ta) (hb : DE X b tb) (hm : behindInMarks .In b = false) : DE X (.Compare a [.In] [b] pos) (dOp2 (oInD false) ta tb) := d_cmp (op_inT hu) od_inD ha hb hm
theorem d_ninD (hu : X.A.units + 65 < cLine) (ha : DE X a ta) (hb : DE X b tb) (hm : behindInMarks .NotIn b = false) : DE X (.Compare a [.NotIn] [b] pos) (dOp2 (oInD true) ta tb) := d_cmp (op_ninT hu) od_inD ha hb hm
theorem dt_inD (hu : X.A.units + 65 < cLine) (ha : DE X a ta) (hb : DE X b tb) (hm : behindInMarks .In b = false) : DT X (.Compare a [.In] [b] pos) (dB (dOp2 (oInD false) ta tb)) := dt_cmp (op_inT hu) od_inD ha hb hm
theorem dt_ninD (hu : X.A.units + 65 < cLine) (ha : DE X a ta) (hb : DE X b tb) (hm : behindInMarks .NotIn b = false) : DT X (.Compare a [.NotIn] [b] pos) (dB (dOp2 (oInD true) ta tb)) := dt_cmp (op_ninT hu) od_inD ha hb hm
end
end L3
namespace L3
open PySem PySem.Spec PyProof.Rows L2
theorem sz_1 : (1 ≤ sizeLine) = True := eq_true (by decide)
theorem sz_2 : (2 ≤ sizeLine) = True := eq_true (by decide)
theorem sz_3 : (3 ≤ sizeLine) = True := eq_true (by decide)
theorem sz_4 : (4 ≤ sizeLine) = True := eq_true (by decide)
theorem sz_5 : (5 ≤ sizeLine) = True := eq_true (by decide)
theorem sz_6 : (6 ≤ sizeLine) = True := eq_true (by decide)
theorem sz_7 : (7 ≤ sizeLine) = True := eq_true (by decide)
theorem sz_8 : (8 ≤ sizeLine) = True := eq_true (by decide)
theorem sz_9 : (9 ≤ sizeLine) = True := eq_true (by decide)
theorem sz_10 : (10 ≤ sizeLine) = True := eq_true (by decide)
theorem sz_11 : (11 ≤ sizeLine) = True := eq_true (by decide)
theorem sz_12 : (12 ≤ sizeLine) = True := eq_true (by decide)
theorem sz_13 : (13 ≤ sizeLine) = True := eq_true (by decide)
theorem sz_14 : (14 ≤ sizeLine) = True := eq_true (by decide)
theorem sz_15 : (15 ≤ sizeLine) = True := eq_true (by decide)
theorem sz_16 : (16 ≤ sizeLine) = True := eq_true (by decide)
theorem sz_17 : (17 ≤ sizeLine) = True := eq_true (by decide)
theorem sz_18 : (18 ≤ sizeLine) = True := eq_true (by decide)
theorem sz_19 : (19 ≤ sizeLine) = True := eq_true (by decide)
theorem sz_20 : (20 ≤ sizeLine) = True := eq_true (by decide)
theorem sz_21 : (21 ≤ sizeLine) = True := eq_true (by decide)
theorem sz_22 : (22 ≤ sizeLine) = True := eq_true (by decide)
theorem sz_23 : (23 ≤ sizeLine) = True := eq_true (by decide)
theorem sz_24 : (24 ≤ sizeLine) = True := eq_true (by decide)
theorem sz_25 : (25 ≤ sizeLine) = True := eq_true (by decide)
theorem sz_26 : (26 ≤ sizeLine) = True := eq_true (by decide)
theorem sz_27 : (27 ≤ sizeLine) = True := eq_true (by decide)
theorem sz_28 : (28 ≤ sizeLine) = True := eq_true (by decide)
theorem sz_29 : (29 ≤ sizeLine) = True := eq_true (by decide)
theorem sz_30 : (30 ≤ sizeLine) = True := eq_true (by decide)
theorem sz_31 : (31 ≤ sizeLine) = True := eq_true (by decide)
theorem sz_32 : (32 ≤ sizeLine) = True := eq_true (by decide)
theorem sz_33 : (33 ≤ sizeLine) = True := eq_true (by decide)
theorem sz_34 : (34 ≤ sizeLine) = True := eq_true (by decide)
theorem sz_35 : (35 ≤ sizeLine) = True := eq_true (by decide)
theorem sz_36 : (36 ≤ sizeLine) = True := eq_true (by decide)
theorem sz_37 : (37 ≤ sizeLine) = True := eq_true (by decide)
theorem sz_38 : (38 ≤ sizeLine) = True := eq_true (by decide)
theorem sz_39 : (39 ≤ sizeLine) = True := eq_true (by decide)
theorem sz_40 : (40 ≤ sizeLine) = True := eq_true (by decide)
theorem sz_41 : (41 ≤ sizeLine) = True := eq_true (by decide)
theorem sz_42 : (42 ≤ sizeLine) = True := eq_true (by decide)
theorem sz_43 : (43 ≤ sizeLine) = True := eq_true (by decide)
theorem sz_44 : (44 ≤ sizeLine) = True := eq_true (by decide)
theorem sz_45 : (45 ≤ sizeLine) = True := eq_true (by decide)
theorem sz_46 : (46 ≤ sizeLine) = True := eq_true (by decide)
theorem sz_47 : (47 ≤ sizeLine) = True := eq_true (by decide)
theorem sz_0 : (0 ≤ sizeLine) = True := eq_true (Nat.zero_le _)
section
variable {α : Type} {a b c d e : α} {r : List α}
theorem atI_c0 : atI (a :: r) 0 = some a := by
  unfold atI ixN
  rw [if_pos (by decide), if_pos (by rw [List.length_cons]; omega)]
  rfl
theorem atI_c1 : atI (a :: b :: r) 1 = some b := by
  unfold atI ixN
  rw [if_pos (by decide), if_pos (by rw [List.length_cons, List.length_cons]; omega)]
  rfl
theorem atI_c2 : atI (a :: b :: c :: r) 2 = some c := by
  unfold atI ixN
  rw [if_pos (by decide), if_pos (by rw [List.length_cons, List.length_cons, List.length_cons]; omega)]
  rfl
theorem atI_c3 : atI (a :: b :: c :: d :: r) 3 = some d := by
  unfold atI ixN
  rw [if_pos (by decide), if_pos (by rw [List.length_cons, List.length_cons, List.length_cons, List.length_cons]; omega)]
  rfl
theorem atI_c4 : atI (a :: b :: c :: d :: e :: r) 4 = some e := by
  unfold atI ixN
  rw [if_pos (by decide), if_pos (by rw [List.length_cons, List.length_cons, List.length_cons, List.length_cons, List.length_cons]; omega)]
  rfl
end
end L3

set_option maxHeartbeats 1000000
/-! L3J: drawing and picking, texts of low signs. -/
namespace L3
open PySem PySem.Spec PyProof.Rows L2
theorem draw_of {dk c : Addr} {n : Nat} {m : Int} {M : Mp} {Q : QE} (hD : DeckAt dk c M n) (hn : n < 2 ^ 59) (h0 : 0 < m) (h1 : m < 2 ^ 60) (k : ∀ M' r, DeckAt dk c M' (n + 1) → 0 ≤ r → r < m → Q (.int r) M') :
    spDraw [.raw (.ref dk), .int m] M Q := ⟨dk, c, n, m, rfl, hD, by omega, h0, h1, fun M' r d _ a b => k M' r d a b⟩
theorem pick_of {dk c : Addr} {n : Nat} {x : T} {M : Mp} {Q : QE} (hD : DeckAt dk c M n) (hn : n < 2 ^ 59) (h0 : 0 < (itemsOf x).length) (h1 : (itemsOf x).length ≤ 100000) (k : ∀ M' t, DeckAt dk c M' (n + 1) → t ∈ itemsOf x → Q t M') :
    spPick [.raw (.ref dk), x] M Q := ⟨dk, c, n, x, rfl, hD, by omega, h0, sz h1, fun M' t d _ a => k M' t d a⟩
/-- no call at all -/
def spNo : Sp3 := fun _ _ _ => False
theorem fnd_no {P : Program} {w : World} {K : PySem.W.Frag} {mg : Str → Option Value} {base : Heap} {k : Nat} {f : Addr} {fd : FuncData} {ps : List Str} : FnD P w K mg base k f fd ps spNo :=
  ⟨fun _ _ _ _ ⟨_, _, _, _, _, _, _, h, _⟩ => h.elim, fun _ _ _ _ _ _ _ _ _ _ _ _ _ _ ⟨_, _, _, _, _, _, _, h, _⟩ => h.elim⟩
theorem str_len (z : Str) : z.cps.toList.length = z.length := Array.length_toList
theorem app_cps (a b : Str) : (a ++ b).cps.toList = a.cps.toList ++ b.cps.toList := by
  show (a.cps ++ b.cps).toList = _
  rw [Array.toList_append]
theorem app_len (a b : Str) : (a ++ b).length = a.length + b.length := Str.length_append a b
theorem low_app {a b : Str} (ha : Low a) (hb : Low b) : Low (a ++ b) := by
  intro c hc
  rw [app_cps] at hc
  rcases List.mem_append.mp hc with h | h
  · exact ha c h
  · exact hb c h
theorem low_cut {a : Str} (ha : Low a) (lo hi : Option Int) : Low (cutS a lo hi) := by
  intro c hc
  unfold cutS at hc
  exact ha c (List.mem_of_mem_drop (List.mem_of_mem_take hc))
theorem low_sign {z : Str} (hz : Low z) {t : T} (h : t ∈ signsT z) : ∃ c : Nat, t = .str ⟨#[c]⟩ ∧ Low ⟨#[c]⟩ := by
  unfold signsT at h
  obtain ⟨c, hc, e⟩ := List.mem_map.mp h
  refine ⟨c, e.symm, fun d hd => ?_⟩
  rw [List.mem_singleton] at hd
  exact hd ▸ hz c hc
theorem low_of {z : Str} (h : (z.cps.toList.all fun c => decide (c < 0x110000)) = true) : Low z := fun c hc => of_decide_eq_true (List.all_eq_true.mp h c hc)
theorem low_empty : Low Str.empty := fun _ h => nomatch h
theorem low_joinE : ∀ {xs : List Str}, (∀ x ∈ xs, Low x) → Low (Str.join "" xs)
  | [], _ => low_empty
  | [x], h => h x List.mem_cons_self
  | x :: y :: r, h => low_app (low_app (h x List.mem_cons_self) low_empty) (low_joinE fun z hz => h z (List.mem_cons_of_mem _ hz))
theorem low_join {xs : List Str} (h : ∀ x ∈ xs, Low x) : Low (Txt.join "" xs) := by
  show Low (Builtin.Str.glued "" xs)
  rw [StrLaws.glued_eq_join]
  exact low_joinE h
theorem join_len (xs : List Str) : (Txt.join "" xs).length ≤ (xs.map (·.length)).sum := by
  show (Builtin.Str.glued "" xs).length ≤ _
  rw [StrLaws.glued_eq_join]
  have h := StrLaws.join_length_le "" xs
  exact Nat.le_trans h (Nat.le_of_eq (by rw [show (("" : Str)).length = 0 from rfl, Nat.mul_zero, Nat.add_zero]))
theorem cut_len (a : Str) (lo hi : Option Int) : (cutS a lo hi).length ≤ a.length := cutS_length a lo hi
theorem cut_len_to (a : Str) (k : Nat) : (cutS a none (some (k : Int))).length ≤ k := by
  rw [← str_len]
  show (cutT a.cps.toList none (some (k : Int))).length ≤ k
  rw [cut_to, List.length_take]
  omega
theorem mul_fold (x : Array Nat) : ∀ (n : Nat) (acc : Array Nat), ((List.replicate n x).foldl (· ++ ·) acc).toList = acc.toList ++ (List.replicate n x.toList).flatten
  | 0, acc => by simp
  | n + 1, acc => by
    rw [List.replicate_succ, List.foldl_cons, mul_fold x n, Array.toList_append, List.replicate_succ, List.flatten_cons, List.append_assoc]
theorem low_mul {z : Str} (hz : Low z) (n : Int) : Low (Txt.mul z n) := by
  unfold Txt.mul
  split
  · exact low_empty
  · split
    · exact hz
    · intro c hc
      show c < _
      have e := mul_fold z.cps n.toNat #[]
      rw [show (Str.mk ((List.replicate n.toNat z.cps).foldl (· ++ ·) #[])).cps.toList = ((List.replicate n.toNat z.cps).foldl (· ++ ·) #[]).toList from rfl, e] at hc
      simp only [List.nil_append, List.mem_flatten, List.mem_replicate] at hc
      obtain ⟨l, ⟨_, rfl⟩, h⟩ := hc
      exact hz c h
theorem mul_len (z : Str) (n : Int) : (Txt.mul z n).length ≤ z.length * n.toNat := by
  unfold Txt.mul
  split
  · exact Nat.zero_le _
  · rename_i h1
    split
    · exact Nat.le_mul_of_pos_right _ (by omega)
    · have e := mul_fold z.cps n.toNat #[]
      rw [← str_len]
      rw [show (Str.mk ((List.replicate n.toNat z.cps).foldl (· ++ ·) #[])).cps.toList = ((List.replicate n.toNat z.cps).foldl (· ++ ·) #[]).toList from rfl, e]
      simp only [List.nil_append, List.length_flatten, List.map_replicate, List.sum_replicate_nat]
      rw [str_len, Nat.mul_comm]
      exact Nat.le_refl _
theorem tooLong_of {n : Nat} (h : n ≤ 100000) : Builtin.Str.tooLong n = false := by
  unfold Builtin.Str.tooLong
  exact decide_eq_false (by have := sz h; omega)
theorem mul_ok {z : Str} {n : Int} (hz : z.length ≤ 10000) (hn : 0 ≤ n) (h : n ≤ 100000) (hm : z.length * n.toNat ≤ 100000) : MulOk z n := by
  refine ⟨?_, ?_, ?_⟩
  · rw [Bool.or_eq_false_iff]
    exact ⟨decide_eq_false (by omega), decide_eq_false (by omega)⟩
  · intro h1 _ h2
    have h3 : (10000000000000 : Int) ≤ (2 ^ 63 - 1) / n := by
      rw [Int.le_ediv_iff_mul_le (by omega)]
      omega
    omega
  · intro _ _
    exact tooLong_of hm
end L3

set_option maxHeartbeats 1000000
/-! L3K: loops by an invariant; the order of triples; reprs of lists of flat values. -/
namespace L3
open PySem PySem.Spec PyProof.Rows L2
theorem forL_inv {ok : Mp → Prop} {P : Pat} {tb : S3} {D : Ends3} (Iv : Nat → SS → Mp → Prop) (hok : ∀ i ss M, Iv i ss M → ok M) : ∀ {xs : List T} {ss : SS} {M : Mp} (i : Nat), Iv i ss M →
    (∀ j t ss M, xs[j]? = some t → Iv (i + j) ss M → ∃ ss2, P.set t ss = some ss2 ∧ ∀ N : SS → Mp → Prop, (∀ ss' M', Iv (i + j + 1) ss' M' → N ss' M') → tb { nx := N, rt := D.rt, bk := D.nx, ct := N } ss2 M) →
    (∀ ss M, Iv (i + xs.length) ss M → D.nx ss M) → forL ok P tb D xs ss M
  | [], ss, M, i, h0, _, q => ⟨hok i ss M h0, q ss M h0⟩
  | t :: xs, ss, M, i, h0, h, q => by
    obtain ⟨ss2, e, h1⟩ := h 0 t ss M rfl h0
    refine ⟨hok i ss M h0, ?_⟩
    rw [e]
    refine h1 _ fun ss' M' h2 => forL_inv Iv hok (i + 1) h2 (fun j u ss3 M3 hu h3 => ?_) fun ss3 M3 h3 => ?_
    · have h6 := h (j + 1) u ss3 M3 hu (by rw [show i + (j + 1) = i + 1 + j by omega]; exact h3)
      rw [show i + (j + 1) + 1 = i + 1 + j + 1 by omega] at h6
      exact h6
    · exact q ss3 M3 (by rw [List.length_cons, show i + (xs.length + 1) = i + 1 + xs.length by omega]; exact h3)
theorem pys_map {α : Type} (f : α → T) (g : α → PyData) (h : ∀ a, (f a).py = some (g a)) : ∀ xs : List α, T.pys (xs.map f) = some (xs.map g)
  | [] => by rw [List.map_nil, List.map_nil, T.pys]
  | n :: ns => by rw [List.map_cons, List.map_cons, T.pys, h, pys_map f g h ns]
theorem lst_py {α : Type} (f : α → T) (g : α → PyData) (h : ∀ a, (f a).py = some (g a)) (xs : List α) : (T.lst (xs.map f)).py = some (.list (xs.map g)) := by rw [T.py, pys_map f g h]; rfl
theorem str_py (z : Str) : (T.str z).py = some (.str z) := rfl
theorem int_py (i : Int) : (T.int i).py = some (.int i) := rfl
theorem bl_py (b : Bool) : (T.bl b).py = some (.bool b) := rfl
theorem eqv_empty (xs : List PyData) : PyData.eqv (.list xs) (.list []) = decide (xs = []) := by
  cases xs with
  | nil => rw [PyData.eqv, PyData.eqvAll]; rfl
  | cons n r => rw [PyData.eqv, PyData.eqvAll]; rfl
theorem shaped_flats {xs : List PyData} (h : ∀ x ∈ xs, PyData.canLay0 x = true ∧ PyData.depth x = 0) : SeqAt.shaped (.list xs) = true := by
  have h1 : PyData.canLayAll0 xs = true ∧ PyData.depthAll xs = 0 := by
    induction xs with
    | nil => exact ⟨by rw [PyData.canLayAll0], by rw [PyData.depthAll]⟩
    | cons x r ih =>
      obtain ⟨a, b⟩ := h x List.mem_cons_self
      obtain ⟨c, d⟩ := ih fun y hy => h y (List.mem_cons_of_mem _ hy)
      exact ⟨by rw [PyData.canLayAll0, a, c]; rfl, by rw [PyData.depthAll, b, d]; rfl⟩
  unfold SeqAt.shaped
  rw [PyData.canLay0, h1.1, PyData.depth, h1.2]
  rfl
theorem shaped_strs {bs : List Str} (h : ∀ b ∈ bs, Low b) : SeqAt.shaped (.list (bs.map PyData.str)) = true := by
  refine shaped_flats fun x hx => ?_
  obtain ⟨b, hb, rfl⟩ := List.mem_map.mp hx
  exact ⟨by rw [PyData.canLay0, low_ok (h b hb)], rfl⟩
/-- [texts] == [] -/
theorem eq_strs_nil {bs : List Str} (h : ∀ b ∈ bs, Low b) {neg : Bool} {Q : QE} {M : Mp} (q : Q (.bl (if neg then !decide (bs = []) else decide (bs = []))) M) : oEqB neg (.lst (bs.map T.str)) (.lst []) Q M := by
  have e : PyData.eqv (.list (bs.map PyData.str)) (.list []) = decide (bs = []) := by
    rw [eqv_empty]
    exact decide_eq_decide.mpr List.map_eq_nil_iff
  unfold oEqB look
  dsimp only [scalT]
  rw [lst_py T.str PyData.str str_py, py_nil]
  refine ⟨shaped_strs h, shaped_nil, ?_⟩
  rw [e]
  exact q
theorem eq_nil_nil {neg : Bool} {Q : QE} {M : Mp} (q : Q (.bl (!neg)) M) : oEqB neg (.lst []) (.lst []) Q M := eq_strs_nil (bs := []) (fun _ h => nomatch h) (by cases neg <;> exact q)
theorem ltS_irr (a : Str) : ltS a a = false := decide_eq_false (List.lt_irrefl _)
theorem eqT_int (i j : Int) : eqT (.int i) (.int j) = some (decide (i = j)) := by
  unfold eqT
  rw [int_py, int_py]
  dsimp only
  rw [if_pos (show (SeqAt.shaped (.int i) && SeqAt.shaped (.int j)) = true from rfl), PyData.eqv]
  rfl
theorem eqT_str {a b : Str} (ha : Low a) (hb : Low b) : eqT (.str a) (.str b) = some (decide (a = b)) := by
  unfold eqT
  rw [str_py, str_py]
  dsimp only
  rw [shaped_str ha, shaped_str hb, if_pos (show (true && true) = true from rfl), PyData.eqv]
  rfl
/-- (int, int, text) ahead of another -/
theorem lt_iis (n : Nat) (a b x y : Int) {c z : Str} (hc : Low c) (hz : Low z) : ltN (n + 2) (.tup [.int a, .int b, .str c]) (.tup [.int x, .int y, .str z]) = some (if a = x then if b = y then ltS c z else decide (b < y) else decide (a < x)) := by
  have e : ltL (ltN (n + 1)) [.int a, .int b, .str c] [.int x, .int y, .str z] = some (if a = x then if b = y then ltS c z else decide (b < y) else decide (a < x)) := by
    rw [ltL, ltL, ltL, ltL, eqT_int, eqT_int, eqT_str hc hz]
    have f1 : ltN (n + 1) (.str c) (.str z) = some (ltS c z) := rfl
    have f2 : ltN (n + 1) (.int b) (.int y) = some (decide (b < y)) := rfl
    have f3 : ltN (n + 1) (.int a) (.int x) = some (decide (a < x)) := rfl
    rw [f1, f2, f3]
    by_cases h1 : a = x <;> by_cases h2 : b = y <;> by_cases h3 : c = z <;> simp [h1, h2, h3, ltS_irr]
  exact e
theorem lt_iisO (a b x y : Int) {c z : Str} (hc : Low c) (hz : Low z) {Q : QE} {M : Mp} (q : Q (.bl (if a = x then if b = y then ltS c z else decide (b < y) else decide (a < x))) M) : oLtT 20 (.tup [.int a, .int b, .str c]) (.tup [.int x, .int y, .str z]) Q M := by
  unfold oLtT
  rw [lt_iis 18 a b x y hc hz]
  exact q
def shT (t : T) : Str := (t.py.map PyData.shown).getD ""
theorem Fine.rep {t : T} {n k : Nat} {Q : QE} {M : Mp} (h : Fine t n k) (a : n ≤ 16000000) (b : k ≤ 60) (hl : look t M = t) (q : Q (.str (shT t)) M) : fRepr [t] Q M :=
  h.repr a b hl fun d e => by
    unfold shT at q
    rw [e] at q
    exact q
theorem fine_bls {bs : List Bool} (h : bs.length ≤ 1000) : Fine (.lst (bs.map T.bl)) 7003 1 :=
  (fine_lst (n := 5) (k := 0) (xs := bs.map T.bl) fun x hx => by
    obtain ⟨b, _, rfl⟩ := List.mem_map.mp hx
    exact fine_bl b).mono (by rw [List.length_map]; omega) (Nat.le_refl _)
theorem eq_strB {a b : Str} {neg : Bool} {Q : QE} {M : Mp} (q : Q (.bl (if neg then !decide (a = b) else decide (a = b))) M) : oEqB neg (.str a) (.str b) Q M := q
end L3

set_option maxHeartbeats 4000000
namespace K01
open PySem PySem.Spec PyProof.Rows L2 L3
def topS (i : Nat) : Stmt := PySem.Challenge.pw_failswhole_k01_values_and_kinds.main.body.getD i (.Pass ⟨0, 0, 0, 0⟩)
abbrev s_is_name : Stmt := topS 7
theorem sc_is_name : FnScope ["thing", "letter"] ["thing"] (defScope s_is_name) := ⟨rfl, rfl, rfl, by decide +kernel, rfl, by decide +kernel, by decide +kernel⟩
abbrev s_is_value : Stmt := topS 8
theorem sc_is_value : FnScope ["thing"] ["thing"] (defScope s_is_value) := ⟨rfl, rfl, rfl, by decide +kernel, rfl, by decide +kernel, by decide +kernel⟩
abbrev s_kind_of : Stmt := topS 9
theorem sc_kind_of : FnScope ["value"] ["value"] (defScope s_kind_of) := ⟨rfl, rfl, rfl, by decide +kernel, rfl, by decide +kernel, by decide +kernel⟩
abbrev s_is_before : Stmt := topS 10
theorem sc_is_before : FnScope ["one", "other", "kinds"] ["one", "other"] (defScope s_is_before) := ⟨rfl, rfl, rfl, by decide +kernel, rfl, by decide +kernel, by decide +kernel⟩
abbrev s_l_deck : Stmt := topS 12
theorem sc_l_deck : FnScope ["script", "cells", "total", "cell"] ["script"] (defScope s_l_deck) := ⟨rfl, rfl, rfl, by decide +kernel, rfl, by decide +kernel, by decide +kernel⟩
abbrev s_l_draw : Stmt := topS 13
theorem sc_l_draw : FnScope ["deck", "many", "turn", "cell", "mixed"] ["deck", "many"] (defScope s_l_draw) := ⟨rfl, rfl, rfl, by decide +kernel, rfl, by decide +kernel, by decide +kernel⟩
abbrev s_l_pick : Stmt := topS 14
theorem sc_l_pick : FnScope ["deck", "some"] ["deck", "some"] (defScope s_l_pick) := ⟨rfl, rfl, rfl, by decide +kernel, rfl, by decide +kernel, by decide +kernel⟩
abbrev s_l_word : Stmt := topS 15
theorem sc_l_word : FnScope ["deck", "letters", "many", "start", "k"] ["deck"] (defScope s_l_word) := ⟨rfl, rfl, rfl, by decide +kernel, rfl, by decide +kernel, by decide +kernel⟩
abbrev s_l_value : Stmt := topS 16
theorem sc_l_value : FnScope ["deck", "way", "great", "near", "far"] ["deck"] (defScope s_l_value) := ⟨rfl, rfl, rfl, by decide +kernel, rfl, by decide +kernel, by decide +kernel⟩
abbrev s_l_thing : Stmt := topS 17
theorem sc_l_thing : FnScope ["deck", "deep", "way", "k", "word", "sign", "at", "near"] ["deck", "deep"] (defScope s_l_thing) := ⟨rfl, rfl, rfl, by decide +kernel, rfl, by decide +kernel, by decide +kernel⟩
abbrev s_l_is_name : Stmt := topS 18
theorem sc_l_is_name : FnScope ["it", "sign"] ["it"] (defScope s_l_is_name) := ⟨rfl, rfl, rfl, by decide +kernel, rfl, by decide +kernel, by decide +kernel⟩
abbrev s_l_is_value : Stmt := topS 19
theorem sc_l_is_value : FnScope ["it"] ["it"] (defScope s_l_is_value) := ⟨rfl, rfl, rfl, by decide +kernel, rfl, by decide +kernel, by decide +kernel⟩
abbrev s_l_rank : Stmt := topS 20
theorem sc_l_rank : FnScope ["it"] ["it"] (defScope s_l_rank) := ⟨rfl, rfl, rfl, by decide +kernel, rfl, by decide +kernel, by decide +kernel⟩
abbrev s_l_thing_right : Stmt := topS 21
theorem sc_l_thing_right : FnScope ["it", "kept", "told", "due", "kind"] ["it"] (defScope s_l_thing_right) := ⟨rfl, rfl, rfl, by decide +kernel, rfl, by decide +kernel, by decide +kernel⟩
abbrev s_l_pair_right : Stmt := topS 22
theorem sc_l_pair_right : FnScope ["first", "second", "left", "right", "told"] ["first", "second"] (defScope s_l_pair_right) := ⟨rfl, rfl, rfl, by decide +kernel, rfl, by decide +kernel, by decide +kernel⟩
abbrev s_l_fixed : Stmt := topS 23
theorem sc_l_fixed : FnScope ["some"] [] (defScope s_l_fixed) := ⟨rfl, rfl, rfl, by decide +kernel, rfl, by decide +kernel, by decide +kernel⟩
abbrev s_law : Stmt := topS 24
theorem sc_law : FnScope ["script", "deck", "it", "turn", "some", "k", "first", "second"] ["script"] (defScope s_law) := ⟨rfl, rfl, rfl, by decide +kernel, rfl, by decide +kernel, by decide +kernel⟩
structure Fns (K : PySem.W.Frag) (mg : Str → Option Value) where
  f_is_name : Addr
  fd_is_name : FuncData
  F_is_name : Fun K "is_name" "is_name" s_is_name f_is_name fd_is_name
  g_is_name : mg "is_name" = some (.ref f_is_name)
  f_is_value : Addr
  fd_is_value : FuncData
  F_is_value : Fun K "is_value" "is_value" s_is_value f_is_value fd_is_value
  g_is_value : mg "is_value" = some (.ref f_is_value)
  f_kind_of : Addr
  fd_kind_of : FuncData
  F_kind_of : Fun K "kind_of" "kind_of" s_kind_of f_kind_of fd_kind_of
  g_kind_of : mg "kind_of" = some (.ref f_kind_of)
  f_is_before : Addr
  fd_is_before : FuncData
  F_is_before : Fun K "is_before" "is_before" s_is_before f_is_before fd_is_before
  g_is_before : mg "is_before" = some (.ref f_is_before)
  f_l_deck : Addr
  fd_l_deck : FuncData
  F_l_deck : Fun K "_law_deck" "_law_deck" s_l_deck f_l_deck fd_l_deck
  g_l_deck : mg "_law_deck" = some (.ref f_l_deck)
  f_l_draw : Addr
  fd_l_draw : FuncData
  F_l_draw : Fun K "_law_draw" "_law_draw" s_l_draw f_l_draw fd_l_draw
  g_l_draw : mg "_law_draw" = some (.ref f_l_draw)
  f_l_pick : Addr
  fd_l_pick : FuncData
  F_l_pick : Fun K "_law_pick" "_law_pick" s_l_pick f_l_pick fd_l_pick
  g_l_pick : mg "_law_pick" = some (.ref f_l_pick)
  f_l_word : Addr
  fd_l_word : FuncData
  F_l_word : Fun K "_law_word" "_law_word" s_l_word f_l_word fd_l_word
  g_l_word : mg "_law_word" = some (.ref f_l_word)
  f_l_value : Addr
  fd_l_value : FuncData
  F_l_value : Fun K "_law_value" "_law_value" s_l_value f_l_value fd_l_value
  g_l_value : mg "_law_value" = some (.ref f_l_value)
  f_l_thing : Addr
  fd_l_thing : FuncData
  F_l_thing : Fun K "_law_thing" "_law_thing" s_l_thing f_l_thing fd_l_thing
  g_l_thing : mg "_law_thing" = some (.ref f_l_thing)
  f_l_is_name : Addr
  fd_l_is_name : FuncData
  F_l_is_name : Fun K "_law_is_name" "_law_is_name" s_l_is_name f_l_is_name fd_l_is_name
  g_l_is_name : mg "_law_is_name" = some (.ref f_l_is_name)
  f_l_is_value : Addr
  fd_l_is_value : FuncData
  F_l_is_value : Fun K "_law_is_value" "_law_is_value" s_l_is_value f_l_is_value fd_l_is_value
  g_l_is_value : mg "_law_is_value" = some (.ref f_l_is_value)
  f_l_rank : Addr
  fd_l_rank : FuncData
  F_l_rank : Fun K "_law_rank" "_law_rank" s_l_rank f_l_rank fd_l_rank
  g_l_rank : mg "_law_rank" = some (.ref f_l_rank)
  f_l_thing_right : Addr
  fd_l_thing_right : FuncData
  F_l_thing_right : Fun K "_law_thing_right" "_law_thing_right" s_l_thing_right f_l_thing_right fd_l_thing_right
  g_l_thing_right : mg "_law_thing_right" = some (.ref f_l_thing_right)
  f_l_pair_right : Addr
  fd_l_pair_right : FuncData
  F_l_pair_right : Fun K "_law_pair_right" "_law_pair_right" s_l_pair_right f_l_pair_right fd_l_pair_right
  g_l_pair_right : mg "_law_pair_right" = some (.ref f_l_pair_right)
  f_l_fixed : Addr
  fd_l_fixed : FuncData
  F_l_fixed : Fun K "_law_fixed" "_law_fixed" s_l_fixed f_l_fixed fd_l_fixed
  g_l_fixed : mg "_law_fixed" = some (.ref f_l_fixed)
  b_l_fixed : KBinds K fd_l_fixed [] [] (fun us _ => us) (fun vs _ => vs)
  f_law : Addr
  fd_law : FuncData
  F_law : Fun K "law" "law" s_law f_law fd_law
  g_law : mg "law" = some (.ref f_law)
  m_len : mg "len" = none
  m_isinstance : mg "isinstance" = none
  m_abs : mg "abs" = none
  m_repr : mg "repr" = none
  m_all : mg "all" = none
  m_list : mg "list" = none
  m_tuple : mg "tuple" = none
  m_range : mg "range" = none
  m_int : mg "int" = none
  m_str : mg "str" = none
  m_bool : mg "bool" = none
  c_RANGE : GC mg "RANGE" (.int 1000000000000)
  c_LETTERS : GC mg "LETTERS" (.str "abcdefghijklmnopqrstuvwxyz")
  c_MOST_LETTERS : GC mg "MOST_LETTERS" (.int 8)
  c_NOTHING : GC mg "NOTHING" (.str "nothing")
  c_NUMBER : GC mg "NUMBER" (.str "number")
  c_WORD : GC mg "WORD" (.str "word")
theorem kb_l_deck_1 {K : PySem.W.Frag} {mg : Str → Option Value} (E : Fns K mg) : KB K E.fd_l_deck ["script"] [] 1 0 [0] [] [] [] :=
  KB.mk0 E.F_l_deck (by decide) fun _ _ _ _ _ _ us ws h1 h2 => match us, ws, h1, h2 with | [_], [], _, _ => rfl
theorem kb_l_draw_2 {K : PySem.W.Frag} {mg : Str → Option Value} (E : Fns K mg) : KB K E.fd_l_draw ["deck", "many"] [] 2 0 [0, 1] [] [] [] :=
  KB.mk0 E.F_l_draw (by decide) fun _ _ _ _ _ _ us ws h1 h2 => match us, ws, h1, h2 with | [_, _], [], _, _ => rfl
theorem kb_l_is_name_1 {K : PySem.W.Frag} {mg : Str → Option Value} (E : Fns K mg) : KB K E.fd_l_is_name ["it"] [] 1 0 [0] [] [] [] :=
  KB.mk0 E.F_l_is_name (by decide) fun _ _ _ _ _ _ us ws h1 h2 => match us, ws, h1, h2 with | [_], [], _, _ => rfl
theorem kb_l_is_value_1 {K : PySem.W.Frag} {mg : Str → Option Value} (E : Fns K mg) : KB K E.fd_l_is_value ["it"] [] 1 0 [0] [] [] [] :=
  KB.mk0 E.F_l_is_value (by decide) fun _ _ _ _ _ _ us ws h1 h2 => match us, ws, h1, h2 with | [_], [], _, _ => rfl
theorem kb_l_pair_right_2 {K : PySem.W.Frag} {mg : Str → Option Value} (E : Fns K mg) : KB K E.fd_l_pair_right ["first", "second"] [] 2 0 [0, 1] [] [] [] :=
  KB.mk0 E.F_l_pair_right (by decide) fun _ _ _ _ _ _ us ws h1 h2 => match us, ws, h1, h2 with | [_, _], [], _, _ => rfl
theorem kb_l_pick_2 {K : PySem.W.Frag} {mg : Str → Option Value} (E : Fns K mg) : KB K E.fd_l_pick ["deck", "some"] [] 2 0 [0, 1] [] [] [] :=
  KB.mk0 E.F_l_pick (by decide) fun _ _ _ _ _ _ us ws h1 h2 => match us, ws, h1, h2 with | [_, _], [], _, _ => rfl
theorem kb_l_rank_1 {K : PySem.W.Frag} {mg : Str → Option Value} (E : Fns K mg) : KB K E.fd_l_rank ["it"] [] 1 0 [0] [] [] [] :=
  KB.mk0 E.F_l_rank (by decide) fun _ _ _ _ _ _ us ws h1 h2 => match us, ws, h1, h2 with | [_], [], _, _ => rfl
theorem kb_l_thing_2 {K : PySem.W.Frag} {mg : Str → Option Value} (E : Fns K mg) : KB K E.fd_l_thing ["deck", "deep"] [] 2 0 [0, 1] [] [] [] :=
  KB.mk0 E.F_l_thing (by decide) fun _ _ _ _ _ _ us ws h1 h2 => match us, ws, h1, h2 with | [_, _], [], _, _ => rfl
theorem kb_l_thing_right_1 {K : PySem.W.Frag} {mg : Str → Option Value} (E : Fns K mg) : KB K E.fd_l_thing_right ["it"] [] 1 0 [0] [] [] [] :=
  KB.mk0 E.F_l_thing_right (by decide) fun _ _ _ _ _ _ us ws h1 h2 => match us, ws, h1, h2 with | [_], [], _, _ => rfl
theorem kb_l_value_1 {K : PySem.W.Frag} {mg : Str → Option Value} (E : Fns K mg) : KB K E.fd_l_value ["deck"] [] 1 0 [0] [] [] [] :=
  KB.mk0 E.F_l_value (by decide) fun _ _ _ _ _ _ us ws h1 h2 => match us, ws, h1, h2 with | [_], [], _, _ => rfl
theorem kb_l_word_1 {K : PySem.W.Frag} {mg : Str → Option Value} (E : Fns K mg) : KB K E.fd_l_word ["deck"] [] 1 0 [0] [] [] [] :=
  KB.mk0 E.F_l_word (by decide) fun _ _ _ _ _ _ us ws h1 h2 => match us, ws, h1, h2 with | [_], [], _, _ => rfl
theorem kb_is_before_0_other_one {K : PySem.W.Frag} {mg : Str → Option Value} (E : Fns K mg) : KB K E.fd_is_before ["one", "other"] ["other", "one"] 0 2 [1, 0] [] [] [] :=
  KB.mk0 E.F_is_before (by decide) fun _ _ _ _ _ _ us ws h1 h2 => match us, ws, h1, h2 with | [], [_, _], _, _ => rfl
theorem kb_is_before_2 {K : PySem.W.Frag} {mg : Str → Option Value} (E : Fns K mg) : KB K E.fd_is_before ["one", "other"] [] 2 0 [0, 1] [] [] [] :=
  KB.mk0 E.F_is_before (by decide) fun _ _ _ _ _ _ us ws h1 h2 => match us, ws, h1, h2 with | [_, _], [], _, _ => rfl
theorem kb_is_name_0_thing {K : PySem.W.Frag} {mg : Str → Option Value} (E : Fns K mg) : KB K E.fd_is_name ["thing"] ["thing"] 0 1 [0] [] [] [] :=
  KB.mk0 E.F_is_name (by decide) fun _ _ _ _ _ _ us ws h1 h2 => match us, ws, h1, h2 with | [], [_], _, _ => rfl
theorem kb_is_name_1 {K : PySem.W.Frag} {mg : Str → Option Value} (E : Fns K mg) : KB K E.fd_is_name ["thing"] [] 1 0 [0] [] [] [] :=
  KB.mk0 E.F_is_name (by decide) fun _ _ _ _ _ _ us ws h1 h2 => match us, ws, h1, h2 with | [_], [], _, _ => rfl
theorem kb_is_value_0_thing {K : PySem.W.Frag} {mg : Str → Option Value} (E : Fns K mg) : KB K E.fd_is_value ["thing"] ["thing"] 0 1 [0] [] [] [] :=
  KB.mk0 E.F_is_value (by decide) fun _ _ _ _ _ _ us ws h1 h2 => match us, ws, h1, h2 with | [], [_], _, _ => rfl
theorem kb_is_value_1 {K : PySem.W.Frag} {mg : Str → Option Value} (E : Fns K mg) : KB K E.fd_is_value ["thing"] [] 1 0 [0] [] [] [] :=
  KB.mk0 E.F_is_value (by decide) fun _ _ _ _ _ _ us ws h1 h2 => match us, ws, h1, h2 with | [_], [], _, _ => rfl
theorem kb_kind_of_0_value {K : PySem.W.Frag} {mg : Str → Option Value} (E : Fns K mg) : KB K E.fd_kind_of ["value"] ["value"] 0 1 [0] [] [] [] :=
  KB.mk0 E.F_kind_of (by decide) fun _ _ _ _ _ _ us ws h1 h2 => match us, ws, h1, h2 with | [], [_], _, _ => rfl
theorem kb_kind_of_1 {K : PySem.W.Frag} {mg : Str → Option Value} (E : Fns K mg) : KB K E.fd_kind_of ["value"] [] 1 0 [0] [] [] [] :=
  KB.mk0 E.F_kind_of (by decide) fun _ _ _ _ _ _ us ws h1 h2 => match us, ws, h1, h2 with | [_], [], _, _ => rfl

variable {P : Program} {w : World} {K : PySem.W.Frag} {mg : Str → Option Value} {base : Heap}
theorem ok_l_draw (E : Fns K mg) : FnD P w K mg base 1 E.f_l_draw E.fd_l_draw ["deck", "many"] spDraw := by
  have nd := sc_l_draw.nd
  refine okD E.F_l_draw sc_l_draw ?len fun cdv A outer s H X hr hgd => ⟨_, (dss_cons (ds_par 2 3 rfl nd rfl rfl (by decide) rfl rfl (d_add (d_dget (hu_of hr) (d_var 0) d_str (fun _ _ => rfl)) d_int) (d_dget (hu_of hr) (d_var 0) d_str (fun _ _ => rfl)))
  (dss_cons (ds_dput (hu_of hr) (d_var 0) d_str (d_var 2))
  (dss_cons (ds_if (dt_ne hr.units (d_dget (hu_of hr) (d_var 0) d_str (fun _ _ => rfl)) (d_lst da_nil))
  (dss_cons (ds_set 3 nd rfl (by first | exact Or.inl rfl | exact Or.inr rfl) (d_pop (d_dget (hu_of hr) (d_var 0) d_str (fun _ _ => rfl))))
  (dss_cons (ds_if (dt_ge (d_var 3) (d_pow d_int d_int))
  (dss_cons (ds_expr (d_append (d_dget (hu_of hr) (d_var 0) d_str (fun _ _ => rfl)) (da_cons (d_fdiv (d_var 3) (d_var 1)) da_nil)))
  (dss_one (ds_ret (d_mod (d_var 3) (d_var 1)))))
  dss_nil)
  (dss_one (ds_set 3 nd rfl (by first | exact Or.inl rfl | exact Or.inr rfl) (d_add (d_var 3) (d_dget (hu_of hr) (d_var 0) d_str (fun _ _ => rfl)))))))
  dss_nil)
  (dss_cons (ds_set 4 nd rfl (by first | exact Or.inl rfl | exact Or.inr rfl) (d_mod (d_mul (d_add (d_add (d_mod (d_var 3) d_int) (d_mul (d_mul d_int (d_var 2)) (d_var 2))) d_int) d_int) d_int))
  (dss_cons (ds_set 4 nd rfl (by first | exact Or.inl rfl | exact Or.inr rfl) (d_mod (d_add (d_add (d_mul (d_var 4) (d_var 4)) (d_mul d_int (d_var 2))) d_int) d_int))
  (dss_one (ds_ret (d_mod (d_fdiv (d_mod (d_mul (d_var 4) d_int) d_int) d_int) (d_var 1))))))))), ?_⟩
  case len =>
    rintro ts M Q ⟨dk, c, n, many, rfl, _⟩
    rfl
  · rintro ts M Q ⟨dk, c, n, many, rfl, hD, hn, h0, h1, q⟩
    obtain ⟨hne, ns, t, k, eD, eC, hl, hk0, hk⟩ := hD
    simp only [sSeq, sPar, sPut, sIf, sSet, sDrop, sRet, sRetN, sNext, dOp2, dOp1, dVar, dC, dB, dTup, dLst, dLstM, dNil, dCons, dSl, doNone, doSome, dCall, dLm, dLm0, dSm, dAnd, dOr, dNot, dAndV, dOrV, dIf, dChain, dFn, dFn0, dYes, dDisp, dDispM, dPairs, keysT, dNewD, dNewDM,
 oAdd, oSub, oMul, oFdiv, oMod, oPow, oInt2, oNeg, oIx, oSl, oRev, oRevM, oEqB, scalT, oLt, oLe, oGt, oGe, oOrd, oIsN, isNon, oNotB, oDGet, oDIn, oIn, oInS, mAppend, mPop, mJoin, isL, isS, fLen, fIsi, fAbs, fList, fListM, fTuple, fInt, fRepr, fBls, seqOf, tyT,
 look, keyT, Pat.set, start3, pick, List.getElem?_cons_zero, List.getElem?_cons_succ, List.set_cons_zero, List.set_cons_succ, List.map_cons, List.map_nil, List.length_cons, List.length_nil, List.nil_append, List.cons_append, List.replicate_succ, List.replicate_zero, Nat.reduceSub, Nat.reduceAdd, flatOf, kit_NoneType_str, kit_bool_str, kit_int_str, kit_str_str, kit_tuple_str, kit_list_str, kit_dict_str, kit_NoneType_int, kit_bool_int, kit_int_int, kit_str_int, kit_tuple_int, kit_list_int, kit_dict_int, kit_NoneType_bool, kit_bool_bool, kit_int_bool, kit_str_bool, kit_tuple_bool, kit_list_bool, kit_dict_bool, kit_NoneType_tuple, kit_bool_tuple, kit_int_tuple, kit_str_tuple, kit_tuple_tuple, kit_list_tuple, kit_dict_tuple, kit_NoneType_list, kit_bool_list, kit_int_list, kit_str_list, kit_tuple_list, kit_list_list, kit_dict_list, kit_NoneType_dict, kit_bool_dict, kit_int_dict, kit_str_dict, kit_tuple_dict, kit_list_dict, kit_dict_dict, Bool.false_eq_true, if_false, if_true, reduceIte, true_and, sz_0, sz_1, sz_2, sz_3, sz_4, sz_5, sz_6, sz_7, sz_8, sz_9, sz_10, sz_11, sz_12, sz_13, sz_14, sz_15, sz_16, sz_17, sz_18, sz_19, sz_20, sz_21, sz_22, sz_23, sz_24, sz_25, sz_26, sz_27, sz_28, sz_29, sz_30, sz_31, sz_32, sz_33, sz_34, sz_35, sz_36, sz_37, sz_38, sz_39, sz_40, sz_41, sz_42, sz_43, sz_44, sz_45, sz_46, sz_47, atI_c0, atI_c1, atI_c2, atI_c3, atI_c4, List.append_nil, List.filterMap_cons, List.filterMap_nil, and_self, eD, eC, deckD_eq, deck_cells, deck_total, deck_draws, deck_put, deck_len, mset_same, mset_ne hne, mset_ne hne.symm, py_ints, py_nil, shaped_ints, shaped_nil, eqv_nil, if_true, true_and, Nat.zero_le]
    have key : ∀ (cell : Int) (M' : Mp), DeckAt dk c M' (n + 1) → Fr2 dk c M M' → Q (T.int ((((cell % 2147483629 + 60257 * (k + 1) * (k + 1) + 47) * 40692 % 2147483647) * ((cell % 2147483629 + 60257 * (k + 1) * (k + 1) + 47) * 40692 % 2147483647) + 69821 * (k + 1) + 31) % 2147483587 * 39419 % 2147483563 / 64 % many)) M' :=
      fun cell M' d f => q M' _ d f (Int.emod_nonneg _ (by omega)) (Int.emod_lt_of_pos _ h0)
    have m1 : ∀ x : Int, IntMulOk x (k + 1) := fun x => small_mul (by omega)
    have m2 : ∀ x : Int, IntMulOk (x % 2147483647) (x % 2147483647) := fun x => small_mul (by omega)
    have m3 : ∀ x : Int, IntMulOk x 40692 := fun x => small_mul (by decide)
    have m4 : ∀ x : Int, IntMulOk x 39419 := fun x => small_mul (by decide)
    have d1 : ∀ x : Int, CDivW x 64 := fun x => small_div (by decide) (by decide)
    have d2 : ∀ x : Int, CDivW x many := fun x => small_div h0 h1
    have dk1 : ∀ {M' : Mp} {ns' : List Int}, M' dk = some (.dct (deckL c t (k + 1))) → M' c = some (.lst (ns'.map T.int)) → ns'.length ≤ 63 → DeckAt dk c M' (n + 1) :=
      fun a b d => ⟨hne, _, _, _, a, b, d, by omega, by omega⟩
    have pow : CPow 10 18 := ⟨by decide, by decide, by decide⟩
    refine ⟨by decide, ?_⟩
    rcases List.eq_nil_or_concat ns with rfl | ⟨l, x, e⟩
    · simp only [decide_true, Bool.not_true, m1, m2, m3, m4, d1, h0, true_and, Int.reduceLT]
      refine key t _ (dk1 mset_same ((mset_ne hne.symm).trans eC) hl) fun a h2 h3 => mset_ne h2
    · rw [List.concat_eq_append] at e
      subst e
      have e0 : decide (l ++ [x] = []) = false := by simp
      have hl' : l.length ≤ 62 := by
        rw [List.length_append, List.length_singleton] at hl
        omega
      simp only [e0, Bool.not_false, last_get, last_drop, pow, true_and, mset_same, mset_mset, mset_ne hne, mset_ne hne.symm, deck_cells, deck_total, d2, h0]
      by_cases hx : (10 : Int) ^ (18 : Int).toNat ≤ x
      · simp only [decide_eq_true hx, mset_mset, mset_same, mset_ne hne, mset_ne hne.symm, deck_cells, true_and]
        refine ⟨sz' (by rw [List.length_map]; omega), ?_⟩
        refine q _ _ (dk1 (ns' := l ++ [x / many]) ((mset_ne hne).trans mset_same) ?_ (by rw [List.length_append, List.length_singleton]; omega)) (fun a h2 h3 => (mset_ne h3).trans (mset_ne h2)) (Int.emod_nonneg _ (by omega)) (Int.emod_lt_of_pos _ h0)
        rw [mset_same, List.map_append]
        rfl
      · simp only [decide_eq_false hx, mset_same, mset_ne hne, mset_ne hne.symm, deck_total, m1, m2, m3, m4, d1, h0, true_and, Int.reduceLT]
        exact key (x + t) _ (dk1 ((mset_ne hne).trans mset_same) mset_same (by omega)) fun a h2 h3 => (mset_ne h3).trans (mset_ne h2)


theorem ok_l_deck (E : Fns K mg) : FnD P w K mg base 1 E.f_l_deck E.fd_l_deck ["script"] spDeck := by
  have nd := sc_l_deck.nd
  refine okD E.F_l_deck sc_l_deck ?len fun cdv A outer s H X hr hgd => ⟨_, (dss_cons (ds_par 1 2 rfl nd rfl rfl (by decide) rfl rfl (d_list (by rfl) E.m_list (da_cons (d_slice (d_var 0) do_none (do_some d_int)) da_nil)) d_int)
  (dss_cons (ds_for PassesOwn.never rfl (di_list (d_var 1)) (dg_nm 3 nd rfl (by first | exact Or.inl rfl | exact Or.inr rfl))
  (dss_one (ds_set 2 nd rfl (by first | exact Or.inl rfl | exact Or.inr rfl) (d_mod (d_add (d_add (d_mul (d_var 2) d_int) (d_mod (d_var 3) d_int)) d_int) d_int))))
  (dss_one (ds_ret (d_dispM (dps_cons d_str (d_revM (d_var 1)) (dps_cons d_str (d_var 2) (dps_cons d_str d_int dps_nil)))))))), ?_⟩
  case len =>
    rintro ts M Q ⟨ns, rfl, _⟩
    rfl
  · rintro ts M Q ⟨ns, rfl, hl, q⟩
    simp only [sSeq, sPar, sPut, sIf, sSet, sDrop, sRet, sRetN, sNext, dOp2, dOp1, dVar, dC, dB, dTup, dLst, dLstM, dNil, dCons, dSl, doNone, doSome, dCall, dLm, dLm0, dSm, dAnd, dOr, dNot, dAndV, dOrV, dIf, dChain, dFn, dFn0, dYes, dDisp, dDispM, dPairs, keysT, dNewD, dNewDM,
 oAdd, oSub, oMul, oFdiv, oMod, oPow, oInt2, oNeg, oIx, oSl, oRev, oRevM, oEqB, scalT, oLt, oLe, oGt, oGe, oOrd, oIsN, isNon, oNotB, oDGet, oDIn, oIn, oInS, mAppend, mPop, mJoin, isL, isS, fLen, fIsi, fAbs, fList, fListM, fTuple, fInt, fRepr, fBls, seqOf, tyT,
 look, keyT, Pat.set, start3, pick, List.getElem?_cons_zero, List.getElem?_cons_succ, List.set_cons_zero, List.set_cons_succ, List.map_cons, List.map_nil, List.length_cons, List.length_nil, List.nil_append, List.cons_append, List.replicate_succ, List.replicate_zero, Nat.reduceSub, Nat.reduceAdd, flatOf, kit_NoneType_str, kit_bool_str, kit_int_str, kit_str_str, kit_tuple_str, kit_list_str, kit_dict_str, kit_NoneType_int, kit_bool_int, kit_int_int, kit_str_int, kit_tuple_int, kit_list_int, kit_dict_int, kit_NoneType_bool, kit_bool_bool, kit_int_bool, kit_str_bool, kit_tuple_bool, kit_list_bool, kit_dict_bool, kit_NoneType_tuple, kit_bool_tuple, kit_int_tuple, kit_str_tuple, kit_tuple_tuple, kit_list_tuple, kit_dict_tuple, kit_NoneType_list, kit_bool_list, kit_int_list, kit_str_list, kit_tuple_list, kit_list_list, kit_dict_list, kit_NoneType_dict, kit_bool_dict, kit_int_dict, kit_str_dict, kit_tuple_dict, kit_list_dict, kit_dict_dict, Bool.false_eq_true, if_false, if_true, reduceIte, true_and, sz_0, sz_1, sz_2, sz_3, sz_4, sz_5, sz_6, sz_7, sz_8, sz_9, sz_10, sz_11, sz_12, sz_13, sz_14, sz_15, sz_16, sz_17, sz_18, sz_19, sz_20, sz_21, sz_22, sz_23, sz_24, sz_25, sz_26, sz_27, sz_28, sz_29, sz_30, sz_31, sz_32, sz_33, sz_34, sz_35, sz_36, sz_37, sz_38, sz_39, sz_40, sz_41, sz_42, sz_43, sz_44, sz_45, sz_46, sz_47, atI_c0, atI_c1, atI_c2, atI_c3, atI_c4, List.append_nil, List.filterMap_cons, List.filterMap_nil, and_self, sFor, iL, show (63 : Int) = ((63 : Nat) : Int) from rfl, cut_to, List.take_of_length_le (show (ns.map T.int).length ≤ 63 by rw [List.length_map]; exact hl)]
    refine (?loop : ∀ (r : List Int) (tot : Int) (y : Option T), forL _ _ _ _ (List.map T.int r) [some (.scr (ns.map T.int)), some (.lst (ns.map T.int)), some (.int tot), y] M) ns _ none
    case loop =>
      intro r
      induction r with
      | nil =>
        intro tot y
        simp only [List.map_nil, forL, sSeq, sPar, sPut, sIf, sSet, sDrop, sRet, sRetN, sNext, dOp2, dOp1, dVar, dC, dB, dTup, dLst, dLstM, dNil, dCons, dSl, doNone, doSome, dCall, dLm, dLm0, dSm, dAnd, dOr, dNot, dAndV, dOrV, dIf, dChain, dFn, dFn0, dYes, dDisp, dDispM, dPairs, keysT, dNewD, dNewDM,
 oAdd, oSub, oMul, oFdiv, oMod, oPow, oInt2, oNeg, oIx, oSl, oRev, oRevM, oEqB, scalT, oLt, oLe, oGt, oGe, oOrd, oIsN, isNon, oNotB, oDGet, oDIn, oIn, oInS, mAppend, mPop, mJoin, isL, isS, fLen, fIsi, fAbs, fList, fListM, fTuple, fInt, fRepr, fBls, seqOf, tyT,
 look, keyT, Pat.set, start3, pick, List.getElem?_cons_zero, List.getElem?_cons_succ, List.set_cons_zero, List.set_cons_succ, List.map_cons, List.map_nil, List.length_cons, List.length_nil, List.nil_append, List.cons_append, List.replicate_succ, List.replicate_zero, Nat.reduceSub, Nat.reduceAdd, flatOf, kit_NoneType_str, kit_bool_str, kit_int_str, kit_str_str, kit_tuple_str, kit_list_str, kit_dict_str, kit_NoneType_int, kit_bool_int, kit_int_int, kit_str_int, kit_tuple_int, kit_list_int, kit_dict_int, kit_NoneType_bool, kit_bool_bool, kit_int_bool, kit_str_bool, kit_tuple_bool, kit_list_bool, kit_dict_bool, kit_NoneType_tuple, kit_bool_tuple, kit_int_tuple, kit_str_tuple, kit_tuple_tuple, kit_list_tuple, kit_dict_tuple, kit_NoneType_list, kit_bool_list, kit_int_list, kit_str_list, kit_tuple_list, kit_list_list, kit_dict_list, kit_NoneType_dict, kit_bool_dict, kit_int_dict, kit_str_dict, kit_tuple_dict, kit_list_dict, kit_dict_dict, Bool.false_eq_true, if_false, if_true, reduceIte, true_and, sz_0, sz_1, sz_2, sz_3, sz_4, sz_5, sz_6, sz_7, sz_8, sz_9, sz_10, sz_11, sz_12, sz_13, sz_14, sz_15, sz_16, sz_17, sz_18, sz_19, sz_20, sz_21, sz_22, sz_23, sz_24, sz_25, sz_26, sz_27, sz_28, sz_29, sz_30, sz_31, sz_32, sz_33, sz_34, sz_35, sz_36, sz_37, sz_38, sz_39, sz_40, sz_41, sz_42, sz_43, sz_44, sz_45, sz_46, sz_47, atI_c0, atI_c1, atI_c2, atI_c3, atI_c4, List.append_nil, List.filterMap_cons, List.filterMap_nil, and_self]
        intro c hc
        refine ⟨by decide, fun dk hdk => ?_⟩
        have hne : dk ≠ c := by
          intro z
          rw [z, mset_same] at hdk
          cases hdk
        have hM : M dk = none := (mset_ne hne).symm.trans hdk
        refine q dk c _ hM hc ⟨hne, ns.reverse, tot, 0, ?_, ?_, by rw [List.length_reverse]; exact hl, by omega, by omega⟩ fun a h2 h3 => (mset_ne h2).trans (mset_ne h3)
        · rw [mset_same, deck_mk]
          rfl
        · rw [mset_ne hne.symm, mset_same, List.map_reverse]
      | cons z r ih =>
        intro tot y
        have m1 : ∀ x : Int, IntMulOk x 48271 := fun x => small_mul (by decide)
        simp only [List.map_cons, forL, sSeq, sPar, sPut, sIf, sSet, sDrop, sRet, sRetN, sNext, dOp2, dOp1, dVar, dC, dB, dTup, dLst, dLstM, dNil, dCons, dSl, doNone, doSome, dCall, dLm, dLm0, dSm, dAnd, dOr, dNot, dAndV, dOrV, dIf, dChain, dFn, dFn0, dYes, dDisp, dDispM, dPairs, keysT, dNewD, dNewDM,
 oAdd, oSub, oMul, oFdiv, oMod, oPow, oInt2, oNeg, oIx, oSl, oRev, oRevM, oEqB, scalT, oLt, oLe, oGt, oGe, oOrd, oIsN, isNon, oNotB, oDGet, oDIn, oIn, oInS, mAppend, mPop, mJoin, isL, isS, fLen, fIsi, fAbs, fList, fListM, fTuple, fInt, fRepr, fBls, seqOf, tyT,
 look, keyT, Pat.set, start3, pick, List.getElem?_cons_zero, List.getElem?_cons_succ, List.set_cons_zero, List.set_cons_succ, List.map_cons, List.map_nil, List.length_cons, List.length_nil, List.nil_append, List.cons_append, List.replicate_succ, List.replicate_zero, Nat.reduceSub, Nat.reduceAdd, flatOf, kit_NoneType_str, kit_bool_str, kit_int_str, kit_str_str, kit_tuple_str, kit_list_str, kit_dict_str, kit_NoneType_int, kit_bool_int, kit_int_int, kit_str_int, kit_tuple_int, kit_list_int, kit_dict_int, kit_NoneType_bool, kit_bool_bool, kit_int_bool, kit_str_bool, kit_tuple_bool, kit_list_bool, kit_dict_bool, kit_NoneType_tuple, kit_bool_tuple, kit_int_tuple, kit_str_tuple, kit_tuple_tuple, kit_list_tuple, kit_dict_tuple, kit_NoneType_list, kit_bool_list, kit_int_list, kit_str_list, kit_tuple_list, kit_list_list, kit_dict_list, kit_NoneType_dict, kit_bool_dict, kit_int_dict, kit_str_dict, kit_tuple_dict, kit_list_dict, kit_dict_dict, Bool.false_eq_true, if_false, if_true, reduceIte, true_and, sz_0, sz_1, sz_2, sz_3, sz_4, sz_5, sz_6, sz_7, sz_8, sz_9, sz_10, sz_11, sz_12, sz_13, sz_14, sz_15, sz_16, sz_17, sz_18, sz_19, sz_20, sz_21, sz_22, sz_23, sz_24, sz_25, sz_26, sz_27, sz_28, sz_29, sz_30, sz_31, sz_32, sz_33, sz_34, sz_35, sz_36, sz_37, sz_38, sz_39, sz_40, sz_41, sz_42, sz_43, sz_44, sz_45, sz_46, sz_47, atI_c0, atI_c1, atI_c2, atI_c3, atI_c4, List.append_nil, List.filterMap_cons, List.filterMap_nil, and_self, m1, true_and, Int.reduceLT]
        exact ih _ _

theorem ok_l_pick (E : Fns K mg) (G_l_draw : FnD P w K mg base 1 E.f_l_draw E.fd_l_draw ["deck", "many"] spDraw) : FnD P w K mg base 2 E.f_l_pick E.fd_l_pick ["deck", "some"] spPick := by
  have nd := sc_l_pick.nd
  refine okD E.F_l_pick sc_l_pick ?len fun cdv A outer s H X hr hgd => ⟨_, (dss_one (ds_ret (d_ix (d_var 1) (d_fn G_l_draw (hr.mono (by decide)) hgd (by rfl) E.g_l_draw E.F_l_draw.kp (kb_l_draw_2 E) (da_cons (d_var 0) (da_cons (d_len (by rfl) E.m_len (da_cons (d_var 1) da_nil)) da_nil)) dk_nil) (fun _ _ => rfl)))), ?_⟩
  case len =>
    rintro ts M Q ⟨dk, c, n, x, rfl, _⟩
    rfl
  · rintro ts M Q ⟨dk, c, n, x, rfl, hD, hn, h0, h1, q⟩
    have lt60 : ∀ m : Nat, m ≤ sizeLine → (m : Int) < 2 ^ 60 := fun m h => by
      rw [sizeLine_eq] at h
      omega
    have fin : ∀ (m : Nat), m = (itemsOf x).length → (∀ M' (r : Int), 0 ≤ r → r < m → DeckAt dk c M' (n + 1) → Fr2 dk c M M' → oIx x (.int r) Q M') → spDraw [.raw (.ref dk), .int m] M fun t M1 => oIx x t Q M1 := by
      intro m hm k
      refine ⟨dk, c, n, m, rfl, hD, hn, by omega, lt60 m (by omega), fun M' r d f r0 r1 => k M' r r0 r1 d f⟩
    cases x with
    | lst xs =>
      simp only [sSeq, sPar, sPut, sIf, sSet, sDrop, sRet, sRetN, sNext, dOp2, dOp1, dVar, dC, dB, dTup, dLst, dLstM, dNil, dCons, dSl, doNone, doSome, dCall, dLm, dLm0, dSm, dAnd, dOr, dNot, dAndV, dOrV, dIf, dChain, dFn, dFn0, dYes, dDisp, dDispM, dPairs, keysT, dNewD, dNewDM,
 oAdd, oSub, oMul, oFdiv, oMod, oPow, oInt2, oNeg, oIx, oSl, oRev, oRevM, oEqB, scalT, oLt, oLe, oGt, oGe, oOrd, oIsN, isNon, oNotB, oDGet, oDIn, oIn, oInS, mAppend, mPop, mJoin, isL, isS, fLen, fIsi, fAbs, fList, fListM, fTuple, fInt, fRepr, fBls, seqOf, tyT,
 look, keyT, Pat.set, start3, pick, List.getElem?_cons_zero, List.getElem?_cons_succ, List.set_cons_zero, List.set_cons_succ, List.map_cons, List.map_nil, List.length_cons, List.length_nil, List.nil_append, List.cons_append, List.replicate_succ, List.replicate_zero, Nat.reduceSub, Nat.reduceAdd, flatOf, kit_NoneType_str, kit_bool_str, kit_int_str, kit_str_str, kit_tuple_str, kit_list_str, kit_dict_str, kit_NoneType_int, kit_bool_int, kit_int_int, kit_str_int, kit_tuple_int, kit_list_int, kit_dict_int, kit_NoneType_bool, kit_bool_bool, kit_int_bool, kit_str_bool, kit_tuple_bool, kit_list_bool, kit_dict_bool, kit_NoneType_tuple, kit_bool_tuple, kit_int_tuple, kit_str_tuple, kit_tuple_tuple, kit_list_tuple, kit_dict_tuple, kit_NoneType_list, kit_bool_list, kit_int_list, kit_str_list, kit_tuple_list, kit_list_list, kit_dict_list, kit_NoneType_dict, kit_bool_dict, kit_int_dict, kit_str_dict, kit_tuple_dict, kit_list_dict, kit_dict_dict, Bool.false_eq_true, if_false, if_true, reduceIte, true_and, sz_0, sz_1, sz_2, sz_3, sz_4, sz_5, sz_6, sz_7, sz_8, sz_9, sz_10, sz_11, sz_12, sz_13, sz_14, sz_15, sz_16, sz_17, sz_18, sz_19, sz_20, sz_21, sz_22, sz_23, sz_24, sz_25, sz_26, sz_27, sz_28, sz_29, sz_30, sz_31, sz_32, sz_33, sz_34, sz_35, sz_36, sz_37, sz_38, sz_39, sz_40, sz_41, sz_42, sz_43, sz_44, sz_45, sz_46, sz_47, atI_c0, atI_c1, atI_c2, atI_c3, atI_c4, List.append_nil, List.filterMap_cons, List.filterMap_nil, and_self]
      refine fin xs.length rfl fun M' r r0 r1 d f => ?_
      obtain ⟨t, e, hm⟩ := atI_ok r0 r1
      simp only [oIx, look, e]
      exact q M' t d f hm
    | scr xs =>
      simp only [sSeq, sPar, sPut, sIf, sSet, sDrop, sRet, sRetN, sNext, dOp2, dOp1, dVar, dC, dB, dTup, dLst, dLstM, dNil, dCons, dSl, doNone, doSome, dCall, dLm, dLm0, dSm, dAnd, dOr, dNot, dAndV, dOrV, dIf, dChain, dFn, dFn0, dYes, dDisp, dDispM, dPairs, keysT, dNewD, dNewDM,
 oAdd, oSub, oMul, oFdiv, oMod, oPow, oInt2, oNeg, oIx, oSl, oRev, oRevM, oEqB, scalT, oLt, oLe, oGt, oGe, oOrd, oIsN, isNon, oNotB, oDGet, oDIn, oIn, oInS, mAppend, mPop, mJoin, isL, isS, fLen, fIsi, fAbs, fList, fListM, fTuple, fInt, fRepr, fBls, seqOf, tyT,
 look, keyT, Pat.set, start3, pick, List.getElem?_cons_zero, List.getElem?_cons_succ, List.set_cons_zero, List.set_cons_succ, List.map_cons, List.map_nil, List.length_cons, List.length_nil, List.nil_append, List.cons_append, List.replicate_succ, List.replicate_zero, Nat.reduceSub, Nat.reduceAdd, flatOf, kit_NoneType_str, kit_bool_str, kit_int_str, kit_str_str, kit_tuple_str, kit_list_str, kit_dict_str, kit_NoneType_int, kit_bool_int, kit_int_int, kit_str_int, kit_tuple_int, kit_list_int, kit_dict_int, kit_NoneType_bool, kit_bool_bool, kit_int_bool, kit_str_bool, kit_tuple_bool, kit_list_bool, kit_dict_bool, kit_NoneType_tuple, kit_bool_tuple, kit_int_tuple, kit_str_tuple, kit_tuple_tuple, kit_list_tuple, kit_dict_tuple, kit_NoneType_list, kit_bool_list, kit_int_list, kit_str_list, kit_tuple_list, kit_list_list, kit_dict_list, kit_NoneType_dict, kit_bool_dict, kit_int_dict, kit_str_dict, kit_tuple_dict, kit_list_dict, kit_dict_dict, Bool.false_eq_true, if_false, if_true, reduceIte, true_and, sz_0, sz_1, sz_2, sz_3, sz_4, sz_5, sz_6, sz_7, sz_8, sz_9, sz_10, sz_11, sz_12, sz_13, sz_14, sz_15, sz_16, sz_17, sz_18, sz_19, sz_20, sz_21, sz_22, sz_23, sz_24, sz_25, sz_26, sz_27, sz_28, sz_29, sz_30, sz_31, sz_32, sz_33, sz_34, sz_35, sz_36, sz_37, sz_38, sz_39, sz_40, sz_41, sz_42, sz_43, sz_44, sz_45, sz_46, sz_47, atI_c0, atI_c1, atI_c2, atI_c3, atI_c4, List.append_nil, List.filterMap_cons, List.filterMap_nil, and_self]
      refine fin xs.length rfl fun M' r r0 r1 d f => ?_
      obtain ⟨t, e, hm⟩ := atI_ok r0 r1
      simp only [oIx, look, e]
      exact q M' t d f hm
    | tup xs =>
      simp only [sSeq, sPar, sPut, sIf, sSet, sDrop, sRet, sRetN, sNext, dOp2, dOp1, dVar, dC, dB, dTup, dLst, dLstM, dNil, dCons, dSl, doNone, doSome, dCall, dLm, dLm0, dSm, dAnd, dOr, dNot, dAndV, dOrV, dIf, dChain, dFn, dFn0, dYes, dDisp, dDispM, dPairs, keysT, dNewD, dNewDM,
 oAdd, oSub, oMul, oFdiv, oMod, oPow, oInt2, oNeg, oIx, oSl, oRev, oRevM, oEqB, scalT, oLt, oLe, oGt, oGe, oOrd, oIsN, isNon, oNotB, oDGet, oDIn, oIn, oInS, mAppend, mPop, mJoin, isL, isS, fLen, fIsi, fAbs, fList, fListM, fTuple, fInt, fRepr, fBls, seqOf, tyT,
 look, keyT, Pat.set, start3, pick, List.getElem?_cons_zero, List.getElem?_cons_succ, List.set_cons_zero, List.set_cons_succ, List.map_cons, List.map_nil, List.length_cons, List.length_nil, List.nil_append, List.cons_append, List.replicate_succ, List.replicate_zero, Nat.reduceSub, Nat.reduceAdd, flatOf, kit_NoneType_str, kit_bool_str, kit_int_str, kit_str_str, kit_tuple_str, kit_list_str, kit_dict_str, kit_NoneType_int, kit_bool_int, kit_int_int, kit_str_int, kit_tuple_int, kit_list_int, kit_dict_int, kit_NoneType_bool, kit_bool_bool, kit_int_bool, kit_str_bool, kit_tuple_bool, kit_list_bool, kit_dict_bool, kit_NoneType_tuple, kit_bool_tuple, kit_int_tuple, kit_str_tuple, kit_tuple_tuple, kit_list_tuple, kit_dict_tuple, kit_NoneType_list, kit_bool_list, kit_int_list, kit_str_list, kit_tuple_list, kit_list_list, kit_dict_list, kit_NoneType_dict, kit_bool_dict, kit_int_dict, kit_str_dict, kit_tuple_dict, kit_list_dict, kit_dict_dict, Bool.false_eq_true, if_false, if_true, reduceIte, true_and, sz_0, sz_1, sz_2, sz_3, sz_4, sz_5, sz_6, sz_7, sz_8, sz_9, sz_10, sz_11, sz_12, sz_13, sz_14, sz_15, sz_16, sz_17, sz_18, sz_19, sz_20, sz_21, sz_22, sz_23, sz_24, sz_25, sz_26, sz_27, sz_28, sz_29, sz_30, sz_31, sz_32, sz_33, sz_34, sz_35, sz_36, sz_37, sz_38, sz_39, sz_40, sz_41, sz_42, sz_43, sz_44, sz_45, sz_46, sz_47, atI_c0, atI_c1, atI_c2, atI_c3, atI_c4, List.append_nil, List.filterMap_cons, List.filterMap_nil, and_self]
      refine fin xs.length rfl fun M' r r0 r1 d f => ?_
      obtain ⟨t, e, hm⟩ := atI_ok r0 r1
      simp only [oIx, look, e]
      exact q M' t d f hm
    | str z =>
      simp only [sSeq, sPar, sPut, sIf, sSet, sDrop, sRet, sRetN, sNext, dOp2, dOp1, dVar, dC, dB, dTup, dLst, dLstM, dNil, dCons, dSl, doNone, doSome, dCall, dLm, dLm0, dSm, dAnd, dOr, dNot, dAndV, dOrV, dIf, dChain, dFn, dFn0, dYes, dDisp, dDispM, dPairs, keysT, dNewD, dNewDM,
 oAdd, oSub, oMul, oFdiv, oMod, oPow, oInt2, oNeg, oIx, oSl, oRev, oRevM, oEqB, scalT, oLt, oLe, oGt, oGe, oOrd, oIsN, isNon, oNotB, oDGet, oDIn, oIn, oInS, mAppend, mPop, mJoin, isL, isS, fLen, fIsi, fAbs, fList, fListM, fTuple, fInt, fRepr, fBls, seqOf, tyT,
 look, keyT, Pat.set, start3, pick, List.getElem?_cons_zero, List.getElem?_cons_succ, List.set_cons_zero, List.set_cons_succ, List.map_cons, List.map_nil, List.length_cons, List.length_nil, List.nil_append, List.cons_append, List.replicate_succ, List.replicate_zero, Nat.reduceSub, Nat.reduceAdd, flatOf, kit_NoneType_str, kit_bool_str, kit_int_str, kit_str_str, kit_tuple_str, kit_list_str, kit_dict_str, kit_NoneType_int, kit_bool_int, kit_int_int, kit_str_int, kit_tuple_int, kit_list_int, kit_dict_int, kit_NoneType_bool, kit_bool_bool, kit_int_bool, kit_str_bool, kit_tuple_bool, kit_list_bool, kit_dict_bool, kit_NoneType_tuple, kit_bool_tuple, kit_int_tuple, kit_str_tuple, kit_tuple_tuple, kit_list_tuple, kit_dict_tuple, kit_NoneType_list, kit_bool_list, kit_int_list, kit_str_list, kit_tuple_list, kit_list_list, kit_dict_list, kit_NoneType_dict, kit_bool_dict, kit_int_dict, kit_str_dict, kit_tuple_dict, kit_list_dict, kit_dict_dict, Bool.false_eq_true, if_false, if_true, reduceIte, true_and, sz_0, sz_1, sz_2, sz_3, sz_4, sz_5, sz_6, sz_7, sz_8, sz_9, sz_10, sz_11, sz_12, sz_13, sz_14, sz_15, sz_16, sz_17, sz_18, sz_19, sz_20, sz_21, sz_22, sz_23, sz_24, sz_25, sz_26, sz_27, sz_28, sz_29, sz_30, sz_31, sz_32, sz_33, sz_34, sz_35, sz_36, sz_37, sz_38, sz_39, sz_40, sz_41, sz_42, sz_43, sz_44, sz_45, sz_46, sz_47, atI_c0, atI_c1, atI_c2, atI_c3, atI_c4, List.append_nil, List.filterMap_cons, List.filterMap_nil, and_self]
      have hz : z.length ≤ sizeLine := by rw [← signs_len]; exact h1
      refine ⟨hz, fin z.length (signs_len z).symm fun M' r r0 r1 d f => ?_⟩
      obtain ⟨t, e, hm⟩ := atI_signs r0 r1
      simp only [oIx, look, e]
      exact ⟨hz, q M' _ d f hm⟩
    | _ => exact absurd h0 (Nat.lt_irrefl 0)


/-! ### names -/
def lowC (c : Nat) : Bool := decide (97 ≤ c) && decide (c ≤ 122)
def nameS (z : Str) : Bool := decide (1 ≤ z.length) && decide (z.length ≤ 8) && z.cps.toList.all lowC
def nameT : T → Bool
  | .str z => nameS z
  | _ => false
theorem letters_cps : (("abcdefghijklmnopqrstuvwxyz" : Str)).cps.toList = (List.range 26).map (· + 97) := by decide +kernel
theorem in_letters (c : Nat) : decide (c ∈ (("abcdefghijklmnopqrstuvwxyz" : Str)).cps.toList) = lowC c := by
  rw [letters_cps]
  unfold lowC
  rw [Bool.eq_iff_iff]
  simp only [decide_eq_true_eq, List.mem_map, List.mem_range, Bool.and_eq_true]
  constructor
  · rintro ⟨a, h, rfl⟩
    omega
  · rintro ⟨h1, h2⟩
    exact ⟨c - 97, by omega, by omega⟩
theorem lt_sign (a b : Nat) : ltS ⟨#[a]⟩ ⟨#[b]⟩ = decide (a < b) := by
  unfold ltS
  rw [Bool.eq_iff_iff, decide_eq_true_eq, decide_eq_true_eq]
  show [a] < [b] ↔ a < b
  constructor
  · intro h
    cases h with
    | rel h => exact h
    | cons h => cases h
  · exact fun h => .rel h
theorem a_sign : (("a" : Str)) = ⟨#[97]⟩ := by decide +kernel
theorem z_sign : (("z" : Str)) = ⟨#[122]⟩ := by decide +kernel
def lowT : T → Bool
  | .str s => (match s.cps.toList with | [c] => lowC c | _ => false)
  | _ => false
theorem lowT_sign (c : Nat) : lowT (.str ⟨#[c]⟩) = lowC c := rfl
theorem signs_mem {z : Str} {t : T} (h : t ∈ signsT z) : ∃ c, c ∈ z.cps.toList ∧ t = .str ⟨#[c]⟩ := by
  unfold signsT at h
  obtain ⟨c, hc, e⟩ := List.mem_map.mp h
  exact ⟨c, hc, e.symm⟩
theorem signs_all (z : Str) : ((signsT z).map lowT).all id = z.cps.toList.all lowC := by
  unfold signsT
  rw [List.map_map]
  induction z.cps.toList with
  | nil => rfl
  | cons c r ih => rw [List.map_cons, List.all_cons, List.all_cons, ih]; rfl
theorem signs_none (z : Str) : (((signsT z).filter fun t => !lowT t) = []) ↔ z.cps.toList.all lowC = true := by
  unfold signsT
  induction z.cps.toList with
  | nil => simp
  | cons c r ih =>
    rw [List.map_cons, List.all_cons]
    cases h : lowC c with
    | true =>
      rw [List.filter_cons_of_neg (by rw [lowT_sign, h]; decide), Bool.true_and]
      exact ih
    | false =>
      rw [List.filter_cons_of_pos (by rw [lowT_sign, h]; rfl), Bool.false_and]
      simp
/-! ### values -/
def valueT : T → Bool
  | .non => true
  | .int i => decide (-1000000000000 ≤ i) && decide (i ≤ 1000000000000)
  | t => nameT t
def kindT : T → Str
  | .non => "nothing" | .str _ => "word" | _ => "number"
/-- nothing, a number, a word -/
def Flat3 (t : T) : Prop := t = .non ∨ (∃ i : Int, t = .int i) ∨ ∃ z, t = .str z ∧ z.length ≤ 3000 ∧ Low z
def beforeT : T → T → Bool
  | .non, .non => false | .non, _ => true | _, .non => false
  | .int i, .int j => decide (i < j) | .int _, .str _ => true | .str _, .int _ => false
  | .str a, .str b => ltS a b
  | _, _ => false
theorem Flat3.dat {t : T} (h : Flat3 t) : Dat t := by
  rcases h with rfl | ⟨i, rfl⟩ | ⟨z, rfl, _⟩ <;> rfl
theorem kd_nn : decide (("nothing" : Str) = "number") = false := by decide +kernel
theorem kd_nw : decide (("nothing" : Str) = "word") = false := by decide +kernel
theorem kd_un : decide (("number" : Str) = "nothing") = false := by decide +kernel
theorem kd_uw : decide (("number" : Str) = "word") = false := by decide +kernel
theorem kd_wn : decide (("word" : Str) = "nothing") = false := by decide +kernel
theorem kd_wu : decide (("word" : Str) = "number") = false := by decide +kernel
def kindsD : List PyData := [.tuple [.str "nothing", .str "number"], .tuple [.str "nothing", .str "word"], .tuple [.str "number", .str "word"]]
theorem kindsD_py : (T.tup [T.tup [T.str "nothing", T.str "number"], T.tup [T.str "nothing", T.str "word"], T.tup [T.str "number", T.str "word"]]).py = some (.tuple kindsD) := by
  simp [T.py, T.pys, kindsD]
theorem pair_py (a b : Str) : (T.tup [T.str a, T.str b]).py = some (.tuple [.str a, .str b]) := by simp [T.py, T.pys]
theorem kindsD_sh : SeqAt.shaped (.list kindsD) = true := by decide +kernel
theorem kin (a b : Str) (r : Bool) (h : (SeqAt.shaped (.tuple [.str a, .str b]) && (kindsD.any (fun z => PyData.eqv z (.tuple [.str a, .str b])) == r)) = true) {Q : QE} {M : Mp} (q : Q (.bl r) M) :
    oInD false (T.tup [T.str a, T.str b]) (T.tup [T.tup [T.str "nothing", T.str "number"], T.tup [T.str "nothing", T.str "word"], T.tup [T.str "number", T.str "word"]]) Q M := by
  rw [Bool.and_eq_true] at h
  unfold oInD look
  dsimp only
  rw [pair_py, kindsD_py]
  refine ⟨h.1, kindsD_sh, ?_⟩
  rw [if_neg Bool.false_ne_true, beq_iff_eq.mp h.2]
  exact q

def spIsName : Sp3 := fun ts M Q => ∃ t, ts = [t] ∧ Dat t ∧ (∀ z, t = .str z → z.length ≤ sizeLine) ∧ Q (.bl (nameT t)) M
theorem kitB_str : kitB "str" "str" = some true := by decide +kernel
theorem ok_is_name (E : Fns K mg) : FnD P w K mg base 1 E.f_is_name E.fd_is_name ["thing"] spIsName := by
  have nd := sc_is_name.nd
  refine okD E.F_is_name sc_is_name ?len fun cdv A outer s H X hr hgd => ⟨_, (dss_cons (ds_if (PW.pt (dw_or (dt_not (dt_val (d_isi (by rfl) E.m_isinstance (da_cons (d_var 0) (da_cons (d_bltn (v := .ty "str") (u := .type "str") (by rfl) E.m_str (by decide +kernel) rfl) da_nil))))) (dw_or1 (dt_not (dt_lele d_int (d_len (by rfl) E.m_len (da_cons (d_var 0) da_nil)) (d_gc (by rfl) E.c_MOST_LETTERS))))))
  (dss_one (ds_ret d_bl))
  dss_nil)
  (dss_one (ds_ret (d_all rfl (by rfl) E.m_all (da_cons (d_comp [("letter", 1)] fin_L rfl nd (di_str (d_var 0)) (by kernel_rfl)
  (fun _ _ _ _ _ => (dg_nm 1 nd rfl (by first | exact Or.inl rfl | exact Or.inr rfl))) (fun _ _ _ _ _ => dts_nil) (fun _ _ _ _ _ => (d_inS (d_var 1) (d_gc (by rfl) E.c_LETTERS) (by rfl)))) da_nil))))), ?_⟩
  case len =>
    rintro ts M Q ⟨t, rfl, _⟩
    rfl
  · rintro ts M Q ⟨t, rfl, hd, hz, q⟩
    cases t with
    | str z =>
      have z0 := hz z rfl
      simp only [sSeq, sPar, sPut, sIf, sSet, sDrop, sRet, sRetN, sNext, dOp2, dOp1, dVar, dC, dB, dTup, dLst, dLstM, dNil, dCons, dSl, doNone, doSome, dCall, dLm, dLm0, dSm, dAnd, dOr, dNot, dAndV, dOrV, dIf, dChain, dFn, dFn0, dYes, dDisp, dDispM, dPairs, keysT, dNewD, dNewDM,
 oAdd, oSub, oMul, oFdiv, oMod, oPow, oInt2, oNeg, oIx, oSl, oRev, oRevM, oEqB, scalT, oLt, oLe, oGt, oGe, oOrd, oIsN, isNon, oNotB, oDGet, oDIn, oIn, oInS, mAppend, mPop, mJoin, isL, isS, fLen, fIsi, fAbs, fList, fListM, fTuple, fInt, fRepr, fBls, seqOf, tyT,
 look, keyT, Pat.set, start3, pick, List.getElem?_cons_zero, List.getElem?_cons_succ, List.set_cons_zero, List.set_cons_succ, List.map_cons, List.map_nil, List.length_cons, List.length_nil, List.nil_append, List.cons_append, List.replicate_succ, List.replicate_zero, Nat.reduceSub, Nat.reduceAdd, flatOf, kit_NoneType_str, kit_bool_str, kit_int_str, kit_str_str, kit_tuple_str, kit_list_str, kit_dict_str, kit_NoneType_int, kit_bool_int, kit_int_int, kit_str_int, kit_tuple_int, kit_list_int, kit_dict_int, kit_NoneType_bool, kit_bool_bool, kit_int_bool, kit_str_bool, kit_tuple_bool, kit_list_bool, kit_dict_bool, kit_NoneType_tuple, kit_bool_tuple, kit_int_tuple, kit_str_tuple, kit_tuple_tuple, kit_list_tuple, kit_dict_tuple, kit_NoneType_list, kit_bool_list, kit_int_list, kit_str_list, kit_tuple_list, kit_list_list, kit_dict_list, kit_NoneType_dict, kit_bool_dict, kit_int_dict, kit_str_dict, kit_tuple_dict, kit_list_dict, kit_dict_dict, Bool.false_eq_true, if_false, if_true, reduceIte, true_and, sz_0, sz_1, sz_2, sz_3, sz_4, sz_5, sz_6, sz_7, sz_8, sz_9, sz_10, sz_11, sz_12, sz_13, sz_14, sz_15, sz_16, sz_17, sz_18, sz_19, sz_20, sz_21, sz_22, sz_23, sz_24, sz_25, sz_26, sz_27, sz_28, sz_29, sz_30, sz_31, sz_32, sz_33, sz_34, sz_35, sz_36, sz_37, sz_38, sz_39, sz_40, sz_41, sz_42, sz_43, sz_44, sz_45, sz_46, sz_47, atI_c0, atI_c1, atI_c2, atI_c3, atI_c4, List.append_nil, List.filterMap_cons, List.filterMap_nil, and_self, z0, true_and, Bool.not_true]
      by_cases h1 : (1 : Int) ≤ z.length
      · by_cases h8 : (z.length : Int) ≤ 8
        · simp only [decide_eq_true h1, decide_eq_true h8, Bool.not_true, dComp, iS, dVar, List.getElem?_cons_zero]
          refine compL_map (f := fun t => .bl (lowT t)) (keep := fun _ => true) trivial (fun t ht => ?_) (by rw [signs_len, List.length_nil]; omega) ?_
          · obtain ⟨c, hc, rfl⟩ := signs_mem ht
            refine ⟨_, rfl, fun R h => h, fun _ R h => ?_⟩
            simp only [sSeq, sPar, sPut, sIf, sSet, sDrop, sRet, sRetN, sNext, dOp2, dOp1, dVar, dC, dB, dTup, dLst, dLstM, dNil, dCons, dSl, doNone, doSome, dCall, dLm, dLm0, dSm, dAnd, dOr, dNot, dAndV, dOrV, dIf, dChain, dFn, dFn0, dYes, dDisp, dDispM, dPairs, keysT, dNewD, dNewDM,
 oAdd, oSub, oMul, oFdiv, oMod, oPow, oInt2, oNeg, oIx, oSl, oRev, oRevM, oEqB, scalT, oLt, oLe, oGt, oGe, oOrd, oIsN, isNon, oNotB, oDGet, oDIn, oIn, oInS, mAppend, mPop, mJoin, isL, isS, fLen, fIsi, fAbs, fList, fListM, fTuple, fInt, fRepr, fBls, seqOf, tyT,
 look, keyT, Pat.set, start3, pick, List.getElem?_cons_zero, List.getElem?_cons_succ, List.set_cons_zero, List.set_cons_succ, List.map_cons, List.map_nil, List.length_cons, List.length_nil, List.nil_append, List.cons_append, List.replicate_succ, List.replicate_zero, Nat.reduceSub, Nat.reduceAdd, flatOf, kit_NoneType_str, kit_bool_str, kit_int_str, kit_str_str, kit_tuple_str, kit_list_str, kit_dict_str, kit_NoneType_int, kit_bool_int, kit_int_int, kit_str_int, kit_tuple_int, kit_list_int, kit_dict_int, kit_NoneType_bool, kit_bool_bool, kit_int_bool, kit_str_bool, kit_tuple_bool, kit_list_bool, kit_dict_bool, kit_NoneType_tuple, kit_bool_tuple, kit_int_tuple, kit_str_tuple, kit_tuple_tuple, kit_list_tuple, kit_dict_tuple, kit_NoneType_list, kit_bool_list, kit_int_list, kit_str_list, kit_tuple_list, kit_list_list, kit_dict_list, kit_NoneType_dict, kit_bool_dict, kit_int_dict, kit_str_dict, kit_tuple_dict, kit_list_dict, kit_dict_dict, Bool.false_eq_true, if_false, if_true, reduceIte, true_and, sz_0, sz_1, sz_2, sz_3, sz_4, sz_5, sz_6, sz_7, sz_8, sz_9, sz_10, sz_11, sz_12, sz_13, sz_14, sz_15, sz_16, sz_17, sz_18, sz_19, sz_20, sz_21, sz_22, sz_23, sz_24, sz_25, sz_26, sz_27, sz_28, sz_29, sz_30, sz_31, sz_32, sz_33, sz_34, sz_35, sz_36, sz_37, sz_38, sz_39, sz_40, sz_41, sz_42, sz_43, sz_44, sz_45, sz_46, sz_47, atI_c0, atI_c1, atI_c2, atI_c3, atI_c4, List.append_nil, List.filterMap_cons, List.filterMap_nil, and_self, wipe3, in_letters, if_false]
            exact h
          · simp only [finL, sSeq, sPar, sPut, sIf, sSet, sDrop, sRet, sRetN, sNext, dOp2, dOp1, dVar, dC, dB, dTup, dLst, dLstM, dNil, dCons, dSl, doNone, doSome, dCall, dLm, dLm0, dSm, dAnd, dOr, dNot, dAndV, dOrV, dIf, dChain, dFn, dFn0, dYes, dDisp, dDispM, dPairs, keysT, dNewD, dNewDM,
 oAdd, oSub, oMul, oFdiv, oMod, oPow, oInt2, oNeg, oIx, oSl, oRev, oRevM, oEqB, scalT, oLt, oLe, oGt, oGe, oOrd, oIsN, isNon, oNotB, oDGet, oDIn, oIn, oInS, mAppend, mPop, mJoin, isL, isS, fLen, fIsi, fAbs, fList, fListM, fTuple, fInt, fRepr, fBls, seqOf, tyT,
 look, keyT, Pat.set, start3, pick, List.getElem?_cons_zero, List.getElem?_cons_succ, List.set_cons_zero, List.set_cons_succ, List.map_cons, List.map_nil, List.length_cons, List.length_nil, List.nil_append, List.cons_append, List.replicate_succ, List.replicate_zero, Nat.reduceSub, Nat.reduceAdd, flatOf, kit_NoneType_str, kit_bool_str, kit_int_str, kit_str_str, kit_tuple_str, kit_list_str, kit_dict_str, kit_NoneType_int, kit_bool_int, kit_int_int, kit_str_int, kit_tuple_int, kit_list_int, kit_dict_int, kit_NoneType_bool, kit_bool_bool, kit_int_bool, kit_str_bool, kit_tuple_bool, kit_list_bool, kit_dict_bool, kit_NoneType_tuple, kit_bool_tuple, kit_int_tuple, kit_str_tuple, kit_tuple_tuple, kit_list_tuple, kit_dict_tuple, kit_NoneType_list, kit_bool_list, kit_int_list, kit_str_list, kit_tuple_list, kit_list_list, kit_dict_list, kit_NoneType_dict, kit_bool_dict, kit_int_dict, kit_str_dict, kit_tuple_dict, kit_list_dict, kit_dict_dict, Bool.false_eq_true, if_false, if_true, reduceIte, true_and, sz_0, sz_1, sz_2, sz_3, sz_4, sz_5, sz_6, sz_7, sz_8, sz_9, sz_10, sz_11, sz_12, sz_13, sz_14, sz_15, sz_16, sz_17, sz_18, sz_19, sz_20, sz_21, sz_22, sz_23, sz_24, sz_25, sz_26, sz_27, sz_28, sz_29, sz_30, sz_31, sz_32, sz_33, sz_34, sz_35, sz_36, sz_37, sz_38, sz_39, sz_40, sz_41, sz_42, sz_43, sz_44, sz_45, sz_46, sz_47, atI_c0, atI_c1, atI_c2, atI_c3, atI_c4, List.append_nil, List.filterMap_cons, List.filterMap_nil, and_self, filter_tt, bls_map', signs_all]
            have e : nameT (.str z) = z.cps.toList.all lowC := by
              show (decide (1 ≤ z.length) && decide (z.length ≤ 8) && z.cps.toList.all lowC) = _
              rw [decide_eq_true (by omega), decide_eq_true (by omega)]
              rfl
            rw [← e]
            exact q
        · simp only [decide_eq_true h1, decide_eq_false h8, Bool.not_false]
          have e : nameT (.str z) = false := by
            show (decide (1 ≤ z.length) && decide (z.length ≤ 8) && z.cps.toList.all lowC) = _
            rw [decide_eq_false (show ¬ z.length ≤ 8 by omega), Bool.and_false, Bool.false_and]
          rw [← e]
          exact q
      · simp only [decide_eq_false h1, Bool.not_false]
        have e : nameT (.str z) = false := by
          show (decide (1 ≤ z.length) && decide (z.length ≤ 8) && z.cps.toList.all lowC) = _
          rw [decide_eq_false (show ¬ 1 ≤ z.length by omega), Bool.false_and, Bool.false_and]
        rw [← e]
        exact q
    | raw v => cases hd
    | _ =>
      simp only [sSeq, sPar, sPut, sIf, sSet, sDrop, sRet, sRetN, sNext, dOp2, dOp1, dVar, dC, dB, dTup, dLst, dLstM, dNil, dCons, dSl, doNone, doSome, dCall, dLm, dLm0, dSm, dAnd, dOr, dNot, dAndV, dOrV, dIf, dChain, dFn, dFn0, dYes, dDisp, dDispM, dPairs, keysT, dNewD, dNewDM,
 oAdd, oSub, oMul, oFdiv, oMod, oPow, oInt2, oNeg, oIx, oSl, oRev, oRevM, oEqB, scalT, oLt, oLe, oGt, oGe, oOrd, oIsN, isNon, oNotB, oDGet, oDIn, oIn, oInS, mAppend, mPop, mJoin, isL, isS, fLen, fIsi, fAbs, fList, fListM, fTuple, fInt, fRepr, fBls, seqOf, tyT,
 look, keyT, Pat.set, start3, pick, List.getElem?_cons_zero, List.getElem?_cons_succ, List.set_cons_zero, List.set_cons_succ, List.map_cons, List.map_nil, List.length_cons, List.length_nil, List.nil_append, List.cons_append, List.replicate_succ, List.replicate_zero, Nat.reduceSub, Nat.reduceAdd, flatOf, kit_NoneType_str, kit_bool_str, kit_int_str, kit_str_str, kit_tuple_str, kit_list_str, kit_dict_str, kit_NoneType_int, kit_bool_int, kit_int_int, kit_str_int, kit_tuple_int, kit_list_int, kit_dict_int, kit_NoneType_bool, kit_bool_bool, kit_int_bool, kit_str_bool, kit_tuple_bool, kit_list_bool, kit_dict_bool, kit_NoneType_tuple, kit_bool_tuple, kit_int_tuple, kit_str_tuple, kit_tuple_tuple, kit_list_tuple, kit_dict_tuple, kit_NoneType_list, kit_bool_list, kit_int_list, kit_str_list, kit_tuple_list, kit_list_list, kit_dict_list, kit_NoneType_dict, kit_bool_dict, kit_int_dict, kit_str_dict, kit_tuple_dict, kit_list_dict, kit_dict_dict, Bool.false_eq_true, if_false, if_true, reduceIte, true_and, sz_0, sz_1, sz_2, sz_3, sz_4, sz_5, sz_6, sz_7, sz_8, sz_9, sz_10, sz_11, sz_12, sz_13, sz_14, sz_15, sz_16, sz_17, sz_18, sz_19, sz_20, sz_21, sz_22, sz_23, sz_24, sz_25, sz_26, sz_27, sz_28, sz_29, sz_30, sz_31, sz_32, sz_33, sz_34, sz_35, sz_36, sz_37, sz_38, sz_39, sz_40, sz_41, sz_42, sz_43, sz_44, sz_45, sz_46, sz_47, atI_c0, atI_c1, atI_c2, atI_c3, atI_c4, List.append_nil, List.filterMap_cons, List.filterMap_nil, and_self, Bool.not_false]
      exact q


def spIsValue : Sp3 := fun ts M Q => ∃ t, ts = [t] ∧ Dat t ∧ (∀ z, t = .str z → z.length ≤ sizeLine) ∧ Q (.bl (valueT t)) M
def spKind : Sp3 := fun ts M Q => ∃ t, ts = [t] ∧ Flat3 t ∧ Q (.str (kindT t)) M
def spBefore : Sp3 := fun ts M Q => ∃ t u, ts = [t, u] ∧ Flat3 t ∧ Flat3 u ∧ Q (.bl (beforeT t u)) M
theorem ok_is_value (E : Fns K mg) (G_is_name : FnD P w K mg base 1 E.f_is_name E.fd_is_name ["thing"] spIsName) : FnD P w K mg base 2 E.f_is_value E.fd_is_value ["thing"] spIsValue := by
  have nd := sc_is_value.nd
  refine okD E.F_is_value sc_is_value ?len fun cdv A outer s H X hr hgd => ⟨_, (dss_cons (ds_if (dt_isN (d_var 0))
  (dss_one (ds_ret d_bl))
  dss_nil)
  (dss_cons (ds_if (PW.pt (dw_or (dt_val (d_isi (by rfl) E.m_isinstance (da_cons (d_var 0) (da_cons (d_bltn (v := .ty "bool") (u := .type "bool") (by rfl) E.m_bool (by decide +kernel) rfl) da_nil)))) (dw_or1 (dt_not (dt_val (d_isi (by rfl) E.m_isinstance (da_cons (d_var 0) (da_cons (d_bltn (v := .ty "int") (u := .type "int") (by rfl) E.m_int (by decide +kernel) rfl) da_nil))))))))
  (dss_one (ds_ret (d_fn G_is_name (hr.mono (by decide)) hgd (by rfl) E.g_is_name E.F_is_name.kp (kb_is_name_1 E) (da_cons (d_var 0) da_nil) dk_nil)))
  dss_nil)
  (dss_one (ds_ret (d_lele (d_neg (d_gc (by rfl) E.c_RANGE)) (d_var 0) (d_gc (by rfl) E.c_RANGE)))))), ?_⟩
  case len =>
    rintro ts M Q ⟨t, rfl, _⟩
    rfl
  · rintro ts M Q ⟨t, rfl, hd, hz, q⟩
    have nm : nameT t = valueT t → dFn spIsName 1 0 [0] [] (dCons (dVar 0) dNil) dNil [some t] M Q := fun e => by
      simp only [sSeq, sPar, sPut, sIf, sSet, sDrop, sRet, sRetN, sNext, dOp2, dOp1, dVar, dC, dB, dTup, dLst, dLstM, dNil, dCons, dSl, doNone, doSome, dCall, dLm, dLm0, dSm, dAnd, dOr, dNot, dAndV, dOrV, dIf, dChain, dFn, dFn0, dYes, dDisp, dDispM, dPairs, keysT, dNewD, dNewDM,
 oAdd, oSub, oMul, oFdiv, oMod, oPow, oInt2, oNeg, oIx, oSl, oRev, oRevM, oEqB, scalT, oLt, oLe, oGt, oGe, oOrd, oIsN, isNon, oNotB, oDGet, oDIn, oIn, oInS, mAppend, mPop, mJoin, isL, isS, fLen, fIsi, fAbs, fList, fListM, fTuple, fInt, fRepr, fBls, seqOf, tyT,
 look, keyT, Pat.set, start3, pick, List.getElem?_cons_zero, List.getElem?_cons_succ, List.set_cons_zero, List.set_cons_succ, List.map_cons, List.map_nil, List.length_cons, List.length_nil, List.nil_append, List.cons_append, List.replicate_succ, List.replicate_zero, Nat.reduceSub, Nat.reduceAdd, flatOf, kit_NoneType_str, kit_bool_str, kit_int_str, kit_str_str, kit_tuple_str, kit_list_str, kit_dict_str, kit_NoneType_int, kit_bool_int, kit_int_int, kit_str_int, kit_tuple_int, kit_list_int, kit_dict_int, kit_NoneType_bool, kit_bool_bool, kit_int_bool, kit_str_bool, kit_tuple_bool, kit_list_bool, kit_dict_bool, kit_NoneType_tuple, kit_bool_tuple, kit_int_tuple, kit_str_tuple, kit_tuple_tuple, kit_list_tuple, kit_dict_tuple, kit_NoneType_list, kit_bool_list, kit_int_list, kit_str_list, kit_tuple_list, kit_list_list, kit_dict_list, kit_NoneType_dict, kit_bool_dict, kit_int_dict, kit_str_dict, kit_tuple_dict, kit_list_dict, kit_dict_dict, Bool.false_eq_true, if_false, if_true, reduceIte, true_and, sz_0, sz_1, sz_2, sz_3, sz_4, sz_5, sz_6, sz_7, sz_8, sz_9, sz_10, sz_11, sz_12, sz_13, sz_14, sz_15, sz_16, sz_17, sz_18, sz_19, sz_20, sz_21, sz_22, sz_23, sz_24, sz_25, sz_26, sz_27, sz_28, sz_29, sz_30, sz_31, sz_32, sz_33, sz_34, sz_35, sz_36, sz_37, sz_38, sz_39, sz_40, sz_41, sz_42, sz_43, sz_44, sz_45, sz_46, sz_47, atI_c0, atI_c1, atI_c2, atI_c3, atI_c4, List.append_nil, List.filterMap_cons, List.filterMap_nil, and_self, List.length_append, List.append_nil, List.filterMap_cons, List.filterMap_nil, and_self, if_true]
      refine ⟨t, rfl, hd, hz, ?_⟩
      rw [e]
      exact q
    cases t with
    | non =>
      simp only [sSeq, sPar, sPut, sIf, sSet, sDrop, sRet, sRetN, sNext, dOp2, dOp1, dVar, dC, dB, dTup, dLst, dLstM, dNil, dCons, dSl, doNone, doSome, dCall, dLm, dLm0, dSm, dAnd, dOr, dNot, dAndV, dOrV, dIf, dChain, dFn, dFn0, dYes, dDisp, dDispM, dPairs, keysT, dNewD, dNewDM,
 oAdd, oSub, oMul, oFdiv, oMod, oPow, oInt2, oNeg, oIx, oSl, oRev, oRevM, oEqB, scalT, oLt, oLe, oGt, oGe, oOrd, oIsN, isNon, oNotB, oDGet, oDIn, oIn, oInS, mAppend, mPop, mJoin, isL, isS, fLen, fIsi, fAbs, fList, fListM, fTuple, fInt, fRepr, fBls, seqOf, tyT,
 look, keyT, Pat.set, start3, pick, List.getElem?_cons_zero, List.getElem?_cons_succ, List.set_cons_zero, List.set_cons_succ, List.map_cons, List.map_nil, List.length_cons, List.length_nil, List.nil_append, List.cons_append, List.replicate_succ, List.replicate_zero, Nat.reduceSub, Nat.reduceAdd, flatOf, kit_NoneType_str, kit_bool_str, kit_int_str, kit_str_str, kit_tuple_str, kit_list_str, kit_dict_str, kit_NoneType_int, kit_bool_int, kit_int_int, kit_str_int, kit_tuple_int, kit_list_int, kit_dict_int, kit_NoneType_bool, kit_bool_bool, kit_int_bool, kit_str_bool, kit_tuple_bool, kit_list_bool, kit_dict_bool, kit_NoneType_tuple, kit_bool_tuple, kit_int_tuple, kit_str_tuple, kit_tuple_tuple, kit_list_tuple, kit_dict_tuple, kit_NoneType_list, kit_bool_list, kit_int_list, kit_str_list, kit_tuple_list, kit_list_list, kit_dict_list, kit_NoneType_dict, kit_bool_dict, kit_int_dict, kit_str_dict, kit_tuple_dict, kit_list_dict, kit_dict_dict, Bool.false_eq_true, if_false, if_true, reduceIte, true_and, sz_0, sz_1, sz_2, sz_3, sz_4, sz_5, sz_6, sz_7, sz_8, sz_9, sz_10, sz_11, sz_12, sz_13, sz_14, sz_15, sz_16, sz_17, sz_18, sz_19, sz_20, sz_21, sz_22, sz_23, sz_24, sz_25, sz_26, sz_27, sz_28, sz_29, sz_30, sz_31, sz_32, sz_33, sz_34, sz_35, sz_36, sz_37, sz_38, sz_39, sz_40, sz_41, sz_42, sz_43, sz_44, sz_45, sz_46, sz_47, atI_c0, atI_c1, atI_c2, atI_c3, atI_c4, List.append_nil, List.filterMap_cons, List.filterMap_nil, and_self]
      exact q
    | raw v => cases hd
    | int i =>
      clear nm
      simp only [sSeq, sPar, sPut, sIf, sSet, sDrop, sRet, sRetN, sNext, dOp2, dOp1, dVar, dC, dB, dTup, dLst, dLstM, dNil, dCons, dSl, doNone, doSome, dCall, dLm, dLm0, dSm, dAnd, dOr, dNot, dAndV, dOrV, dIf, dChain, dFn, dFn0, dYes, dDisp, dDispM, dPairs, keysT, dNewD, dNewDM,
 oAdd, oSub, oMul, oFdiv, oMod, oPow, oInt2, oNeg, oIx, oSl, oRev, oRevM, oEqB, scalT, oLt, oLe, oGt, oGe, oOrd, oIsN, isNon, oNotB, oDGet, oDIn, oIn, oInS, mAppend, mPop, mJoin, isL, isS, fLen, fIsi, fAbs, fList, fListM, fTuple, fInt, fRepr, fBls, seqOf, tyT,
 look, keyT, Pat.set, start3, pick, List.getElem?_cons_zero, List.getElem?_cons_succ, List.set_cons_zero, List.set_cons_succ, List.map_cons, List.map_nil, List.length_cons, List.length_nil, List.nil_append, List.cons_append, List.replicate_succ, List.replicate_zero, Nat.reduceSub, Nat.reduceAdd, flatOf, kit_NoneType_str, kit_bool_str, kit_int_str, kit_str_str, kit_tuple_str, kit_list_str, kit_dict_str, kit_NoneType_int, kit_bool_int, kit_int_int, kit_str_int, kit_tuple_int, kit_list_int, kit_dict_int, kit_NoneType_bool, kit_bool_bool, kit_int_bool, kit_str_bool, kit_tuple_bool, kit_list_bool, kit_dict_bool, kit_NoneType_tuple, kit_bool_tuple, kit_int_tuple, kit_str_tuple, kit_tuple_tuple, kit_list_tuple, kit_dict_tuple, kit_NoneType_list, kit_bool_list, kit_int_list, kit_str_list, kit_tuple_list, kit_list_list, kit_dict_list, kit_NoneType_dict, kit_bool_dict, kit_int_dict, kit_str_dict, kit_tuple_dict, kit_list_dict, kit_dict_dict, Bool.false_eq_true, if_false, if_true, reduceIte, true_and, sz_0, sz_1, sz_2, sz_3, sz_4, sz_5, sz_6, sz_7, sz_8, sz_9, sz_10, sz_11, sz_12, sz_13, sz_14, sz_15, sz_16, sz_17, sz_18, sz_19, sz_20, sz_21, sz_22, sz_23, sz_24, sz_25, sz_26, sz_27, sz_28, sz_29, sz_30, sz_31, sz_32, sz_33, sz_34, sz_35, sz_36, sz_37, sz_38, sz_39, sz_40, sz_41, sz_42, sz_43, sz_44, sz_45, sz_46, sz_47, atI_c0, atI_c1, atI_c2, atI_c3, atI_c4, List.append_nil, List.filterMap_cons, List.filterMap_nil, and_self, Bool.not_true]
      by_cases h1 : -1000000000000 ≤ i
      · simp only [decide_eq_true h1]
        have e : valueT (.int i) = decide (i ≤ 1000000000000) := by
          show (decide (-1000000000000 ≤ i) && decide (i ≤ 1000000000000)) = _
          rw [decide_eq_true h1, Bool.true_and]
        exact e ▸ q
      · simp only [decide_eq_false h1]
        have e : valueT (.int i) = false := by
          show (decide (-1000000000000 ≤ i) && decide (i ≤ 1000000000000)) = _
          rw [decide_eq_false h1, Bool.false_and]
        exact e ▸ q
    | _ =>
      have nm' := nm rfl
      clear nm
      simp only [sSeq, sPar, sPut, sIf, sSet, sDrop, sRet, sRetN, sNext, dOp2, dOp1, dVar, dC, dB, dTup, dLst, dLstM, dNil, dCons, dSl, doNone, doSome, dCall, dLm, dLm0, dSm, dAnd, dOr, dNot, dAndV, dOrV, dIf, dChain, dFn0, dYes, dDisp, dDispM, dPairs, keysT, dNewD, dNewDM,
 oAdd, oSub, oMul, oFdiv, oMod, oPow, oInt2, oNeg, oIx, oSl, oRev, oRevM, oEqB, scalT, oLt, oLe, oGt, oGe, oOrd, oIsN, isNon, oNotB, oDGet, oDIn, oIn, oInS, mAppend, mPop, mJoin, isL, isS, fLen, fIsi, fAbs, fList, fListM, fTuple, fInt, fRepr, fBls, seqOf, tyT,
 look, keyT, Pat.set, start3, pick, List.getElem?_cons_zero, List.getElem?_cons_succ, List.set_cons_zero, List.set_cons_succ, List.map_cons, List.map_nil, List.length_cons, List.length_nil, List.nil_append, List.cons_append, List.replicate_succ, List.replicate_zero, Nat.reduceSub, Nat.reduceAdd, flatOf, kit_NoneType_str, kit_bool_str, kit_int_str, kit_str_str, kit_tuple_str, kit_list_str, kit_dict_str, kit_NoneType_int, kit_bool_int, kit_int_int, kit_str_int, kit_tuple_int, kit_list_int, kit_dict_int, kit_NoneType_bool, kit_bool_bool, kit_int_bool, kit_str_bool, kit_tuple_bool, kit_list_bool, kit_dict_bool, kit_NoneType_tuple, kit_bool_tuple, kit_int_tuple, kit_str_tuple, kit_tuple_tuple, kit_list_tuple, kit_dict_tuple, kit_NoneType_list, kit_bool_list, kit_int_list, kit_str_list, kit_tuple_list, kit_list_list, kit_dict_list, kit_NoneType_dict, kit_bool_dict, kit_int_dict, kit_str_dict, kit_tuple_dict, kit_list_dict, kit_dict_dict, Bool.false_eq_true, if_false, if_true, reduceIte, true_and, sz_0, sz_1, sz_2, sz_3, sz_4, sz_5, sz_6, sz_7, sz_8, sz_9, sz_10, sz_11, sz_12, sz_13, sz_14, sz_15, sz_16, sz_17, sz_18, sz_19, sz_20, sz_21, sz_22, sz_23, sz_24, sz_25, sz_26, sz_27, sz_28, sz_29, sz_30, sz_31, sz_32, sz_33, sz_34, sz_35, sz_36, sz_37, sz_38, sz_39, sz_40, sz_41, sz_42, sz_43, sz_44, sz_45, sz_46, sz_47, atI_c0, atI_c1, atI_c2, atI_c3, atI_c4, List.append_nil, List.filterMap_cons, List.filterMap_nil, and_self, Bool.not_false]
      exact nm'

theorem ok_kind_of (E : Fns K mg) : FnD P w K mg base 1 E.f_kind_of E.fd_kind_of ["value"] spKind := by
  have nd := sc_kind_of.nd
  refine okD E.F_kind_of sc_kind_of ?len fun cdv A outer s H X hr hgd => ⟨_, (dss_cons (ds_if (dt_isN (d_var 0))
  (dss_one (ds_ret (d_gc (by rfl) E.c_NOTHING)))
  dss_nil)
  (dss_one (ds_ret (d_ifExp (dt_val (d_isi (by rfl) E.m_isinstance (da_cons (d_var 0) (da_cons (d_bltn (v := .ty "str") (u := .type "str") (by rfl) E.m_str (by decide +kernel) rfl) da_nil)))) (d_gc (by rfl) E.c_WORD) (d_gc (by rfl) E.c_NUMBER))))), ?_⟩
  case len =>
    rintro ts M Q ⟨t, rfl, _⟩
    rfl
  · rintro ts M Q ⟨t, rfl, hd, q⟩
    rcases hd with rfl | ⟨i, rfl⟩ | ⟨z, rfl, hz, hl⟩
    · simp only [sSeq, sPar, sPut, sIf, sSet, sDrop, sRet, sRetN, sNext, dOp2, dOp1, dVar, dC, dB, dTup, dLst, dLstM, dNil, dCons, dSl, doNone, doSome, dCall, dLm, dLm0, dSm, dAnd, dOr, dNot, dAndV, dOrV, dIf, dChain, dFn, dFn0, dYes, dDisp, dDispM, dPairs, keysT, dNewD, dNewDM,
 oAdd, oSub, oMul, oFdiv, oMod, oPow, oInt2, oNeg, oIx, oSl, oRev, oRevM, oEqB, scalT, oLt, oLe, oGt, oGe, oOrd, oIsN, isNon, oNotB, oDGet, oDIn, oIn, oInS, mAppend, mPop, mJoin, isL, isS, fLen, fIsi, fAbs, fList, fListM, fTuple, fInt, fRepr, fBls, seqOf, tyT,
 look, keyT, Pat.set, start3, pick, List.getElem?_cons_zero, List.getElem?_cons_succ, List.set_cons_zero, List.set_cons_succ, List.map_cons, List.map_nil, List.length_cons, List.length_nil, List.nil_append, List.cons_append, List.replicate_succ, List.replicate_zero, Nat.reduceSub, Nat.reduceAdd, flatOf, kit_NoneType_str, kit_bool_str, kit_int_str, kit_str_str, kit_tuple_str, kit_list_str, kit_dict_str, kit_NoneType_int, kit_bool_int, kit_int_int, kit_str_int, kit_tuple_int, kit_list_int, kit_dict_int, kit_NoneType_bool, kit_bool_bool, kit_int_bool, kit_str_bool, kit_tuple_bool, kit_list_bool, kit_dict_bool, kit_NoneType_tuple, kit_bool_tuple, kit_int_tuple, kit_str_tuple, kit_tuple_tuple, kit_list_tuple, kit_dict_tuple, kit_NoneType_list, kit_bool_list, kit_int_list, kit_str_list, kit_tuple_list, kit_list_list, kit_dict_list, kit_NoneType_dict, kit_bool_dict, kit_int_dict, kit_str_dict, kit_tuple_dict, kit_list_dict, kit_dict_dict, Bool.false_eq_true, if_false, if_true, reduceIte, true_and, sz_0, sz_1, sz_2, sz_3, sz_4, sz_5, sz_6, sz_7, sz_8, sz_9, sz_10, sz_11, sz_12, sz_13, sz_14, sz_15, sz_16, sz_17, sz_18, sz_19, sz_20, sz_21, sz_22, sz_23, sz_24, sz_25, sz_26, sz_27, sz_28, sz_29, sz_30, sz_31, sz_32, sz_33, sz_34, sz_35, sz_36, sz_37, sz_38, sz_39, sz_40, sz_41, sz_42, sz_43, sz_44, sz_45, sz_46, sz_47, atI_c0, atI_c1, atI_c2, atI_c3, atI_c4, List.append_nil, List.filterMap_cons, List.filterMap_nil, and_self]
      exact q
    · simp only [sSeq, sPar, sPut, sIf, sSet, sDrop, sRet, sRetN, sNext, dOp2, dOp1, dVar, dC, dB, dTup, dLst, dLstM, dNil, dCons, dSl, doNone, doSome, dCall, dLm, dLm0, dSm, dAnd, dOr, dNot, dAndV, dOrV, dIf, dChain, dFn, dFn0, dYes, dDisp, dDispM, dPairs, keysT, dNewD, dNewDM,
 oAdd, oSub, oMul, oFdiv, oMod, oPow, oInt2, oNeg, oIx, oSl, oRev, oRevM, oEqB, scalT, oLt, oLe, oGt, oGe, oOrd, oIsN, isNon, oNotB, oDGet, oDIn, oIn, oInS, mAppend, mPop, mJoin, isL, isS, fLen, fIsi, fAbs, fList, fListM, fTuple, fInt, fRepr, fBls, seqOf, tyT,
 look, keyT, Pat.set, start3, pick, List.getElem?_cons_zero, List.getElem?_cons_succ, List.set_cons_zero, List.set_cons_succ, List.map_cons, List.map_nil, List.length_cons, List.length_nil, List.nil_append, List.cons_append, List.replicate_succ, List.replicate_zero, Nat.reduceSub, Nat.reduceAdd, flatOf, kit_NoneType_str, kit_bool_str, kit_int_str, kit_str_str, kit_tuple_str, kit_list_str, kit_dict_str, kit_NoneType_int, kit_bool_int, kit_int_int, kit_str_int, kit_tuple_int, kit_list_int, kit_dict_int, kit_NoneType_bool, kit_bool_bool, kit_int_bool, kit_str_bool, kit_tuple_bool, kit_list_bool, kit_dict_bool, kit_NoneType_tuple, kit_bool_tuple, kit_int_tuple, kit_str_tuple, kit_tuple_tuple, kit_list_tuple, kit_dict_tuple, kit_NoneType_list, kit_bool_list, kit_int_list, kit_str_list, kit_tuple_list, kit_list_list, kit_dict_list, kit_NoneType_dict, kit_bool_dict, kit_int_dict, kit_str_dict, kit_tuple_dict, kit_list_dict, kit_dict_dict, Bool.false_eq_true, if_false, if_true, reduceIte, true_and, sz_0, sz_1, sz_2, sz_3, sz_4, sz_5, sz_6, sz_7, sz_8, sz_9, sz_10, sz_11, sz_12, sz_13, sz_14, sz_15, sz_16, sz_17, sz_18, sz_19, sz_20, sz_21, sz_22, sz_23, sz_24, sz_25, sz_26, sz_27, sz_28, sz_29, sz_30, sz_31, sz_32, sz_33, sz_34, sz_35, sz_36, sz_37, sz_38, sz_39, sz_40, sz_41, sz_42, sz_43, sz_44, sz_45, sz_46, sz_47, atI_c0, atI_c1, atI_c2, atI_c3, atI_c4, List.append_nil, List.filterMap_cons, List.filterMap_nil, and_self]
      exact q
    · simp only [sSeq, sPar, sPut, sIf, sSet, sDrop, sRet, sRetN, sNext, dOp2, dOp1, dVar, dC, dB, dTup, dLst, dLstM, dNil, dCons, dSl, doNone, doSome, dCall, dLm, dLm0, dSm, dAnd, dOr, dNot, dAndV, dOrV, dIf, dChain, dFn, dFn0, dYes, dDisp, dDispM, dPairs, keysT, dNewD, dNewDM,
 oAdd, oSub, oMul, oFdiv, oMod, oPow, oInt2, oNeg, oIx, oSl, oRev, oRevM, oEqB, scalT, oLt, oLe, oGt, oGe, oOrd, oIsN, isNon, oNotB, oDGet, oDIn, oIn, oInS, mAppend, mPop, mJoin, isL, isS, fLen, fIsi, fAbs, fList, fListM, fTuple, fInt, fRepr, fBls, seqOf, tyT,
 look, keyT, Pat.set, start3, pick, List.getElem?_cons_zero, List.getElem?_cons_succ, List.set_cons_zero, List.set_cons_succ, List.map_cons, List.map_nil, List.length_cons, List.length_nil, List.nil_append, List.cons_append, List.replicate_succ, List.replicate_zero, Nat.reduceSub, Nat.reduceAdd, flatOf, kit_NoneType_str, kit_bool_str, kit_int_str, kit_str_str, kit_tuple_str, kit_list_str, kit_dict_str, kit_NoneType_int, kit_bool_int, kit_int_int, kit_str_int, kit_tuple_int, kit_list_int, kit_dict_int, kit_NoneType_bool, kit_bool_bool, kit_int_bool, kit_str_bool, kit_tuple_bool, kit_list_bool, kit_dict_bool, kit_NoneType_tuple, kit_bool_tuple, kit_int_tuple, kit_str_tuple, kit_tuple_tuple, kit_list_tuple, kit_dict_tuple, kit_NoneType_list, kit_bool_list, kit_int_list, kit_str_list, kit_tuple_list, kit_list_list, kit_dict_list, kit_NoneType_dict, kit_bool_dict, kit_int_dict, kit_str_dict, kit_tuple_dict, kit_list_dict, kit_dict_dict, Bool.false_eq_true, if_false, if_true, reduceIte, true_and, sz_0, sz_1, sz_2, sz_3, sz_4, sz_5, sz_6, sz_7, sz_8, sz_9, sz_10, sz_11, sz_12, sz_13, sz_14, sz_15, sz_16, sz_17, sz_18, sz_19, sz_20, sz_21, sz_22, sz_23, sz_24, sz_25, sz_26, sz_27, sz_28, sz_29, sz_30, sz_31, sz_32, sz_33, sz_34, sz_35, sz_36, sz_37, sz_38, sz_39, sz_40, sz_41, sz_42, sz_43, sz_44, sz_45, sz_46, sz_47, atI_c0, atI_c1, atI_c2, atI_c3, atI_c4, List.append_nil, List.filterMap_cons, List.filterMap_nil, and_self]
      exact q

theorem ok_is_before (E : Fns K mg) (G_kind_of : FnD P w K mg base 1 E.f_kind_of E.fd_kind_of ["value"] spKind) : FnD P w K mg base 2 E.f_is_before E.fd_is_before ["one", "other"] spBefore := by
  have nd := sc_is_before.nd
  refine okD E.F_is_before sc_is_before ?len fun cdv A outer s H X hr hgd => ⟨_, (dss_cons (ds_set 2 nd rfl (by first | exact Or.inl rfl | exact Or.inr rfl) (d_tup (da_cons (d_fn G_kind_of (hr.mono (by decide)) hgd (by rfl) E.g_kind_of E.F_kind_of.kp (kb_kind_of_1 E) (da_cons (d_var 0) da_nil) dk_nil) (da_cons (d_fn G_kind_of (hr.mono (by decide)) hgd (by rfl) E.g_kind_of E.F_kind_of.kp (kb_kind_of_1 E) (da_cons (d_var 1) da_nil) dk_nil) da_nil))))
  (dss_cons (ds_if (dt_ne hr.units (d_ix (d_var 2) d_int (fun _ _ => rfl)) (d_ix (d_var 2) d_int (fun _ _ => rfl)))
  (dss_one (ds_ret (d_inD (hu65 hr) (d_var 2) (d_tup (da_cons (d_tup (da_cons (d_gc (by rfl) E.c_NOTHING) (da_cons (d_gc (by rfl) E.c_NUMBER) da_nil))) (da_cons (d_tup (da_cons (d_gc (by rfl) E.c_NOTHING) (da_cons (d_gc (by rfl) E.c_WORD) da_nil))) (da_cons (d_tup (da_cons (d_gc (by rfl) E.c_NUMBER) (da_cons (d_gc (by rfl) E.c_WORD) da_nil))) da_nil)))) (by rfl))))
  dss_nil)
  (dss_one (ds_ret (d_and (d_notN (d_var 0)) (d_one (d_lt (d_var 0) (d_var 1)))))))), ?_⟩
  case len =>
    rintro ts M Q ⟨t, u, rfl, _⟩
    rfl
  · rintro ts M Q ⟨t, u, rfl, ht, hu, q⟩
    simp only [sSeq, sPar, sPut, sIf, sSet, sDrop, sRet, sRetN, sNext, dOp2, dOp1, dVar, dC, dB, dTup, dLst, dLstM, dNil, dCons, dSl, doNone, doSome, dCall, dLm, dLm0, dSm, dAnd, dOr, dNot, dAndV, dOrV, dIf, dChain, dFn, dFn0, dYes, dDisp, dDispM, dPairs, keysT, dNewD, dNewDM,
 oAdd, oSub, oMul, oFdiv, oMod, oPow, oInt2, oNeg, oIx, oSl, oRev, oRevM, oEqB, scalT, oLt, oLe, oGt, oGe, oOrd, oIsN, isNon, oNotB, oDGet, oDIn, oIn, oInS, mAppend, mPop, mJoin, isL, isS, fLen, fIsi, fAbs, fList, fListM, fTuple, fInt, fRepr, fBls, seqOf, tyT,
 look, keyT, Pat.set, start3, pick, List.getElem?_cons_zero, List.getElem?_cons_succ, List.set_cons_zero, List.set_cons_succ, List.map_cons, List.map_nil, List.length_cons, List.length_nil, List.nil_append, List.cons_append, List.replicate_succ, List.replicate_zero, Nat.reduceSub, Nat.reduceAdd, flatOf, kit_NoneType_str, kit_bool_str, kit_int_str, kit_str_str, kit_tuple_str, kit_list_str, kit_dict_str, kit_NoneType_int, kit_bool_int, kit_int_int, kit_str_int, kit_tuple_int, kit_list_int, kit_dict_int, kit_NoneType_bool, kit_bool_bool, kit_int_bool, kit_str_bool, kit_tuple_bool, kit_list_bool, kit_dict_bool, kit_NoneType_tuple, kit_bool_tuple, kit_int_tuple, kit_str_tuple, kit_tuple_tuple, kit_list_tuple, kit_dict_tuple, kit_NoneType_list, kit_bool_list, kit_int_list, kit_str_list, kit_tuple_list, kit_list_list, kit_dict_list, kit_NoneType_dict, kit_bool_dict, kit_int_dict, kit_str_dict, kit_tuple_dict, kit_list_dict, kit_dict_dict, Bool.false_eq_true, if_false, if_true, reduceIte, true_and, sz_0, sz_1, sz_2, sz_3, sz_4, sz_5, sz_6, sz_7, sz_8, sz_9, sz_10, sz_11, sz_12, sz_13, sz_14, sz_15, sz_16, sz_17, sz_18, sz_19, sz_20, sz_21, sz_22, sz_23, sz_24, sz_25, sz_26, sz_27, sz_28, sz_29, sz_30, sz_31, sz_32, sz_33, sz_34, sz_35, sz_36, sz_37, sz_38, sz_39, sz_40, sz_41, sz_42, sz_43, sz_44, sz_45, sz_46, sz_47, atI_c0, atI_c1, atI_c2, atI_c3, atI_c4, List.append_nil, List.filterMap_cons, List.filterMap_nil, and_self, List.append_nil, List.filterMap_cons, List.filterMap_nil, and_self, if_true]
    refine ⟨t, rfl, ht, ?_⟩
    simp only [sSeq, sPar, sPut, sIf, sSet, sDrop, sRet, sRetN, sNext, dOp2, dOp1, dVar, dC, dB, dTup, dLst, dLstM, dNil, dCons, dSl, doNone, doSome, dCall, dLm, dLm0, dSm, dAnd, dOr, dNot, dAndV, dOrV, dIf, dChain, dFn, dFn0, dYes, dDisp, dDispM, dPairs, keysT, dNewD, dNewDM,
 oAdd, oSub, oMul, oFdiv, oMod, oPow, oInt2, oNeg, oIx, oSl, oRev, oRevM, oEqB, scalT, oLt, oLe, oGt, oGe, oOrd, oIsN, isNon, oNotB, oDGet, oDIn, oIn, oInS, mAppend, mPop, mJoin, isL, isS, fLen, fIsi, fAbs, fList, fListM, fTuple, fInt, fRepr, fBls, seqOf, tyT,
 look, keyT, Pat.set, start3, pick, List.getElem?_cons_zero, List.getElem?_cons_succ, List.set_cons_zero, List.set_cons_succ, List.map_cons, List.map_nil, List.length_cons, List.length_nil, List.nil_append, List.cons_append, List.replicate_succ, List.replicate_zero, Nat.reduceSub, Nat.reduceAdd, flatOf, kit_NoneType_str, kit_bool_str, kit_int_str, kit_str_str, kit_tuple_str, kit_list_str, kit_dict_str, kit_NoneType_int, kit_bool_int, kit_int_int, kit_str_int, kit_tuple_int, kit_list_int, kit_dict_int, kit_NoneType_bool, kit_bool_bool, kit_int_bool, kit_str_bool, kit_tuple_bool, kit_list_bool, kit_dict_bool, kit_NoneType_tuple, kit_bool_tuple, kit_int_tuple, kit_str_tuple, kit_tuple_tuple, kit_list_tuple, kit_dict_tuple, kit_NoneType_list, kit_bool_list, kit_int_list, kit_str_list, kit_tuple_list, kit_list_list, kit_dict_list, kit_NoneType_dict, kit_bool_dict, kit_int_dict, kit_str_dict, kit_tuple_dict, kit_list_dict, kit_dict_dict, Bool.false_eq_true, if_false, if_true, reduceIte, true_and, sz_0, sz_1, sz_2, sz_3, sz_4, sz_5, sz_6, sz_7, sz_8, sz_9, sz_10, sz_11, sz_12, sz_13, sz_14, sz_15, sz_16, sz_17, sz_18, sz_19, sz_20, sz_21, sz_22, sz_23, sz_24, sz_25, sz_26, sz_27, sz_28, sz_29, sz_30, sz_31, sz_32, sz_33, sz_34, sz_35, sz_36, sz_37, sz_38, sz_39, sz_40, sz_41, sz_42, sz_43, sz_44, sz_45, sz_46, sz_47, atI_c0, atI_c1, atI_c2, atI_c3, atI_c4, List.append_nil, List.filterMap_cons, List.filterMap_nil, and_self, List.append_nil, List.filterMap_cons, List.filterMap_nil, and_self, if_true]
    refine ⟨u, rfl, hu, ?_⟩
    rcases ht with rfl | ⟨i, rfl⟩ | ⟨z, rfl, _, _⟩ <;> rcases hu with rfl | ⟨j, rfl⟩ | ⟨y, rfl, _, _⟩ <;>
      simp only [sSeq, sPar, sPut, sIf, sSet, sDrop, sRet, sRetN, sNext, dOp2, dOp1, dVar, dC, dB, dTup, dLst, dLstM, dNil, dCons, dSl, doNone, doSome, dCall, dLm, dLm0, dSm, dAnd, dOr, dNot, dAndV, dOrV, dIf, dChain, dFn, dFn0, dYes, dDisp, dDispM, dPairs, keysT, dNewD, dNewDM,
 oAdd, oSub, oMul, oFdiv, oMod, oPow, oInt2, oNeg, oIx, oSl, oRev, oRevM, oEqB, scalT, oLt, oLe, oGt, oGe, oOrd, oIsN, isNon, oNotB, oDGet, oDIn, oIn, oInS, mAppend, mPop, mJoin, isL, isS, fLen, fIsi, fAbs, fList, fListM, fTuple, fInt, fRepr, fBls, seqOf, tyT,
 look, keyT, Pat.set, start3, pick, List.getElem?_cons_zero, List.getElem?_cons_succ, List.set_cons_zero, List.set_cons_succ, List.map_cons, List.map_nil, List.length_cons, List.length_nil, List.nil_append, List.cons_append, List.replicate_succ, List.replicate_zero, Nat.reduceSub, Nat.reduceAdd, flatOf, kit_NoneType_str, kit_bool_str, kit_int_str, kit_str_str, kit_tuple_str, kit_list_str, kit_dict_str, kit_NoneType_int, kit_bool_int, kit_int_int, kit_str_int, kit_tuple_int, kit_list_int, kit_dict_int, kit_NoneType_bool, kit_bool_bool, kit_int_bool, kit_str_bool, kit_tuple_bool, kit_list_bool, kit_dict_bool, kit_NoneType_tuple, kit_bool_tuple, kit_int_tuple, kit_str_tuple, kit_tuple_tuple, kit_list_tuple, kit_dict_tuple, kit_NoneType_list, kit_bool_list, kit_int_list, kit_str_list, kit_tuple_list, kit_list_list, kit_dict_list, kit_NoneType_dict, kit_bool_dict, kit_int_dict, kit_str_dict, kit_tuple_dict, kit_list_dict, kit_dict_dict, Bool.false_eq_true, if_false, if_true, reduceIte, true_and, sz_0, sz_1, sz_2, sz_3, sz_4, sz_5, sz_6, sz_7, sz_8, sz_9, sz_10, sz_11, sz_12, sz_13, sz_14, sz_15, sz_16, sz_17, sz_18, sz_19, sz_20, sz_21, sz_22, sz_23, sz_24, sz_25, sz_26, sz_27, sz_28, sz_29, sz_30, sz_31, sz_32, sz_33, sz_34, sz_35, sz_36, sz_37, sz_38, sz_39, sz_40, sz_41, sz_42, sz_43, sz_44, sz_45, sz_46, sz_47, atI_c0, atI_c1, atI_c2, atI_c3, atI_c4, List.append_nil, List.filterMap_cons, List.filterMap_nil, and_self, kindT, decide_true, kd_nn, kd_nw, kd_un, kd_uw, kd_wn, kd_wu, Bool.not_true, Bool.not_false] <;>
      first | exact q | exact kin _ _ true (by decide +kernel) q | exact kin _ _ false (by decide +kernel) q



def spWord : Sp3 := fun ts M Q => ∃ dk c n, ts = [.raw (.ref dk)] ∧ DeckAt dk c M n ∧ n < 2 ^ 58 + 1000 ∧ ∀ M' z, DeckAt dk c M' (n + 11) → z.length ≤ 8 → Low z → Q (.str z) M'
def spValue : Sp3 := fun ts M Q => ∃ dk c n, ts = [.raw (.ref dk)] ∧ DeckAt dk c M n ∧ n < 2 ^ 58 + 500 ∧ ∀ M' t, DeckAt dk c M' (n + 12) → Flat3 t → (∀ i, t = .int i → i.natAbs < 10 ^ 60) → Q t M'
theorem ok_l_word (E : Fns K mg) (G_l_draw : FnD P w K mg base 1 E.f_l_draw E.fd_l_draw ["deck", "many"] spDraw) (G_l_pick : FnD P w K mg base 2 E.f_l_pick E.fd_l_pick ["deck", "some"] spPick) : FnD P w K mg base 3 E.f_l_word E.fd_l_word ["deck"] spWord := by
  have nd := sc_l_word.nd
  refine okD E.F_l_word sc_l_word ?len fun cdv A outer s H X hr hgd => ⟨_, (dss_cons (ds_set 1 nd rfl (by first | exact Or.inl rfl | exact Or.inr rfl) d_str)
  (dss_cons (ds_set 2 nd rfl (by first | exact Or.inl rfl | exact Or.inr rfl) (d_ix (d_lst (da_cons d_int (da_cons d_int (da_cons d_int (da_cons (d_add d_int (d_fn G_l_draw (hr.mono (by decide)) hgd (by rfl) E.g_l_draw E.F_l_draw.kp (kb_l_draw_2 E) (da_cons (d_var 0) (da_cons d_int da_nil)) dk_nil)) da_nil))))) (d_fn G_l_draw (hr.mono (by decide)) hgd (by rfl) E.g_l_draw E.F_l_draw.kp (kb_l_draw_2 E) (da_cons (d_var 0) (da_cons d_int da_nil)) dk_nil) (fun _ _ => rfl)))
  (dss_cons (ds_set 3 nd rfl (by first | exact Or.inl rfl | exact Or.inr rfl) (d_fn G_l_pick (hr.mono (by decide)) hgd (by rfl) E.g_l_pick E.F_l_pick.kp (kb_l_pick_2 E) (da_cons (d_var 0) (da_cons (d_lst (da_cons d_str (da_cons d_str (da_cons d_str (da_cons d_str (da_cons d_str (da_cons d_str da_nil))))))) da_nil)) dk_nil))
  (dss_one (ds_ret (d_slice (d_add (d_var 3) (d_join d_str (da_cons (d_comp [("k", 4)] fin_L rfl nd (di_range1 (by rfl) E.m_range (d_var 2)) (by kernel_rfl)
  (fun _ _ _ _ _ => (dg_nm 4 nd rfl (by first | exact Or.inl rfl | exact Or.inr rfl))) (fun _ _ _ _ _ => dts_nil) (fun _ _ _ _ _ => (d_fn G_l_pick (hr.mono (by decide)) hgd (by rfl) E.g_l_pick E.F_l_pick.kp (kb_l_pick_2 E) (da_cons (d_var 0) (da_cons (d_var 1) da_nil)) dk_nil))) da_nil))) do_none (do_some d_int))))))), ?_⟩
  case len =>
    rintro ts M Q ⟨dk, c, n, rfl, _⟩
    rfl
  · rintro ts M Q ⟨dk, c, n, rfl, hD, hn, q⟩
    simp only [sSeq, sPar, sPut, sIf, sSet, sDrop, sRet, sRetN, sNext, dOp2, dOp1, dVar, dC, dB, dTup, dLst, dLstM, dNil, dCons, dSl, doNone, doSome, dCall, dLm, dLm0, dSm, dAnd, dOr, dNot, dAndV, dOrV, dIf, dChain, dFn, dFn0, dYes, dDisp, dDispM, dPairs, keysT, dNewD, dNewDM,
 oAdd, oSub, oMul, oFdiv, oMod, oPow, oInt2, oNeg, oIx, oSl, oRev, oRevM, oEqB, scalT, oLt, oLe, oGt, oGe, oOrd, oIsN, isNon, oNotB, oDGet, oDIn, oIn, oInS, mAppend, mPop, mJoin, isL, isS, fLen, fIsi, fAbs, fList, fListM, fTuple, fInt, fRepr, fBls, seqOf, tyT,
 look, keyT, Pat.set, start3, pick, List.getElem?_cons_zero, List.getElem?_cons_succ, List.set_cons_zero, List.set_cons_succ, List.map_cons, List.map_nil, List.length_cons, List.length_nil, List.nil_append, List.cons_append, List.replicate_succ, List.replicate_zero, Nat.reduceSub, Nat.reduceAdd, flatOf, kit_NoneType_str, kit_bool_str, kit_int_str, kit_str_str, kit_tuple_str, kit_list_str, kit_dict_str, kit_NoneType_int, kit_bool_int, kit_int_int, kit_str_int, kit_tuple_int, kit_list_int, kit_dict_int, kit_NoneType_bool, kit_bool_bool, kit_int_bool, kit_str_bool, kit_tuple_bool, kit_list_bool, kit_dict_bool, kit_NoneType_tuple, kit_bool_tuple, kit_int_tuple, kit_str_tuple, kit_tuple_tuple, kit_list_tuple, kit_dict_tuple, kit_NoneType_list, kit_bool_list, kit_int_list, kit_str_list, kit_tuple_list, kit_list_list, kit_dict_list, kit_NoneType_dict, kit_bool_dict, kit_int_dict, kit_str_dict, kit_tuple_dict, kit_list_dict, kit_dict_dict, Bool.false_eq_true, if_false, if_true, reduceIte, true_and, sz_0, sz_1, sz_2, sz_3, sz_4, sz_5, sz_6, sz_7, sz_8, sz_9, sz_10, sz_11, sz_12, sz_13, sz_14, sz_15, sz_16, sz_17, sz_18, sz_19, sz_20, sz_21, sz_22, sz_23, sz_24, sz_25, sz_26, sz_27, sz_28, sz_29, sz_30, sz_31, sz_32, sz_33, sz_34, sz_35, sz_36, sz_37, sz_38, sz_39, sz_40, sz_41, sz_42, sz_43, sz_44, sz_45, sz_46, sz_47, atI_c0, atI_c1, atI_c2, atI_c3, atI_c4, List.append_nil, List.filterMap_cons, List.filterMap_nil, and_self]
    refine draw_of hD (by omega) (by decide) (by decide) fun M1 r1 D1 a1 b1 => ?_
    simp only [sSeq, sPar, sPut, sIf, sSet, sDrop, sRet, sRetN, sNext, dOp2, dOp1, dVar, dC, dB, dTup, dLst, dLstM, dNil, dCons, dSl, doNone, doSome, dCall, dLm, dLm0, dSm, dAnd, dOr, dNot, dAndV, dOrV, dIf, dChain, dFn, dFn0, dYes, dDisp, dDispM, dPairs, keysT, dNewD, dNewDM,
 oAdd, oSub, oMul, oFdiv, oMod, oPow, oInt2, oNeg, oIx, oSl, oRev, oRevM, oEqB, scalT, oLt, oLe, oGt, oGe, oOrd, oIsN, isNon, oNotB, oDGet, oDIn, oIn, oInS, mAppend, mPop, mJoin, isL, isS, fLen, fIsi, fAbs, fList, fListM, fTuple, fInt, fRepr, fBls, seqOf, tyT,
 look, keyT, Pat.set, start3, pick, List.getElem?_cons_zero, List.getElem?_cons_succ, List.set_cons_zero, List.set_cons_succ, List.map_cons, List.map_nil, List.length_cons, List.length_nil, List.nil_append, List.cons_append, List.replicate_succ, List.replicate_zero, Nat.reduceSub, Nat.reduceAdd, flatOf, kit_NoneType_str, kit_bool_str, kit_int_str, kit_str_str, kit_tuple_str, kit_list_str, kit_dict_str, kit_NoneType_int, kit_bool_int, kit_int_int, kit_str_int, kit_tuple_int, kit_list_int, kit_dict_int, kit_NoneType_bool, kit_bool_bool, kit_int_bool, kit_str_bool, kit_tuple_bool, kit_list_bool, kit_dict_bool, kit_NoneType_tuple, kit_bool_tuple, kit_int_tuple, kit_str_tuple, kit_tuple_tuple, kit_list_tuple, kit_dict_tuple, kit_NoneType_list, kit_bool_list, kit_int_list, kit_str_list, kit_tuple_list, kit_list_list, kit_dict_list, kit_NoneType_dict, kit_bool_dict, kit_int_dict, kit_str_dict, kit_tuple_dict, kit_list_dict, kit_dict_dict, Bool.false_eq_true, if_false, if_true, reduceIte, true_and, sz_0, sz_1, sz_2, sz_3, sz_4, sz_5, sz_6, sz_7, sz_8, sz_9, sz_10, sz_11, sz_12, sz_13, sz_14, sz_15, sz_16, sz_17, sz_18, sz_19, sz_20, sz_21, sz_22, sz_23, sz_24, sz_25, sz_26, sz_27, sz_28, sz_29, sz_30, sz_31, sz_32, sz_33, sz_34, sz_35, sz_36, sz_37, sz_38, sz_39, sz_40, sz_41, sz_42, sz_43, sz_44, sz_45, sz_46, sz_47, atI_c0, atI_c1, atI_c2, atI_c3, atI_c4, List.append_nil, List.filterMap_cons, List.filterMap_nil, and_self]
    refine draw_of D1 (by omega) (by decide) (by decide) fun M2 r2 D2 a2 b2 => ?_
    obtain ⟨t, e, hm⟩ := atI_ok (xs := [T.int 1, .int 2, .int 8, .int (1 + r1)]) a2 b2
    have ht : ∃ m : Nat, t = .int m ∧ m ≤ 8 := by
      simp only [List.mem_cons, List.not_mem_nil, or_false] at hm
      rcases hm with rfl | rfl | rfl | rfl
      · exact ⟨1, rfl, by decide⟩
      · exact ⟨2, rfl, by decide⟩
      · exact ⟨8, rfl, by decide⟩
      · refine ⟨(1 + r1).toNat, ?_, by omega⟩
        rw [Int.toNat_of_nonneg (by omega)]
    simp only [sSeq, sPar, sPut, sIf, sSet, sDrop, sRet, sRetN, sNext, dOp2, dOp1, dVar, dC, dB, dTup, dLst, dLstM, dNil, dCons, dSl, doNone, doSome, dCall, dLm, dLm0, dSm, dAnd, dOr, dNot, dAndV, dOrV, dIf, dChain, dFn, dFn0, dYes, dDisp, dDispM, dPairs, keysT, dNewD, dNewDM,
 oAdd, oSub, oMul, oFdiv, oMod, oPow, oInt2, oNeg, oIx, oSl, oRev, oRevM, oEqB, scalT, oLt, oLe, oGt, oGe, oOrd, oIsN, isNon, oNotB, oDGet, oDIn, oIn, oInS, mAppend, mPop, mJoin, isL, isS, fLen, fIsi, fAbs, fList, fListM, fTuple, fInt, fRepr, fBls, seqOf, tyT,
 look, keyT, Pat.set, start3, pick, List.getElem?_cons_zero, List.getElem?_cons_succ, List.set_cons_zero, List.set_cons_succ, List.map_cons, List.map_nil, List.length_cons, List.length_nil, List.nil_append, List.cons_append, List.replicate_succ, List.replicate_zero, Nat.reduceSub, Nat.reduceAdd, flatOf, kit_NoneType_str, kit_bool_str, kit_int_str, kit_str_str, kit_tuple_str, kit_list_str, kit_dict_str, kit_NoneType_int, kit_bool_int, kit_int_int, kit_str_int, kit_tuple_int, kit_list_int, kit_dict_int, kit_NoneType_bool, kit_bool_bool, kit_int_bool, kit_str_bool, kit_tuple_bool, kit_list_bool, kit_dict_bool, kit_NoneType_tuple, kit_bool_tuple, kit_int_tuple, kit_str_tuple, kit_tuple_tuple, kit_list_tuple, kit_dict_tuple, kit_NoneType_list, kit_bool_list, kit_int_list, kit_str_list, kit_tuple_list, kit_list_list, kit_dict_list, kit_NoneType_dict, kit_bool_dict, kit_int_dict, kit_str_dict, kit_tuple_dict, kit_list_dict, kit_dict_dict, Bool.false_eq_true, if_false, if_true, reduceIte, true_and, sz_0, sz_1, sz_2, sz_3, sz_4, sz_5, sz_6, sz_7, sz_8, sz_9, sz_10, sz_11, sz_12, sz_13, sz_14, sz_15, sz_16, sz_17, sz_18, sz_19, sz_20, sz_21, sz_22, sz_23, sz_24, sz_25, sz_26, sz_27, sz_28, sz_29, sz_30, sz_31, sz_32, sz_33, sz_34, sz_35, sz_36, sz_37, sz_38, sz_39, sz_40, sz_41, sz_42, sz_43, sz_44, sz_45, sz_46, sz_47, atI_c0, atI_c1, atI_c2, atI_c3, atI_c4, List.append_nil, List.filterMap_cons, List.filterMap_nil, and_self, e]
    clear e hm
    obtain ⟨m, rfl, hm⟩ := ht
    refine pick_of D2 (by omega) (by decide) (by decide) fun M3 t3 D3 m3 => ?_
    have h3 : ∃ z, t3 = .str z ∧ z.length ≤ 8 ∧ Low z := by
      simp only [itemsOf, List.mem_cons, List.not_mem_nil, or_false] at m3
      rcases m3 with rfl | rfl | rfl | rfl | rfl | rfl <;> exact ⟨_, rfl, by decide +kernel, low_of (by decide +kernel)⟩
    clear m3
    obtain ⟨z, rfl, hz, hl⟩ := h3
    simp only [sSeq, sPar, sPut, sIf, sSet, sDrop, sRet, sRetN, sNext, dOp2, dOp1, dVar, dC, dB, dTup, dLst, dLstM, dNil, dCons, dSl, doNone, doSome, dCall, dLm, dLm0, dSm, dAnd, dOr, dNot, dAndV, dOrV, dIf, dChain, dFn, dFn0, dYes, dDisp, dDispM, dPairs, keysT, dNewD, dNewDM,
 oAdd, oSub, oMul, oFdiv, oMod, oPow, oInt2, oNeg, oIx, oSl, oRev, oRevM, oEqB, scalT, oLt, oLe, oGt, oGe, oOrd, oIsN, isNon, oNotB, oDGet, oDIn, oIn, oInS, mAppend, mPop, mJoin, isL, isS, fLen, fIsi, fAbs, fList, fListM, fTuple, fInt, fRepr, fBls, seqOf, tyT,
 look, keyT, Pat.set, start3, pick, List.getElem?_cons_zero, List.getElem?_cons_succ, List.set_cons_zero, List.set_cons_succ, List.map_cons, List.map_nil, List.length_cons, List.length_nil, List.nil_append, List.cons_append, List.replicate_succ, List.replicate_zero, Nat.reduceSub, Nat.reduceAdd, flatOf, kit_NoneType_str, kit_bool_str, kit_int_str, kit_str_str, kit_tuple_str, kit_list_str, kit_dict_str, kit_NoneType_int, kit_bool_int, kit_int_int, kit_str_int, kit_tuple_int, kit_list_int, kit_dict_int, kit_NoneType_bool, kit_bool_bool, kit_int_bool, kit_str_bool, kit_tuple_bool, kit_list_bool, kit_dict_bool, kit_NoneType_tuple, kit_bool_tuple, kit_int_tuple, kit_str_tuple, kit_tuple_tuple, kit_list_tuple, kit_dict_tuple, kit_NoneType_list, kit_bool_list, kit_int_list, kit_str_list, kit_tuple_list, kit_list_list, kit_dict_list, kit_NoneType_dict, kit_bool_dict, kit_int_dict, kit_str_dict, kit_tuple_dict, kit_list_dict, kit_dict_dict, Bool.false_eq_true, if_false, if_true, reduceIte, true_and, sz_0, sz_1, sz_2, sz_3, sz_4, sz_5, sz_6, sz_7, sz_8, sz_9, sz_10, sz_11, sz_12, sz_13, sz_14, sz_15, sz_16, sz_17, sz_18, sz_19, sz_20, sz_21, sz_22, sz_23, sz_24, sz_25, sz_26, sz_27, sz_28, sz_29, sz_30, sz_31, sz_32, sz_33, sz_34, sz_35, sz_36, sz_37, sz_38, sz_39, sz_40, sz_41, sz_42, sz_43, sz_44, sz_45, sz_46, sz_47, atI_c0, atI_c1, atI_c2, atI_c3, atI_c4, List.append_nil, List.filterMap_cons, List.filterMap_nil, and_self, dComp, iR1]
    refine ⟨by omega, ?_⟩
    refine compL_inv (fun i M => DeckAt dk c M (n + 1 + 1 + 1 + i)) (fun t => ∃ c : Nat, t = .str ⟨#[c]⟩ ∧ Low ⟨#[c]⟩) (fun _ _ _ => trivial) 0 D3 ?_ ?_ ?_
    · intro j t M4 hj h4
      refine ⟨_, rfl, fun R k => ?_⟩
      simp only [sSeq, sPar, sPut, sIf, sSet, sDrop, sRet, sRetN, sNext, dOp2, dOp1, dVar, dC, dB, dTup, dLst, dLstM, dNil, dCons, dSl, doNone, doSome, dCall, dLm, dLm0, dSm, dAnd, dOr, dNot, dAndV, dOrV, dIf, dChain, dFn, dFn0, dYes, dDisp, dDispM, dPairs, keysT, dNewD, dNewDM,
 oAdd, oSub, oMul, oFdiv, oMod, oPow, oInt2, oNeg, oIx, oSl, oRev, oRevM, oEqB, scalT, oLt, oLe, oGt, oGe, oOrd, oIsN, isNon, oNotB, oDGet, oDIn, oIn, oInS, mAppend, mPop, mJoin, isL, isS, fLen, fIsi, fAbs, fList, fListM, fTuple, fInt, fRepr, fBls, seqOf, tyT,
 look, keyT, Pat.set, start3, pick, List.getElem?_cons_zero, List.getElem?_cons_succ, List.set_cons_zero, List.set_cons_succ, List.map_cons, List.map_nil, List.length_cons, List.length_nil, List.nil_append, List.cons_append, List.replicate_succ, List.replicate_zero, Nat.reduceSub, Nat.reduceAdd, flatOf, kit_NoneType_str, kit_bool_str, kit_int_str, kit_str_str, kit_tuple_str, kit_list_str, kit_dict_str, kit_NoneType_int, kit_bool_int, kit_int_int, kit_str_int, kit_tuple_int, kit_list_int, kit_dict_int, kit_NoneType_bool, kit_bool_bool, kit_int_bool, kit_str_bool, kit_tuple_bool, kit_list_bool, kit_dict_bool, kit_NoneType_tuple, kit_bool_tuple, kit_int_tuple, kit_str_tuple, kit_tuple_tuple, kit_list_tuple, kit_dict_tuple, kit_NoneType_list, kit_bool_list, kit_int_list, kit_str_list, kit_tuple_list, kit_list_list, kit_dict_list, kit_NoneType_dict, kit_bool_dict, kit_int_dict, kit_str_dict, kit_tuple_dict, kit_list_dict, kit_dict_dict, Bool.false_eq_true, if_false, if_true, reduceIte, true_and, sz_0, sz_1, sz_2, sz_3, sz_4, sz_5, sz_6, sz_7, sz_8, sz_9, sz_10, sz_11, sz_12, sz_13, sz_14, sz_15, sz_16, sz_17, sz_18, sz_19, sz_20, sz_21, sz_22, sz_23, sz_24, sz_25, sz_26, sz_27, sz_28, sz_29, sz_30, sz_31, sz_32, sz_33, sz_34, sz_35, sz_36, sz_37, sz_38, sz_39, sz_40, sz_41, sz_42, sz_43, sz_44, sz_45, sz_46, sz_47, atI_c0, atI_c1, atI_c2, atI_c3, atI_c4, List.append_nil, List.filterMap_cons, List.filterMap_nil, and_self, wipe3]
      have hj' : j < 8 := by
        have := (List.getElem?_eq_some_iff.mp hj).1
        rw [ups_len] at this
        omega
      refine pick_of h4 (by omega) (by decide +kernel) (by decide +kernel) fun M5 t5 D5 m5 => ?_
      exact k _ _ (low_sign (low_of (by decide +kernel)) m5) D5
    · rw [ups_len]
      exact sz (by rw [List.length_nil]; omega)
    · intro ys M6 hlen hys h6
      rw [ups_len] at hlen h6
      have hs : ∃ bs : List Str, ys = bs.map T.str ∧ bs.length = ys.length ∧ (bs.map (·.length)).sum = ys.length ∧ ∀ b ∈ bs, Low b := by
        clear hlen h6
        induction ys with
        | nil => exact ⟨[], rfl, rfl, rfl, fun _ h => nomatch h⟩
        | cons y r ih =>
          obtain ⟨c', rfl, lc⟩ := hys y List.mem_cons_self
          obtain ⟨bs, rfl, e1, e2, e3⟩ := ih fun y hy => hys y (List.mem_cons_of_mem _ hy)
          refine ⟨⟨#[c']⟩ :: bs, rfl, by rw [List.length_cons, e1, List.length_cons], by rw [List.map_cons, List.sum_cons, e2, List.length_cons, Nat.add_comm]; rfl, fun b hb => ?_⟩
          rcases List.mem_cons.mp hb with rfl | hb
          · exact lc
          · exact e3 b hb
      obtain ⟨bs, rfl, e1, e2, e3⟩ := hs
      have hj := join_len bs
      simp only [finL, sSeq, sPar, sPut, sIf, sSet, sDrop, sRet, sRetN, sNext, dOp2, dOp1, dVar, dC, dB, dTup, dLst, dLstM, dNil, dCons, dSl, doNone, doSome, dCall, dLm, dLm0, dSm, dAnd, dOr, dNot, dAndV, dOrV, dIf, dChain, dFn, dFn0, dYes, dDisp, dDispM, dPairs, keysT, dNewD, dNewDM,
 oAdd, oSub, oMul, oFdiv, oMod, oPow, oInt2, oNeg, oIx, oSl, oRev, oRevM, oEqB, scalT, oLt, oLe, oGt, oGe, oOrd, oIsN, isNon, oNotB, oDGet, oDIn, oIn, oInS, mAppend, mPop, mJoin, isL, isS, fLen, fIsi, fAbs, fList, fListM, fTuple, fInt, fRepr, fBls, seqOf, tyT,
 look, keyT, Pat.set, start3, pick, List.getElem?_cons_zero, List.getElem?_cons_succ, List.set_cons_zero, List.set_cons_succ, List.map_cons, List.map_nil, List.length_cons, List.length_nil, List.nil_append, List.cons_append, List.replicate_succ, List.replicate_zero, Nat.reduceSub, Nat.reduceAdd, flatOf, kit_NoneType_str, kit_bool_str, kit_int_str, kit_str_str, kit_tuple_str, kit_list_str, kit_dict_str, kit_NoneType_int, kit_bool_int, kit_int_int, kit_str_int, kit_tuple_int, kit_list_int, kit_dict_int, kit_NoneType_bool, kit_bool_bool, kit_int_bool, kit_str_bool, kit_tuple_bool, kit_list_bool, kit_dict_bool, kit_NoneType_tuple, kit_bool_tuple, kit_int_tuple, kit_str_tuple, kit_tuple_tuple, kit_list_tuple, kit_dict_tuple, kit_NoneType_list, kit_bool_list, kit_int_list, kit_str_list, kit_tuple_list, kit_list_list, kit_dict_list, kit_NoneType_dict, kit_bool_dict, kit_int_dict, kit_str_dict, kit_tuple_dict, kit_list_dict, kit_dict_dict, Bool.false_eq_true, if_false, if_true, reduceIte, true_and, sz_0, sz_1, sz_2, sz_3, sz_4, sz_5, sz_6, sz_7, sz_8, sz_9, sz_10, sz_11, sz_12, sz_13, sz_14, sz_15, sz_16, sz_17, sz_18, sz_19, sz_20, sz_21, sz_22, sz_23, sz_24, sz_25, sz_26, sz_27, sz_28, sz_29, sz_30, sz_31, sz_32, sz_33, sz_34, sz_35, sz_36, sz_37, sz_38, sz_39, sz_40, sz_41, sz_42, sz_43, sz_44, sz_45, sz_46, sz_47, atI_c0, atI_c1, atI_c2, atI_c3, atI_c4, List.append_nil, List.filterMap_cons, List.filterMap_nil, and_self, strsT_map]
      refine ⟨by rw [e2, show (("" : Str)).length = 0 from rfl]; omega, sz (by omega), sz (by rw [app_len]; omega), ?_⟩
      exact q _ _ (h6.le (by omega)) (cut_len_to _ 8) (low_cut (low_app hl (low_join e3)) _ _)



theorem ok_l_value (E : Fns K mg) (G_l_draw : FnD P w K mg base 1 E.f_l_draw E.fd_l_draw ["deck", "many"] spDraw) (G_l_pick : FnD P w K mg base 2 E.f_l_pick E.fd_l_pick ["deck", "some"] spPick) (G_l_word : FnD P w K mg base 3 E.f_l_word E.fd_l_word ["deck"] spWord) : FnD P w K mg base 4 E.f_l_value E.fd_l_value ["deck"] spValue := by
  have nd := sc_l_value.nd
  refine okD E.F_l_value sc_l_value ?len fun cdv A outer s H X hr hgd => ⟨_, (dss_cons (ds_par 1 2 rfl nd rfl rfl (by decide) rfl rfl (d_fn G_l_draw (hr.mono (by decide)) hgd (by rfl) E.g_l_draw E.F_l_draw.kp (kb_l_draw_2 E) (da_cons (d_var 0) (da_cons d_int da_nil)) dk_nil) (d_pow d_int d_int))
  (dss_cons (ds_if (dt_eq hr.units (d_var 1) d_int)
  (dss_one (ds_ret d_non))
  dss_nil)
  (dss_cons (ds_if (dt_lt (d_var 1) d_int)
  (dss_cons (ds_par 3 4 rfl nd rfl rfl (by decide) rfl rfl (d_sub (d_fn G_l_draw (hr.mono (by decide)) hgd (by rfl) E.g_l_draw E.F_l_draw.kp (kb_l_draw_2 E) (da_cons (d_var 0) (da_cons d_int da_nil)) dk_nil) d_int) (d_sub (d_fn G_l_draw (hr.mono (by decide)) hgd (by rfl) E.g_l_draw E.F_l_draw.kp (kb_l_draw_2 E) (da_cons (d_var 0) (da_cons (d_add (d_mul d_int (d_var 2)) d_int) da_nil)) dk_nil) (d_var 2)))
  (dss_one (ds_ret (d_fn G_l_pick (hr.mono (by decide)) hgd (by rfl) E.g_l_pick E.F_l_pick.kp (kb_l_pick_2 E) (da_cons (d_var 0) (da_cons (d_lst (da_cons (d_var 3) (da_cons (d_sub d_int (d_var 3)) (da_cons (d_sub (d_var 2) (d_abs (by rfl) E.m_abs (da_cons (d_var 3) da_nil))) (da_cons (d_sub (d_abs (by rfl) E.m_abs (da_cons (d_var 3) da_nil)) (d_var 2)) (da_cons (d_var 4) da_nil)))))) da_nil)) dk_nil))))
  dss_nil)
  (dss_one (ds_ret (d_fn G_l_word (hr.mono (by decide)) hgd (by rfl) E.g_l_word E.F_l_word.kp (kb_l_word_1 E) (da_cons (d_var 0) da_nil) dk_nil)))))), ?_⟩
  case len =>
    rintro ts M Q ⟨dk, c, n, rfl, _⟩
    rfl
  · rintro ts M Q ⟨dk, c, n, rfl, hD, hn, q⟩
    have pow : CPow 10 12 := ⟨by decide, by decide, by decide⟩
    have m1 : ∀ x : Int, IntMulOk 2 x := fun x => small_mulL (by decide)
    have p12 : (10 : Int) ^ (12 : Int).toNat = 1000000000000 := by decide
    simp only [sSeq, sPar, sPut, sIf, sSet, sDrop, sRet, sRetN, sNext, dOp2, dOp1, dVar, dC, dB, dTup, dLst, dLstM, dNil, dCons, dSl, doNone, doSome, dCall, dLm, dLm0, dSm, dAnd, dOr, dNot, dAndV, dOrV, dIf, dChain, dFn, dFn0, dYes, dDisp, dDispM, dPairs, keysT, dNewD, dNewDM,
 oAdd, oSub, oMul, oFdiv, oMod, oPow, oInt2, oNeg, oIx, oSl, oRev, oRevM, oEqB, scalT, oLt, oLe, oGt, oGe, oOrd, oIsN, isNon, oNotB, oDGet, oDIn, oIn, oInS, mAppend, mPop, mJoin, isL, isS, fLen, fIsi, fAbs, fList, fListM, fTuple, fInt, fRepr, fBls, seqOf, tyT,
 look, keyT, Pat.set, start3, pick, List.getElem?_cons_zero, List.getElem?_cons_succ, List.set_cons_zero, List.set_cons_succ, List.map_cons, List.map_nil, List.length_cons, List.length_nil, List.nil_append, List.cons_append, List.replicate_succ, List.replicate_zero, Nat.reduceSub, Nat.reduceAdd, flatOf, kit_NoneType_str, kit_bool_str, kit_int_str, kit_str_str, kit_tuple_str, kit_list_str, kit_dict_str, kit_NoneType_int, kit_bool_int, kit_int_int, kit_str_int, kit_tuple_int, kit_list_int, kit_dict_int, kit_NoneType_bool, kit_bool_bool, kit_int_bool, kit_str_bool, kit_tuple_bool, kit_list_bool, kit_dict_bool, kit_NoneType_tuple, kit_bool_tuple, kit_int_tuple, kit_str_tuple, kit_tuple_tuple, kit_list_tuple, kit_dict_tuple, kit_NoneType_list, kit_bool_list, kit_int_list, kit_str_list, kit_tuple_list, kit_list_list, kit_dict_list, kit_NoneType_dict, kit_bool_dict, kit_int_dict, kit_str_dict, kit_tuple_dict, kit_list_dict, kit_dict_dict, Bool.false_eq_true, if_false, if_true, reduceIte, true_and, sz_0, sz_1, sz_2, sz_3, sz_4, sz_5, sz_6, sz_7, sz_8, sz_9, sz_10, sz_11, sz_12, sz_13, sz_14, sz_15, sz_16, sz_17, sz_18, sz_19, sz_20, sz_21, sz_22, sz_23, sz_24, sz_25, sz_26, sz_27, sz_28, sz_29, sz_30, sz_31, sz_32, sz_33, sz_34, sz_35, sz_36, sz_37, sz_38, sz_39, sz_40, sz_41, sz_42, sz_43, sz_44, sz_45, sz_46, sz_47, atI_c0, atI_c1, atI_c2, atI_c3, atI_c4, List.append_nil, List.filterMap_cons, List.filterMap_nil, and_self]
    refine draw_of hD (by omega) (by decide) (by decide) fun M1 r1 D1 a1 b1 => ?_
    simp only [sSeq, sPar, sPut, sIf, sSet, sDrop, sRet, sRetN, sNext, dOp2, dOp1, dVar, dC, dB, dTup, dLst, dLstM, dNil, dCons, dSl, doNone, doSome, dCall, dLm, dLm0, dSm, dAnd, dOr, dNot, dAndV, dOrV, dIf, dChain, dFn, dFn0, dYes, dDisp, dDispM, dPairs, keysT, dNewD, dNewDM,
 oAdd, oSub, oMul, oFdiv, oMod, oPow, oInt2, oNeg, oIx, oSl, oRev, oRevM, oEqB, scalT, oLt, oLe, oGt, oGe, oOrd, oIsN, isNon, oNotB, oDGet, oDIn, oIn, oInS, mAppend, mPop, mJoin, isL, isS, fLen, fIsi, fAbs, fList, fListM, fTuple, fInt, fRepr, fBls, seqOf, tyT,
 look, keyT, Pat.set, start3, pick, List.getElem?_cons_zero, List.getElem?_cons_succ, List.set_cons_zero, List.set_cons_succ, List.map_cons, List.map_nil, List.length_cons, List.length_nil, List.nil_append, List.cons_append, List.replicate_succ, List.replicate_zero, Nat.reduceSub, Nat.reduceAdd, flatOf, kit_NoneType_str, kit_bool_str, kit_int_str, kit_str_str, kit_tuple_str, kit_list_str, kit_dict_str, kit_NoneType_int, kit_bool_int, kit_int_int, kit_str_int, kit_tuple_int, kit_list_int, kit_dict_int, kit_NoneType_bool, kit_bool_bool, kit_int_bool, kit_str_bool, kit_tuple_bool, kit_list_bool, kit_dict_bool, kit_NoneType_tuple, kit_bool_tuple, kit_int_tuple, kit_str_tuple, kit_tuple_tuple, kit_list_tuple, kit_dict_tuple, kit_NoneType_list, kit_bool_list, kit_int_list, kit_str_list, kit_tuple_list, kit_list_list, kit_dict_list, kit_NoneType_dict, kit_bool_dict, kit_int_dict, kit_str_dict, kit_tuple_dict, kit_list_dict, kit_dict_dict, Bool.false_eq_true, if_false, if_true, reduceIte, true_and, sz_0, sz_1, sz_2, sz_3, sz_4, sz_5, sz_6, sz_7, sz_8, sz_9, sz_10, sz_11, sz_12, sz_13, sz_14, sz_15, sz_16, sz_17, sz_18, sz_19, sz_20, sz_21, sz_22, sz_23, sz_24, sz_25, sz_26, sz_27, sz_28, sz_29, sz_30, sz_31, sz_32, sz_33, sz_34, sz_35, sz_36, sz_37, sz_38, sz_39, sz_40, sz_41, sz_42, sz_43, sz_44, sz_45, sz_46, sz_47, atI_c0, atI_c1, atI_c2, atI_c3, atI_c4, List.append_nil, List.filterMap_cons, List.filterMap_nil, and_self, pow, p12]
    by_cases h0 : r1 = 0
    · subst h0
      simp only [sSeq, sPar, sPut, sIf, sSet, sDrop, sRet, sRetN, sNext, dOp2, dOp1, dVar, dC, dB, dTup, dLst, dLstM, dNil, dCons, dSl, doNone, doSome, dCall, dLm, dLm0, dSm, dAnd, dOr, dNot, dAndV, dOrV, dIf, dChain, dFn, dFn0, dYes, dDisp, dDispM, dPairs, keysT, dNewD, dNewDM,
 oAdd, oSub, oMul, oFdiv, oMod, oPow, oInt2, oNeg, oIx, oSl, oRev, oRevM, oEqB, scalT, oLt, oLe, oGt, oGe, oOrd, oIsN, isNon, oNotB, oDGet, oDIn, oIn, oInS, mAppend, mPop, mJoin, isL, isS, fLen, fIsi, fAbs, fList, fListM, fTuple, fInt, fRepr, fBls, seqOf, tyT,
 look, keyT, Pat.set, start3, pick, List.getElem?_cons_zero, List.getElem?_cons_succ, List.set_cons_zero, List.set_cons_succ, List.map_cons, List.map_nil, List.length_cons, List.length_nil, List.nil_append, List.cons_append, List.replicate_succ, List.replicate_zero, Nat.reduceSub, Nat.reduceAdd, flatOf, kit_NoneType_str, kit_bool_str, kit_int_str, kit_str_str, kit_tuple_str, kit_list_str, kit_dict_str, kit_NoneType_int, kit_bool_int, kit_int_int, kit_str_int, kit_tuple_int, kit_list_int, kit_dict_int, kit_NoneType_bool, kit_bool_bool, kit_int_bool, kit_str_bool, kit_tuple_bool, kit_list_bool, kit_dict_bool, kit_NoneType_tuple, kit_bool_tuple, kit_int_tuple, kit_str_tuple, kit_tuple_tuple, kit_list_tuple, kit_dict_tuple, kit_NoneType_list, kit_bool_list, kit_int_list, kit_str_list, kit_tuple_list, kit_list_list, kit_dict_list, kit_NoneType_dict, kit_bool_dict, kit_int_dict, kit_str_dict, kit_tuple_dict, kit_list_dict, kit_dict_dict, Bool.false_eq_true, if_false, if_true, reduceIte, true_and, sz_0, sz_1, sz_2, sz_3, sz_4, sz_5, sz_6, sz_7, sz_8, sz_9, sz_10, sz_11, sz_12, sz_13, sz_14, sz_15, sz_16, sz_17, sz_18, sz_19, sz_20, sz_21, sz_22, sz_23, sz_24, sz_25, sz_26, sz_27, sz_28, sz_29, sz_30, sz_31, sz_32, sz_33, sz_34, sz_35, sz_36, sz_37, sz_38, sz_39, sz_40, sz_41, sz_42, sz_43, sz_44, sz_45, sz_46, sz_47, atI_c0, atI_c1, atI_c2, atI_c3, atI_c4, List.append_nil, List.filterMap_cons, List.filterMap_nil, and_self, decide_true]
      exact q _ _ (D1.le (by omega)) (Or.inl rfl) (fun i e => nomatch e)
    · simp only [sSeq, sPar, sPut, sIf, sSet, sDrop, sRet, sRetN, sNext, dOp2, dOp1, dVar, dC, dB, dTup, dLst, dLstM, dNil, dCons, dSl, doNone, doSome, dCall, dLm, dLm0, dSm, dAnd, dOr, dNot, dAndV, dOrV, dIf, dChain, dFn, dFn0, dYes, dDisp, dDispM, dPairs, keysT, dNewD, dNewDM,
 oAdd, oSub, oMul, oFdiv, oMod, oPow, oInt2, oNeg, oIx, oSl, oRev, oRevM, oEqB, scalT, oLt, oLe, oGt, oGe, oOrd, oIsN, isNon, oNotB, oDGet, oDIn, oIn, oInS, mAppend, mPop, mJoin, isL, isS, fLen, fIsi, fAbs, fList, fListM, fTuple, fInt, fRepr, fBls, seqOf, tyT,
 look, keyT, Pat.set, start3, pick, List.getElem?_cons_zero, List.getElem?_cons_succ, List.set_cons_zero, List.set_cons_succ, List.map_cons, List.map_nil, List.length_cons, List.length_nil, List.nil_append, List.cons_append, List.replicate_succ, List.replicate_zero, Nat.reduceSub, Nat.reduceAdd, flatOf, kit_NoneType_str, kit_bool_str, kit_int_str, kit_str_str, kit_tuple_str, kit_list_str, kit_dict_str, kit_NoneType_int, kit_bool_int, kit_int_int, kit_str_int, kit_tuple_int, kit_list_int, kit_dict_int, kit_NoneType_bool, kit_bool_bool, kit_int_bool, kit_str_bool, kit_tuple_bool, kit_list_bool, kit_dict_bool, kit_NoneType_tuple, kit_bool_tuple, kit_int_tuple, kit_str_tuple, kit_tuple_tuple, kit_list_tuple, kit_dict_tuple, kit_NoneType_list, kit_bool_list, kit_int_list, kit_str_list, kit_tuple_list, kit_list_list, kit_dict_list, kit_NoneType_dict, kit_bool_dict, kit_int_dict, kit_str_dict, kit_tuple_dict, kit_list_dict, kit_dict_dict, Bool.false_eq_true, if_false, if_true, reduceIte, true_and, sz_0, sz_1, sz_2, sz_3, sz_4, sz_5, sz_6, sz_7, sz_8, sz_9, sz_10, sz_11, sz_12, sz_13, sz_14, sz_15, sz_16, sz_17, sz_18, sz_19, sz_20, sz_21, sz_22, sz_23, sz_24, sz_25, sz_26, sz_27, sz_28, sz_29, sz_30, sz_31, sz_32, sz_33, sz_34, sz_35, sz_36, sz_37, sz_38, sz_39, sz_40, sz_41, sz_42, sz_43, sz_44, sz_45, sz_46, sz_47, atI_c0, atI_c1, atI_c2, atI_c3, atI_c4, List.append_nil, List.filterMap_cons, List.filterMap_nil, and_self, decide_eq_false h0]
      by_cases h3 : r1 < 3
      · simp only [sSeq, sPar, sPut, sIf, sSet, sDrop, sRet, sRetN, sNext, dOp2, dOp1, dVar, dC, dB, dTup, dLst, dLstM, dNil, dCons, dSl, doNone, doSome, dCall, dLm, dLm0, dSm, dAnd, dOr, dNot, dAndV, dOrV, dIf, dChain, dFn, dFn0, dYes, dDisp, dDispM, dPairs, keysT, dNewD, dNewDM,
 oAdd, oSub, oMul, oFdiv, oMod, oPow, oInt2, oNeg, oIx, oSl, oRev, oRevM, oEqB, scalT, oLt, oLe, oGt, oGe, oOrd, oIsN, isNon, oNotB, oDGet, oDIn, oIn, oInS, mAppend, mPop, mJoin, isL, isS, fLen, fIsi, fAbs, fList, fListM, fTuple, fInt, fRepr, fBls, seqOf, tyT,
 look, keyT, Pat.set, start3, pick, List.getElem?_cons_zero, List.getElem?_cons_succ, List.set_cons_zero, List.set_cons_succ, List.map_cons, List.map_nil, List.length_cons, List.length_nil, List.nil_append, List.cons_append, List.replicate_succ, List.replicate_zero, Nat.reduceSub, Nat.reduceAdd, flatOf, kit_NoneType_str, kit_bool_str, kit_int_str, kit_str_str, kit_tuple_str, kit_list_str, kit_dict_str, kit_NoneType_int, kit_bool_int, kit_int_int, kit_str_int, kit_tuple_int, kit_list_int, kit_dict_int, kit_NoneType_bool, kit_bool_bool, kit_int_bool, kit_str_bool, kit_tuple_bool, kit_list_bool, kit_dict_bool, kit_NoneType_tuple, kit_bool_tuple, kit_int_tuple, kit_str_tuple, kit_tuple_tuple, kit_list_tuple, kit_dict_tuple, kit_NoneType_list, kit_bool_list, kit_int_list, kit_str_list, kit_tuple_list, kit_list_list, kit_dict_list, kit_NoneType_dict, kit_bool_dict, kit_int_dict, kit_str_dict, kit_tuple_dict, kit_list_dict, kit_dict_dict, Bool.false_eq_true, if_false, if_true, reduceIte, true_and, sz_0, sz_1, sz_2, sz_3, sz_4, sz_5, sz_6, sz_7, sz_8, sz_9, sz_10, sz_11, sz_12, sz_13, sz_14, sz_15, sz_16, sz_17, sz_18, sz_19, sz_20, sz_21, sz_22, sz_23, sz_24, sz_25, sz_26, sz_27, sz_28, sz_29, sz_30, sz_31, sz_32, sz_33, sz_34, sz_35, sz_36, sz_37, sz_38, sz_39, sz_40, sz_41, sz_42, sz_43, sz_44, sz_45, sz_46, sz_47, atI_c0, atI_c1, atI_c2, atI_c3, atI_c4, List.append_nil, List.filterMap_cons, List.filterMap_nil, and_self, decide_eq_true h3]
        refine draw_of D1 (by omega) (by decide) (by decide) fun M2 r2 D2 a2 b2 => ?_
        simp only [sSeq, sPar, sPut, sIf, sSet, sDrop, sRet, sRetN, sNext, dOp2, dOp1, dVar, dC, dB, dTup, dLst, dLstM, dNil, dCons, dSl, doNone, doSome, dCall, dLm, dLm0, dSm, dAnd, dOr, dNot, dAndV, dOrV, dIf, dChain, dFn, dFn0, dYes, dDisp, dDispM, dPairs, keysT, dNewD, dNewDM,
 oAdd, oSub, oMul, oFdiv, oMod, oPow, oInt2, oNeg, oIx, oSl, oRev, oRevM, oEqB, scalT, oLt, oLe, oGt, oGe, oOrd, oIsN, isNon, oNotB, oDGet, oDIn, oIn, oInS, mAppend, mPop, mJoin, isL, isS, fLen, fIsi, fAbs, fList, fListM, fTuple, fInt, fRepr, fBls, seqOf, tyT,
 look, keyT, Pat.set, start3, pick, List.getElem?_cons_zero, List.getElem?_cons_succ, List.set_cons_zero, List.set_cons_succ, List.map_cons, List.map_nil, List.length_cons, List.length_nil, List.nil_append, List.cons_append, List.replicate_succ, List.replicate_zero, Nat.reduceSub, Nat.reduceAdd, flatOf, kit_NoneType_str, kit_bool_str, kit_int_str, kit_str_str, kit_tuple_str, kit_list_str, kit_dict_str, kit_NoneType_int, kit_bool_int, kit_int_int, kit_str_int, kit_tuple_int, kit_list_int, kit_dict_int, kit_NoneType_bool, kit_bool_bool, kit_int_bool, kit_str_bool, kit_tuple_bool, kit_list_bool, kit_dict_bool, kit_NoneType_tuple, kit_bool_tuple, kit_int_tuple, kit_str_tuple, kit_tuple_tuple, kit_list_tuple, kit_dict_tuple, kit_NoneType_list, kit_bool_list, kit_int_list, kit_str_list, kit_tuple_list, kit_list_list, kit_dict_list, kit_NoneType_dict, kit_bool_dict, kit_int_dict, kit_str_dict, kit_tuple_dict, kit_list_dict, kit_dict_dict, Bool.false_eq_true, if_false, if_true, reduceIte, true_and, sz_0, sz_1, sz_2, sz_3, sz_4, sz_5, sz_6, sz_7, sz_8, sz_9, sz_10, sz_11, sz_12, sz_13, sz_14, sz_15, sz_16, sz_17, sz_18, sz_19, sz_20, sz_21, sz_22, sz_23, sz_24, sz_25, sz_26, sz_27, sz_28, sz_29, sz_30, sz_31, sz_32, sz_33, sz_34, sz_35, sz_36, sz_37, sz_38, sz_39, sz_40, sz_41, sz_42, sz_43, sz_44, sz_45, sz_46, sz_47, atI_c0, atI_c1, atI_c2, atI_c3, atI_c4, List.append_nil, List.filterMap_cons, List.filterMap_nil, and_self, m1]
        refine draw_of D2 (by omega) (by decide) (by decide) fun M3 r3 D3 a3 b3 => ?_
        simp only [sSeq, sPar, sPut, sIf, sSet, sDrop, sRet, sRetN, sNext, dOp2, dOp1, dVar, dC, dB, dTup, dLst, dLstM, dNil, dCons, dSl, doNone, doSome, dCall, dLm, dLm0, dSm, dAnd, dOr, dNot, dAndV, dOrV, dIf, dChain, dFn, dFn0, dYes, dDisp, dDispM, dPairs, keysT, dNewD, dNewDM,
 oAdd, oSub, oMul, oFdiv, oMod, oPow, oInt2, oNeg, oIx, oSl, oRev, oRevM, oEqB, scalT, oLt, oLe, oGt, oGe, oOrd, oIsN, isNon, oNotB, oDGet, oDIn, oIn, oInS, mAppend, mPop, mJoin, isL, isS, fLen, fIsi, fAbs, fList, fListM, fTuple, fInt, fRepr, fBls, seqOf, tyT,
 look, keyT, Pat.set, start3, pick, List.getElem?_cons_zero, List.getElem?_cons_succ, List.set_cons_zero, List.set_cons_succ, List.map_cons, List.map_nil, List.length_cons, List.length_nil, List.nil_append, List.cons_append, List.replicate_succ, List.replicate_zero, Nat.reduceSub, Nat.reduceAdd, flatOf, kit_NoneType_str, kit_bool_str, kit_int_str, kit_str_str, kit_tuple_str, kit_list_str, kit_dict_str, kit_NoneType_int, kit_bool_int, kit_int_int, kit_str_int, kit_tuple_int, kit_list_int, kit_dict_int, kit_NoneType_bool, kit_bool_bool, kit_int_bool, kit_str_bool, kit_tuple_bool, kit_list_bool, kit_dict_bool, kit_NoneType_tuple, kit_bool_tuple, kit_int_tuple, kit_str_tuple, kit_tuple_tuple, kit_list_tuple, kit_dict_tuple, kit_NoneType_list, kit_bool_list, kit_int_list, kit_str_list, kit_tuple_list, kit_list_list, kit_dict_list, kit_NoneType_dict, kit_bool_dict, kit_int_dict, kit_str_dict, kit_tuple_dict, kit_list_dict, kit_dict_dict, Bool.false_eq_true, if_false, if_true, reduceIte, true_and, sz_0, sz_1, sz_2, sz_3, sz_4, sz_5, sz_6, sz_7, sz_8, sz_9, sz_10, sz_11, sz_12, sz_13, sz_14, sz_15, sz_16, sz_17, sz_18, sz_19, sz_20, sz_21, sz_22, sz_23, sz_24, sz_25, sz_26, sz_27, sz_28, sz_29, sz_30, sz_31, sz_32, sz_33, sz_34, sz_35, sz_36, sz_37, sz_38, sz_39, sz_40, sz_41, sz_42, sz_43, sz_44, sz_45, sz_46, sz_47, atI_c0, atI_c1, atI_c2, atI_c3, atI_c4, List.append_nil, List.filterMap_cons, List.filterMap_nil, and_self]
        refine pick_of D3 (by omega) (by simp [itemsOf]) (by simp [itemsOf]) fun M4 t4 D4 m4 => ?_
        have h4 : ∃ i : Int, t4 = .int i ∧ i.natAbs < 10 ^ 60 := by
          simp only [itemsOf, List.mem_cons, List.not_mem_nil, or_false] at m4
          rcases m4 with rfl | rfl | rfl | rfl | rfl
          · exact ⟨_, rfl, by omega⟩
          · exact ⟨_, rfl, by omega⟩
          · refine ⟨_, rfl, ?_⟩
            split <;> omega
          · refine ⟨_, rfl, ?_⟩
            split <;> omega
          · exact ⟨_, rfl, by omega⟩
        obtain ⟨i, rfl, hi⟩ := h4
        exact q _ _ (D4.le (by omega)) (Or.inr (Or.inl ⟨i, rfl⟩)) fun j e => by cases e; exact hi
      · simp only [sSeq, sPar, sPut, sIf, sSet, sDrop, sRet, sRetN, sNext, dOp2, dOp1, dVar, dC, dB, dTup, dLst, dLstM, dNil, dCons, dSl, doNone, doSome, dCall, dLm, dLm0, dSm, dAnd, dOr, dNot, dAndV, dOrV, dIf, dChain, dFn, dFn0, dYes, dDisp, dDispM, dPairs, keysT, dNewD, dNewDM,
 oAdd, oSub, oMul, oFdiv, oMod, oPow, oInt2, oNeg, oIx, oSl, oRev, oRevM, oEqB, scalT, oLt, oLe, oGt, oGe, oOrd, oIsN, isNon, oNotB, oDGet, oDIn, oIn, oInS, mAppend, mPop, mJoin, isL, isS, fLen, fIsi, fAbs, fList, fListM, fTuple, fInt, fRepr, fBls, seqOf, tyT,
 look, keyT, Pat.set, start3, pick, List.getElem?_cons_zero, List.getElem?_cons_succ, List.set_cons_zero, List.set_cons_succ, List.map_cons, List.map_nil, List.length_cons, List.length_nil, List.nil_append, List.cons_append, List.replicate_succ, List.replicate_zero, Nat.reduceSub, Nat.reduceAdd, flatOf, kit_NoneType_str, kit_bool_str, kit_int_str, kit_str_str, kit_tuple_str, kit_list_str, kit_dict_str, kit_NoneType_int, kit_bool_int, kit_int_int, kit_str_int, kit_tuple_int, kit_list_int, kit_dict_int, kit_NoneType_bool, kit_bool_bool, kit_int_bool, kit_str_bool, kit_tuple_bool, kit_list_bool, kit_dict_bool, kit_NoneType_tuple, kit_bool_tuple, kit_int_tuple, kit_str_tuple, kit_tuple_tuple, kit_list_tuple, kit_dict_tuple, kit_NoneType_list, kit_bool_list, kit_int_list, kit_str_list, kit_tuple_list, kit_list_list, kit_dict_list, kit_NoneType_dict, kit_bool_dict, kit_int_dict, kit_str_dict, kit_tuple_dict, kit_list_dict, kit_dict_dict, Bool.false_eq_true, if_false, if_true, reduceIte, true_and, sz_0, sz_1, sz_2, sz_3, sz_4, sz_5, sz_6, sz_7, sz_8, sz_9, sz_10, sz_11, sz_12, sz_13, sz_14, sz_15, sz_16, sz_17, sz_18, sz_19, sz_20, sz_21, sz_22, sz_23, sz_24, sz_25, sz_26, sz_27, sz_28, sz_29, sz_30, sz_31, sz_32, sz_33, sz_34, sz_35, sz_36, sz_37, sz_38, sz_39, sz_40, sz_41, sz_42, sz_43, sz_44, sz_45, sz_46, sz_47, atI_c0, atI_c1, atI_c2, atI_c3, atI_c4, List.append_nil, List.filterMap_cons, List.filterMap_nil, and_self, decide_eq_false h3]
        refine ⟨dk, c, n + 1, rfl, D1, by omega, fun M2 z D2 hz hl => ?_⟩
        exact q _ _ (D2.le (by omega)) (Or.inr (Or.inr ⟨z, rfl, by omega, hl⟩)) (fun i e => nomatch e)



def Thing (t : T) (n k : Nat) : Prop := Dat t ∧ (∀ z, t = .str z → z.length ≤ 3000 ∧ Low z) ∧ Fine t n k
def tz : Nat → Nat
  | 0 => 30010
  | d + 1 => 2 * tz d + 40
def ct : Nat → Nat
  | 0 => 16
  | d + 1 => 2 * ct d + 3
theorem tz_ge (d : Nat) : 30010 ≤ tz d := by
  induction d with
  | zero => exact Nat.le_refl _
  | succ d ih => rw [tz]; omega
theorem ct_ge (d : Nat) : 16 ≤ ct d := by
  induction d with
  | zero => exact Nat.le_refl _
  | succ d ih => rw [ct]; omega
theorem thing_flat {t : T} (d : Nat) (h : Flat3 t) (hi : ∀ i, t = .int i → i.natAbs < 10 ^ 60) : Thing t (tz d) d := by
  have := tz_ge d
  rcases h with rfl | ⟨i, rfl⟩ | ⟨z, rfl, hz, hl⟩
  · exact ⟨rfl, fun z e => (nomatch e), fine_non.mono (by omega) (Nat.zero_le _)⟩
  · exact ⟨rfl, fun z e => (nomatch e), (fine_int (hi i rfl)).mono (by omega) (Nat.zero_le _)⟩
  · exact ⟨rfl, fun y e => by cases e; exact ⟨hz, hl⟩, (fine_str hl).mono (by omega) (Nat.zero_le _)⟩
theorem thing_int (i : Int) (d : Nat) (h : i.natAbs < 10 ^ 60) : Thing (.int i) (tz d) d := thing_flat d (Or.inr (Or.inl ⟨i, rfl⟩)) fun j e => by cases e; exact h
theorem thing_str {z : Str} (d : Nat) (h : z.length ≤ 3000) (l : Low z) : Thing (.str z) (tz d) d := thing_flat d (Or.inr (Or.inr ⟨z, rfl, h, l⟩)) fun j e => nomatch e
theorem thing_bl (b : Bool) (d : Nat) : Thing (.bl b) (tz d) d := ⟨rfl, fun z e => (nomatch e), (fine_bl b).mono (by have := tz_ge d; omega) (Nat.zero_le _)⟩
theorem thing_tup {xs : List T} {d : Nat} (h : ∀ x ∈ xs, Fine x (tz d) d) (hl : xs.length ≤ 2) : Thing (.tup xs) (tz (d + 1)) (d + 1) :=
  ⟨rfl, fun z e => (nomatch e), (fine_tup h).mono (by
    rw [tz]
    have := Nat.mul_le_mul_right (tz d + 2) hl
    omega) (Nat.le_refl _)⟩
theorem thing_lst1 {x : T} {d : Nat} (h : Fine x (tz d) d) : Thing (.lst [x]) (tz (d + 1)) (d + 1) :=
  ⟨rfl, fun z e => (nomatch e), (fine_lst (xs := [x]) fun y hy => by rw [List.mem_singleton] at hy; exact hy ▸ h).mono (by rw [tz, List.length_singleton]; omega) (Nat.le_refl _)⟩
theorem thing_lst0 (d : Nat) : Thing (.lst []) (tz (d + 1)) (d + 1) :=
  ⟨rfl, fun z e => (nomatch e), (fine_lst (n := 0) (k := 0) (xs := []) fun y hy => (nomatch hy)).mono (by rw [tz, List.length_nil]; omega) (by omega)⟩
theorem thing_dic0 (d : Nat) : Thing (.dic []) (tz (d + 1)) (d + 1) :=
  ⟨rfl, fun z e => (nomatch e), fine_dic0.mono (by rw [tz]; omega) (by omega)⟩
theorem thing_dic1 {x : T} {z : Str} {d : Nat} (hz : Low z) (hl : z.length ≤ 1) (h : Fine x (tz d) d) : Thing (.dic [(.inr z, x)]) (tz (d + 1)) (d + 1) :=
  ⟨rfl, fun z e => (nomatch e), (fine_dic1 hz h).mono (by rw [tz]; have := tz_ge d; omega) (Nat.le_refl _)⟩
def spThingAt : Nat → Sp3
  | 0 => spNo
  | d + 1 => fun ts M Q => ∃ dk c n i, ts = [.raw (.ref dk), .int i] ∧ i ≤ (d : Int) ∧ DeckAt dk c M n ∧ n + ct d ≤ 2 ^ 58 ∧ ∀ M' t, DeckAt dk c M' (n + ct d) → Thing t (tz d) d → Q t M'
theorem thing_of {d n : Nat} {i : Int} {dk c : Addr} {M : Mp} {Q : QE} (hD : DeckAt dk c M n) (h : i ≤ (d : Int)) (hn : n + ct d ≤ 2 ^ 58) (k : ∀ M' t, DeckAt dk c M' (n + ct d) → Thing t (tz d) d → Q t M') : spThingAt (d + 1) [.raw (.ref dk), .int i] M Q :=
  ⟨dk, c, n, i, rfl, h, hD, hn, k⟩
theorem ok_l_thing (E : Fns K mg) {d : Nat} (G_l_draw : FnD P w K mg base 1 E.f_l_draw E.fd_l_draw ["deck", "many"] spDraw) (G_l_pick : FnD P w K mg base 2 E.f_l_pick E.fd_l_pick ["deck", "some"] spPick) (G_l_word : FnD P w K mg base 3 E.f_l_word E.fd_l_word ["deck"] spWord) (G_l_value : FnD P w K mg base 4 E.f_l_value E.fd_l_value ["deck"] spValue) (G_l_thing : FnD P w K mg base (4 + d) E.f_l_thing E.fd_l_thing ["deck", "deep"] (spThingAt d)) : FnD P w K mg base (4 + d + 1) E.f_l_thing E.fd_l_thing ["deck", "deep"] (spThingAt (d + 1)) := by
  have nd := sc_l_thing.nd
  refine okD E.F_l_thing sc_l_thing ?len fun cdv A outer s H X hr hgd => ⟨_, (dss_cons (ds_set 2 nd rfl (by first | exact Or.inl rfl | exact Or.inr rfl) (d_fn G_l_draw (hr.mono (by omega)) hgd (by rfl) E.g_l_draw E.F_l_draw.kp (kb_l_draw_2 E) (da_cons (d_var 0) (da_cons d_int da_nil)) dk_nil))
  (dss_cons (ds_if (PW.pt (dw_and (dt_eq hr.units (d_var 2) d_int) (dw_and1 (dt_gt (d_var 1) d_int))))
  (dss_one (ds_ret (d_tuple (by rfl) E.m_tuple (da_cons (d_comp [("k", 3)] fin_L rfl nd (di_range1 (by rfl) E.m_range (d_fn G_l_draw (hr.mono (by omega)) hgd (by rfl) E.g_l_draw E.F_l_draw.kp (kb_l_draw_2 E) (da_cons (d_var 0) (da_cons d_int da_nil)) dk_nil)) (by kernel_rfl)
  (fun _ _ _ _ _ => (dg_nm 3 nd rfl (by first | exact Or.inl rfl | exact Or.inr rfl))) (fun _ _ _ _ _ => dts_nil) (fun _ _ _ _ _ => (d_fn G_l_thing (hr.mono (by omega)) hgd (by rfl) E.g_l_thing E.F_l_thing.kp (kb_l_thing_2 E) (da_cons (d_var 0) (da_cons (d_sub (d_var 1) d_int) da_nil)) dk_nil))) da_nil))))
  dss_nil)
  (dss_cons (ds_if (PW.pt (dw_and (dt_eq hr.units (d_var 2) d_int) (dw_and1 (dt_gt (d_var 1) d_int))))
  (dss_one (ds_ret (d_fn G_l_pick (hr.mono (by omega)) hgd (by rfl) E.g_l_pick E.F_l_pick.kp (kb_l_pick_2 E) (da_cons (d_var 0) (da_cons (d_lst (da_cons (d_lst (da_cons (d_fn G_l_thing (hr.mono (by omega)) hgd (by rfl) E.g_l_thing E.F_l_thing.kp (kb_l_thing_2 E) (da_cons (d_var 0) (da_cons (d_sub (d_var 1) d_int) da_nil)) dk_nil) da_nil)) (da_cons (d_disp (dps_cons d_str (d_fn G_l_thing (hr.mono (by omega)) hgd (by rfl) E.g_l_thing E.F_l_thing.kp (kb_l_thing_2 E) (da_cons (d_var 0) (da_cons (d_sub (d_var 1) d_int) da_nil)) dk_nil) dps_nil)) (da_cons d_newD (da_cons (d_lst da_nil) da_nil))))) da_nil)) dk_nil)))
  dss_nil)
  (dss_cons (ds_if (dt_eq hr.units (d_var 2) d_int)
  (dss_one (ds_ret (d_fn G_l_pick (hr.mono (by omega)) hgd (by rfl) E.g_l_pick E.F_l_pick.kp (kb_l_pick_2 E) (da_cons (d_var 0) (da_cons (d_lst (da_cons d_bl (da_cons d_bl (da_cons (d_add (d_add (d_pow d_int d_int) d_int) (d_fn G_l_draw (hr.mono (by omega)) hgd (by rfl) E.g_l_draw E.F_l_draw.kp (kb_l_draw_2 E) (da_cons (d_var 0) (da_cons d_int da_nil)) dk_nil)) (da_cons (d_sub (d_neg (d_pow d_int d_int)) d_int) (da_cons (d_pow d_int d_int) (da_cons (d_neg (d_pow d_int d_int)) da_nil))))))) da_nil)) dk_nil)))
  dss_nil)
  (dss_cons (ds_if (dt_lt (d_var 2) d_int)
  (dss_cons (ds_par 4 5 rfl nd rfl rfl (by decide) rfl rfl (d_fn G_l_word (hr.mono (by omega)) hgd (by rfl) E.g_l_word E.F_l_word.kp (kb_l_word_1 E) (da_cons (d_var 0) da_nil) dk_nil) (d_fn G_l_pick (hr.mono (by omega)) hgd (by rfl) E.g_l_pick E.F_l_pick.kp (kb_l_pick_2 E) (da_cons (d_var 0) (da_cons d_str da_nil)) dk_nil))
  (dss_cons (ds_set 6 nd rfl (by first | exact Or.inl rfl | exact Or.inr rfl) (d_fn G_l_draw (hr.mono (by omega)) hgd (by rfl) E.g_l_draw E.F_l_draw.kp (kb_l_draw_2 E) (da_cons (d_var 0) (da_cons (d_add (d_len (by rfl) E.m_len (da_cons (d_var 4) da_nil)) d_int) da_nil)) dk_nil))
  (dss_cons (ds_set 7 nd rfl (by first | exact Or.inl rfl | exact Or.inr rfl) (d_lst (da_cons (d_add (d_add (d_slice (d_var 4) do_none (do_some (d_var 6))) (d_var 5)) (d_slice (d_var 4) (do_some (d_var 6)) do_none)) (da_cons (d_add (d_add (d_slice (d_var 4) do_none (do_some (d_var 6))) (d_var 5)) (d_slice (d_var 4) (do_some (d_add (d_var 6) d_int)) do_none)) (da_cons (d_add (d_var 4) d_str) (da_cons (d_mul (d_var 4) d_int) da_nil))))))
  (dss_one (ds_ret (d_fn G_l_pick (hr.mono (by omega)) hgd (by rfl) E.g_l_pick E.F_l_pick.kp (kb_l_pick_2 E) (da_cons (d_var 0) (da_cons (d_var 7) da_nil)) dk_nil))))))
  dss_nil)
  (dss_one (ds_ret (d_fn G_l_value (hr.mono (by omega)) hgd (by rfl) E.g_l_value E.F_l_value.kp (kb_l_value_1 E) (da_cons (d_var 0) da_nil) dk_nil)))))))), ?_⟩
  case len =>
    rintro ts M Q ⟨dk, c, n, i, rfl, _⟩
    rfl
  · rintro ts M Q ⟨dk, c, n, i, rfl, hi, hD, hn, q⟩
    have c16 := ct_ge d
    have pow : CPow 10 12 := ⟨by decide, by decide, by decide⟩
    have pow2 : CPow 10 39 := ⟨by decide, by decide, by decide⟩
    simp only [sSeq, sPar, sPut, sIf, sSet, sDrop, sRet, sRetN, sNext, dOp2, dOp1, dVar, dC, dB, dTup, dLst, dLstM, dNil, dCons, dSl, doNone, doSome, dCall, dLm, dLm0, dSm, dAnd, dOr, dNot, dAndV, dOrV, dIf, dChain, dFn, dFn0, dYes, dDisp, dDispM, dPairs, keysT, dNewD, dNewDM,
 oAdd, oSub, oMul, oFdiv, oMod, oPow, oInt2, oNeg, oIx, oSl, oRev, oRevM, oEqB, scalT, oLt, oLe, oGt, oGe, oOrd, oIsN, isNon, oNotB, oDGet, oDIn, oIn, oInS, mAppend, mPop, mJoin, isL, isS, fLen, fIsi, fAbs, fList, fListM, fTuple, fInt, fRepr, fBls, seqOf, tyT,
 look, keyT, Pat.set, start3, pick, List.getElem?_cons_zero, List.getElem?_cons_succ, List.set_cons_zero, List.set_cons_succ, List.map_cons, List.map_nil, List.length_cons, List.length_nil, List.nil_append, List.cons_append, List.replicate_succ, List.replicate_zero, Nat.reduceSub, Nat.reduceAdd, flatOf, kit_NoneType_str, kit_bool_str, kit_int_str, kit_str_str, kit_tuple_str, kit_list_str, kit_dict_str, kit_NoneType_int, kit_bool_int, kit_int_int, kit_str_int, kit_tuple_int, kit_list_int, kit_dict_int, kit_NoneType_bool, kit_bool_bool, kit_int_bool, kit_str_bool, kit_tuple_bool, kit_list_bool, kit_dict_bool, kit_NoneType_tuple, kit_bool_tuple, kit_int_tuple, kit_str_tuple, kit_tuple_tuple, kit_list_tuple, kit_dict_tuple, kit_NoneType_list, kit_bool_list, kit_int_list, kit_str_list, kit_tuple_list, kit_list_list, kit_dict_list, kit_NoneType_dict, kit_bool_dict, kit_int_dict, kit_str_dict, kit_tuple_dict, kit_list_dict, kit_dict_dict, Bool.false_eq_true, if_false, if_true, reduceIte, true_and, sz_0, sz_1, sz_2, sz_3, sz_4, sz_5, sz_6, sz_7, sz_8, sz_9, sz_10, sz_11, sz_12, sz_13, sz_14, sz_15, sz_16, sz_17, sz_18, sz_19, sz_20, sz_21, sz_22, sz_23, sz_24, sz_25, sz_26, sz_27, sz_28, sz_29, sz_30, sz_31, sz_32, sz_33, sz_34, sz_35, sz_36, sz_37, sz_38, sz_39, sz_40, sz_41, sz_42, sz_43, sz_44, sz_45, sz_46, sz_47, atI_c0, atI_c1, atI_c2, atI_c3, atI_c4, List.append_nil, List.filterMap_cons, List.filterMap_nil, and_self]
    refine draw_of hD (by omega) (by decide) (by decide) fun M1 r1 D1 a1 b1 => ?_
    simp only [sSeq, sPar, sPut, sIf, sSet, sDrop, sRet, sRetN, sNext, dOp2, dOp1, dVar, dC, dB, dTup, dLst, dLstM, dNil, dCons, dSl, doNone, doSome, dCall, dLm, dLm0, dSm, dAnd, dOr, dNot, dAndV, dOrV, dIf, dChain, dFn, dFn0, dYes, dDisp, dDispM, dPairs, keysT, dNewD, dNewDM,
 oAdd, oSub, oMul, oFdiv, oMod, oPow, oInt2, oNeg, oIx, oSl, oRev, oRevM, oEqB, scalT, oLt, oLe, oGt, oGe, oOrd, oIsN, isNon, oNotB, oDGet, oDIn, oIn, oInS, mAppend, mPop, mJoin, isL, isS, fLen, fIsi, fAbs, fList, fListM, fTuple, fInt, fRepr, fBls, seqOf, tyT,
 look, keyT, Pat.set, start3, pick, List.getElem?_cons_zero, List.getElem?_cons_succ, List.set_cons_zero, List.set_cons_succ, List.map_cons, List.map_nil, List.length_cons, List.length_nil, List.nil_append, List.cons_append, List.replicate_succ, List.replicate_zero, Nat.reduceSub, Nat.reduceAdd, flatOf, kit_NoneType_str, kit_bool_str, kit_int_str, kit_str_str, kit_tuple_str, kit_list_str, kit_dict_str, kit_NoneType_int, kit_bool_int, kit_int_int, kit_str_int, kit_tuple_int, kit_list_int, kit_dict_int, kit_NoneType_bool, kit_bool_bool, kit_int_bool, kit_str_bool, kit_tuple_bool, kit_list_bool, kit_dict_bool, kit_NoneType_tuple, kit_bool_tuple, kit_int_tuple, kit_str_tuple, kit_tuple_tuple, kit_list_tuple, kit_dict_tuple, kit_NoneType_list, kit_bool_list, kit_int_list, kit_str_list, kit_tuple_list, kit_list_list, kit_dict_list, kit_NoneType_dict, kit_bool_dict, kit_int_dict, kit_str_dict, kit_tuple_dict, kit_list_dict, kit_dict_dict, Bool.false_eq_true, if_false, if_true, reduceIte, true_and, sz_0, sz_1, sz_2, sz_3, sz_4, sz_5, sz_6, sz_7, sz_8, sz_9, sz_10, sz_11, sz_12, sz_13, sz_14, sz_15, sz_16, sz_17, sz_18, sz_19, sz_20, sz_21, sz_22, sz_23, sz_24, sz_25, sz_26, sz_27, sz_28, sz_29, sz_30, sz_31, sz_32, sz_33, sz_34, sz_35, sz_36, sz_37, sz_38, sz_39, sz_40, sz_41, sz_42, sz_43, sz_44, sz_45, sz_46, sz_47, atI_c0, atI_c1, atI_c2, atI_c3, atI_c4, List.append_nil, List.filterMap_cons, List.filterMap_nil, and_self]
    rcases (by omega : (r1 = 0 ∧ 0 < i) ∨ (r1 = 1 ∧ 0 < i) ∨ r1 = 2 ∨ ((r1 < 5 ∧ ¬ r1 = 2) ∧ (¬ (r1 = 0 ∧ 0 < i)) ∧ ¬ (r1 = 1 ∧ 0 < i)) ∨ 5 ≤ r1) with ⟨h0, hp⟩ | ⟨h0, hp⟩ | h0 | ⟨⟨h5, h2⟩, hA, hB⟩ | h5
    · subst h0
      simp only [decide_eq_true hp, decide_true, dComp, iR1, sSeq, sPar, sPut, sIf, sSet, sDrop, sRet, sRetN, sNext, dOp2, dOp1, dVar, dC, dB, dTup, dLst, dLstM, dNil, dCons, dSl, doNone, doSome, dCall, dLm, dLm0, dSm, dAnd, dOr, dNot, dAndV, dOrV, dIf, dChain, dFn, dFn0, dYes, dDisp, dDispM, dPairs, keysT, dNewD, dNewDM,
 oAdd, oSub, oMul, oFdiv, oMod, oPow, oInt2, oNeg, oIx, oSl, oRev, oRevM, oEqB, scalT, oLt, oLe, oGt, oGe, oOrd, oIsN, isNon, oNotB, oDGet, oDIn, oIn, oInS, mAppend, mPop, mJoin, isL, isS, fLen, fIsi, fAbs, fList, fListM, fTuple, fInt, fRepr, fBls, seqOf, tyT,
 look, keyT, Pat.set, start3, pick, List.getElem?_cons_zero, List.getElem?_cons_succ, List.set_cons_zero, List.set_cons_succ, List.map_cons, List.map_nil, List.length_cons, List.length_nil, List.nil_append, List.cons_append, List.replicate_succ, List.replicate_zero, Nat.reduceSub, Nat.reduceAdd, flatOf, kit_NoneType_str, kit_bool_str, kit_int_str, kit_str_str, kit_tuple_str, kit_list_str, kit_dict_str, kit_NoneType_int, kit_bool_int, kit_int_int, kit_str_int, kit_tuple_int, kit_list_int, kit_dict_int, kit_NoneType_bool, kit_bool_bool, kit_int_bool, kit_str_bool, kit_tuple_bool, kit_list_bool, kit_dict_bool, kit_NoneType_tuple, kit_bool_tuple, kit_int_tuple, kit_str_tuple, kit_tuple_tuple, kit_list_tuple, kit_dict_tuple, kit_NoneType_list, kit_bool_list, kit_int_list, kit_str_list, kit_tuple_list, kit_list_list, kit_dict_list, kit_NoneType_dict, kit_bool_dict, kit_int_dict, kit_str_dict, kit_tuple_dict, kit_list_dict, kit_dict_dict, Bool.false_eq_true, if_false, if_true, reduceIte, true_and, sz_0, sz_1, sz_2, sz_3, sz_4, sz_5, sz_6, sz_7, sz_8, sz_9, sz_10, sz_11, sz_12, sz_13, sz_14, sz_15, sz_16, sz_17, sz_18, sz_19, sz_20, sz_21, sz_22, sz_23, sz_24, sz_25, sz_26, sz_27, sz_28, sz_29, sz_30, sz_31, sz_32, sz_33, sz_34, sz_35, sz_36, sz_37, sz_38, sz_39, sz_40, sz_41, sz_42, sz_43, sz_44, sz_45, sz_46, sz_47, atI_c0, atI_c1, atI_c2, atI_c3, atI_c4, List.append_nil, List.filterMap_cons, List.filterMap_nil, and_self]
      refine draw_of D1 (by omega) (by decide) (by decide) fun M2 r2 D2 a2 b2 => ?_
      cases d with
      | zero => omega
      | succ d =>
        have hc : ct (d + 1) = 2 * ct d + 3 := rfl
        refine ⟨by omega, ?_⟩
        have h2 : r2.toNat ≤ 2 := by omega
        refine compL_inv (fun i M => DeckAt dk c M (n + 1 + 1 + i * ct d)) (fun t => Thing t (tz d) d) (fun _ _ _ => trivial) 0 (by rw [Nat.zero_mul]; exact D2) ?_ ?_ ?_
        · intro j t M4 hj h4
          refine ⟨_, rfl, fun R k => ?_⟩
          simp only [sSeq, sPar, sPut, sIf, sSet, sDrop, sRet, sRetN, sNext, dOp2, dOp1, dVar, dC, dB, dTup, dLst, dLstM, dNil, dCons, dSl, doNone, doSome, dCall, dLm, dLm0, dSm, dAnd, dOr, dNot, dAndV, dOrV, dIf, dChain, dFn, dFn0, dYes, dDisp, dDispM, dPairs, keysT, dNewD, dNewDM,
 oAdd, oSub, oMul, oFdiv, oMod, oPow, oInt2, oNeg, oIx, oSl, oRev, oRevM, oEqB, scalT, oLt, oLe, oGt, oGe, oOrd, oIsN, isNon, oNotB, oDGet, oDIn, oIn, oInS, mAppend, mPop, mJoin, isL, isS, fLen, fIsi, fAbs, fList, fListM, fTuple, fInt, fRepr, fBls, seqOf, tyT,
 look, keyT, Pat.set, start3, pick, List.getElem?_cons_zero, List.getElem?_cons_succ, List.set_cons_zero, List.set_cons_succ, List.map_cons, List.map_nil, List.length_cons, List.length_nil, List.nil_append, List.cons_append, List.replicate_succ, List.replicate_zero, Nat.reduceSub, Nat.reduceAdd, flatOf, kit_NoneType_str, kit_bool_str, kit_int_str, kit_str_str, kit_tuple_str, kit_list_str, kit_dict_str, kit_NoneType_int, kit_bool_int, kit_int_int, kit_str_int, kit_tuple_int, kit_list_int, kit_dict_int, kit_NoneType_bool, kit_bool_bool, kit_int_bool, kit_str_bool, kit_tuple_bool, kit_list_bool, kit_dict_bool, kit_NoneType_tuple, kit_bool_tuple, kit_int_tuple, kit_str_tuple, kit_tuple_tuple, kit_list_tuple, kit_dict_tuple, kit_NoneType_list, kit_bool_list, kit_int_list, kit_str_list, kit_tuple_list, kit_list_list, kit_dict_list, kit_NoneType_dict, kit_bool_dict, kit_int_dict, kit_str_dict, kit_tuple_dict, kit_list_dict, kit_dict_dict, Bool.false_eq_true, if_false, if_true, reduceIte, true_and, sz_0, sz_1, sz_2, sz_3, sz_4, sz_5, sz_6, sz_7, sz_8, sz_9, sz_10, sz_11, sz_12, sz_13, sz_14, sz_15, sz_16, sz_17, sz_18, sz_19, sz_20, sz_21, sz_22, sz_23, sz_24, sz_25, sz_26, sz_27, sz_28, sz_29, sz_30, sz_31, sz_32, sz_33, sz_34, sz_35, sz_36, sz_37, sz_38, sz_39, sz_40, sz_41, sz_42, sz_43, sz_44, sz_45, sz_46, sz_47, atI_c0, atI_c1, atI_c2, atI_c3, atI_c4, List.append_nil, List.filterMap_cons, List.filterMap_nil, and_self, wipe3]
          have hj' : j < 2 := by
            have := (List.getElem?_eq_some_iff.mp hj).1
            rw [ups_len] at this
            omega
          have hm : j * ct d ≤ 1 * ct d := Nat.mul_le_mul_right _ (by omega)
          rw [Nat.zero_add] at h4 k
          refine thing_of h4 (by omega) (by omega) fun M5 t5 D5 m5 => ?_
          refine k _ _ m5 ?_
          rw [Nat.succ_mul, ← Nat.add_assoc]
          exact D5
        · rw [ups_len]
          exact sz (by rw [List.length_nil]; omega)
        · intro ys M6 hlen hys h6
          rw [ups_len] at hlen h6
          simp only [finL, sSeq, sPar, sPut, sIf, sSet, sDrop, sRet, sRetN, sNext, dOp2, dOp1, dVar, dC, dB, dTup, dLst, dLstM, dNil, dCons, dSl, doNone, doSome, dCall, dLm, dLm0, dSm, dAnd, dOr, dNot, dAndV, dOrV, dIf, dChain, dFn, dFn0, dYes, dDisp, dDispM, dPairs, keysT, dNewD, dNewDM,
 oAdd, oSub, oMul, oFdiv, oMod, oPow, oInt2, oNeg, oIx, oSl, oRev, oRevM, oEqB, scalT, oLt, oLe, oGt, oGe, oOrd, oIsN, isNon, oNotB, oDGet, oDIn, oIn, oInS, mAppend, mPop, mJoin, isL, isS, fLen, fIsi, fAbs, fList, fListM, fTuple, fInt, fRepr, fBls, seqOf, tyT,
 look, keyT, Pat.set, start3, pick, List.getElem?_cons_zero, List.getElem?_cons_succ, List.set_cons_zero, List.set_cons_succ, List.map_cons, List.map_nil, List.length_cons, List.length_nil, List.nil_append, List.cons_append, List.replicate_succ, List.replicate_zero, Nat.reduceSub, Nat.reduceAdd, flatOf, kit_NoneType_str, kit_bool_str, kit_int_str, kit_str_str, kit_tuple_str, kit_list_str, kit_dict_str, kit_NoneType_int, kit_bool_int, kit_int_int, kit_str_int, kit_tuple_int, kit_list_int, kit_dict_int, kit_NoneType_bool, kit_bool_bool, kit_int_bool, kit_str_bool, kit_tuple_bool, kit_list_bool, kit_dict_bool, kit_NoneType_tuple, kit_bool_tuple, kit_int_tuple, kit_str_tuple, kit_tuple_tuple, kit_list_tuple, kit_dict_tuple, kit_NoneType_list, kit_bool_list, kit_int_list, kit_str_list, kit_tuple_list, kit_list_list, kit_dict_list, kit_NoneType_dict, kit_bool_dict, kit_int_dict, kit_str_dict, kit_tuple_dict, kit_list_dict, kit_dict_dict, Bool.false_eq_true, if_false, if_true, reduceIte, true_and, sz_0, sz_1, sz_2, sz_3, sz_4, sz_5, sz_6, sz_7, sz_8, sz_9, sz_10, sz_11, sz_12, sz_13, sz_14, sz_15, sz_16, sz_17, sz_18, sz_19, sz_20, sz_21, sz_22, sz_23, sz_24, sz_25, sz_26, sz_27, sz_28, sz_29, sz_30, sz_31, sz_32, sz_33, sz_34, sz_35, sz_36, sz_37, sz_38, sz_39, sz_40, sz_41, sz_42, sz_43, sz_44, sz_45, sz_46, sz_47, atI_c0, atI_c1, atI_c2, atI_c3, atI_c4, List.append_nil, List.filterMap_cons, List.filterMap_nil, and_self]
          have hm : (0 + r2.toNat) * ct d ≤ 2 * ct d := Nat.mul_le_mul_right _ (by omega)
          exact q _ _ (h6.le (by omega)) (thing_tup (fun x hx => (hys x hx).2.2) (by omega))
    · subst h0
      simp only [decide_eq_true hp, decide_true, sSeq, sPar, sPut, sIf, sSet, sDrop, sRet, sRetN, sNext, dOp2, dOp1, dVar, dC, dB, dTup, dLst, dLstM, dNil, dCons, dSl, doNone, doSome, dCall, dLm, dLm0, dSm, dAnd, dOr, dNot, dAndV, dOrV, dIf, dChain, dFn, dFn0, dYes, dDisp, dDispM, dPairs, keysT, dNewD, dNewDM,
 oAdd, oSub, oMul, oFdiv, oMod, oPow, oInt2, oNeg, oIx, oSl, oRev, oRevM, oEqB, scalT, oLt, oLe, oGt, oGe, oOrd, oIsN, isNon, oNotB, oDGet, oDIn, oIn, oInS, mAppend, mPop, mJoin, isL, isS, fLen, fIsi, fAbs, fList, fListM, fTuple, fInt, fRepr, fBls, seqOf, tyT,
 look, keyT, Pat.set, start3, pick, List.getElem?_cons_zero, List.getElem?_cons_succ, List.set_cons_zero, List.set_cons_succ, List.map_cons, List.map_nil, List.length_cons, List.length_nil, List.nil_append, List.cons_append, List.replicate_succ, List.replicate_zero, Nat.reduceSub, Nat.reduceAdd, flatOf, kit_NoneType_str, kit_bool_str, kit_int_str, kit_str_str, kit_tuple_str, kit_list_str, kit_dict_str, kit_NoneType_int, kit_bool_int, kit_int_int, kit_str_int, kit_tuple_int, kit_list_int, kit_dict_int, kit_NoneType_bool, kit_bool_bool, kit_int_bool, kit_str_bool, kit_tuple_bool, kit_list_bool, kit_dict_bool, kit_NoneType_tuple, kit_bool_tuple, kit_int_tuple, kit_str_tuple, kit_tuple_tuple, kit_list_tuple, kit_dict_tuple, kit_NoneType_list, kit_bool_list, kit_int_list, kit_str_list, kit_tuple_list, kit_list_list, kit_dict_list, kit_NoneType_dict, kit_bool_dict, kit_int_dict, kit_str_dict, kit_tuple_dict, kit_list_dict, kit_dict_dict, Bool.false_eq_true, if_false, if_true, reduceIte, true_and, sz_0, sz_1, sz_2, sz_3, sz_4, sz_5, sz_6, sz_7, sz_8, sz_9, sz_10, sz_11, sz_12, sz_13, sz_14, sz_15, sz_16, sz_17, sz_18, sz_19, sz_20, sz_21, sz_22, sz_23, sz_24, sz_25, sz_26, sz_27, sz_28, sz_29, sz_30, sz_31, sz_32, sz_33, sz_34, sz_35, sz_36, sz_37, sz_38, sz_39, sz_40, sz_41, sz_42, sz_43, sz_44, sz_45, sz_46, sz_47, atI_c0, atI_c1, atI_c2, atI_c3, atI_c4, List.append_nil, List.filterMap_cons, List.filterMap_nil, and_self]
      cases d with
      | zero => omega
      | succ d =>
        have hc : ct (d + 1) = 2 * ct d + 3 := rfl
        refine thing_of D1 (by omega) (by omega) fun M2 t2 D2 m2 => ?_
        refine thing_of D2 (by omega) (by omega) fun M3 t3 D3 m3 => ?_
        refine ⟨by decide, ?_⟩
        refine pick_of D3 (by omega) (by simp [itemsOf]) (by simp [itemsOf]) fun M4 t4 D4 m4 => ?_
        refine q _ _ (D4.le (by omega)) ?_
        simp only [itemsOf, List.mem_cons, List.not_mem_nil, or_false] at m4
        rcases m4 with rfl | rfl | rfl | rfl
        · exact thing_lst1 m2.2.2
        · exact thing_dic1 (low_of (by decide +kernel)) (by decide +kernel) m3.2.2
        · exact thing_dic0 d
        · exact thing_lst0 d
    · subst h0
      have hd : (decide ((2 : Int) = 0)) = false := by decide
      have hd1 : (decide ((2 : Int) = 1)) = false := by decide
      simp only [hd, hd1, decide_true, pow, sSeq, sPar, sPut, sIf, sSet, sDrop, sRet, sRetN, sNext, dOp2, dOp1, dVar, dC, dB, dTup, dLst, dLstM, dNil, dCons, dSl, doNone, doSome, dCall, dLm, dLm0, dSm, dAnd, dOr, dNot, dAndV, dOrV, dIf, dChain, dFn, dFn0, dYes, dDisp, dDispM, dPairs, keysT, dNewD, dNewDM,
 oAdd, oSub, oMul, oFdiv, oMod, oPow, oInt2, oNeg, oIx, oSl, oRev, oRevM, oEqB, scalT, oLt, oLe, oGt, oGe, oOrd, oIsN, isNon, oNotB, oDGet, oDIn, oIn, oInS, mAppend, mPop, mJoin, isL, isS, fLen, fIsi, fAbs, fList, fListM, fTuple, fInt, fRepr, fBls, seqOf, tyT,
 look, keyT, Pat.set, start3, pick, List.getElem?_cons_zero, List.getElem?_cons_succ, List.set_cons_zero, List.set_cons_succ, List.map_cons, List.map_nil, List.length_cons, List.length_nil, List.nil_append, List.cons_append, List.replicate_succ, List.replicate_zero, Nat.reduceSub, Nat.reduceAdd, flatOf, kit_NoneType_str, kit_bool_str, kit_int_str, kit_str_str, kit_tuple_str, kit_list_str, kit_dict_str, kit_NoneType_int, kit_bool_int, kit_int_int, kit_str_int, kit_tuple_int, kit_list_int, kit_dict_int, kit_NoneType_bool, kit_bool_bool, kit_int_bool, kit_str_bool, kit_tuple_bool, kit_list_bool, kit_dict_bool, kit_NoneType_tuple, kit_bool_tuple, kit_int_tuple, kit_str_tuple, kit_tuple_tuple, kit_list_tuple, kit_dict_tuple, kit_NoneType_list, kit_bool_list, kit_int_list, kit_str_list, kit_tuple_list, kit_list_list, kit_dict_list, kit_NoneType_dict, kit_bool_dict, kit_int_dict, kit_str_dict, kit_tuple_dict, kit_list_dict, kit_dict_dict, Bool.false_eq_true, if_false, if_true, reduceIte, true_and, sz_0, sz_1, sz_2, sz_3, sz_4, sz_5, sz_6, sz_7, sz_8, sz_9, sz_10, sz_11, sz_12, sz_13, sz_14, sz_15, sz_16, sz_17, sz_18, sz_19, sz_20, sz_21, sz_22, sz_23, sz_24, sz_25, sz_26, sz_27, sz_28, sz_29, sz_30, sz_31, sz_32, sz_33, sz_34, sz_35, sz_36, sz_37, sz_38, sz_39, sz_40, sz_41, sz_42, sz_43, sz_44, sz_45, sz_46, sz_47, atI_c0, atI_c1, atI_c2, atI_c3, atI_c4, List.append_nil, List.filterMap_cons, List.filterMap_nil, and_self]
      refine draw_of D1 (by omega) (by decide) (by decide) fun M2 r2 D2 a2 b2 => ?_
      simp only [pow, pow2, sSeq, sPar, sPut, sIf, sSet, sDrop, sRet, sRetN, sNext, dOp2, dOp1, dVar, dC, dB, dTup, dLst, dLstM, dNil, dCons, dSl, doNone, doSome, dCall, dLm, dLm0, dSm, dAnd, dOr, dNot, dAndV, dOrV, dIf, dChain, dFn, dFn0, dYes, dDisp, dDispM, dPairs, keysT, dNewD, dNewDM,
 oAdd, oSub, oMul, oFdiv, oMod, oPow, oInt2, oNeg, oIx, oSl, oRev, oRevM, oEqB, scalT, oLt, oLe, oGt, oGe, oOrd, oIsN, isNon, oNotB, oDGet, oDIn, oIn, oInS, mAppend, mPop, mJoin, isL, isS, fLen, fIsi, fAbs, fList, fListM, fTuple, fInt, fRepr, fBls, seqOf, tyT,
 look, keyT, Pat.set, start3, pick, List.getElem?_cons_zero, List.getElem?_cons_succ, List.set_cons_zero, List.set_cons_succ, List.map_cons, List.map_nil, List.length_cons, List.length_nil, List.nil_append, List.cons_append, List.replicate_succ, List.replicate_zero, Nat.reduceSub, Nat.reduceAdd, flatOf, kit_NoneType_str, kit_bool_str, kit_int_str, kit_str_str, kit_tuple_str, kit_list_str, kit_dict_str, kit_NoneType_int, kit_bool_int, kit_int_int, kit_str_int, kit_tuple_int, kit_list_int, kit_dict_int, kit_NoneType_bool, kit_bool_bool, kit_int_bool, kit_str_bool, kit_tuple_bool, kit_list_bool, kit_dict_bool, kit_NoneType_tuple, kit_bool_tuple, kit_int_tuple, kit_str_tuple, kit_tuple_tuple, kit_list_tuple, kit_dict_tuple, kit_NoneType_list, kit_bool_list, kit_int_list, kit_str_list, kit_tuple_list, kit_list_list, kit_dict_list, kit_NoneType_dict, kit_bool_dict, kit_int_dict, kit_str_dict, kit_tuple_dict, kit_list_dict, kit_dict_dict, Bool.false_eq_true, if_false, if_true, reduceIte, true_and, sz_0, sz_1, sz_2, sz_3, sz_4, sz_5, sz_6, sz_7, sz_8, sz_9, sz_10, sz_11, sz_12, sz_13, sz_14, sz_15, sz_16, sz_17, sz_18, sz_19, sz_20, sz_21, sz_22, sz_23, sz_24, sz_25, sz_26, sz_27, sz_28, sz_29, sz_30, sz_31, sz_32, sz_33, sz_34, sz_35, sz_36, sz_37, sz_38, sz_39, sz_40, sz_41, sz_42, sz_43, sz_44, sz_45, sz_46, sz_47, atI_c0, atI_c1, atI_c2, atI_c3, atI_c4, List.append_nil, List.filterMap_cons, List.filterMap_nil, and_self]
      refine pick_of D2 (by omega) (by simp [itemsOf]) (by simp [itemsOf]) fun M4 t4 D4 m4 => ?_
      refine q _ _ (D4.le (by omega)) ?_
      have p12 : (10 : Int) ^ (12 : Int).toNat = 1000000000000 := by decide
      have p39 : (10 : Int) ^ (39 : Int).toNat = 1000000000000000000000000000000000000000 := by decide
      simp only [itemsOf, List.mem_cons, List.not_mem_nil, or_false, p12, p39] at m4
      rcases m4 with rfl | rfl | rfl | rfl | rfl | rfl
      · exact thing_bl _ _
      · exact thing_bl _ _
      · exact thing_int _ _ (by omega)
      · exact thing_int _ _ (by omega)
      · exact thing_int _ _ (by omega)
      · exact thing_int _ _ (by omega)
    · have wd : ∀ R : QE, (∀ M' z, DeckAt dk c M' (n + 1 + 11) → z.length ≤ 8 → Low z → R (.str z) M') → spWord [T.raw (V.ref dk)] M1 R := fun R k => ⟨dk, c, n + 1, rfl, D1, by omega, k⟩
      rcases (by omega : (¬ r1 = 0 ∧ ¬ r1 = 1) ∨ (r1 = 0 ∧ ¬ 0 < i) ∨ (r1 = 1 ∧ ¬ 0 < i)) with ⟨g0, g1⟩ | ⟨g0, g⟩ | ⟨g0, g⟩
      · simp only [decide_eq_false g0, decide_eq_false g1, decide_eq_false h2, decide_eq_true h5, sSeq, sPar, sPut, sIf, sSet, sDrop, sRet, sRetN, sNext, dOp2, dOp1, dVar, dC, dB, dTup, dLst, dLstM, dNil, dCons, dSl, doNone, doSome, dCall, dLm, dLm0, dSm, dAnd, dOr, dNot, dAndV, dOrV, dIf, dChain, dFn, dFn0, dYes, dDisp, dDispM, dPairs, keysT, dNewD, dNewDM,
 oAdd, oSub, oMul, oFdiv, oMod, oPow, oInt2, oNeg, oIx, oSl, oRev, oRevM, oEqB, scalT, oLt, oLe, oGt, oGe, oOrd, oIsN, isNon, oNotB, oDGet, oDIn, oIn, oInS, mAppend, mPop, mJoin, isL, isS, fLen, fIsi, fAbs, fList, fListM, fTuple, fInt, fRepr, fBls, seqOf, tyT,
 look, keyT, Pat.set, start3, pick, List.getElem?_cons_zero, List.getElem?_cons_succ, List.set_cons_zero, List.set_cons_succ, List.map_cons, List.map_nil, List.length_cons, List.length_nil, List.nil_append, List.cons_append, List.replicate_succ, List.replicate_zero, Nat.reduceSub, Nat.reduceAdd, flatOf, kit_NoneType_str, kit_bool_str, kit_int_str, kit_str_str, kit_tuple_str, kit_list_str, kit_dict_str, kit_NoneType_int, kit_bool_int, kit_int_int, kit_str_int, kit_tuple_int, kit_list_int, kit_dict_int, kit_NoneType_bool, kit_bool_bool, kit_int_bool, kit_str_bool, kit_tuple_bool, kit_list_bool, kit_dict_bool, kit_NoneType_tuple, kit_bool_tuple, kit_int_tuple, kit_str_tuple, kit_tuple_tuple, kit_list_tuple, kit_dict_tuple, kit_NoneType_list, kit_bool_list, kit_int_list, kit_str_list, kit_tuple_list, kit_list_list, kit_dict_list, kit_NoneType_dict, kit_bool_dict, kit_int_dict, kit_str_dict, kit_tuple_dict, kit_list_dict, kit_dict_dict, Bool.false_eq_true, if_false, if_true, reduceIte, true_and, sz_0, sz_1, sz_2, sz_3, sz_4, sz_5, sz_6, sz_7, sz_8, sz_9, sz_10, sz_11, sz_12, sz_13, sz_14, sz_15, sz_16, sz_17, sz_18, sz_19, sz_20, sz_21, sz_22, sz_23, sz_24, sz_25, sz_26, sz_27, sz_28, sz_29, sz_30, sz_31, sz_32, sz_33, sz_34, sz_35, sz_36, sz_37, sz_38, sz_39, sz_40, sz_41, sz_42, sz_43, sz_44, sz_45, sz_46, sz_47, atI_c0, atI_c1, atI_c2, atI_c3, atI_c4, List.append_nil, List.filterMap_cons, List.filterMap_nil, and_self]
        refine wd _ ?_
        clear wd
        intro M2 z D2 hz hl
        refine pick_of D2 (by omega) (by decide +kernel) (by decide +kernel) fun M3 t3 D3 m3 => ?_
        obtain ⟨u, rfl, hu⟩ := low_sign (low_of (by decide +kernel)) m3
        have lu : (Str.mk #[u]).length = 1 := rfl
        simp only [sSeq, sPar, sPut, sIf, sSet, sDrop, sRet, sRetN, sNext, dOp2, dOp1, dVar, dC, dB, dTup, dLst, dLstM, dNil, dCons, dSl, doNone, doSome, dCall, dLm, dLm0, dSm, dAnd, dOr, dNot, dAndV, dOrV, dIf, dChain, dFn, dFn0, dYes, dDisp, dDispM, dPairs, keysT, dNewD, dNewDM,
 oAdd, oSub, oMul, oFdiv, oMod, oPow, oInt2, oNeg, oIx, oSl, oRev, oRevM, oEqB, scalT, oLt, oLe, oGt, oGe, oOrd, oIsN, isNon, oNotB, oDGet, oDIn, oIn, oInS, mAppend, mPop, mJoin, isL, isS, fLen, fIsi, fAbs, fList, fListM, fTuple, fInt, fRepr, fBls, seqOf, tyT,
 look, keyT, Pat.set, start3, pick, List.getElem?_cons_zero, List.getElem?_cons_succ, List.set_cons_zero, List.set_cons_succ, List.map_cons, List.map_nil, List.length_cons, List.length_nil, List.nil_append, List.cons_append, List.replicate_succ, List.replicate_zero, Nat.reduceSub, Nat.reduceAdd, flatOf, kit_NoneType_str, kit_bool_str, kit_int_str, kit_str_str, kit_tuple_str, kit_list_str, kit_dict_str, kit_NoneType_int, kit_bool_int, kit_int_int, kit_str_int, kit_tuple_int, kit_list_int, kit_dict_int, kit_NoneType_bool, kit_bool_bool, kit_int_bool, kit_str_bool, kit_tuple_bool, kit_list_bool, kit_dict_bool, kit_NoneType_tuple, kit_bool_tuple, kit_int_tuple, kit_str_tuple, kit_tuple_tuple, kit_list_tuple, kit_dict_tuple, kit_NoneType_list, kit_bool_list, kit_int_list, kit_str_list, kit_tuple_list, kit_list_list, kit_dict_list, kit_NoneType_dict, kit_bool_dict, kit_int_dict, kit_str_dict, kit_tuple_dict, kit_list_dict, kit_dict_dict, Bool.false_eq_true, if_false, if_true, reduceIte, true_and, sz_0, sz_1, sz_2, sz_3, sz_4, sz_5, sz_6, sz_7, sz_8, sz_9, sz_10, sz_11, sz_12, sz_13, sz_14, sz_15, sz_16, sz_17, sz_18, sz_19, sz_20, sz_21, sz_22, sz_23, sz_24, sz_25, sz_26, sz_27, sz_28, sz_29, sz_30, sz_31, sz_32, sz_33, sz_34, sz_35, sz_36, sz_37, sz_38, sz_39, sz_40, sz_41, sz_42, sz_43, sz_44, sz_45, sz_46, sz_47, atI_c0, atI_c1, atI_c2, atI_c3, atI_c4, List.append_nil, List.filterMap_cons, List.filterMap_nil, and_self]
        refine ⟨sz (by omega), ?_⟩
        refine draw_of D3 (by omega) (by omega) (by omega) fun M4 r4 D4 a4 b4 => ?_
        obtain ⟨j, rfl⟩ := Int.eq_ofNat_of_zero_le a4
        simp only [sSeq, sPar, sPut, sIf, sSet, sDrop, sRet, sRetN, sNext, dOp2, dOp1, dVar, dC, dB, dTup, dLst, dLstM, dNil, dCons, dSl, doNone, doSome, dCall, dLm, dLm0, dSm, dAnd, dOr, dNot, dAndV, dOrV, dIf, dChain, dFn, dFn0, dYes, dDisp, dDispM, dPairs, keysT, dNewD, dNewDM,
 oAdd, oSub, oMul, oFdiv, oMod, oPow, oInt2, oNeg, oIx, oSl, oRev, oRevM, oEqB, scalT, oLt, oLe, oGt, oGe, oOrd, oIsN, isNon, oNotB, oDGet, oDIn, oIn, oInS, mAppend, mPop, mJoin, isL, isS, fLen, fIsi, fAbs, fList, fListM, fTuple, fInt, fRepr, fBls, seqOf, tyT,
 look, keyT, Pat.set, start3, pick, List.getElem?_cons_zero, List.getElem?_cons_succ, List.set_cons_zero, List.set_cons_succ, List.map_cons, List.map_nil, List.length_cons, List.length_nil, List.nil_append, List.cons_append, List.replicate_succ, List.replicate_zero, Nat.reduceSub, Nat.reduceAdd, flatOf, kit_NoneType_str, kit_bool_str, kit_int_str, kit_str_str, kit_tuple_str, kit_list_str, kit_dict_str, kit_NoneType_int, kit_bool_int, kit_int_int, kit_str_int, kit_tuple_int, kit_list_int, kit_dict_int, kit_NoneType_bool, kit_bool_bool, kit_int_bool, kit_str_bool, kit_tuple_bool, kit_list_bool, kit_dict_bool, kit_NoneType_tuple, kit_bool_tuple, kit_int_tuple, kit_str_tuple, kit_tuple_tuple, kit_list_tuple, kit_dict_tuple, kit_NoneType_list, kit_bool_list, kit_int_list, kit_str_list, kit_tuple_list, kit_list_list, kit_dict_list, kit_NoneType_dict, kit_bool_dict, kit_int_dict, kit_str_dict, kit_tuple_dict, kit_list_dict, kit_dict_dict, Bool.false_eq_true, if_false, if_true, reduceIte, true_and, sz_0, sz_1, sz_2, sz_3, sz_4, sz_5, sz_6, sz_7, sz_8, sz_9, sz_10, sz_11, sz_12, sz_13, sz_14, sz_15, sz_16, sz_17, sz_18, sz_19, sz_20, sz_21, sz_22, sz_23, sz_24, sz_25, sz_26, sz_27, sz_28, sz_29, sz_30, sz_31, sz_32, sz_33, sz_34, sz_35, sz_36, sz_37, sz_38, sz_39, sz_40, sz_41, sz_42, sz_43, sz_44, sz_45, sz_46, sz_47, atI_c0, atI_c1, atI_c2, atI_c3, atI_c4, List.append_nil, List.filterMap_cons, List.filterMap_nil, and_self]
        have la : ∀ lo hi, (cutS z lo hi).length ≤ 8 := fun lo hi => Nat.le_trans (cut_len z lo hi) hz
        have l1 := la none (some (j : Int))
        have l2 := la (some (j : Int)) none
        have l3 := la (some ((j : Int) + 1)) none
        have l8 : (("abcdefgh" : Str)).length = 8 := by decide +kernel
        have lm := mul_len z 250
        refine ⟨sz (by omega), sz (by omega), sz (by omega), sz (by rw [app_len]; omega), sz (by omega), sz (by omega), sz (by omega), sz (by rw [app_len]; omega), sz (by omega), mul_ok (by omega) (by decide) (by decide) (by show z.length * 250 ≤ _; omega), ?_⟩
        refine pick_of D4 (by omega) (by simp [itemsOf]) (by simp [itemsOf]) fun M5 t5 D5 m5 => ?_
        refine q _ _ (D5.le (by omega)) ?_
        simp only [itemsOf, List.mem_cons, List.not_mem_nil, or_false] at m5
        rcases m5 with rfl | rfl | rfl | rfl
        · exact thing_str d (by rw [app_len, app_len]; omega) (low_app (low_app (low_cut hl _ _) hu) (low_cut hl _ _))
        · exact thing_str d (by rw [app_len, app_len]; omega) (low_app (low_app (low_cut hl _ _) hu) (low_cut hl _ _))
        · exact thing_str d (by rw [app_len]; omega) (low_app hl (low_of (by decide +kernel)))
        · exact thing_str d (Nat.le_trans lm (by show z.length * 250 ≤ _; omega)) (low_mul hl _)
      · simp only [decide_eq_true g0, decide_eq_false (show ¬ r1 = 1 by omega), decide_eq_false g, decide_eq_false h2, decide_eq_true h5, sSeq, sPar, sPut, sIf, sSet, sDrop, sRet, sRetN, sNext, dOp2, dOp1, dVar, dC, dB, dTup, dLst, dLstM, dNil, dCons, dSl, doNone, doSome, dCall, dLm, dLm0, dSm, dAnd, dOr, dNot, dAndV, dOrV, dIf, dChain, dFn, dFn0, dYes, dDisp, dDispM, dPairs, keysT, dNewD, dNewDM,
 oAdd, oSub, oMul, oFdiv, oMod, oPow, oInt2, oNeg, oIx, oSl, oRev, oRevM, oEqB, scalT, oLt, oLe, oGt, oGe, oOrd, oIsN, isNon, oNotB, oDGet, oDIn, oIn, oInS, mAppend, mPop, mJoin, isL, isS, fLen, fIsi, fAbs, fList, fListM, fTuple, fInt, fRepr, fBls, seqOf, tyT,
 look, keyT, Pat.set, start3, pick, List.getElem?_cons_zero, List.getElem?_cons_succ, List.set_cons_zero, List.set_cons_succ, List.map_cons, List.map_nil, List.length_cons, List.length_nil, List.nil_append, List.cons_append, List.replicate_succ, List.replicate_zero, Nat.reduceSub, Nat.reduceAdd, flatOf, kit_NoneType_str, kit_bool_str, kit_int_str, kit_str_str, kit_tuple_str, kit_list_str, kit_dict_str, kit_NoneType_int, kit_bool_int, kit_int_int, kit_str_int, kit_tuple_int, kit_list_int, kit_dict_int, kit_NoneType_bool, kit_bool_bool, kit_int_bool, kit_str_bool, kit_tuple_bool, kit_list_bool, kit_dict_bool, kit_NoneType_tuple, kit_bool_tuple, kit_int_tuple, kit_str_tuple, kit_tuple_tuple, kit_list_tuple, kit_dict_tuple, kit_NoneType_list, kit_bool_list, kit_int_list, kit_str_list, kit_tuple_list, kit_list_list, kit_dict_list, kit_NoneType_dict, kit_bool_dict, kit_int_dict, kit_str_dict, kit_tuple_dict, kit_list_dict, kit_dict_dict, Bool.false_eq_true, if_false, if_true, reduceIte, true_and, sz_0, sz_1, sz_2, sz_3, sz_4, sz_5, sz_6, sz_7, sz_8, sz_9, sz_10, sz_11, sz_12, sz_13, sz_14, sz_15, sz_16, sz_17, sz_18, sz_19, sz_20, sz_21, sz_22, sz_23, sz_24, sz_25, sz_26, sz_27, sz_28, sz_29, sz_30, sz_31, sz_32, sz_33, sz_34, sz_35, sz_36, sz_37, sz_38, sz_39, sz_40, sz_41, sz_42, sz_43, sz_44, sz_45, sz_46, sz_47, atI_c0, atI_c1, atI_c2, atI_c3, atI_c4, List.append_nil, List.filterMap_cons, List.filterMap_nil, and_self]
        refine wd _ ?_
        clear wd
        intro M2 z D2 hz hl
        refine pick_of D2 (by omega) (by decide +kernel) (by decide +kernel) fun M3 t3 D3 m3 => ?_
        obtain ⟨u, rfl, hu⟩ := low_sign (low_of (by decide +kernel)) m3
        have lu : (Str.mk #[u]).length = 1 := rfl
        simp only [sSeq, sPar, sPut, sIf, sSet, sDrop, sRet, sRetN, sNext, dOp2, dOp1, dVar, dC, dB, dTup, dLst, dLstM, dNil, dCons, dSl, doNone, doSome, dCall, dLm, dLm0, dSm, dAnd, dOr, dNot, dAndV, dOrV, dIf, dChain, dFn, dFn0, dYes, dDisp, dDispM, dPairs, keysT, dNewD, dNewDM,
 oAdd, oSub, oMul, oFdiv, oMod, oPow, oInt2, oNeg, oIx, oSl, oRev, oRevM, oEqB, scalT, oLt, oLe, oGt, oGe, oOrd, oIsN, isNon, oNotB, oDGet, oDIn, oIn, oInS, mAppend, mPop, mJoin, isL, isS, fLen, fIsi, fAbs, fList, fListM, fTuple, fInt, fRepr, fBls, seqOf, tyT,
 look, keyT, Pat.set, start3, pick, List.getElem?_cons_zero, List.getElem?_cons_succ, List.set_cons_zero, List.set_cons_succ, List.map_cons, List.map_nil, List.length_cons, List.length_nil, List.nil_append, List.cons_append, List.replicate_succ, List.replicate_zero, Nat.reduceSub, Nat.reduceAdd, flatOf, kit_NoneType_str, kit_bool_str, kit_int_str, kit_str_str, kit_tuple_str, kit_list_str, kit_dict_str, kit_NoneType_int, kit_bool_int, kit_int_int, kit_str_int, kit_tuple_int, kit_list_int, kit_dict_int, kit_NoneType_bool, kit_bool_bool, kit_int_bool, kit_str_bool, kit_tuple_bool, kit_list_bool, kit_dict_bool, kit_NoneType_tuple, kit_bool_tuple, kit_int_tuple, kit_str_tuple, kit_tuple_tuple, kit_list_tuple, kit_dict_tuple, kit_NoneType_list, kit_bool_list, kit_int_list, kit_str_list, kit_tuple_list, kit_list_list, kit_dict_list, kit_NoneType_dict, kit_bool_dict, kit_int_dict, kit_str_dict, kit_tuple_dict, kit_list_dict, kit_dict_dict, Bool.false_eq_true, if_false, if_true, reduceIte, true_and, sz_0, sz_1, sz_2, sz_3, sz_4, sz_5, sz_6, sz_7, sz_8, sz_9, sz_10, sz_11, sz_12, sz_13, sz_14, sz_15, sz_16, sz_17, sz_18, sz_19, sz_20, sz_21, sz_22, sz_23, sz_24, sz_25, sz_26, sz_27, sz_28, sz_29, sz_30, sz_31, sz_32, sz_33, sz_34, sz_35, sz_36, sz_37, sz_38, sz_39, sz_40, sz_41, sz_42, sz_43, sz_44, sz_45, sz_46, sz_47, atI_c0, atI_c1, atI_c2, atI_c3, atI_c4, List.append_nil, List.filterMap_cons, List.filterMap_nil, and_self]
        refine ⟨sz (by omega), ?_⟩
        refine draw_of D3 (by omega) (by omega) (by omega) fun M4 r4 D4 a4 b4 => ?_
        obtain ⟨j, rfl⟩ := Int.eq_ofNat_of_zero_le a4
        simp only [sSeq, sPar, sPut, sIf, sSet, sDrop, sRet, sRetN, sNext, dOp2, dOp1, dVar, dC, dB, dTup, dLst, dLstM, dNil, dCons, dSl, doNone, doSome, dCall, dLm, dLm0, dSm, dAnd, dOr, dNot, dAndV, dOrV, dIf, dChain, dFn, dFn0, dYes, dDisp, dDispM, dPairs, keysT, dNewD, dNewDM,
 oAdd, oSub, oMul, oFdiv, oMod, oPow, oInt2, oNeg, oIx, oSl, oRev, oRevM, oEqB, scalT, oLt, oLe, oGt, oGe, oOrd, oIsN, isNon, oNotB, oDGet, oDIn, oIn, oInS, mAppend, mPop, mJoin, isL, isS, fLen, fIsi, fAbs, fList, fListM, fTuple, fInt, fRepr, fBls, seqOf, tyT,
 look, keyT, Pat.set, start3, pick, List.getElem?_cons_zero, List.getElem?_cons_succ, List.set_cons_zero, List.set_cons_succ, List.map_cons, List.map_nil, List.length_cons, List.length_nil, List.nil_append, List.cons_append, List.replicate_succ, List.replicate_zero, Nat.reduceSub, Nat.reduceAdd, flatOf, kit_NoneType_str, kit_bool_str, kit_int_str, kit_str_str, kit_tuple_str, kit_list_str, kit_dict_str, kit_NoneType_int, kit_bool_int, kit_int_int, kit_str_int, kit_tuple_int, kit_list_int, kit_dict_int, kit_NoneType_bool, kit_bool_bool, kit_int_bool, kit_str_bool, kit_tuple_bool, kit_list_bool, kit_dict_bool, kit_NoneType_tuple, kit_bool_tuple, kit_int_tuple, kit_str_tuple, kit_tuple_tuple, kit_list_tuple, kit_dict_tuple, kit_NoneType_list, kit_bool_list, kit_int_list, kit_str_list, kit_tuple_list, kit_list_list, kit_dict_list, kit_NoneType_dict, kit_bool_dict, kit_int_dict, kit_str_dict, kit_tuple_dict, kit_list_dict, kit_dict_dict, Bool.false_eq_true, if_false, if_true, reduceIte, true_and, sz_0, sz_1, sz_2, sz_3, sz_4, sz_5, sz_6, sz_7, sz_8, sz_9, sz_10, sz_11, sz_12, sz_13, sz_14, sz_15, sz_16, sz_17, sz_18, sz_19, sz_20, sz_21, sz_22, sz_23, sz_24, sz_25, sz_26, sz_27, sz_28, sz_29, sz_30, sz_31, sz_32, sz_33, sz_34, sz_35, sz_36, sz_37, sz_38, sz_39, sz_40, sz_41, sz_42, sz_43, sz_44, sz_45, sz_46, sz_47, atI_c0, atI_c1, atI_c2, atI_c3, atI_c4, List.append_nil, List.filterMap_cons, List.filterMap_nil, and_self]
        have la : ∀ lo hi, (cutS z lo hi).length ≤ 8 := fun lo hi => Nat.le_trans (cut_len z lo hi) hz
        have l1 := la none (some (j : Int))
        have l2 := la (some (j : Int)) none
        have l3 := la (some ((j : Int) + 1)) none
        have l8 : (("abcdefgh" : Str)).length = 8 := by decide +kernel
        have lm := mul_len z 250
        refine ⟨sz (by omega), sz (by omega), sz (by omega), sz (by rw [app_len]; omega), sz (by omega), sz (by omega), sz (by omega), sz (by rw [app_len]; omega), sz (by omega), mul_ok (by omega) (by decide) (by decide) (by show z.length * 250 ≤ _; omega), ?_⟩
        refine pick_of D4 (by omega) (by simp [itemsOf]) (by simp [itemsOf]) fun M5 t5 D5 m5 => ?_
        refine q _ _ (D5.le (by omega)) ?_
        simp only [itemsOf, List.mem_cons, List.not_mem_nil, or_false] at m5
        rcases m5 with rfl | rfl | rfl | rfl
        · exact thing_str d (by rw [app_len, app_len]; omega) (low_app (low_app (low_cut hl _ _) hu) (low_cut hl _ _))
        · exact thing_str d (by rw [app_len, app_len]; omega) (low_app (low_app (low_cut hl _ _) hu) (low_cut hl _ _))
        · exact thing_str d (by rw [app_len]; omega) (low_app hl (low_of (by decide +kernel)))
        · exact thing_str d (Nat.le_trans lm (by show z.length * 250 ≤ _; omega)) (low_mul hl _)
      · simp only [decide_eq_false (show ¬ r1 = 0 by omega), decide_eq_true g0, decide_eq_false g, decide_eq_false h2, decide_eq_true h5, sSeq, sPar, sPut, sIf, sSet, sDrop, sRet, sRetN, sNext, dOp2, dOp1, dVar, dC, dB, dTup, dLst, dLstM, dNil, dCons, dSl, doNone, doSome, dCall, dLm, dLm0, dSm, dAnd, dOr, dNot, dAndV, dOrV, dIf, dChain, dFn, dFn0, dYes, dDisp, dDispM, dPairs, keysT, dNewD, dNewDM,
 oAdd, oSub, oMul, oFdiv, oMod, oPow, oInt2, oNeg, oIx, oSl, oRev, oRevM, oEqB, scalT, oLt, oLe, oGt, oGe, oOrd, oIsN, isNon, oNotB, oDGet, oDIn, oIn, oInS, mAppend, mPop, mJoin, isL, isS, fLen, fIsi, fAbs, fList, fListM, fTuple, fInt, fRepr, fBls, seqOf, tyT,
 look, keyT, Pat.set, start3, pick, List.getElem?_cons_zero, List.getElem?_cons_succ, List.set_cons_zero, List.set_cons_succ, List.map_cons, List.map_nil, List.length_cons, List.length_nil, List.nil_append, List.cons_append, List.replicate_succ, List.replicate_zero, Nat.reduceSub, Nat.reduceAdd, flatOf, kit_NoneType_str, kit_bool_str, kit_int_str, kit_str_str, kit_tuple_str, kit_list_str, kit_dict_str, kit_NoneType_int, kit_bool_int, kit_int_int, kit_str_int, kit_tuple_int, kit_list_int, kit_dict_int, kit_NoneType_bool, kit_bool_bool, kit_int_bool, kit_str_bool, kit_tuple_bool, kit_list_bool, kit_dict_bool, kit_NoneType_tuple, kit_bool_tuple, kit_int_tuple, kit_str_tuple, kit_tuple_tuple, kit_list_tuple, kit_dict_tuple, kit_NoneType_list, kit_bool_list, kit_int_list, kit_str_list, kit_tuple_list, kit_list_list, kit_dict_list, kit_NoneType_dict, kit_bool_dict, kit_int_dict, kit_str_dict, kit_tuple_dict, kit_list_dict, kit_dict_dict, Bool.false_eq_true, if_false, if_true, reduceIte, true_and, sz_0, sz_1, sz_2, sz_3, sz_4, sz_5, sz_6, sz_7, sz_8, sz_9, sz_10, sz_11, sz_12, sz_13, sz_14, sz_15, sz_16, sz_17, sz_18, sz_19, sz_20, sz_21, sz_22, sz_23, sz_24, sz_25, sz_26, sz_27, sz_28, sz_29, sz_30, sz_31, sz_32, sz_33, sz_34, sz_35, sz_36, sz_37, sz_38, sz_39, sz_40, sz_41, sz_42, sz_43, sz_44, sz_45, sz_46, sz_47, atI_c0, atI_c1, atI_c2, atI_c3, atI_c4, List.append_nil, List.filterMap_cons, List.filterMap_nil, and_self]
        refine wd _ ?_
        clear wd
        intro M2 z D2 hz hl
        refine pick_of D2 (by omega) (by decide +kernel) (by decide +kernel) fun M3 t3 D3 m3 => ?_
        obtain ⟨u, rfl, hu⟩ := low_sign (low_of (by decide +kernel)) m3
        have lu : (Str.mk #[u]).length = 1 := rfl
        simp only [sSeq, sPar, sPut, sIf, sSet, sDrop, sRet, sRetN, sNext, dOp2, dOp1, dVar, dC, dB, dTup, dLst, dLstM, dNil, dCons, dSl, doNone, doSome, dCall, dLm, dLm0, dSm, dAnd, dOr, dNot, dAndV, dOrV, dIf, dChain, dFn, dFn0, dYes, dDisp, dDispM, dPairs, keysT, dNewD, dNewDM,
 oAdd, oSub, oMul, oFdiv, oMod, oPow, oInt2, oNeg, oIx, oSl, oRev, oRevM, oEqB, scalT, oLt, oLe, oGt, oGe, oOrd, oIsN, isNon, oNotB, oDGet, oDIn, oIn, oInS, mAppend, mPop, mJoin, isL, isS, fLen, fIsi, fAbs, fList, fListM, fTuple, fInt, fRepr, fBls, seqOf, tyT,
 look, keyT, Pat.set, start3, pick, List.getElem?_cons_zero, List.getElem?_cons_succ, List.set_cons_zero, List.set_cons_succ, List.map_cons, List.map_nil, List.length_cons, List.length_nil, List.nil_append, List.cons_append, List.replicate_succ, List.replicate_zero, Nat.reduceSub, Nat.reduceAdd, flatOf, kit_NoneType_str, kit_bool_str, kit_int_str, kit_str_str, kit_tuple_str, kit_list_str, kit_dict_str, kit_NoneType_int, kit_bool_int, kit_int_int, kit_str_int, kit_tuple_int, kit_list_int, kit_dict_int, kit_NoneType_bool, kit_bool_bool, kit_int_bool, kit_str_bool, kit_tuple_bool, kit_list_bool, kit_dict_bool, kit_NoneType_tuple, kit_bool_tuple, kit_int_tuple, kit_str_tuple, kit_tuple_tuple, kit_list_tuple, kit_dict_tuple, kit_NoneType_list, kit_bool_list, kit_int_list, kit_str_list, kit_tuple_list, kit_list_list, kit_dict_list, kit_NoneType_dict, kit_bool_dict, kit_int_dict, kit_str_dict, kit_tuple_dict, kit_list_dict, kit_dict_dict, Bool.false_eq_true, if_false, if_true, reduceIte, true_and, sz_0, sz_1, sz_2, sz_3, sz_4, sz_5, sz_6, sz_7, sz_8, sz_9, sz_10, sz_11, sz_12, sz_13, sz_14, sz_15, sz_16, sz_17, sz_18, sz_19, sz_20, sz_21, sz_22, sz_23, sz_24, sz_25, sz_26, sz_27, sz_28, sz_29, sz_30, sz_31, sz_32, sz_33, sz_34, sz_35, sz_36, sz_37, sz_38, sz_39, sz_40, sz_41, sz_42, sz_43, sz_44, sz_45, sz_46, sz_47, atI_c0, atI_c1, atI_c2, atI_c3, atI_c4, List.append_nil, List.filterMap_cons, List.filterMap_nil, and_self]
        refine ⟨sz (by omega), ?_⟩
        refine draw_of D3 (by omega) (by omega) (by omega) fun M4 r4 D4 a4 b4 => ?_
        obtain ⟨j, rfl⟩ := Int.eq_ofNat_of_zero_le a4
        simp only [sSeq, sPar, sPut, sIf, sSet, sDrop, sRet, sRetN, sNext, dOp2, dOp1, dVar, dC, dB, dTup, dLst, dLstM, dNil, dCons, dSl, doNone, doSome, dCall, dLm, dLm0, dSm, dAnd, dOr, dNot, dAndV, dOrV, dIf, dChain, dFn, dFn0, dYes, dDisp, dDispM, dPairs, keysT, dNewD, dNewDM,
 oAdd, oSub, oMul, oFdiv, oMod, oPow, oInt2, oNeg, oIx, oSl, oRev, oRevM, oEqB, scalT, oLt, oLe, oGt, oGe, oOrd, oIsN, isNon, oNotB, oDGet, oDIn, oIn, oInS, mAppend, mPop, mJoin, isL, isS, fLen, fIsi, fAbs, fList, fListM, fTuple, fInt, fRepr, fBls, seqOf, tyT,
 look, keyT, Pat.set, start3, pick, List.getElem?_cons_zero, List.getElem?_cons_succ, List.set_cons_zero, List.set_cons_succ, List.map_cons, List.map_nil, List.length_cons, List.length_nil, List.nil_append, List.cons_append, List.replicate_succ, List.replicate_zero, Nat.reduceSub, Nat.reduceAdd, flatOf, kit_NoneType_str, kit_bool_str, kit_int_str, kit_str_str, kit_tuple_str, kit_list_str, kit_dict_str, kit_NoneType_int, kit_bool_int, kit_int_int, kit_str_int, kit_tuple_int, kit_list_int, kit_dict_int, kit_NoneType_bool, kit_bool_bool, kit_int_bool, kit_str_bool, kit_tuple_bool, kit_list_bool, kit_dict_bool, kit_NoneType_tuple, kit_bool_tuple, kit_int_tuple, kit_str_tuple, kit_tuple_tuple, kit_list_tuple, kit_dict_tuple, kit_NoneType_list, kit_bool_list, kit_int_list, kit_str_list, kit_tuple_list, kit_list_list, kit_dict_list, kit_NoneType_dict, kit_bool_dict, kit_int_dict, kit_str_dict, kit_tuple_dict, kit_list_dict, kit_dict_dict, Bool.false_eq_true, if_false, if_true, reduceIte, true_and, sz_0, sz_1, sz_2, sz_3, sz_4, sz_5, sz_6, sz_7, sz_8, sz_9, sz_10, sz_11, sz_12, sz_13, sz_14, sz_15, sz_16, sz_17, sz_18, sz_19, sz_20, sz_21, sz_22, sz_23, sz_24, sz_25, sz_26, sz_27, sz_28, sz_29, sz_30, sz_31, sz_32, sz_33, sz_34, sz_35, sz_36, sz_37, sz_38, sz_39, sz_40, sz_41, sz_42, sz_43, sz_44, sz_45, sz_46, sz_47, atI_c0, atI_c1, atI_c2, atI_c3, atI_c4, List.append_nil, List.filterMap_cons, List.filterMap_nil, and_self]
        have la : ∀ lo hi, (cutS z lo hi).length ≤ 8 := fun lo hi => Nat.le_trans (cut_len z lo hi) hz
        have l1 := la none (some (j : Int))
        have l2 := la (some (j : Int)) none
        have l3 := la (some ((j : Int) + 1)) none
        have l8 : (("abcdefgh" : Str)).length = 8 := by decide +kernel
        have lm := mul_len z 250
        refine ⟨sz (by omega), sz (by omega), sz (by omega), sz (by rw [app_len]; omega), sz (by omega), sz (by omega), sz (by omega), sz (by rw [app_len]; omega), sz (by omega), mul_ok (by omega) (by decide) (by decide) (by show z.length * 250 ≤ _; omega), ?_⟩
        refine pick_of D4 (by omega) (by simp [itemsOf]) (by simp [itemsOf]) fun M5 t5 D5 m5 => ?_
        refine q _ _ (D5.le (by omega)) ?_
        simp only [itemsOf, List.mem_cons, List.not_mem_nil, or_false] at m5
        rcases m5 with rfl | rfl | rfl | rfl
        · exact thing_str d (by rw [app_len, app_len]; omega) (low_app (low_app (low_cut hl _ _) hu) (low_cut hl _ _))
        · exact thing_str d (by rw [app_len, app_len]; omega) (low_app (low_app (low_cut hl _ _) hu) (low_cut hl _ _))
        · exact thing_str d (by rw [app_len]; omega) (low_app hl (low_of (by decide +kernel)))
        · exact thing_str d (Nat.le_trans lm (by show z.length * 250 ≤ _; omega)) (low_mul hl _)
    · simp only [decide_eq_false (show ¬ r1 = 0 by omega), decide_eq_false (show ¬ r1 = 1 by omega), decide_eq_false (show ¬ r1 = 2 by omega), decide_eq_false (show ¬ r1 < 5 by omega), sSeq, sPar, sPut, sIf, sSet, sDrop, sRet, sRetN, sNext, dOp2, dOp1, dVar, dC, dB, dTup, dLst, dLstM, dNil, dCons, dSl, doNone, doSome, dCall, dLm, dLm0, dSm, dAnd, dOr, dNot, dAndV, dOrV, dIf, dChain, dFn, dFn0, dYes, dDisp, dDispM, dPairs, keysT, dNewD, dNewDM,
 oAdd, oSub, oMul, oFdiv, oMod, oPow, oInt2, oNeg, oIx, oSl, oRev, oRevM, oEqB, scalT, oLt, oLe, oGt, oGe, oOrd, oIsN, isNon, oNotB, oDGet, oDIn, oIn, oInS, mAppend, mPop, mJoin, isL, isS, fLen, fIsi, fAbs, fList, fListM, fTuple, fInt, fRepr, fBls, seqOf, tyT,
 look, keyT, Pat.set, start3, pick, List.getElem?_cons_zero, List.getElem?_cons_succ, List.set_cons_zero, List.set_cons_succ, List.map_cons, List.map_nil, List.length_cons, List.length_nil, List.nil_append, List.cons_append, List.replicate_succ, List.replicate_zero, Nat.reduceSub, Nat.reduceAdd, flatOf, kit_NoneType_str, kit_bool_str, kit_int_str, kit_str_str, kit_tuple_str, kit_list_str, kit_dict_str, kit_NoneType_int, kit_bool_int, kit_int_int, kit_str_int, kit_tuple_int, kit_list_int, kit_dict_int, kit_NoneType_bool, kit_bool_bool, kit_int_bool, kit_str_bool, kit_tuple_bool, kit_list_bool, kit_dict_bool, kit_NoneType_tuple, kit_bool_tuple, kit_int_tuple, kit_str_tuple, kit_tuple_tuple, kit_list_tuple, kit_dict_tuple, kit_NoneType_list, kit_bool_list, kit_int_list, kit_str_list, kit_tuple_list, kit_list_list, kit_dict_list, kit_NoneType_dict, kit_bool_dict, kit_int_dict, kit_str_dict, kit_tuple_dict, kit_list_dict, kit_dict_dict, Bool.false_eq_true, if_false, if_true, reduceIte, true_and, sz_0, sz_1, sz_2, sz_3, sz_4, sz_5, sz_6, sz_7, sz_8, sz_9, sz_10, sz_11, sz_12, sz_13, sz_14, sz_15, sz_16, sz_17, sz_18, sz_19, sz_20, sz_21, sz_22, sz_23, sz_24, sz_25, sz_26, sz_27, sz_28, sz_29, sz_30, sz_31, sz_32, sz_33, sz_34, sz_35, sz_36, sz_37, sz_38, sz_39, sz_40, sz_41, sz_42, sz_43, sz_44, sz_45, sz_46, sz_47, atI_c0, atI_c1, atI_c2, atI_c3, atI_c4, List.append_nil, List.filterMap_cons, List.filterMap_nil, and_self]
      refine ⟨dk, c, n + 1, rfl, D1, by omega, fun M2 t2 D2 hf hi' => ?_⟩
      exact q _ _ (D2.le (by omega)) (thing_flat d hf hi')



def Th (t : T) : Prop := Dat t ∧ ∀ z, t = .str z → z.length ≤ 3000 ∧ Low z
theorem Th.z {t : T} (h : Th t) : ∀ z, t = .str z → z.length ≤ sizeLine := fun z e => sz (by have := (h.2 z e).1; omega)
theorem Thing.th {t : T} {n k : Nat} (h : Thing t n k) : Th t := ⟨h.1, h.2.1⟩
theorem Th.flat {t : T} (h : Th t) (v : valueT t = true) : Flat3 t := by
  cases t with
  | non => exact Or.inl rfl
  | int i => exact Or.inr (Or.inl ⟨i, rfl⟩)
  | str z => exact Or.inr (Or.inr ⟨z, rfl, h.2 z rfl⟩)
  | _ => cases v
def spLName : Sp3 := fun ts M Q => ∃ t, ts = [t] ∧ Th t ∧ Q (.bl (nameT t)) M
def spLValue : Sp3 := fun ts M Q => ∃ t, ts = [t] ∧ Th t ∧ Q (.bl (valueT t)) M
def rankT : T → T
  | .non => .tup [.int 0, .int 0, .str ""]
  | .str z => .tup [.int 2, .int 0, .str z]
  | t => .tup [.int 1, t, .str ""]
def spRank : Sp3 := fun ts M Q => ∃ t, ts = [t] ∧ Flat3 t ∧ Q (rankT t) M
def spThingR : Sp3 := fun ts M Q => ∃ t, ts = [t] ∧ Thing t 1000000 10 ∧ Q (.bl true) M
def spPairR : Sp3 := fun ts M Q => ∃ t u, ts = [t, u] ∧ Flat3 t ∧ Flat3 u ∧ Q (.bl true) M
def spFixed : Sp3 := fun ts M Q => ts = [] ∧ ∀ xs, xs.length ≤ 100 → (∀ x ∈ xs, Thing x 1000000 10) → Q (.lst xs) M
def spLaw : Sp3 := fun ts M Q => ∃ ns : List Int, ts = [.scr (ns.map T.int)] ∧ ns.length ≤ 63 ∧ (∀ dk, M dk = none) ∧ ∀ M', Q (.bl true) M'
theorem signs_none' {z : Str} : ∃ bs : List Str, (((signsT z).filter fun t => !lowT t).map fun t => t) = bs.map T.str ∧ (Low z → ∀ b ∈ bs, Low b) ∧ decide (bs = []) = z.cps.toList.all lowC := by
  refine ⟨((z.cps.toList.filter fun c => !lowC c).map fun c => (⟨#[c]⟩ : Str)), ?_, ?_, ?_⟩
  · unfold signsT
    induction z.cps.toList with
    | nil => rfl
    | cons c r ih =>
      rw [List.map_cons, List.filter_cons, List.filter_cons, lowT_sign]
      cases lowC c with
      | true => exact ih
      | false =>
        rw [Bool.not_false, if_pos rfl, if_pos rfl, List.map_cons, List.map_cons, List.map_cons, ih]
  · intro hz b hb
    obtain ⟨c, hc, rfl⟩ := List.mem_map.mp hb
    intro d hd
    rw [List.mem_singleton] at hd
    exact hd ▸ hz c (List.mem_filter.mp hc).1
  · rw [Bool.eq_iff_iff, decide_eq_true_eq, List.map_eq_nil_iff, List.filter_eq_nil_iff, List.all_eq_true]
    simp
theorem kind_low (t : T) : (kindT t).length ≤ 8 ∧ Low (kindT t) := by
  have a : (("nothing" : Str)).length ≤ 8 ∧ Low "nothing" := ⟨by decide +kernel, low_of (by decide +kernel)⟩
  have b : (("word" : Str)).length ≤ 8 ∧ Low "word" := ⟨by decide +kernel, low_of (by decide +kernel)⟩
  have c : (("number" : Str)).length ≤ 8 ∧ Low "number" := ⟨by decide +kernel, low_of (by decide +kernel)⟩
  unfold kindT
  split
  · exact a
  · exact b
  · exact c
theorem rank_lt {t u : T} {Q : QE} {M : Mp} (ht : Flat3 t) (hu : Flat3 u) (q : Q (.bl (beforeT t u)) M) : oLtT 20 (rankT t) (rankT u) Q M := by
  have le : Low ("" : Str) := low_of (by decide +kernel)
  rcases ht with rfl | ⟨i, rfl⟩ | ⟨z, rfl, hz, hl⟩ <;> rcases hu with rfl | ⟨j, rfl⟩ | ⟨y, rfl, hy, hm⟩
  · exact lt_iisO 0 0 0 0 le le (by rw [if_pos rfl, if_pos rfl, ltS_irr]; exact q)
  · exact lt_iisO 0 0 1 j le le (by rw [if_neg (by decide)]; exact q)
  · exact lt_iisO 0 0 2 0 le hm (by rw [if_neg (by decide)]; exact q)
  · exact lt_iisO 1 i 0 0 le le (by rw [if_neg (by decide)]; exact q)
  · refine lt_iisO 1 i 1 j le le ?_
    rw [if_pos rfl]
    by_cases h : i = j
    · rw [if_pos h, ltS_irr]
      subst h
      have e : beforeT (.int i) (.int i) = false := decide_eq_false (Int.lt_irrefl i)
      rw [← e]
      exact q
    · rw [if_neg h]
      exact q
  · exact lt_iisO 1 i 2 0 le hm (by rw [if_neg (by decide)]; exact q)
  · exact lt_iisO 2 0 0 0 hl le (by rw [if_neg (by decide)]; exact q)
  · exact lt_iisO 2 0 1 j hl le (by rw [if_neg (by decide)]; exact q)
  · exact lt_iisO 2 0 2 0 hl hm (by rw [if_pos rfl, if_pos rfl]; exact q)
theorem ok_l_is_name (E : Fns K mg) : FnD P w K mg base 1 E.f_l_is_name E.fd_l_is_name ["it"] spLName := by
  have nd := sc_l_is_name.nd
  refine okD E.F_l_is_name sc_l_is_name ?len fun cdv A outer s H X hr hgd => ⟨_, (dss_cons (ds_if (PW.pt (dw_or (dt_not (dt_val (d_isi (by rfl) E.m_isinstance (da_cons (d_var 0) (da_cons (d_bltn (v := .ty "str") (u := .type "str") (by rfl) E.m_str (by decide +kernel) rfl) da_nil))))) (dw_or (dt_eq hr.units (d_len (by rfl) E.m_len (da_cons (d_var 0) da_nil)) d_int) (dw_or1 (dt_gt (d_len (by rfl) E.m_len (da_cons (d_var 0) da_nil)) d_int)))))
  (dss_one (ds_ret d_bl))
  dss_nil)
  (dss_one (ds_ret (d_eq hr.units (d_comp [("sign", 1)] fin_L rfl nd (di_str (d_var 0)) (by kernel_rfl)
  (fun _ _ _ _ _ => (dg_nm 1 nd rfl (by first | exact Or.inl rfl | exact Or.inr rfl))) (fun _ _ _ _ _ => (dts_one (dt_not (dt_lele d_str (d_var 1) d_str)))) (fun _ _ _ _ _ => (d_var 1))) (d_lst da_nil))))), ?_⟩
  case len =>
    rintro ts M Q ⟨t, rfl, _⟩
    rfl
  · rintro ts M Q ⟨t, rfl, ht, q⟩
    have hz0 := ht.z
    obtain ⟨hd, hz⟩ := ht
    cases t with
    | str z =>
      have z0 := hz0 z rfl
      have zl := (hz z rfl).2
      simp only [sSeq, sPar, sPut, sIf, sSet, sDrop, sRet, sRetN, sNext, dOp2, dOp1, dVar, dC, dB, dTup, dLst, dLstM, dNil, dCons, dSl, doNone, doSome, dCall, dLm, dLm0, dSm, dAnd, dOr, dNot, dAndV, dOrV, dIf, dChain, dFn, dFn0, dYes, dDisp, dDispM, dPairs, keysT, dNewD, dNewDM,
 oAdd, oSub, oMul, oFdiv, oMod, oPow, oInt2, oNeg, oIx, oSl, oRev, oRevM, oEqB, scalT, oLt, oLe, oGt, oGe, oOrd, oIsN, isNon, oNotB, oDGet, oDIn, oIn, oInS, mAppend, mPop, mJoin, isL, isS, fLen, fIsi, fAbs, fList, fListM, fTuple, fInt, fRepr, fBls, seqOf, tyT,
 look, keyT, Pat.set, start3, pick, List.getElem?_cons_zero, List.getElem?_cons_succ, List.set_cons_zero, List.set_cons_succ, List.map_cons, List.map_nil, List.length_cons, List.length_nil, List.nil_append, List.cons_append, List.replicate_succ, List.replicate_zero, Nat.reduceSub, Nat.reduceAdd, flatOf, kit_NoneType_str, kit_bool_str, kit_int_str, kit_str_str, kit_tuple_str, kit_list_str, kit_dict_str, kit_NoneType_int, kit_bool_int, kit_int_int, kit_str_int, kit_tuple_int, kit_list_int, kit_dict_int, kit_NoneType_bool, kit_bool_bool, kit_int_bool, kit_str_bool, kit_tuple_bool, kit_list_bool, kit_dict_bool, kit_NoneType_tuple, kit_bool_tuple, kit_int_tuple, kit_str_tuple, kit_tuple_tuple, kit_list_tuple, kit_dict_tuple, kit_NoneType_list, kit_bool_list, kit_int_list, kit_str_list, kit_tuple_list, kit_list_list, kit_dict_list, kit_NoneType_dict, kit_bool_dict, kit_int_dict, kit_str_dict, kit_tuple_dict, kit_list_dict, kit_dict_dict, Bool.false_eq_true, if_false, if_true, reduceIte, true_and, sz_0, sz_1, sz_2, sz_3, sz_4, sz_5, sz_6, sz_7, sz_8, sz_9, sz_10, sz_11, sz_12, sz_13, sz_14, sz_15, sz_16, sz_17, sz_18, sz_19, sz_20, sz_21, sz_22, sz_23, sz_24, sz_25, sz_26, sz_27, sz_28, sz_29, sz_30, sz_31, sz_32, sz_33, sz_34, sz_35, sz_36, sz_37, sz_38, sz_39, sz_40, sz_41, sz_42, sz_43, sz_44, sz_45, sz_46, sz_47, atI_c0, atI_c1, atI_c2, atI_c3, atI_c4, List.append_nil, List.filterMap_cons, List.filterMap_nil, and_self, z0, true_and, Bool.not_true]
      by_cases h1 : (z.length : Int) = 0
      · simp only [decide_eq_true h1]
        have e : nameT (.str z) = false := by
          show (decide (1 ≤ z.length) && decide (z.length ≤ 8) && z.cps.toList.all lowC) = _
          rw [decide_eq_false (show ¬ 1 ≤ z.length by omega), Bool.false_and, Bool.false_and]
        rw [← e]
        exact q
      · by_cases h8 : (8 : Int) < z.length
        · simp only [decide_eq_true h8, decide_eq_false h1]
          have e : nameT (.str z) = false := by
            show (decide (1 ≤ z.length) && decide (z.length ≤ 8) && z.cps.toList.all lowC) = _
            rw [decide_eq_false (show ¬ z.length ≤ 8 by omega), Bool.and_false, Bool.false_and]
          rw [← e]
          exact q
        · simp only [decide_eq_false h8, decide_eq_false h1, dComp, iS, dVar, List.getElem?_cons_zero]
          refine compL_map (f := fun t => t) (keep := fun t => !lowT t) trivial (fun t ht => ?_) (by rw [signs_len, List.length_nil]; omega) ?_
          · obtain ⟨c, hc, rfl⟩ := signs_mem ht
            refine ⟨_, rfl, fun R h => ?_, fun _ R h => h⟩
            simp only [sSeq, sPar, sPut, sIf, sSet, sDrop, sRet, sRetN, sNext, dOp2, dOp1, dVar, dC, dB, dTup, dLst, dLstM, dNil, dCons, dSl, doNone, doSome, dCall, dLm, dLm0, dSm, dAnd, dOr, dNot, dAndV, dOrV, dIf, dChain, dFn, dFn0, dYes, dDisp, dDispM, dPairs, keysT, dNewD, dNewDM,
 oAdd, oSub, oMul, oFdiv, oMod, oPow, oInt2, oNeg, oIx, oSl, oRev, oRevM, oEqB, scalT, oLt, oLe, oGt, oGe, oOrd, oIsN, isNon, oNotB, oDGet, oDIn, oIn, oInS, mAppend, mPop, mJoin, isL, isS, fLen, fIsi, fAbs, fList, fListM, fTuple, fInt, fRepr, fBls, seqOf, tyT,
 look, keyT, Pat.set, start3, pick, List.getElem?_cons_zero, List.getElem?_cons_succ, List.set_cons_zero, List.set_cons_succ, List.map_cons, List.map_nil, List.length_cons, List.length_nil, List.nil_append, List.cons_append, List.replicate_succ, List.replicate_zero, Nat.reduceSub, Nat.reduceAdd, flatOf, kit_NoneType_str, kit_bool_str, kit_int_str, kit_str_str, kit_tuple_str, kit_list_str, kit_dict_str, kit_NoneType_int, kit_bool_int, kit_int_int, kit_str_int, kit_tuple_int, kit_list_int, kit_dict_int, kit_NoneType_bool, kit_bool_bool, kit_int_bool, kit_str_bool, kit_tuple_bool, kit_list_bool, kit_dict_bool, kit_NoneType_tuple, kit_bool_tuple, kit_int_tuple, kit_str_tuple, kit_tuple_tuple, kit_list_tuple, kit_dict_tuple, kit_NoneType_list, kit_bool_list, kit_int_list, kit_str_list, kit_tuple_list, kit_list_list, kit_dict_list, kit_NoneType_dict, kit_bool_dict, kit_int_dict, kit_str_dict, kit_tuple_dict, kit_list_dict, kit_dict_dict, Bool.false_eq_true, if_false, if_true, reduceIte, true_and, sz_0, sz_1, sz_2, sz_3, sz_4, sz_5, sz_6, sz_7, sz_8, sz_9, sz_10, sz_11, sz_12, sz_13, sz_14, sz_15, sz_16, sz_17, sz_18, sz_19, sz_20, sz_21, sz_22, sz_23, sz_24, sz_25, sz_26, sz_27, sz_28, sz_29, sz_30, sz_31, sz_32, sz_33, sz_34, sz_35, sz_36, sz_37, sz_38, sz_39, sz_40, sz_41, sz_42, sz_43, sz_44, sz_45, sz_46, sz_47, atI_c0, atI_c1, atI_c2, atI_c3, atI_c4, List.append_nil, List.filterMap_cons, List.filterMap_nil, and_self, wipe3, a_sign, z_sign, lt_sign]
            rw [lowT_sign] at h
            unfold lowC at h
            by_cases c1 : c < 97
            · rw [decide_eq_false (show ¬ 97 ≤ c by omega), Bool.false_and] at h
              simp only [decide_eq_true c1, Bool.not_true]
              exact h
            · rw [decide_eq_true (show 97 ≤ c by omega), Bool.true_and] at h
              simp only [decide_eq_false c1, Bool.not_false]
              by_cases c2 : 122 < c
              · rw [decide_eq_false (show ¬ c ≤ 122 by omega)] at h
                simp only [decide_eq_true c2, Bool.not_true]
                exact h
              · rw [decide_eq_true (show c ≤ 122 by omega)] at h
                simp only [decide_eq_false c2, Bool.not_false]
                exact h
          · obtain ⟨bs, e1, e2, e3⟩ := signs_none' (z := z)
            simp only [finL, List.nil_append]
            rw [e1]
            show oEqB false (.lst (bs.map T.str)) (.lst []) Q M
            refine eq_strs_nil (e2 zl) ?_
            rw [if_neg Bool.false_ne_true, e3]
            have e : nameT (.str z) = z.cps.toList.all lowC := by
              show (decide (1 ≤ z.length) && decide (z.length ≤ 8) && z.cps.toList.all lowC) = _
              rw [decide_eq_true (by omega), decide_eq_true (by omega)]
              rfl
            rw [← e]
            exact q
    | raw v => cases hd
    | _ =>
      simp only [sSeq, sPar, sPut, sIf, sSet, sDrop, sRet, sRetN, sNext, dOp2, dOp1, dVar, dC, dB, dTup, dLst, dLstM, dNil, dCons, dSl, doNone, doSome, dCall, dLm, dLm0, dSm, dAnd, dOr, dNot, dAndV, dOrV, dIf, dChain, dFn, dFn0, dYes, dDisp, dDispM, dPairs, keysT, dNewD, dNewDM,
 oAdd, oSub, oMul, oFdiv, oMod, oPow, oInt2, oNeg, oIx, oSl, oRev, oRevM, oEqB, scalT, oLt, oLe, oGt, oGe, oOrd, oIsN, isNon, oNotB, oDGet, oDIn, oIn, oInS, mAppend, mPop, mJoin, isL, isS, fLen, fIsi, fAbs, fList, fListM, fTuple, fInt, fRepr, fBls, seqOf, tyT,
 look, keyT, Pat.set, start3, pick, List.getElem?_cons_zero, List.getElem?_cons_succ, List.set_cons_zero, List.set_cons_succ, List.map_cons, List.map_nil, List.length_cons, List.length_nil, List.nil_append, List.cons_append, List.replicate_succ, List.replicate_zero, Nat.reduceSub, Nat.reduceAdd, flatOf, kit_NoneType_str, kit_bool_str, kit_int_str, kit_str_str, kit_tuple_str, kit_list_str, kit_dict_str, kit_NoneType_int, kit_bool_int, kit_int_int, kit_str_int, kit_tuple_int, kit_list_int, kit_dict_int, kit_NoneType_bool, kit_bool_bool, kit_int_bool, kit_str_bool, kit_tuple_bool, kit_list_bool, kit_dict_bool, kit_NoneType_tuple, kit_bool_tuple, kit_int_tuple, kit_str_tuple, kit_tuple_tuple, kit_list_tuple, kit_dict_tuple, kit_NoneType_list, kit_bool_list, kit_int_list, kit_str_list, kit_tuple_list, kit_list_list, kit_dict_list, kit_NoneType_dict, kit_bool_dict, kit_int_dict, kit_str_dict, kit_tuple_dict, kit_list_dict, kit_dict_dict, Bool.false_eq_true, if_false, if_true, reduceIte, true_and, sz_0, sz_1, sz_2, sz_3, sz_4, sz_5, sz_6, sz_7, sz_8, sz_9, sz_10, sz_11, sz_12, sz_13, sz_14, sz_15, sz_16, sz_17, sz_18, sz_19, sz_20, sz_21, sz_22, sz_23, sz_24, sz_25, sz_26, sz_27, sz_28, sz_29, sz_30, sz_31, sz_32, sz_33, sz_34, sz_35, sz_36, sz_37, sz_38, sz_39, sz_40, sz_41, sz_42, sz_43, sz_44, sz_45, sz_46, sz_47, atI_c0, atI_c1, atI_c2, atI_c3, atI_c4, List.append_nil, List.filterMap_cons, List.filterMap_nil, and_self, Bool.not_false]
      exact q

theorem ok_l_is_value (E : Fns K mg) (G_l_is_name : FnD P w K mg base 1 E.f_l_is_name E.fd_l_is_name ["it"] spLName) : FnD P w K mg base 2 E.f_l_is_value E.fd_l_is_value ["it"] spLValue := by
  have nd := sc_l_is_value.nd
  refine okD E.F_l_is_value sc_l_is_value ?len fun cdv A outer s H X hr hgd => ⟨_, (dss_cons (ds_if (PW.pt (dw_or (dt_isN (d_var 0)) (dw_or1 (dt_val (d_fn G_l_is_name (hr.mono (by decide)) hgd (by rfl) E.g_l_is_name E.F_l_is_name.kp (kb_l_is_name_1 E) (da_cons (d_var 0) da_nil) dk_nil)))))
  (dss_one (ds_ret d_bl))
  dss_nil)
  (dss_one (ds_ret (d_and (d_isi (by rfl) E.m_isinstance (da_cons (d_var 0) (da_cons (d_bltn (v := .ty "int") (u := .type "int") (by rfl) E.m_int (by decide +kernel) rfl) da_nil))) (d_and (d_not (d_isi (by rfl) E.m_isinstance (da_cons (d_var 0) (da_cons (d_bltn (v := .ty "bool") (u := .type "bool") (by rfl) E.m_bool (by decide +kernel) rfl) da_nil)))) (d_one (d_le (d_abs (by rfl) E.m_abs (da_cons (d_var 0) da_nil)) (d_pow d_int d_int)))))))), ?_⟩
  case len =>
    rintro ts M Q ⟨t, rfl, _⟩
    rfl
  · rintro ts M Q ⟨t, rfl, ht, q⟩
    have pow : CPow 10 12 := ⟨by decide, by decide, by decide⟩
    have p12 : (10 : Int) ^ (12 : Int).toNat = 1000000000000 := by decide
    have nm : ∀ R : QE, R (.bl (nameT t)) M → spLName [t] M R := fun R h => ⟨t, rfl, ht, h⟩
    have hd := ht.1
    cases t with
    | non =>
      simp only [sSeq, sPar, sPut, sIf, sSet, sDrop, sRet, sRetN, sNext, dOp2, dOp1, dVar, dC, dB, dTup, dLst, dLstM, dNil, dCons, dSl, doNone, doSome, dCall, dLm, dLm0, dSm, dAnd, dOr, dNot, dAndV, dOrV, dIf, dChain, dFn, dFn0, dYes, dDisp, dDispM, dPairs, keysT, dNewD, dNewDM,
 oAdd, oSub, oMul, oFdiv, oMod, oPow, oInt2, oNeg, oIx, oSl, oRev, oRevM, oEqB, scalT, oLt, oLe, oGt, oGe, oOrd, oIsN, isNon, oNotB, oDGet, oDIn, oIn, oInS, mAppend, mPop, mJoin, isL, isS, fLen, fIsi, fAbs, fList, fListM, fTuple, fInt, fRepr, fBls, seqOf, tyT,
 look, keyT, Pat.set, start3, pick, List.getElem?_cons_zero, List.getElem?_cons_succ, List.set_cons_zero, List.set_cons_succ, List.map_cons, List.map_nil, List.length_cons, List.length_nil, List.nil_append, List.cons_append, List.replicate_succ, List.replicate_zero, Nat.reduceSub, Nat.reduceAdd, flatOf, kit_NoneType_str, kit_bool_str, kit_int_str, kit_str_str, kit_tuple_str, kit_list_str, kit_dict_str, kit_NoneType_int, kit_bool_int, kit_int_int, kit_str_int, kit_tuple_int, kit_list_int, kit_dict_int, kit_NoneType_bool, kit_bool_bool, kit_int_bool, kit_str_bool, kit_tuple_bool, kit_list_bool, kit_dict_bool, kit_NoneType_tuple, kit_bool_tuple, kit_int_tuple, kit_str_tuple, kit_tuple_tuple, kit_list_tuple, kit_dict_tuple, kit_NoneType_list, kit_bool_list, kit_int_list, kit_str_list, kit_tuple_list, kit_list_list, kit_dict_list, kit_NoneType_dict, kit_bool_dict, kit_int_dict, kit_str_dict, kit_tuple_dict, kit_list_dict, kit_dict_dict, Bool.false_eq_true, if_false, if_true, reduceIte, true_and, sz_0, sz_1, sz_2, sz_3, sz_4, sz_5, sz_6, sz_7, sz_8, sz_9, sz_10, sz_11, sz_12, sz_13, sz_14, sz_15, sz_16, sz_17, sz_18, sz_19, sz_20, sz_21, sz_22, sz_23, sz_24, sz_25, sz_26, sz_27, sz_28, sz_29, sz_30, sz_31, sz_32, sz_33, sz_34, sz_35, sz_36, sz_37, sz_38, sz_39, sz_40, sz_41, sz_42, sz_43, sz_44, sz_45, sz_46, sz_47, atI_c0, atI_c1, atI_c2, atI_c3, atI_c4, List.append_nil, List.filterMap_cons, List.filterMap_nil, and_self]
      exact q
    | raw v => cases hd
    | int i =>
      simp only [sSeq, sPar, sPut, sIf, sSet, sDrop, sRet, sRetN, sNext, dOp2, dOp1, dVar, dC, dB, dTup, dLst, dLstM, dNil, dCons, dSl, doNone, doSome, dCall, dLm, dLm0, dSm, dAnd, dOr, dNot, dAndV, dOrV, dIf, dChain, dFn, dFn0, dYes, dDisp, dDispM, dPairs, keysT, dNewD, dNewDM,
 oAdd, oSub, oMul, oFdiv, oMod, oPow, oInt2, oNeg, oIx, oSl, oRev, oRevM, oEqB, scalT, oLt, oLe, oGt, oGe, oOrd, oIsN, isNon, oNotB, oDGet, oDIn, oIn, oInS, mAppend, mPop, mJoin, isL, isS, fLen, fIsi, fAbs, fList, fListM, fTuple, fInt, fRepr, fBls, seqOf, tyT,
 look, keyT, Pat.set, start3, pick, List.getElem?_cons_zero, List.getElem?_cons_succ, List.set_cons_zero, List.set_cons_succ, List.map_cons, List.map_nil, List.length_cons, List.length_nil, List.nil_append, List.cons_append, List.replicate_succ, List.replicate_zero, Nat.reduceSub, Nat.reduceAdd, flatOf, kit_NoneType_str, kit_bool_str, kit_int_str, kit_str_str, kit_tuple_str, kit_list_str, kit_dict_str, kit_NoneType_int, kit_bool_int, kit_int_int, kit_str_int, kit_tuple_int, kit_list_int, kit_dict_int, kit_NoneType_bool, kit_bool_bool, kit_int_bool, kit_str_bool, kit_tuple_bool, kit_list_bool, kit_dict_bool, kit_NoneType_tuple, kit_bool_tuple, kit_int_tuple, kit_str_tuple, kit_tuple_tuple, kit_list_tuple, kit_dict_tuple, kit_NoneType_list, kit_bool_list, kit_int_list, kit_str_list, kit_tuple_list, kit_list_list, kit_dict_list, kit_NoneType_dict, kit_bool_dict, kit_int_dict, kit_str_dict, kit_tuple_dict, kit_list_dict, kit_dict_dict, Bool.false_eq_true, if_false, if_true, reduceIte, true_and, sz_0, sz_1, sz_2, sz_3, sz_4, sz_5, sz_6, sz_7, sz_8, sz_9, sz_10, sz_11, sz_12, sz_13, sz_14, sz_15, sz_16, sz_17, sz_18, sz_19, sz_20, sz_21, sz_22, sz_23, sz_24, sz_25, sz_26, sz_27, sz_28, sz_29, sz_30, sz_31, sz_32, sz_33, sz_34, sz_35, sz_36, sz_37, sz_38, sz_39, sz_40, sz_41, sz_42, sz_43, sz_44, sz_45, sz_46, sz_47, atI_c0, atI_c1, atI_c2, atI_c3, atI_c4, List.append_nil, List.filterMap_cons, List.filterMap_nil, and_self]
      refine nm _ ?_
      simp only [sSeq, sPar, sPut, sIf, sSet, sDrop, sRet, sRetN, sNext, dOp2, dOp1, dVar, dC, dB, dTup, dLst, dLstM, dNil, dCons, dSl, doNone, doSome, dCall, dLm, dLm0, dSm, dAnd, dOr, dNot, dAndV, dOrV, dIf, dChain, dFn, dFn0, dYes, dDisp, dDispM, dPairs, keysT, dNewD, dNewDM,
 oAdd, oSub, oMul, oFdiv, oMod, oPow, oInt2, oNeg, oIx, oSl, oRev, oRevM, oEqB, scalT, oLt, oLe, oGt, oGe, oOrd, oIsN, isNon, oNotB, oDGet, oDIn, oIn, oInS, mAppend, mPop, mJoin, isL, isS, fLen, fIsi, fAbs, fList, fListM, fTuple, fInt, fRepr, fBls, seqOf, tyT,
 look, keyT, Pat.set, start3, pick, List.getElem?_cons_zero, List.getElem?_cons_succ, List.set_cons_zero, List.set_cons_succ, List.map_cons, List.map_nil, List.length_cons, List.length_nil, List.nil_append, List.cons_append, List.replicate_succ, List.replicate_zero, Nat.reduceSub, Nat.reduceAdd, flatOf, kit_NoneType_str, kit_bool_str, kit_int_str, kit_str_str, kit_tuple_str, kit_list_str, kit_dict_str, kit_NoneType_int, kit_bool_int, kit_int_int, kit_str_int, kit_tuple_int, kit_list_int, kit_dict_int, kit_NoneType_bool, kit_bool_bool, kit_int_bool, kit_str_bool, kit_tuple_bool, kit_list_bool, kit_dict_bool, kit_NoneType_tuple, kit_bool_tuple, kit_int_tuple, kit_str_tuple, kit_tuple_tuple, kit_list_tuple, kit_dict_tuple, kit_NoneType_list, kit_bool_list, kit_int_list, kit_str_list, kit_tuple_list, kit_list_list, kit_dict_list, kit_NoneType_dict, kit_bool_dict, kit_int_dict, kit_str_dict, kit_tuple_dict, kit_list_dict, kit_dict_dict, Bool.false_eq_true, if_false, if_true, reduceIte, true_and, sz_0, sz_1, sz_2, sz_3, sz_4, sz_5, sz_6, sz_7, sz_8, sz_9, sz_10, sz_11, sz_12, sz_13, sz_14, sz_15, sz_16, sz_17, sz_18, sz_19, sz_20, sz_21, sz_22, sz_23, sz_24, sz_25, sz_26, sz_27, sz_28, sz_29, sz_30, sz_31, sz_32, sz_33, sz_34, sz_35, sz_36, sz_37, sz_38, sz_39, sz_40, sz_41, sz_42, sz_43, sz_44, sz_45, sz_46, sz_47, atI_c0, atI_c1, atI_c2, atI_c3, atI_c4, List.append_nil, List.filterMap_cons, List.filterMap_nil, and_self, nameT, pow, p12, Bool.not_true, Bool.not_false]
      have e : valueT (.int i) = decide ((if i < 0 then -i else i) ≤ 1000000000000) := by
        show (decide (-1000000000000 ≤ i) && decide (i ≤ 1000000000000)) = _
        rw [Bool.eq_iff_iff, Bool.and_eq_true, decide_eq_true_eq, decide_eq_true_eq, decide_eq_true_eq]
        split <;> omega
      rw [← e]
      exact q
    | str z =>
      simp only [sSeq, sPar, sPut, sIf, sSet, sDrop, sRet, sRetN, sNext, dOp2, dOp1, dVar, dC, dB, dTup, dLst, dLstM, dNil, dCons, dSl, doNone, doSome, dCall, dLm, dLm0, dSm, dAnd, dOr, dNot, dAndV, dOrV, dIf, dChain, dFn, dFn0, dYes, dDisp, dDispM, dPairs, keysT, dNewD, dNewDM,
 oAdd, oSub, oMul, oFdiv, oMod, oPow, oInt2, oNeg, oIx, oSl, oRev, oRevM, oEqB, scalT, oLt, oLe, oGt, oGe, oOrd, oIsN, isNon, oNotB, oDGet, oDIn, oIn, oInS, mAppend, mPop, mJoin, isL, isS, fLen, fIsi, fAbs, fList, fListM, fTuple, fInt, fRepr, fBls, seqOf, tyT,
 look, keyT, Pat.set, start3, pick, List.getElem?_cons_zero, List.getElem?_cons_succ, List.set_cons_zero, List.set_cons_succ, List.map_cons, List.map_nil, List.length_cons, List.length_nil, List.nil_append, List.cons_append, List.replicate_succ, List.replicate_zero, Nat.reduceSub, Nat.reduceAdd, flatOf, kit_NoneType_str, kit_bool_str, kit_int_str, kit_str_str, kit_tuple_str, kit_list_str, kit_dict_str, kit_NoneType_int, kit_bool_int, kit_int_int, kit_str_int, kit_tuple_int, kit_list_int, kit_dict_int, kit_NoneType_bool, kit_bool_bool, kit_int_bool, kit_str_bool, kit_tuple_bool, kit_list_bool, kit_dict_bool, kit_NoneType_tuple, kit_bool_tuple, kit_int_tuple, kit_str_tuple, kit_tuple_tuple, kit_list_tuple, kit_dict_tuple, kit_NoneType_list, kit_bool_list, kit_int_list, kit_str_list, kit_tuple_list, kit_list_list, kit_dict_list, kit_NoneType_dict, kit_bool_dict, kit_int_dict, kit_str_dict, kit_tuple_dict, kit_list_dict, kit_dict_dict, Bool.false_eq_true, if_false, if_true, reduceIte, true_and, sz_0, sz_1, sz_2, sz_3, sz_4, sz_5, sz_6, sz_7, sz_8, sz_9, sz_10, sz_11, sz_12, sz_13, sz_14, sz_15, sz_16, sz_17, sz_18, sz_19, sz_20, sz_21, sz_22, sz_23, sz_24, sz_25, sz_26, sz_27, sz_28, sz_29, sz_30, sz_31, sz_32, sz_33, sz_34, sz_35, sz_36, sz_37, sz_38, sz_39, sz_40, sz_41, sz_42, sz_43, sz_44, sz_45, sz_46, sz_47, atI_c0, atI_c1, atI_c2, atI_c3, atI_c4, List.append_nil, List.filterMap_cons, List.filterMap_nil, and_self]
      refine nm _ ?_
      have e : valueT (.str z) = nameT (.str z) := rfl
      rw [e] at q
      cases h : nameT (.str z) with
      | true =>
        rw [h] at q
        simp only [sSeq, sPar, sPut, sIf, sSet, sDrop, sRet, sRetN, sNext, dOp2, dOp1, dVar, dC, dB, dTup, dLst, dLstM, dNil, dCons, dSl, doNone, doSome, dCall, dLm, dLm0, dSm, dAnd, dOr, dNot, dAndV, dOrV, dIf, dChain, dFn, dFn0, dYes, dDisp, dDispM, dPairs, keysT, dNewD, dNewDM,
 oAdd, oSub, oMul, oFdiv, oMod, oPow, oInt2, oNeg, oIx, oSl, oRev, oRevM, oEqB, scalT, oLt, oLe, oGt, oGe, oOrd, oIsN, isNon, oNotB, oDGet, oDIn, oIn, oInS, mAppend, mPop, mJoin, isL, isS, fLen, fIsi, fAbs, fList, fListM, fTuple, fInt, fRepr, fBls, seqOf, tyT,
 look, keyT, Pat.set, start3, pick, List.getElem?_cons_zero, List.getElem?_cons_succ, List.set_cons_zero, List.set_cons_succ, List.map_cons, List.map_nil, List.length_cons, List.length_nil, List.nil_append, List.cons_append, List.replicate_succ, List.replicate_zero, Nat.reduceSub, Nat.reduceAdd, flatOf, kit_NoneType_str, kit_bool_str, kit_int_str, kit_str_str, kit_tuple_str, kit_list_str, kit_dict_str, kit_NoneType_int, kit_bool_int, kit_int_int, kit_str_int, kit_tuple_int, kit_list_int, kit_dict_int, kit_NoneType_bool, kit_bool_bool, kit_int_bool, kit_str_bool, kit_tuple_bool, kit_list_bool, kit_dict_bool, kit_NoneType_tuple, kit_bool_tuple, kit_int_tuple, kit_str_tuple, kit_tuple_tuple, kit_list_tuple, kit_dict_tuple, kit_NoneType_list, kit_bool_list, kit_int_list, kit_str_list, kit_tuple_list, kit_list_list, kit_dict_list, kit_NoneType_dict, kit_bool_dict, kit_int_dict, kit_str_dict, kit_tuple_dict, kit_list_dict, kit_dict_dict, Bool.false_eq_true, if_false, if_true, reduceIte, true_and, sz_0, sz_1, sz_2, sz_3, sz_4, sz_5, sz_6, sz_7, sz_8, sz_9, sz_10, sz_11, sz_12, sz_13, sz_14, sz_15, sz_16, sz_17, sz_18, sz_19, sz_20, sz_21, sz_22, sz_23, sz_24, sz_25, sz_26, sz_27, sz_28, sz_29, sz_30, sz_31, sz_32, sz_33, sz_34, sz_35, sz_36, sz_37, sz_38, sz_39, sz_40, sz_41, sz_42, sz_43, sz_44, sz_45, sz_46, sz_47, atI_c0, atI_c1, atI_c2, atI_c3, atI_c4, List.append_nil, List.filterMap_cons, List.filterMap_nil, and_self, Bool.not_true, Bool.not_false]
        exact q
      | false =>
        rw [h] at q
        simp only [sSeq, sPar, sPut, sIf, sSet, sDrop, sRet, sRetN, sNext, dOp2, dOp1, dVar, dC, dB, dTup, dLst, dLstM, dNil, dCons, dSl, doNone, doSome, dCall, dLm, dLm0, dSm, dAnd, dOr, dNot, dAndV, dOrV, dIf, dChain, dFn, dFn0, dYes, dDisp, dDispM, dPairs, keysT, dNewD, dNewDM,
 oAdd, oSub, oMul, oFdiv, oMod, oPow, oInt2, oNeg, oIx, oSl, oRev, oRevM, oEqB, scalT, oLt, oLe, oGt, oGe, oOrd, oIsN, isNon, oNotB, oDGet, oDIn, oIn, oInS, mAppend, mPop, mJoin, isL, isS, fLen, fIsi, fAbs, fList, fListM, fTuple, fInt, fRepr, fBls, seqOf, tyT,
 look, keyT, Pat.set, start3, pick, List.getElem?_cons_zero, List.getElem?_cons_succ, List.set_cons_zero, List.set_cons_succ, List.map_cons, List.map_nil, List.length_cons, List.length_nil, List.nil_append, List.cons_append, List.replicate_succ, List.replicate_zero, Nat.reduceSub, Nat.reduceAdd, flatOf, kit_NoneType_str, kit_bool_str, kit_int_str, kit_str_str, kit_tuple_str, kit_list_str, kit_dict_str, kit_NoneType_int, kit_bool_int, kit_int_int, kit_str_int, kit_tuple_int, kit_list_int, kit_dict_int, kit_NoneType_bool, kit_bool_bool, kit_int_bool, kit_str_bool, kit_tuple_bool, kit_list_bool, kit_dict_bool, kit_NoneType_tuple, kit_bool_tuple, kit_int_tuple, kit_str_tuple, kit_tuple_tuple, kit_list_tuple, kit_dict_tuple, kit_NoneType_list, kit_bool_list, kit_int_list, kit_str_list, kit_tuple_list, kit_list_list, kit_dict_list, kit_NoneType_dict, kit_bool_dict, kit_int_dict, kit_str_dict, kit_tuple_dict, kit_list_dict, kit_dict_dict, Bool.false_eq_true, if_false, if_true, reduceIte, true_and, sz_0, sz_1, sz_2, sz_3, sz_4, sz_5, sz_6, sz_7, sz_8, sz_9, sz_10, sz_11, sz_12, sz_13, sz_14, sz_15, sz_16, sz_17, sz_18, sz_19, sz_20, sz_21, sz_22, sz_23, sz_24, sz_25, sz_26, sz_27, sz_28, sz_29, sz_30, sz_31, sz_32, sz_33, sz_34, sz_35, sz_36, sz_37, sz_38, sz_39, sz_40, sz_41, sz_42, sz_43, sz_44, sz_45, sz_46, sz_47, atI_c0, atI_c1, atI_c2, atI_c3, atI_c4, List.append_nil, List.filterMap_cons, List.filterMap_nil, and_self, Bool.not_true, Bool.not_false]
        exact q
    | _ =>
      simp only [sSeq, sPar, sPut, sIf, sSet, sDrop, sRet, sRetN, sNext, dOp2, dOp1, dVar, dC, dB, dTup, dLst, dLstM, dNil, dCons, dSl, doNone, doSome, dCall, dLm, dLm0, dSm, dAnd, dOr, dNot, dAndV, dOrV, dIf, dChain, dFn, dFn0, dYes, dDisp, dDispM, dPairs, keysT, dNewD, dNewDM,
 oAdd, oSub, oMul, oFdiv, oMod, oPow, oInt2, oNeg, oIx, oSl, oRev, oRevM, oEqB, scalT, oLt, oLe, oGt, oGe, oOrd, oIsN, isNon, oNotB, oDGet, oDIn, oIn, oInS, mAppend, mPop, mJoin, isL, isS, fLen, fIsi, fAbs, fList, fListM, fTuple, fInt, fRepr, fBls, seqOf, tyT,
 look, keyT, Pat.set, start3, pick, List.getElem?_cons_zero, List.getElem?_cons_succ, List.set_cons_zero, List.set_cons_succ, List.map_cons, List.map_nil, List.length_cons, List.length_nil, List.nil_append, List.cons_append, List.replicate_succ, List.replicate_zero, Nat.reduceSub, Nat.reduceAdd, flatOf, kit_NoneType_str, kit_bool_str, kit_int_str, kit_str_str, kit_tuple_str, kit_list_str, kit_dict_str, kit_NoneType_int, kit_bool_int, kit_int_int, kit_str_int, kit_tuple_int, kit_list_int, kit_dict_int, kit_NoneType_bool, kit_bool_bool, kit_int_bool, kit_str_bool, kit_tuple_bool, kit_list_bool, kit_dict_bool, kit_NoneType_tuple, kit_bool_tuple, kit_int_tuple, kit_str_tuple, kit_tuple_tuple, kit_list_tuple, kit_dict_tuple, kit_NoneType_list, kit_bool_list, kit_int_list, kit_str_list, kit_tuple_list, kit_list_list, kit_dict_list, kit_NoneType_dict, kit_bool_dict, kit_int_dict, kit_str_dict, kit_tuple_dict, kit_list_dict, kit_dict_dict, Bool.false_eq_true, if_false, if_true, reduceIte, true_and, sz_0, sz_1, sz_2, sz_3, sz_4, sz_5, sz_6, sz_7, sz_8, sz_9, sz_10, sz_11, sz_12, sz_13, sz_14, sz_15, sz_16, sz_17, sz_18, sz_19, sz_20, sz_21, sz_22, sz_23, sz_24, sz_25, sz_26, sz_27, sz_28, sz_29, sz_30, sz_31, sz_32, sz_33, sz_34, sz_35, sz_36, sz_37, sz_38, sz_39, sz_40, sz_41, sz_42, sz_43, sz_44, sz_45, sz_46, sz_47, atI_c0, atI_c1, atI_c2, atI_c3, atI_c4, List.append_nil, List.filterMap_cons, List.filterMap_nil, and_self]
      refine nm _ ?_
      simp only [sSeq, sPar, sPut, sIf, sSet, sDrop, sRet, sRetN, sNext, dOp2, dOp1, dVar, dC, dB, dTup, dLst, dLstM, dNil, dCons, dSl, doNone, doSome, dCall, dLm, dLm0, dSm, dAnd, dOr, dNot, dAndV, dOrV, dIf, dChain, dFn, dFn0, dYes, dDisp, dDispM, dPairs, keysT, dNewD, dNewDM,
 oAdd, oSub, oMul, oFdiv, oMod, oPow, oInt2, oNeg, oIx, oSl, oRev, oRevM, oEqB, scalT, oLt, oLe, oGt, oGe, oOrd, oIsN, isNon, oNotB, oDGet, oDIn, oIn, oInS, mAppend, mPop, mJoin, isL, isS, fLen, fIsi, fAbs, fList, fListM, fTuple, fInt, fRepr, fBls, seqOf, tyT,
 look, keyT, Pat.set, start3, pick, List.getElem?_cons_zero, List.getElem?_cons_succ, List.set_cons_zero, List.set_cons_succ, List.map_cons, List.map_nil, List.length_cons, List.length_nil, List.nil_append, List.cons_append, List.replicate_succ, List.replicate_zero, Nat.reduceSub, Nat.reduceAdd, flatOf, kit_NoneType_str, kit_bool_str, kit_int_str, kit_str_str, kit_tuple_str, kit_list_str, kit_dict_str, kit_NoneType_int, kit_bool_int, kit_int_int, kit_str_int, kit_tuple_int, kit_list_int, kit_dict_int, kit_NoneType_bool, kit_bool_bool, kit_int_bool, kit_str_bool, kit_tuple_bool, kit_list_bool, kit_dict_bool, kit_NoneType_tuple, kit_bool_tuple, kit_int_tuple, kit_str_tuple, kit_tuple_tuple, kit_list_tuple, kit_dict_tuple, kit_NoneType_list, kit_bool_list, kit_int_list, kit_str_list, kit_tuple_list, kit_list_list, kit_dict_list, kit_NoneType_dict, kit_bool_dict, kit_int_dict, kit_str_dict, kit_tuple_dict, kit_list_dict, kit_dict_dict, Bool.false_eq_true, if_false, if_true, reduceIte, true_and, sz_0, sz_1, sz_2, sz_3, sz_4, sz_5, sz_6, sz_7, sz_8, sz_9, sz_10, sz_11, sz_12, sz_13, sz_14, sz_15, sz_16, sz_17, sz_18, sz_19, sz_20, sz_21, sz_22, sz_23, sz_24, sz_25, sz_26, sz_27, sz_28, sz_29, sz_30, sz_31, sz_32, sz_33, sz_34, sz_35, sz_36, sz_37, sz_38, sz_39, sz_40, sz_41, sz_42, sz_43, sz_44, sz_45, sz_46, sz_47, atI_c0, atI_c1, atI_c2, atI_c3, atI_c4, List.append_nil, List.filterMap_cons, List.filterMap_nil, and_self, nameT, pow, p12, Bool.not_true, Bool.not_false]
      exact q

theorem ok_l_rank (E : Fns K mg) : FnD P w K mg base 1 E.f_l_rank E.fd_l_rank ["it"] spRank := by
  have nd := sc_l_rank.nd
  refine okD E.F_l_rank sc_l_rank ?len fun cdv A outer s H X hr hgd => ⟨_, (dss_cons (ds_if (dt_isN (d_var 0))
  (dss_one (ds_ret (d_tup (da_cons d_int (da_cons d_int (da_cons d_str da_nil))))))
  dss_nil)
  (dss_one (ds_ret (d_ifExp (dt_val (d_isi (by rfl) E.m_isinstance (da_cons (d_var 0) (da_cons (d_bltn (v := .ty "str") (u := .type "str") (by rfl) E.m_str (by decide +kernel) rfl) da_nil)))) (d_tup (da_cons d_int (da_cons d_int (da_cons (d_var 0) da_nil)))) (d_tup (da_cons d_int (da_cons (d_var 0) (da_cons d_str da_nil)))))))), ?_⟩
  case len =>
    rintro ts M Q ⟨t, rfl, _⟩
    rfl
  · rintro ts M Q ⟨t, rfl, hd, q⟩
    rcases hd with rfl | ⟨i, rfl⟩ | ⟨z, rfl, hz, hl⟩
    · simp only [sSeq, sPar, sPut, sIf, sSet, sDrop, sRet, sRetN, sNext, dOp2, dOp1, dVar, dC, dB, dTup, dLst, dLstM, dNil, dCons, dSl, doNone, doSome, dCall, dLm, dLm0, dSm, dAnd, dOr, dNot, dAndV, dOrV, dIf, dChain, dFn, dFn0, dYes, dDisp, dDispM, dPairs, keysT, dNewD, dNewDM,
 oAdd, oSub, oMul, oFdiv, oMod, oPow, oInt2, oNeg, oIx, oSl, oRev, oRevM, oEqB, scalT, oLt, oLe, oGt, oGe, oOrd, oIsN, isNon, oNotB, oDGet, oDIn, oIn, oInS, mAppend, mPop, mJoin, isL, isS, fLen, fIsi, fAbs, fList, fListM, fTuple, fInt, fRepr, fBls, seqOf, tyT,
 look, keyT, Pat.set, start3, pick, List.getElem?_cons_zero, List.getElem?_cons_succ, List.set_cons_zero, List.set_cons_succ, List.map_cons, List.map_nil, List.length_cons, List.length_nil, List.nil_append, List.cons_append, List.replicate_succ, List.replicate_zero, Nat.reduceSub, Nat.reduceAdd, flatOf, kit_NoneType_str, kit_bool_str, kit_int_str, kit_str_str, kit_tuple_str, kit_list_str, kit_dict_str, kit_NoneType_int, kit_bool_int, kit_int_int, kit_str_int, kit_tuple_int, kit_list_int, kit_dict_int, kit_NoneType_bool, kit_bool_bool, kit_int_bool, kit_str_bool, kit_tuple_bool, kit_list_bool, kit_dict_bool, kit_NoneType_tuple, kit_bool_tuple, kit_int_tuple, kit_str_tuple, kit_tuple_tuple, kit_list_tuple, kit_dict_tuple, kit_NoneType_list, kit_bool_list, kit_int_list, kit_str_list, kit_tuple_list, kit_list_list, kit_dict_list, kit_NoneType_dict, kit_bool_dict, kit_int_dict, kit_str_dict, kit_tuple_dict, kit_list_dict, kit_dict_dict, Bool.false_eq_true, if_false, if_true, reduceIte, true_and, sz_0, sz_1, sz_2, sz_3, sz_4, sz_5, sz_6, sz_7, sz_8, sz_9, sz_10, sz_11, sz_12, sz_13, sz_14, sz_15, sz_16, sz_17, sz_18, sz_19, sz_20, sz_21, sz_22, sz_23, sz_24, sz_25, sz_26, sz_27, sz_28, sz_29, sz_30, sz_31, sz_32, sz_33, sz_34, sz_35, sz_36, sz_37, sz_38, sz_39, sz_40, sz_41, sz_42, sz_43, sz_44, sz_45, sz_46, sz_47, atI_c0, atI_c1, atI_c2, atI_c3, atI_c4, List.append_nil, List.filterMap_cons, List.filterMap_nil, and_self]
      exact q
    · simp only [sSeq, sPar, sPut, sIf, sSet, sDrop, sRet, sRetN, sNext, dOp2, dOp1, dVar, dC, dB, dTup, dLst, dLstM, dNil, dCons, dSl, doNone, doSome, dCall, dLm, dLm0, dSm, dAnd, dOr, dNot, dAndV, dOrV, dIf, dChain, dFn, dFn0, dYes, dDisp, dDispM, dPairs, keysT, dNewD, dNewDM,
 oAdd, oSub, oMul, oFdiv, oMod, oPow, oInt2, oNeg, oIx, oSl, oRev, oRevM, oEqB, scalT, oLt, oLe, oGt, oGe, oOrd, oIsN, isNon, oNotB, oDGet, oDIn, oIn, oInS, mAppend, mPop, mJoin, isL, isS, fLen, fIsi, fAbs, fList, fListM, fTuple, fInt, fRepr, fBls, seqOf, tyT,
 look, keyT, Pat.set, start3, pick, List.getElem?_cons_zero, List.getElem?_cons_succ, List.set_cons_zero, List.set_cons_succ, List.map_cons, List.map_nil, List.length_cons, List.length_nil, List.nil_append, List.cons_append, List.replicate_succ, List.replicate_zero, Nat.reduceSub, Nat.reduceAdd, flatOf, kit_NoneType_str, kit_bool_str, kit_int_str, kit_str_str, kit_tuple_str, kit_list_str, kit_dict_str, kit_NoneType_int, kit_bool_int, kit_int_int, kit_str_int, kit_tuple_int, kit_list_int, kit_dict_int, kit_NoneType_bool, kit_bool_bool, kit_int_bool, kit_str_bool, kit_tuple_bool, kit_list_bool, kit_dict_bool, kit_NoneType_tuple, kit_bool_tuple, kit_int_tuple, kit_str_tuple, kit_tuple_tuple, kit_list_tuple, kit_dict_tuple, kit_NoneType_list, kit_bool_list, kit_int_list, kit_str_list, kit_tuple_list, kit_list_list, kit_dict_list, kit_NoneType_dict, kit_bool_dict, kit_int_dict, kit_str_dict, kit_tuple_dict, kit_list_dict, kit_dict_dict, Bool.false_eq_true, if_false, if_true, reduceIte, true_and, sz_0, sz_1, sz_2, sz_3, sz_4, sz_5, sz_6, sz_7, sz_8, sz_9, sz_10, sz_11, sz_12, sz_13, sz_14, sz_15, sz_16, sz_17, sz_18, sz_19, sz_20, sz_21, sz_22, sz_23, sz_24, sz_25, sz_26, sz_27, sz_28, sz_29, sz_30, sz_31, sz_32, sz_33, sz_34, sz_35, sz_36, sz_37, sz_38, sz_39, sz_40, sz_41, sz_42, sz_43, sz_44, sz_45, sz_46, sz_47, atI_c0, atI_c1, atI_c2, atI_c3, atI_c4, List.append_nil, List.filterMap_cons, List.filterMap_nil, and_self]
      exact q
    · simp only [sSeq, sPar, sPut, sIf, sSet, sDrop, sRet, sRetN, sNext, dOp2, dOp1, dVar, dC, dB, dTup, dLst, dLstM, dNil, dCons, dSl, doNone, doSome, dCall, dLm, dLm0, dSm, dAnd, dOr, dNot, dAndV, dOrV, dIf, dChain, dFn, dFn0, dYes, dDisp, dDispM, dPairs, keysT, dNewD, dNewDM,
 oAdd, oSub, oMul, oFdiv, oMod, oPow, oInt2, oNeg, oIx, oSl, oRev, oRevM, oEqB, scalT, oLt, oLe, oGt, oGe, oOrd, oIsN, isNon, oNotB, oDGet, oDIn, oIn, oInS, mAppend, mPop, mJoin, isL, isS, fLen, fIsi, fAbs, fList, fListM, fTuple, fInt, fRepr, fBls, seqOf, tyT,
 look, keyT, Pat.set, start3, pick, List.getElem?_cons_zero, List.getElem?_cons_succ, List.set_cons_zero, List.set_cons_succ, List.map_cons, List.map_nil, List.length_cons, List.length_nil, List.nil_append, List.cons_append, List.replicate_succ, List.replicate_zero, Nat.reduceSub, Nat.reduceAdd, flatOf, kit_NoneType_str, kit_bool_str, kit_int_str, kit_str_str, kit_tuple_str, kit_list_str, kit_dict_str, kit_NoneType_int, kit_bool_int, kit_int_int, kit_str_int, kit_tuple_int, kit_list_int, kit_dict_int, kit_NoneType_bool, kit_bool_bool, kit_int_bool, kit_str_bool, kit_tuple_bool, kit_list_bool, kit_dict_bool, kit_NoneType_tuple, kit_bool_tuple, kit_int_tuple, kit_str_tuple, kit_tuple_tuple, kit_list_tuple, kit_dict_tuple, kit_NoneType_list, kit_bool_list, kit_int_list, kit_str_list, kit_tuple_list, kit_list_list, kit_dict_list, kit_NoneType_dict, kit_bool_dict, kit_int_dict, kit_str_dict, kit_tuple_dict, kit_list_dict, kit_dict_dict, Bool.false_eq_true, if_false, if_true, reduceIte, true_and, sz_0, sz_1, sz_2, sz_3, sz_4, sz_5, sz_6, sz_7, sz_8, sz_9, sz_10, sz_11, sz_12, sz_13, sz_14, sz_15, sz_16, sz_17, sz_18, sz_19, sz_20, sz_21, sz_22, sz_23, sz_24, sz_25, sz_26, sz_27, sz_28, sz_29, sz_30, sz_31, sz_32, sz_33, sz_34, sz_35, sz_36, sz_37, sz_38, sz_39, sz_40, sz_41, sz_42, sz_43, sz_44, sz_45, sz_46, sz_47, atI_c0, atI_c1, atI_c2, atI_c3, atI_c4, List.append_nil, List.filterMap_cons, List.filterMap_nil, and_self]
      exact q



theorem ok_l_thing_right (E : Fns K mg) (hsy : SysAt base) (G_is_name : FnD P w K mg base 1 E.f_is_name E.fd_is_name ["thing"] spIsName) (G_is_value : FnD P w K mg base 2 E.f_is_value E.fd_is_value ["thing"] spIsValue) (G_l_is_name : FnD P w K mg base 1 E.f_l_is_name E.fd_l_is_name ["it"] spLName) (G_l_is_value : FnD P w K mg base 2 E.f_l_is_value E.fd_l_is_value ["it"] spLValue) (G_l_rank : FnD P w K mg base 1 E.f_l_rank E.fd_l_rank ["it"] spRank) (G_kind_of : FnD P w K mg base 1 E.f_kind_of E.fd_kind_of ["value"] spKind) : FnD P w K mg base 3 E.f_l_thing_right E.fd_l_thing_right ["it"] spThingR := by
  have nd := sc_l_thing_right.nd
  refine okD E.F_l_thing_right sc_l_thing_right ?len fun cdv A outer s H X hr hgd => ⟨_, (dss_cons (ds_set 1 nd rfl (by first | exact Or.inl rfl | exact Or.inr rfl) (d_repr hgd hr.units hsy (by rfl) E.m_repr (da_cons (d_var 0) da_nil)))
  (dss_cons (ds_set 2 nd rfl (by first | exact Or.inl rfl | exact Or.inr rfl) (d_lst (da_cons (d_fn G_is_name (hr.mono (by decide)) hgd (by rfl) E.g_is_name E.F_is_name.kp (kb_is_name_1 E) (da_cons (d_var 0) da_nil) dk_nil) (da_cons (d_fnK G_is_name (hr.mono (by decide)) hgd (by rfl) E.g_is_name E.F_is_name.kp (kb_is_name_0_thing E) (dk_cons (d_var 0) dk_nil)) (da_cons (d_fn G_is_value (hr.mono (by decide)) hgd (by rfl) E.g_is_value E.F_is_value.kp (kb_is_value_1 E) (da_cons (d_var 0) da_nil) dk_nil) (da_cons (d_fnK G_is_value (hr.mono (by decide)) hgd (by rfl) E.g_is_value E.F_is_value.kp (kb_is_value_0_thing E) (dk_cons (d_var 0) dk_nil)) da_nil))))))
  (dss_cons (ds_set 3 nd rfl (by first | exact Or.inl rfl | exact Or.inr rfl) (d_add (d_mul (d_lst (da_cons (d_fn G_l_is_name (hr.mono (by decide)) hgd (by rfl) E.g_l_is_name E.F_l_is_name.kp (kb_l_is_name_1 E) (da_cons (d_var 0) da_nil) dk_nil) da_nil)) d_int) (d_mul (d_lst (da_cons (d_fn G_l_is_value (hr.mono (by decide)) hgd (by rfl) E.g_l_is_value E.F_l_is_value.kp (kb_l_is_value_1 E) (da_cons (d_var 0) da_nil) dk_nil) da_nil)) d_int)))
  (dss_cons (ds_if (PW.pt (dw_or (dt_ne hr.units (d_repr hgd hr.units hsy (by rfl) E.m_repr (da_cons (d_var 2) da_nil)) (d_repr hgd hr.units hsy (by rfl) E.m_repr (da_cons (d_var 3) da_nil))) (dw_or1 (dt_ne hr.units (d_repr hgd hr.units hsy (by rfl) E.m_repr (da_cons (d_var 0) da_nil)) (d_var 1)))))
  (dss_one (ds_ret d_bl))
  dss_nil)
  (dss_cons (ds_if (dt_not (dt_val (d_fn G_l_is_value (hr.mono (by decide)) hgd (by rfl) E.g_l_is_value E.F_l_is_value.kp (kb_l_is_value_1 E) (da_cons (d_var 0) da_nil) dk_nil)))
  (dss_one (ds_ret d_bl))
  dss_nil)
  (dss_cons (ds_set 4 nd rfl (by first | exact Or.inl rfl | exact Or.inr rfl) (d_ix (d_lst (da_cons d_str (da_cons d_str (da_cons d_str da_nil)))) (d_ix (d_fn G_l_rank (hr.mono (by decide)) hgd (by rfl) E.g_l_rank E.F_l_rank.kp (kb_l_rank_1 E) (da_cons (d_var 0) da_nil) dk_nil) d_int (fun _ _ => rfl)) (fun _ _ => rfl)))
  (dss_one (ds_ret (d_eq hr.units (d_repr hgd hr.units hsy (by rfl) E.m_repr (da_cons (d_lst (da_cons (d_fn G_kind_of (hr.mono (by decide)) hgd (by rfl) E.g_kind_of E.F_kind_of.kp (kb_kind_of_1 E) (da_cons (d_var 0) da_nil) dk_nil) (da_cons (d_fnK G_kind_of (hr.mono (by decide)) hgd (by rfl) E.g_kind_of E.F_kind_of.kp (kb_kind_of_0_value E) (dk_cons (d_var 0) dk_nil)) da_nil))) da_nil)) (d_repr hgd hr.units hsy (by rfl) E.m_repr (da_cons (d_lst (da_cons (d_var 4) (da_cons (d_var 4) da_nil))) da_nil))))))))))), ?_⟩
  case len =>
    rintro ts M Q ⟨t, rfl, _⟩
    rfl
  · rintro ts M Q ⟨t, rfl, ht, q⟩
    have hth := ht.th
    have hd := ht.1
    obtain ⟨d, hd1, hsh⟩ := ht.2.2.shows (by decide) (by decide)
    have lk : look t M = t := look_dat hd
    have n1 : ∀ R : QE, R (.bl (nameT t)) M → spIsName [t] M R := fun R h => ⟨t, rfl, hd, hth.z, h⟩
    have n2 : ∀ R : QE, R (.bl (valueT t)) M → spIsValue [t] M R := fun R h => ⟨t, rfl, hd, hth.z, h⟩
    have n3 : ∀ R : QE, R (.bl (nameT t)) M → spLName [t] M R := fun R h => ⟨t, rfl, hth, h⟩
    have n4 : ∀ R : QE, R (.bl (valueT t)) M → spLValue [t] M R := fun R h => ⟨t, rfl, hth, h⟩
    have rp : ∀ R : QE, R (.str (shT t)) M → fRepr [t] R M := fun R h => ht.2.2.rep (by decide) (by decide) lk h
    have rb : ∀ (bs : List Bool) (R : QE), bs.length ≤ 1000 → R (.str (shT (.lst (bs.map T.bl)))) M → fRepr [.lst (bs.map T.bl)] R M := fun bs R hl h => (fine_bls hl).rep (by decide) (by decide) rfl h
    simp only [sSeq, sPar, sPut, sIf, sSet, sDrop, sRet, sRetN, sNext, dOp2, dOp1, dVar, dC, dB, dTup, dLst, dLstM, dNil, dCons, dSl, doNone, doSome, dCall, dLm, dLm0, dSm, dAnd, dOr, dNot, dAndV, dOrV, dIf, dChain, dFn, dFn0, dYes, dDisp, dDispM, dPairs, keysT, dNewD, dNewDM,
 oAdd, oSub, oMul, oFdiv, oMod, oPow, oInt2, oNeg, oIx, oSl, oRev, oRevM, oEqB, scalT, oLt, oLe, oGt, oGe, oOrd, oIsN, isNon, oNotB, oDGet, oDIn, oIn, oInS, mAppend, mPop, mJoin, isL, isS, fLen, fIsi, fAbs, fList, fListM, fTuple, fInt, fBls, seqOf, tyT,
 look, keyT, Pat.set, start3, pick, List.getElem?_cons_zero, List.getElem?_cons_succ, List.set_cons_zero, List.set_cons_succ, List.map_cons, List.map_nil, List.length_cons, List.length_nil, List.nil_append, List.cons_append, List.replicate_succ, List.replicate_zero, Nat.reduceSub, Nat.reduceAdd, flatOf, kit_NoneType_str, kit_bool_str, kit_int_str, kit_str_str, kit_tuple_str, kit_list_str, kit_dict_str, kit_NoneType_int, kit_bool_int, kit_int_int, kit_str_int, kit_tuple_int, kit_list_int, kit_dict_int, kit_NoneType_bool, kit_bool_bool, kit_int_bool, kit_str_bool, kit_tuple_bool, kit_list_bool, kit_dict_bool, kit_NoneType_tuple, kit_bool_tuple, kit_int_tuple, kit_str_tuple, kit_tuple_tuple, kit_list_tuple, kit_dict_tuple, kit_NoneType_list, kit_bool_list, kit_int_list, kit_str_list, kit_tuple_list, kit_list_list, kit_dict_list, kit_NoneType_dict, kit_bool_dict, kit_int_dict, kit_str_dict, kit_tuple_dict, kit_list_dict, kit_dict_dict, Bool.false_eq_true, if_false, if_true, reduceIte, true_and, sz_0, sz_1, sz_2, sz_3, sz_4, sz_5, sz_6, sz_7, sz_8, sz_9, sz_10, sz_11, sz_12, sz_13, sz_14, sz_15, sz_16, sz_17, sz_18, sz_19, sz_20, sz_21, sz_22, sz_23, sz_24, sz_25, sz_26, sz_27, sz_28, sz_29, sz_30, sz_31, sz_32, sz_33, sz_34, sz_35, sz_36, sz_37, sz_38, sz_39, sz_40, sz_41, sz_42, sz_43, sz_44, sz_45, sz_46, sz_47, atI_c0, atI_c1, atI_c2, atI_c3, atI_c4, List.append_nil, List.filterMap_cons, List.filterMap_nil, and_self]
    refine rp _ ?_
    simp only [sSeq, sPar, sPut, sIf, sSet, sDrop, sRet, sRetN, sNext, dOp2, dOp1, dVar, dC, dB, dTup, dLst, dLstM, dNil, dCons, dSl, doNone, doSome, dCall, dLm, dLm0, dSm, dAnd, dOr, dNot, dAndV, dOrV, dIf, dChain, dFn, dFn0, dYes, dDisp, dDispM, dPairs, keysT, dNewD, dNewDM,
 oAdd, oSub, oMul, oFdiv, oMod, oPow, oInt2, oNeg, oIx, oSl, oRev, oRevM, oEqB, scalT, oLt, oLe, oGt, oGe, oOrd, oIsN, isNon, oNotB, oDGet, oDIn, oIn, oInS, mAppend, mPop, mJoin, isL, isS, fLen, fIsi, fAbs, fList, fListM, fTuple, fInt, fBls, seqOf, tyT,
 look, keyT, Pat.set, start3, pick, List.getElem?_cons_zero, List.getElem?_cons_succ, List.set_cons_zero, List.set_cons_succ, List.map_cons, List.map_nil, List.length_cons, List.length_nil, List.nil_append, List.cons_append, List.replicate_succ, List.replicate_zero, Nat.reduceSub, Nat.reduceAdd, flatOf, kit_NoneType_str, kit_bool_str, kit_int_str, kit_str_str, kit_tuple_str, kit_list_str, kit_dict_str, kit_NoneType_int, kit_bool_int, kit_int_int, kit_str_int, kit_tuple_int, kit_list_int, kit_dict_int, kit_NoneType_bool, kit_bool_bool, kit_int_bool, kit_str_bool, kit_tuple_bool, kit_list_bool, kit_dict_bool, kit_NoneType_tuple, kit_bool_tuple, kit_int_tuple, kit_str_tuple, kit_tuple_tuple, kit_list_tuple, kit_dict_tuple, kit_NoneType_list, kit_bool_list, kit_int_list, kit_str_list, kit_tuple_list, kit_list_list, kit_dict_list, kit_NoneType_dict, kit_bool_dict, kit_int_dict, kit_str_dict, kit_tuple_dict, kit_list_dict, kit_dict_dict, Bool.false_eq_true, if_false, if_true, reduceIte, true_and, sz_0, sz_1, sz_2, sz_3, sz_4, sz_5, sz_6, sz_7, sz_8, sz_9, sz_10, sz_11, sz_12, sz_13, sz_14, sz_15, sz_16, sz_17, sz_18, sz_19, sz_20, sz_21, sz_22, sz_23, sz_24, sz_25, sz_26, sz_27, sz_28, sz_29, sz_30, sz_31, sz_32, sz_33, sz_34, sz_35, sz_36, sz_37, sz_38, sz_39, sz_40, sz_41, sz_42, sz_43, sz_44, sz_45, sz_46, sz_47, atI_c0, atI_c1, atI_c2, atI_c3, atI_c4, List.append_nil, List.filterMap_cons, List.filterMap_nil, and_self]
    refine n1 _ (n1 _ (n2 _ (n2 _ (n3 _ ⟨⟨by decide, by decide, by decide⟩, n4 _ ⟨⟨by decide, by decide, by decide⟩, sz (show (4 : Nat) ≤ 100000 by decide), ?_⟩⟩))))
    refine rb [nameT t, nameT t, valueT t, valueT t] _ (show (4 : Nat) ≤ 1000 by decide) ?_
    refine rb [nameT t, nameT t, valueT t, valueT t] _ (show (4 : Nat) ≤ 1000 by decide) ?_
    simp only [decide_true, Bool.not_true]
    refine rp _ ?_
    simp only [decide_true, Bool.not_true]
    refine n4 _ ?_
    cases hv : valueT t with
    | false =>
      simp only [sSeq, sPar, sPut, sIf, sSet, sDrop, sRet, sRetN, sNext, dOp2, dOp1, dVar, dC, dB, dTup, dLst, dLstM, dNil, dCons, dSl, doNone, doSome, dCall, dLm, dLm0, dSm, dAnd, dOr, dNot, dAndV, dOrV, dIf, dChain, dFn, dFn0, dYes, dDisp, dDispM, dPairs, keysT, dNewD, dNewDM,
 oAdd, oSub, oMul, oFdiv, oMod, oPow, oInt2, oNeg, oIx, oSl, oRev, oRevM, oEqB, scalT, oLt, oLe, oGt, oGe, oOrd, oIsN, isNon, oNotB, oDGet, oDIn, oIn, oInS, mAppend, mPop, mJoin, isL, isS, fLen, fIsi, fAbs, fList, fListM, fTuple, fInt, fBls, seqOf, tyT,
 look, keyT, Pat.set, start3, pick, List.getElem?_cons_zero, List.getElem?_cons_succ, List.set_cons_zero, List.set_cons_succ, List.map_cons, List.map_nil, List.length_cons, List.length_nil, List.nil_append, List.cons_append, List.replicate_succ, List.replicate_zero, Nat.reduceSub, Nat.reduceAdd, flatOf, kit_NoneType_str, kit_bool_str, kit_int_str, kit_str_str, kit_tuple_str, kit_list_str, kit_dict_str, kit_NoneType_int, kit_bool_int, kit_int_int, kit_str_int, kit_tuple_int, kit_list_int, kit_dict_int, kit_NoneType_bool, kit_bool_bool, kit_int_bool, kit_str_bool, kit_tuple_bool, kit_list_bool, kit_dict_bool, kit_NoneType_tuple, kit_bool_tuple, kit_int_tuple, kit_str_tuple, kit_tuple_tuple, kit_list_tuple, kit_dict_tuple, kit_NoneType_list, kit_bool_list, kit_int_list, kit_str_list, kit_tuple_list, kit_list_list, kit_dict_list, kit_NoneType_dict, kit_bool_dict, kit_int_dict, kit_str_dict, kit_tuple_dict, kit_list_dict, kit_dict_dict, Bool.false_eq_true, if_false, if_true, reduceIte, true_and, sz_0, sz_1, sz_2, sz_3, sz_4, sz_5, sz_6, sz_7, sz_8, sz_9, sz_10, sz_11, sz_12, sz_13, sz_14, sz_15, sz_16, sz_17, sz_18, sz_19, sz_20, sz_21, sz_22, sz_23, sz_24, sz_25, sz_26, sz_27, sz_28, sz_29, sz_30, sz_31, sz_32, sz_33, sz_34, sz_35, sz_36, sz_37, sz_38, sz_39, sz_40, sz_41, sz_42, sz_43, sz_44, sz_45, sz_46, sz_47, atI_c0, atI_c1, atI_c2, atI_c3, atI_c4, List.append_nil, List.filterMap_cons, List.filterMap_nil, and_self, Bool.not_false]
      exact q
    | true =>
      have hf := hth.flat hv
      simp only [sSeq, sPar, sPut, sIf, sSet, sDrop, sRet, sRetN, sNext, dOp2, dOp1, dVar, dC, dB, dTup, dLst, dLstM, dNil, dCons, dSl, doNone, doSome, dCall, dLm, dLm0, dSm, dAnd, dOr, dNot, dAndV, dOrV, dIf, dChain, dFn, dFn0, dYes, dDisp, dDispM, dPairs, keysT, dNewD, dNewDM,
 oAdd, oSub, oMul, oFdiv, oMod, oPow, oInt2, oNeg, oIx, oSl, oRev, oRevM, oEqB, scalT, oLt, oLe, oGt, oGe, oOrd, oIsN, isNon, oNotB, oDGet, oDIn, oIn, oInS, mAppend, mPop, mJoin, isL, isS, fLen, fIsi, fAbs, fList, fListM, fTuple, fInt, fBls, seqOf, tyT,
 look, keyT, Pat.set, start3, pick, List.getElem?_cons_zero, List.getElem?_cons_succ, List.set_cons_zero, List.set_cons_succ, List.map_cons, List.map_nil, List.length_cons, List.length_nil, List.nil_append, List.cons_append, List.replicate_succ, List.replicate_zero, Nat.reduceSub, Nat.reduceAdd, flatOf, kit_NoneType_str, kit_bool_str, kit_int_str, kit_str_str, kit_tuple_str, kit_list_str, kit_dict_str, kit_NoneType_int, kit_bool_int, kit_int_int, kit_str_int, kit_tuple_int, kit_list_int, kit_dict_int, kit_NoneType_bool, kit_bool_bool, kit_int_bool, kit_str_bool, kit_tuple_bool, kit_list_bool, kit_dict_bool, kit_NoneType_tuple, kit_bool_tuple, kit_int_tuple, kit_str_tuple, kit_tuple_tuple, kit_list_tuple, kit_dict_tuple, kit_NoneType_list, kit_bool_list, kit_int_list, kit_str_list, kit_tuple_list, kit_list_list, kit_dict_list, kit_NoneType_dict, kit_bool_dict, kit_int_dict, kit_str_dict, kit_tuple_dict, kit_list_dict, kit_dict_dict, Bool.false_eq_true, if_false, if_true, reduceIte, true_and, sz_0, sz_1, sz_2, sz_3, sz_4, sz_5, sz_6, sz_7, sz_8, sz_9, sz_10, sz_11, sz_12, sz_13, sz_14, sz_15, sz_16, sz_17, sz_18, sz_19, sz_20, sz_21, sz_22, sz_23, sz_24, sz_25, sz_26, sz_27, sz_28, sz_29, sz_30, sz_31, sz_32, sz_33, sz_34, sz_35, sz_36, sz_37, sz_38, sz_39, sz_40, sz_41, sz_42, sz_43, sz_44, sz_45, sz_46, sz_47, atI_c0, atI_c1, atI_c2, atI_c3, atI_c4, List.append_nil, List.filterMap_cons, List.filterMap_nil, and_self, Bool.not_true]
      refine ⟨t, rfl, hf, ?_⟩
      have k1 : ∀ R : QE, R (.str (kindT t)) M → spKind [t] M R := fun R h => ⟨t, rfl, hf, h⟩
      have fk : Fine (.lst [.str (kindT t), .str (kindT t)]) 1000 1 := (fine_lst (n := 82) (k := 0) fun x hx => by
        have e : x = .str (kindT t) := by simpa using hx
        rw [e]
        have l := kind_low t
        exact (fine_str l.2).mono (by omega) (Nat.le_refl _)).mono (show (2 * (82 + 2) + 3 : Nat) ≤ 1000 by decide) (by decide)
      have rk : ∀ R : QE, R (.str (shT (.lst [.str (kindT t), .str (kindT t)]))) M → fRepr [.lst [.str (kindT t), .str (kindT t)]] R M := fun R h => fk.rep (by decide) (by decide) rfl h
      rcases hf with rfl | ⟨i, rfl⟩ | ⟨z, rfl, _⟩
      · simp only [rankT, sSeq, sPar, sPut, sIf, sSet, sDrop, sRet, sRetN, sNext, dOp2, dOp1, dVar, dC, dB, dTup, dLst, dLstM, dNil, dCons, dSl, doNone, doSome, dCall, dLm, dLm0, dSm, dAnd, dOr, dNot, dAndV, dOrV, dIf, dChain, dFn, dFn0, dYes, dDisp, dDispM, dPairs, keysT, dNewD, dNewDM,
 oAdd, oSub, oMul, oFdiv, oMod, oPow, oInt2, oNeg, oIx, oSl, oRev, oRevM, oEqB, scalT, oLt, oLe, oGt, oGe, oOrd, oIsN, isNon, oNotB, oDGet, oDIn, oIn, oInS, mAppend, mPop, mJoin, isL, isS, fLen, fIsi, fAbs, fList, fListM, fTuple, fInt, fBls, seqOf, tyT,
 look, keyT, Pat.set, start3, pick, List.getElem?_cons_zero, List.getElem?_cons_succ, List.set_cons_zero, List.set_cons_succ, List.map_cons, List.map_nil, List.length_cons, List.length_nil, List.nil_append, List.cons_append, List.replicate_succ, List.replicate_zero, Nat.reduceSub, Nat.reduceAdd, flatOf, kit_NoneType_str, kit_bool_str, kit_int_str, kit_str_str, kit_tuple_str, kit_list_str, kit_dict_str, kit_NoneType_int, kit_bool_int, kit_int_int, kit_str_int, kit_tuple_int, kit_list_int, kit_dict_int, kit_NoneType_bool, kit_bool_bool, kit_int_bool, kit_str_bool, kit_tuple_bool, kit_list_bool, kit_dict_bool, kit_NoneType_tuple, kit_bool_tuple, kit_int_tuple, kit_str_tuple, kit_tuple_tuple, kit_list_tuple, kit_dict_tuple, kit_NoneType_list, kit_bool_list, kit_int_list, kit_str_list, kit_tuple_list, kit_list_list, kit_dict_list, kit_NoneType_dict, kit_bool_dict, kit_int_dict, kit_str_dict, kit_tuple_dict, kit_list_dict, kit_dict_dict, Bool.false_eq_true, if_false, if_true, reduceIte, true_and, sz_0, sz_1, sz_2, sz_3, sz_4, sz_5, sz_6, sz_7, sz_8, sz_9, sz_10, sz_11, sz_12, sz_13, sz_14, sz_15, sz_16, sz_17, sz_18, sz_19, sz_20, sz_21, sz_22, sz_23, sz_24, sz_25, sz_26, sz_27, sz_28, sz_29, sz_30, sz_31, sz_32, sz_33, sz_34, sz_35, sz_36, sz_37, sz_38, sz_39, sz_40, sz_41, sz_42, sz_43, sz_44, sz_45, sz_46, sz_47, atI_c0, atI_c1, atI_c2, atI_c3, atI_c4, List.append_nil, List.filterMap_cons, List.filterMap_nil, and_self]
        refine k1 _ (k1 _ (rk _ (rk _ ?_)))
        simp only [decide_true]
        exact q
      · simp only [rankT, sSeq, sPar, sPut, sIf, sSet, sDrop, sRet, sRetN, sNext, dOp2, dOp1, dVar, dC, dB, dTup, dLst, dLstM, dNil, dCons, dSl, doNone, doSome, dCall, dLm, dLm0, dSm, dAnd, dOr, dNot, dAndV, dOrV, dIf, dChain, dFn, dFn0, dYes, dDisp, dDispM, dPairs, keysT, dNewD, dNewDM,
 oAdd, oSub, oMul, oFdiv, oMod, oPow, oInt2, oNeg, oIx, oSl, oRev, oRevM, oEqB, scalT, oLt, oLe, oGt, oGe, oOrd, oIsN, isNon, oNotB, oDGet, oDIn, oIn, oInS, mAppend, mPop, mJoin, isL, isS, fLen, fIsi, fAbs, fList, fListM, fTuple, fInt, fBls, seqOf, tyT,
 look, keyT, Pat.set, start3, pick, List.getElem?_cons_zero, List.getElem?_cons_succ, List.set_cons_zero, List.set_cons_succ, List.map_cons, List.map_nil, List.length_cons, List.length_nil, List.nil_append, List.cons_append, List.replicate_succ, List.replicate_zero, Nat.reduceSub, Nat.reduceAdd, flatOf, kit_NoneType_str, kit_bool_str, kit_int_str, kit_str_str, kit_tuple_str, kit_list_str, kit_dict_str, kit_NoneType_int, kit_bool_int, kit_int_int, kit_str_int, kit_tuple_int, kit_list_int, kit_dict_int, kit_NoneType_bool, kit_bool_bool, kit_int_bool, kit_str_bool, kit_tuple_bool, kit_list_bool, kit_dict_bool, kit_NoneType_tuple, kit_bool_tuple, kit_int_tuple, kit_str_tuple, kit_tuple_tuple, kit_list_tuple, kit_dict_tuple, kit_NoneType_list, kit_bool_list, kit_int_list, kit_str_list, kit_tuple_list, kit_list_list, kit_dict_list, kit_NoneType_dict, kit_bool_dict, kit_int_dict, kit_str_dict, kit_tuple_dict, kit_list_dict, kit_dict_dict, Bool.false_eq_true, if_false, if_true, reduceIte, true_and, sz_0, sz_1, sz_2, sz_3, sz_4, sz_5, sz_6, sz_7, sz_8, sz_9, sz_10, sz_11, sz_12, sz_13, sz_14, sz_15, sz_16, sz_17, sz_18, sz_19, sz_20, sz_21, sz_22, sz_23, sz_24, sz_25, sz_26, sz_27, sz_28, sz_29, sz_30, sz_31, sz_32, sz_33, sz_34, sz_35, sz_36, sz_37, sz_38, sz_39, sz_40, sz_41, sz_42, sz_43, sz_44, sz_45, sz_46, sz_47, atI_c0, atI_c1, atI_c2, atI_c3, atI_c4, List.append_nil, List.filterMap_cons, List.filterMap_nil, and_self]
        refine k1 _ (k1 _ (rk _ (rk _ ?_)))
        simp only [decide_true]
        exact q
      · simp only [rankT, sSeq, sPar, sPut, sIf, sSet, sDrop, sRet, sRetN, sNext, dOp2, dOp1, dVar, dC, dB, dTup, dLst, dLstM, dNil, dCons, dSl, doNone, doSome, dCall, dLm, dLm0, dSm, dAnd, dOr, dNot, dAndV, dOrV, dIf, dChain, dFn, dFn0, dYes, dDisp, dDispM, dPairs, keysT, dNewD, dNewDM,
 oAdd, oSub, oMul, oFdiv, oMod, oPow, oInt2, oNeg, oIx, oSl, oRev, oRevM, oEqB, scalT, oLt, oLe, oGt, oGe, oOrd, oIsN, isNon, oNotB, oDGet, oDIn, oIn, oInS, mAppend, mPop, mJoin, isL, isS, fLen, fIsi, fAbs, fList, fListM, fTuple, fInt, fBls, seqOf, tyT,
 look, keyT, Pat.set, start3, pick, List.getElem?_cons_zero, List.getElem?_cons_succ, List.set_cons_zero, List.set_cons_succ, List.map_cons, List.map_nil, List.length_cons, List.length_nil, List.nil_append, List.cons_append, List.replicate_succ, List.replicate_zero, Nat.reduceSub, Nat.reduceAdd, flatOf, kit_NoneType_str, kit_bool_str, kit_int_str, kit_str_str, kit_tuple_str, kit_list_str, kit_dict_str, kit_NoneType_int, kit_bool_int, kit_int_int, kit_str_int, kit_tuple_int, kit_list_int, kit_dict_int, kit_NoneType_bool, kit_bool_bool, kit_int_bool, kit_str_bool, kit_tuple_bool, kit_list_bool, kit_dict_bool, kit_NoneType_tuple, kit_bool_tuple, kit_int_tuple, kit_str_tuple, kit_tuple_tuple, kit_list_tuple, kit_dict_tuple, kit_NoneType_list, kit_bool_list, kit_int_list, kit_str_list, kit_tuple_list, kit_list_list, kit_dict_list, kit_NoneType_dict, kit_bool_dict, kit_int_dict, kit_str_dict, kit_tuple_dict, kit_list_dict, kit_dict_dict, Bool.false_eq_true, if_false, if_true, reduceIte, true_and, sz_0, sz_1, sz_2, sz_3, sz_4, sz_5, sz_6, sz_7, sz_8, sz_9, sz_10, sz_11, sz_12, sz_13, sz_14, sz_15, sz_16, sz_17, sz_18, sz_19, sz_20, sz_21, sz_22, sz_23, sz_24, sz_25, sz_26, sz_27, sz_28, sz_29, sz_30, sz_31, sz_32, sz_33, sz_34, sz_35, sz_36, sz_37, sz_38, sz_39, sz_40, sz_41, sz_42, sz_43, sz_44, sz_45, sz_46, sz_47, atI_c0, atI_c1, atI_c2, atI_c3, atI_c4, List.append_nil, List.filterMap_cons, List.filterMap_nil, and_self]
        refine k1 _ (k1 _ (rk _ (rk _ ?_)))
        simp only [decide_true]
        exact q



theorem ok_l_pair_right (E : Fns K mg) (hsy : SysAt base) (G_is_before : FnD P w K mg base 2 E.f_is_before E.fd_is_before ["one", "other"] spBefore) (G_l_rank : FnD P w K mg base 1 E.f_l_rank E.fd_l_rank ["it"] spRank) : FnD P w K mg base 3 E.f_l_pair_right E.fd_l_pair_right ["first", "second"] spPairR := by
  have nd := sc_l_pair_right.nd
  refine okD E.F_l_pair_right sc_l_pair_right ?len fun cdv A outer s H X hr hgd => ⟨_, (dss_cons (ds_par 2 3 rfl nd rfl rfl (by decide) rfl rfl (d_fn G_l_rank (hr.mono (by decide)) hgd (by rfl) E.g_l_rank E.F_l_rank.kp (kb_l_rank_1 E) (da_cons (d_var 0) da_nil) dk_nil) (d_fn G_l_rank (hr.mono (by decide)) hgd (by rfl) E.g_l_rank E.F_l_rank.kp (kb_l_rank_1 E) (da_cons (d_var 1) da_nil) dk_nil))
  (dss_cons (ds_set 4 nd rfl (by first | exact Or.inl rfl | exact Or.inr rfl) (d_lst (da_cons (d_fn G_is_before (hr.mono (by decide)) hgd (by rfl) E.g_is_before E.F_is_before.kp (kb_is_before_2 E) (da_cons (d_var 0) (da_cons (d_var 1) da_nil)) dk_nil) (da_cons (d_fn G_is_before (hr.mono (by decide)) hgd (by rfl) E.g_is_before E.F_is_before.kp (kb_is_before_2 E) (da_cons (d_var 1) (da_cons (d_var 0) da_nil)) dk_nil) (da_cons (d_fnK G_is_before (hr.mono (by decide)) hgd (by rfl) E.g_is_before E.F_is_before.kp (kb_is_before_0_other_one E) (dk_cons (d_var 1) (dk_cons (d_var 0) dk_nil))) da_nil)))))
  (dss_one (ds_ret (d_eq hr.units (d_repr hgd hr.units hsy (by rfl) E.m_repr (da_cons (d_var 4) da_nil)) (d_repr hgd hr.units hsy (by rfl) E.m_repr (da_cons (d_lst (da_cons (d_ltT (hu84 hr) hsy (d_var 2) (d_var 3)) (da_cons (d_ltT (hu84 hr) hsy (d_var 3) (d_var 2)) (da_cons (d_ltT (hu84 hr) hsy (d_var 2) (d_var 3)) da_nil)))) da_nil))))))), ?_⟩
  case len =>
    rintro ts M Q ⟨t, u, rfl, _⟩
    rfl
  · rintro ts M Q ⟨t, u, rfl, ht, hu, q⟩
    simp only [sSeq, sPar, sPut, sIf, sSet, sDrop, sRet, sRetN, sNext, dOp2, dOp1, dVar, dC, dB, dTup, dLst, dLstM, dNil, dCons, dSl, doNone, doSome, dCall, dLm, dLm0, dSm, dAnd, dOr, dNot, dAndV, dOrV, dIf, dChain, dFn, dFn0, dYes, dDisp, dDispM, dPairs, keysT, dNewD, dNewDM,
 oAdd, oSub, oMul, oFdiv, oMod, oPow, oInt2, oNeg, oIx, oSl, oRev, oRevM, oEqB, scalT, oLt, oLe, oGt, oGe, oOrd, oIsN, isNon, oNotB, oDGet, oDIn, oIn, oInS, mAppend, mPop, mJoin, isL, isS, fLen, fIsi, fAbs, fList, fListM, fTuple, fInt, fBls, seqOf, tyT,
 look, keyT, Pat.set, start3, pick, List.getElem?_cons_zero, List.getElem?_cons_succ, List.set_cons_zero, List.set_cons_succ, List.map_cons, List.map_nil, List.length_cons, List.length_nil, List.nil_append, List.cons_append, List.replicate_succ, List.replicate_zero, Nat.reduceSub, Nat.reduceAdd, flatOf, kit_NoneType_str, kit_bool_str, kit_int_str, kit_str_str, kit_tuple_str, kit_list_str, kit_dict_str, kit_NoneType_int, kit_bool_int, kit_int_int, kit_str_int, kit_tuple_int, kit_list_int, kit_dict_int, kit_NoneType_bool, kit_bool_bool, kit_int_bool, kit_str_bool, kit_tuple_bool, kit_list_bool, kit_dict_bool, kit_NoneType_tuple, kit_bool_tuple, kit_int_tuple, kit_str_tuple, kit_tuple_tuple, kit_list_tuple, kit_dict_tuple, kit_NoneType_list, kit_bool_list, kit_int_list, kit_str_list, kit_tuple_list, kit_list_list, kit_dict_list, kit_NoneType_dict, kit_bool_dict, kit_int_dict, kit_str_dict, kit_tuple_dict, kit_list_dict, kit_dict_dict, Bool.false_eq_true, if_false, if_true, reduceIte, true_and, sz_0, sz_1, sz_2, sz_3, sz_4, sz_5, sz_6, sz_7, sz_8, sz_9, sz_10, sz_11, sz_12, sz_13, sz_14, sz_15, sz_16, sz_17, sz_18, sz_19, sz_20, sz_21, sz_22, sz_23, sz_24, sz_25, sz_26, sz_27, sz_28, sz_29, sz_30, sz_31, sz_32, sz_33, sz_34, sz_35, sz_36, sz_37, sz_38, sz_39, sz_40, sz_41, sz_42, sz_43, sz_44, sz_45, sz_46, sz_47, atI_c0, atI_c1, atI_c2, atI_c3, atI_c4, List.append_nil, List.filterMap_cons, List.filterMap_nil, and_self]
    refine ⟨t, rfl, ht, ?_⟩
    simp only [sSeq, sPar, sPut, sIf, sSet, sDrop, sRet, sRetN, sNext, dOp2, dOp1, dVar, dC, dB, dTup, dLst, dLstM, dNil, dCons, dSl, doNone, doSome, dCall, dLm, dLm0, dSm, dAnd, dOr, dNot, dAndV, dOrV, dIf, dChain, dFn, dFn0, dYes, dDisp, dDispM, dPairs, keysT, dNewD, dNewDM,
 oAdd, oSub, oMul, oFdiv, oMod, oPow, oInt2, oNeg, oIx, oSl, oRev, oRevM, oEqB, scalT, oLt, oLe, oGt, oGe, oOrd, oIsN, isNon, oNotB, oDGet, oDIn, oIn, oInS, mAppend, mPop, mJoin, isL, isS, fLen, fIsi, fAbs, fList, fListM, fTuple, fInt, fBls, seqOf, tyT,
 look, keyT, Pat.set, start3, pick, List.getElem?_cons_zero, List.getElem?_cons_succ, List.set_cons_zero, List.set_cons_succ, List.map_cons, List.map_nil, List.length_cons, List.length_nil, List.nil_append, List.cons_append, List.replicate_succ, List.replicate_zero, Nat.reduceSub, Nat.reduceAdd, flatOf, kit_NoneType_str, kit_bool_str, kit_int_str, kit_str_str, kit_tuple_str, kit_list_str, kit_dict_str, kit_NoneType_int, kit_bool_int, kit_int_int, kit_str_int, kit_tuple_int, kit_list_int, kit_dict_int, kit_NoneType_bool, kit_bool_bool, kit_int_bool, kit_str_bool, kit_tuple_bool, kit_list_bool, kit_dict_bool, kit_NoneType_tuple, kit_bool_tuple, kit_int_tuple, kit_str_tuple, kit_tuple_tuple, kit_list_tuple, kit_dict_tuple, kit_NoneType_list, kit_bool_list, kit_int_list, kit_str_list, kit_tuple_list, kit_list_list, kit_dict_list, kit_NoneType_dict, kit_bool_dict, kit_int_dict, kit_str_dict, kit_tuple_dict, kit_list_dict, kit_dict_dict, Bool.false_eq_true, if_false, if_true, reduceIte, true_and, sz_0, sz_1, sz_2, sz_3, sz_4, sz_5, sz_6, sz_7, sz_8, sz_9, sz_10, sz_11, sz_12, sz_13, sz_14, sz_15, sz_16, sz_17, sz_18, sz_19, sz_20, sz_21, sz_22, sz_23, sz_24, sz_25, sz_26, sz_27, sz_28, sz_29, sz_30, sz_31, sz_32, sz_33, sz_34, sz_35, sz_36, sz_37, sz_38, sz_39, sz_40, sz_41, sz_42, sz_43, sz_44, sz_45, sz_46, sz_47, atI_c0, atI_c1, atI_c2, atI_c3, atI_c4, List.append_nil, List.filterMap_cons, List.filterMap_nil, and_self]
    refine ⟨u, rfl, hu, ?_⟩
    simp only [sSeq, sPar, sPut, sIf, sSet, sDrop, sRet, sRetN, sNext, dOp2, dOp1, dVar, dC, dB, dTup, dLst, dLstM, dNil, dCons, dSl, doNone, doSome, dCall, dLm, dLm0, dSm, dAnd, dOr, dNot, dAndV, dOrV, dIf, dChain, dFn, dFn0, dYes, dDisp, dDispM, dPairs, keysT, dNewD, dNewDM,
 oAdd, oSub, oMul, oFdiv, oMod, oPow, oInt2, oNeg, oIx, oSl, oRev, oRevM, oEqB, scalT, oLt, oLe, oGt, oGe, oOrd, oIsN, isNon, oNotB, oDGet, oDIn, oIn, oInS, mAppend, mPop, mJoin, isL, isS, fLen, fIsi, fAbs, fList, fListM, fTuple, fInt, fBls, seqOf, tyT,
 look, keyT, Pat.set, start3, pick, List.getElem?_cons_zero, List.getElem?_cons_succ, List.set_cons_zero, List.set_cons_succ, List.map_cons, List.map_nil, List.length_cons, List.length_nil, List.nil_append, List.cons_append, List.replicate_succ, List.replicate_zero, Nat.reduceSub, Nat.reduceAdd, flatOf, kit_NoneType_str, kit_bool_str, kit_int_str, kit_str_str, kit_tuple_str, kit_list_str, kit_dict_str, kit_NoneType_int, kit_bool_int, kit_int_int, kit_str_int, kit_tuple_int, kit_list_int, kit_dict_int, kit_NoneType_bool, kit_bool_bool, kit_int_bool, kit_str_bool, kit_tuple_bool, kit_list_bool, kit_dict_bool, kit_NoneType_tuple, kit_bool_tuple, kit_int_tuple, kit_str_tuple, kit_tuple_tuple, kit_list_tuple, kit_dict_tuple, kit_NoneType_list, kit_bool_list, kit_int_list, kit_str_list, kit_tuple_list, kit_list_list, kit_dict_list, kit_NoneType_dict, kit_bool_dict, kit_int_dict, kit_str_dict, kit_tuple_dict, kit_list_dict, kit_dict_dict, Bool.false_eq_true, if_false, if_true, reduceIte, true_and, sz_0, sz_1, sz_2, sz_3, sz_4, sz_5, sz_6, sz_7, sz_8, sz_9, sz_10, sz_11, sz_12, sz_13, sz_14, sz_15, sz_16, sz_17, sz_18, sz_19, sz_20, sz_21, sz_22, sz_23, sz_24, sz_25, sz_26, sz_27, sz_28, sz_29, sz_30, sz_31, sz_32, sz_33, sz_34, sz_35, sz_36, sz_37, sz_38, sz_39, sz_40, sz_41, sz_42, sz_43, sz_44, sz_45, sz_46, sz_47, atI_c0, atI_c1, atI_c2, atI_c3, atI_c4, List.append_nil, List.filterMap_cons, List.filterMap_nil, and_self]
    refine ⟨t, u, rfl, ht, hu, ?_⟩
    simp only [sSeq, sPar, sPut, sIf, sSet, sDrop, sRet, sRetN, sNext, dOp2, dOp1, dVar, dC, dB, dTup, dLst, dLstM, dNil, dCons, dSl, doNone, doSome, dCall, dLm, dLm0, dSm, dAnd, dOr, dNot, dAndV, dOrV, dIf, dChain, dFn, dFn0, dYes, dDisp, dDispM, dPairs, keysT, dNewD, dNewDM,
 oAdd, oSub, oMul, oFdiv, oMod, oPow, oInt2, oNeg, oIx, oSl, oRev, oRevM, oEqB, scalT, oLt, oLe, oGt, oGe, oOrd, oIsN, isNon, oNotB, oDGet, oDIn, oIn, oInS, mAppend, mPop, mJoin, isL, isS, fLen, fIsi, fAbs, fList, fListM, fTuple, fInt, fBls, seqOf, tyT,
 look, keyT, Pat.set, start3, pick, List.getElem?_cons_zero, List.getElem?_cons_succ, List.set_cons_zero, List.set_cons_succ, List.map_cons, List.map_nil, List.length_cons, List.length_nil, List.nil_append, List.cons_append, List.replicate_succ, List.replicate_zero, Nat.reduceSub, Nat.reduceAdd, flatOf, kit_NoneType_str, kit_bool_str, kit_int_str, kit_str_str, kit_tuple_str, kit_list_str, kit_dict_str, kit_NoneType_int, kit_bool_int, kit_int_int, kit_str_int, kit_tuple_int, kit_list_int, kit_dict_int, kit_NoneType_bool, kit_bool_bool, kit_int_bool, kit_str_bool, kit_tuple_bool, kit_list_bool, kit_dict_bool, kit_NoneType_tuple, kit_bool_tuple, kit_int_tuple, kit_str_tuple, kit_tuple_tuple, kit_list_tuple, kit_dict_tuple, kit_NoneType_list, kit_bool_list, kit_int_list, kit_str_list, kit_tuple_list, kit_list_list, kit_dict_list, kit_NoneType_dict, kit_bool_dict, kit_int_dict, kit_str_dict, kit_tuple_dict, kit_list_dict, kit_dict_dict, Bool.false_eq_true, if_false, if_true, reduceIte, true_and, sz_0, sz_1, sz_2, sz_3, sz_4, sz_5, sz_6, sz_7, sz_8, sz_9, sz_10, sz_11, sz_12, sz_13, sz_14, sz_15, sz_16, sz_17, sz_18, sz_19, sz_20, sz_21, sz_22, sz_23, sz_24, sz_25, sz_26, sz_27, sz_28, sz_29, sz_30, sz_31, sz_32, sz_33, sz_34, sz_35, sz_36, sz_37, sz_38, sz_39, sz_40, sz_41, sz_42, sz_43, sz_44, sz_45, sz_46, sz_47, atI_c0, atI_c1, atI_c2, atI_c3, atI_c4, List.append_nil, List.filterMap_cons, List.filterMap_nil, and_self]
    refine ⟨u, t, rfl, hu, ht, ?_⟩
    simp only [sSeq, sPar, sPut, sIf, sSet, sDrop, sRet, sRetN, sNext, dOp2, dOp1, dVar, dC, dB, dTup, dLst, dLstM, dNil, dCons, dSl, doNone, doSome, dCall, dLm, dLm0, dSm, dAnd, dOr, dNot, dAndV, dOrV, dIf, dChain, dFn, dFn0, dYes, dDisp, dDispM, dPairs, keysT, dNewD, dNewDM,
 oAdd, oSub, oMul, oFdiv, oMod, oPow, oInt2, oNeg, oIx, oSl, oRev, oRevM, oEqB, scalT, oLt, oLe, oGt, oGe, oOrd, oIsN, isNon, oNotB, oDGet, oDIn, oIn, oInS, mAppend, mPop, mJoin, isL, isS, fLen, fIsi, fAbs, fList, fListM, fTuple, fInt, fBls, seqOf, tyT,
 look, keyT, Pat.set, start3, pick, List.getElem?_cons_zero, List.getElem?_cons_succ, List.set_cons_zero, List.set_cons_succ, List.map_cons, List.map_nil, List.length_cons, List.length_nil, List.nil_append, List.cons_append, List.replicate_succ, List.replicate_zero, Nat.reduceSub, Nat.reduceAdd, flatOf, kit_NoneType_str, kit_bool_str, kit_int_str, kit_str_str, kit_tuple_str, kit_list_str, kit_dict_str, kit_NoneType_int, kit_bool_int, kit_int_int, kit_str_int, kit_tuple_int, kit_list_int, kit_dict_int, kit_NoneType_bool, kit_bool_bool, kit_int_bool, kit_str_bool, kit_tuple_bool, kit_list_bool, kit_dict_bool, kit_NoneType_tuple, kit_bool_tuple, kit_int_tuple, kit_str_tuple, kit_tuple_tuple, kit_list_tuple, kit_dict_tuple, kit_NoneType_list, kit_bool_list, kit_int_list, kit_str_list, kit_tuple_list, kit_list_list, kit_dict_list, kit_NoneType_dict, kit_bool_dict, kit_int_dict, kit_str_dict, kit_tuple_dict, kit_list_dict, kit_dict_dict, Bool.false_eq_true, if_false, if_true, reduceIte, true_and, sz_0, sz_1, sz_2, sz_3, sz_4, sz_5, sz_6, sz_7, sz_8, sz_9, sz_10, sz_11, sz_12, sz_13, sz_14, sz_15, sz_16, sz_17, sz_18, sz_19, sz_20, sz_21, sz_22, sz_23, sz_24, sz_25, sz_26, sz_27, sz_28, sz_29, sz_30, sz_31, sz_32, sz_33, sz_34, sz_35, sz_36, sz_37, sz_38, sz_39, sz_40, sz_41, sz_42, sz_43, sz_44, sz_45, sz_46, sz_47, atI_c0, atI_c1, atI_c2, atI_c3, atI_c4, List.append_nil, List.filterMap_cons, List.filterMap_nil, and_self]
    refine ⟨t, u, rfl, ht, hu, ?_⟩
    simp only [sSeq, sPar, sPut, sIf, sSet, sDrop, sRet, sRetN, sNext, dOp2, dOp1, dVar, dC, dB, dTup, dLst, dLstM, dNil, dCons, dSl, doNone, doSome, dCall, dLm, dLm0, dSm, dAnd, dOr, dNot, dAndV, dOrV, dIf, dChain, dFn, dFn0, dYes, dDisp, dDispM, dPairs, keysT, dNewD, dNewDM,
 oAdd, oSub, oMul, oFdiv, oMod, oPow, oInt2, oNeg, oIx, oSl, oRev, oRevM, oEqB, scalT, oLt, oLe, oGt, oGe, oOrd, oIsN, isNon, oNotB, oDGet, oDIn, oIn, oInS, mAppend, mPop, mJoin, isL, isS, fLen, fIsi, fAbs, fList, fListM, fTuple, fInt, fBls, seqOf, tyT,
 look, keyT, Pat.set, start3, pick, List.getElem?_cons_zero, List.getElem?_cons_succ, List.set_cons_zero, List.set_cons_succ, List.map_cons, List.map_nil, List.length_cons, List.length_nil, List.nil_append, List.cons_append, List.replicate_succ, List.replicate_zero, Nat.reduceSub, Nat.reduceAdd, flatOf, kit_NoneType_str, kit_bool_str, kit_int_str, kit_str_str, kit_tuple_str, kit_list_str, kit_dict_str, kit_NoneType_int, kit_bool_int, kit_int_int, kit_str_int, kit_tuple_int, kit_list_int, kit_dict_int, kit_NoneType_bool, kit_bool_bool, kit_int_bool, kit_str_bool, kit_tuple_bool, kit_list_bool, kit_dict_bool, kit_NoneType_tuple, kit_bool_tuple, kit_int_tuple, kit_str_tuple, kit_tuple_tuple, kit_list_tuple, kit_dict_tuple, kit_NoneType_list, kit_bool_list, kit_int_list, kit_str_list, kit_tuple_list, kit_list_list, kit_dict_list, kit_NoneType_dict, kit_bool_dict, kit_int_dict, kit_str_dict, kit_tuple_dict, kit_list_dict, kit_dict_dict, Bool.false_eq_true, if_false, if_true, reduceIte, true_and, sz_0, sz_1, sz_2, sz_3, sz_4, sz_5, sz_6, sz_7, sz_8, sz_9, sz_10, sz_11, sz_12, sz_13, sz_14, sz_15, sz_16, sz_17, sz_18, sz_19, sz_20, sz_21, sz_22, sz_23, sz_24, sz_25, sz_26, sz_27, sz_28, sz_29, sz_30, sz_31, sz_32, sz_33, sz_34, sz_35, sz_36, sz_37, sz_38, sz_39, sz_40, sz_41, sz_42, sz_43, sz_44, sz_45, sz_46, sz_47, atI_c0, atI_c1, atI_c2, atI_c3, atI_c4, List.append_nil, List.filterMap_cons, List.filterMap_nil, and_self]
    have rb : ∀ (bs : List Bool) (R : QE), bs.length ≤ 1000 → R (.str (shT (.lst (bs.map T.bl)))) M → fRepr [.lst (bs.map T.bl)] R M := fun bs R hl h => (fine_bls hl).rep (by decide) (by decide) rfl h
    refine rb [beforeT t u, beforeT u t, beforeT t u] _ (show (3 : Nat) ≤ 1000 by decide) ?_
    simp only [sSeq, sPar, sPut, sIf, sSet, sDrop, sRet, sRetN, sNext, dOp2, dOp1, dVar, dC, dB, dTup, dLst, dLstM, dNil, dCons, dSl, doNone, doSome, dCall, dLm, dLm0, dSm, dAnd, dOr, dNot, dAndV, dOrV, dIf, dChain, dFn, dFn0, dYes, dDisp, dDispM, dPairs, keysT, dNewD, dNewDM,
 oAdd, oSub, oMul, oFdiv, oMod, oPow, oInt2, oNeg, oIx, oSl, oRev, oRevM, oEqB, scalT, oLt, oLe, oGt, oGe, oOrd, oIsN, isNon, oNotB, oDGet, oDIn, oIn, oInS, mAppend, mPop, mJoin, isL, isS, fLen, fIsi, fAbs, fList, fListM, fTuple, fInt, fBls, seqOf, tyT,
 look, keyT, Pat.set, start3, pick, List.getElem?_cons_zero, List.getElem?_cons_succ, List.set_cons_zero, List.set_cons_succ, List.map_cons, List.map_nil, List.length_cons, List.length_nil, List.nil_append, List.cons_append, List.replicate_succ, List.replicate_zero, Nat.reduceSub, Nat.reduceAdd, flatOf, kit_NoneType_str, kit_bool_str, kit_int_str, kit_str_str, kit_tuple_str, kit_list_str, kit_dict_str, kit_NoneType_int, kit_bool_int, kit_int_int, kit_str_int, kit_tuple_int, kit_list_int, kit_dict_int, kit_NoneType_bool, kit_bool_bool, kit_int_bool, kit_str_bool, kit_tuple_bool, kit_list_bool, kit_dict_bool, kit_NoneType_tuple, kit_bool_tuple, kit_int_tuple, kit_str_tuple, kit_tuple_tuple, kit_list_tuple, kit_dict_tuple, kit_NoneType_list, kit_bool_list, kit_int_list, kit_str_list, kit_tuple_list, kit_list_list, kit_dict_list, kit_NoneType_dict, kit_bool_dict, kit_int_dict, kit_str_dict, kit_tuple_dict, kit_list_dict, kit_dict_dict, Bool.false_eq_true, if_false, if_true, reduceIte, true_and, sz_0, sz_1, sz_2, sz_3, sz_4, sz_5, sz_6, sz_7, sz_8, sz_9, sz_10, sz_11, sz_12, sz_13, sz_14, sz_15, sz_16, sz_17, sz_18, sz_19, sz_20, sz_21, sz_22, sz_23, sz_24, sz_25, sz_26, sz_27, sz_28, sz_29, sz_30, sz_31, sz_32, sz_33, sz_34, sz_35, sz_36, sz_37, sz_38, sz_39, sz_40, sz_41, sz_42, sz_43, sz_44, sz_45, sz_46, sz_47, atI_c0, atI_c1, atI_c2, atI_c3, atI_c4, List.append_nil, List.filterMap_cons, List.filterMap_nil, and_self]
    refine rank_lt ht hu (rank_lt hu ht (rank_lt ht hu ?_))
    refine rb [beforeT t u, beforeT u t, beforeT t u] _ (show (3 : Nat) ≤ 1000 by decide) ?_
    simp only [List.map_cons, List.map_nil, decide_true]
    exact q

theorem ok_l_fixed (E : Fns K mg) : FnD P w K mg base 1 E.f_l_fixed E.fd_l_fixed [] spFixed := by
  have nd := sc_l_fixed.nd
  refine okD E.F_l_fixed sc_l_fixed ?len fun cdv A outer s H X hr hgd => ⟨_, (dss_cons (ds_set 0 nd rfl (by first | exact Or.inl rfl | exact Or.inr rfl) (d_lst (da_cons d_non (da_cons d_int (da_cons d_int (da_cons (d_neg d_int) (da_cons (d_pow d_int d_int) (da_cons (d_neg (d_pow d_int d_int)) (da_cons (d_add (d_pow d_int d_int) d_int) (da_cons (d_sub (d_neg (d_pow d_int d_int)) d_int) (da_cons d_bl (da_cons d_bl (da_cons d_str (da_cons d_str (da_cons d_str (da_cons d_str da_nil))))))))))))))))
  (dss_cons (ds_set 0 nd rfl (by first | exact Or.inl rfl | exact Or.inr rfl) (d_add (d_var 0) (d_lst (da_cons d_str (da_cons d_str (da_cons d_str (da_cons d_str (da_cons d_str (da_cons d_str (da_cons d_str (da_cons d_str (da_cons d_str (da_cons d_str (da_cons d_str (da_cons d_str (da_cons d_str (da_cons d_str (da_cons d_str da_nil))))))))))))))))))
  (dss_one (ds_ret (d_add (d_var 0) (d_lst (da_cons (d_tup da_nil) (da_cons (d_tup (da_cons d_str da_nil)) (da_cons (d_tup (da_cons d_non da_nil)) (da_cons (d_lst da_nil) (da_cons (d_lst (da_cons d_str da_nil)) (da_cons d_newD (da_cons (d_disp (dps_cons d_str d_int dps_nil)) (da_cons (d_lst (da_cons d_int da_nil)) (da_cons (d_tup (da_cons d_int da_nil)) (da_cons (d_mul d_str d_int) (da_cons (d_pow d_int d_int) (da_cons (d_neg (d_pow d_int d_int)) da_nil)))))))))))))))))), ?_⟩
  case len =>
    rintro ts M Q ⟨rfl, _⟩
    rfl
  · rintro ts M Q ⟨rfl, q⟩
    have pow : CPow 10 12 := ⟨by decide, by decide, by decide⟩
    have pow2 : CPow 10 39 := ⟨by decide, by decide, by decide⟩
    have p12 : (10 : Int) ^ (12 : Int).toNat = 1000000000000 := by decide
    have p39 : (10 : Int) ^ (39 : Int).toNat = 1000000000000000000000000000000000000000 := by decide
    have lm := mul_len "a" 2000
    simp only [sSeq, sPar, sPut, sIf, sSet, sDrop, sRet, sRetN, sNext, dOp2, dOp1, dVar, dC, dB, dTup, dLst, dLstM, dNil, dCons, dSl, doNone, doSome, dCall, dLm, dLm0, dSm, dAnd, dOr, dNot, dAndV, dOrV, dIf, dChain, dFn, dFn0, dYes, dDisp, dDispM, dPairs, keysT, dNewD, dNewDM,
 oAdd, oSub, oMul, oFdiv, oMod, oPow, oInt2, oNeg, oIx, oSl, oRev, oRevM, oEqB, scalT, oLt, oLe, oGt, oGe, oOrd, oIsN, isNon, oNotB, oDGet, oDIn, oIn, oInS, mAppend, mPop, mJoin, isL, isS, fLen, fIsi, fAbs, fList, fListM, fTuple, fInt, fRepr, fBls, seqOf, tyT,
 look, keyT, Pat.set, start3, pick, List.getElem?_cons_zero, List.getElem?_cons_succ, List.set_cons_zero, List.set_cons_succ, List.map_cons, List.map_nil, List.length_cons, List.length_nil, List.nil_append, List.cons_append, List.replicate_succ, List.replicate_zero, Nat.reduceSub, Nat.reduceAdd, flatOf, kit_NoneType_str, kit_bool_str, kit_int_str, kit_str_str, kit_tuple_str, kit_list_str, kit_dict_str, kit_NoneType_int, kit_bool_int, kit_int_int, kit_str_int, kit_tuple_int, kit_list_int, kit_dict_int, kit_NoneType_bool, kit_bool_bool, kit_int_bool, kit_str_bool, kit_tuple_bool, kit_list_bool, kit_dict_bool, kit_NoneType_tuple, kit_bool_tuple, kit_int_tuple, kit_str_tuple, kit_tuple_tuple, kit_list_tuple, kit_dict_tuple, kit_NoneType_list, kit_bool_list, kit_int_list, kit_str_list, kit_tuple_list, kit_list_list, kit_dict_list, kit_NoneType_dict, kit_bool_dict, kit_int_dict, kit_str_dict, kit_tuple_dict, kit_list_dict, kit_dict_dict, Bool.false_eq_true, if_false, if_true, reduceIte, true_and, sz_0, sz_1, sz_2, sz_3, sz_4, sz_5, sz_6, sz_7, sz_8, sz_9, sz_10, sz_11, sz_12, sz_13, sz_14, sz_15, sz_16, sz_17, sz_18, sz_19, sz_20, sz_21, sz_22, sz_23, sz_24, sz_25, sz_26, sz_27, sz_28, sz_29, sz_30, sz_31, sz_32, sz_33, sz_34, sz_35, sz_36, sz_37, sz_38, sz_39, sz_40, sz_41, sz_42, sz_43, sz_44, sz_45, sz_46, sz_47, atI_c0, atI_c1, atI_c2, atI_c3, atI_c4, List.append_nil, List.filterMap_cons, List.filterMap_nil, and_self, pow, pow2, p12, p39]
    refine ⟨by decide, mul_ok (by decide +kernel) (by decide) (by decide) (by decide +kernel), q _ (by decide +kernel) fun x hx => ?_⟩
    simp only [List.mem_cons, List.not_mem_nil, or_false] at hx
    have la : (("a" : Str)).length = 1 ∧ Low "a" := ⟨by decide +kernel, low_of (by decide +kernel)⟩
    have fs : ∀ z : Str, (decide (z.length ≤ 3000) && z.cps.toList.all fun c => decide (c < 0x110000)) = true → Fine (.str z) (tz 0) 0 := fun z h => by
      rw [Bool.and_eq_true, decide_eq_true_eq] at h
      exact (thing_str 0 h.1 (low_of h.2)).2.2
    have fi : ∀ i : Int, i.natAbs < 10 ^ 60 → Fine (.int i) (tz 0) 0 := fun i h => (thing_int i 0 h).2.2
    have fn : Fine .non (tz 0) 0 := (thing_flat 0 (Or.inl rfl) (fun i e => nomatch e)).2.2
    have up : ∀ {t : T} {d : Nat}, tz d ≤ 1000000 → d ≤ 10 → Thing t (tz d) d → Thing t 1000000 10 := fun a b h => ⟨h.1, h.2.1, h.2.2.mono a b⟩
    have ts : ∀ z : Str, (decide (z.length ≤ 3000) && z.cps.toList.all fun c => decide (c < 0x110000)) = true → Thing (.str z) 1000000 10 := fun z h => by
      rw [Bool.and_eq_true, decide_eq_true_eq] at h
      exact up (d := 0) (by decide) (by decide) (thing_str 0 h.1 (low_of h.2))
    have ti : ∀ i : Int, i.natAbs < 10 ^ 60 → Thing (.int i) 1000000 10 := fun i h => up (d := 0) (by decide) (by decide) (thing_int i 0 h)
    have t1 : ∀ x : T, Fine x (tz 0) 0 → Thing (.tup [x]) 1000000 10 := fun x h => up (d := 1) (by decide) (by decide) (thing_tup (d := 0) (fun y hy => by rw [List.mem_singleton] at hy; exact hy ▸ h) (show (1 : Nat) ≤ 2 by decide))
    have t2 : ∀ x : T, Fine x (tz 0) 0 → Thing (.lst [x]) 1000000 10 := fun x h => up (d := 1) (by decide) (by decide) (thing_lst1 h)
    rcases hx with rfl | rfl | rfl | rfl | rfl | rfl | rfl | rfl | rfl | rfl | rfl | rfl | rfl | rfl | rfl | rfl | rfl | rfl | rfl | rfl | rfl | rfl | rfl | rfl | rfl | rfl | rfl | rfl | rfl | rfl | rfl | rfl | rfl | rfl | rfl | rfl | rfl | rfl | rfl | rfl | rfl
    all_goals first
      | exact ti _ (by decide)
      | exact ts _ (by decide +kernel)
      | exact up (d := 0) (by decide) (by decide) (thing_flat 0 (Or.inl rfl) (fun i e => nomatch e))
      | exact up (d := 0) (by decide) (by decide) (thing_bl _ 0)
      | exact t1 _ (fs _ (by decide +kernel))
      | exact t1 _ (fi _ (by decide))
      | exact t1 _ fn
      | exact t2 _ (fs _ (by decide +kernel))
      | exact t2 _ (fi _ (by decide))
      | exact up (d := 1) (by decide) (by decide) (thing_tup (d := 0) (fun x hx => nomatch hx) (show (0 : Nat) ≤ 2 by decide))
      | exact up (d := 1) (by decide) (by decide) (thing_lst0 0)
      | exact up (d := 1) (by decide) (by decide) (thing_dic0 0)
      | exact up (d := 1) (by decide) (by decide) (thing_dic1 la.2 (Nat.le_of_eq la.1) (fi 1 (by decide)))
      | exact up (d := 0) (by decide) (by decide) (thing_str 0 (Nat.le_trans lm (by rw [la.1]; decide)) (low_mul la.2 _))



theorem ok_law (E : Fns K mg) (hsy : SysAt base) (G_l_deck : FnD P w K mg base 1 E.f_l_deck E.fd_l_deck ["script"] spDeck) (G_l_fixed : FnD P w K mg base 1 E.f_l_fixed E.fd_l_fixed [] spFixed) (G_l_thing : FnD P w K mg base 8 E.f_l_thing E.fd_l_thing ["deck", "deep"] (spThingAt 4)) (G_l_value : FnD P w K mg base 4 E.f_l_value E.fd_l_value ["deck"] spValue) (G_l_is_value : FnD P w K mg base 2 E.f_l_is_value E.fd_l_is_value ["it"] spLValue) (G_l_thing_right : FnD P w K mg base 3 E.f_l_thing_right E.fd_l_thing_right ["it"] spThingR) (G_l_pair_right : FnD P w K mg base 3 E.f_l_pair_right E.fd_l_pair_right ["first", "second"] spPairR) : FnD P w K mg base 9 E.f_law E.fd_law ["script"] spLaw := by
  have nd := sc_law.nd
  refine okD E.F_law sc_law ?len fun cdv A outer s H X hr hgd => ⟨_, (dss_cons (ds_set 1 nd rfl (by first | exact Or.inl rfl | exact Or.inr rfl) (d_fn G_l_deck (hr.mono (by decide)) hgd (by rfl) E.g_l_deck E.F_l_deck.kp (kb_l_deck_1 E) (da_cons (d_var 0) da_nil) dk_nil))
  (dss_cons (ds_if (PW.pt (dw_or (dt_ne hr.units (d_repr hgd hr.units hsy (by rfl) E.m_repr (da_cons (d_gc (by rfl) E.c_RANGE) da_nil)) d_str) (dw_or1 (dt_ne hr.units (d_comp [("it", 2)] fin_L rfl nd (di_list (d_fn0 G_l_fixed (hr.mono (by decide)) hgd (by rfl) E.g_l_fixed E.F_l_fixed.kp E.b_l_fixed)) (by kernel_rfl)
  (fun _ _ _ _ _ => (dg_nm 2 nd rfl (by first | exact Or.inl rfl | exact Or.inr rfl))) (fun _ _ _ _ _ => (dts_one (dt_not (dt_val (d_fn G_l_thing_right (hr.mono (by decide)) hgd (by rfl) E.g_l_thing_right E.F_l_thing_right.kp (kb_l_thing_right_1 E) (da_cons (d_var 2) da_nil) dk_nil))))) (fun _ _ _ _ _ => (d_var 2))) (d_lst da_nil)))))
  (dss_one (ds_ret d_bl))
  dss_nil)
  (dss_cons (ds_for PassesOwn.never rfl (di_range1 (by rfl) E.m_range d_int) (dg_nm 3 nd rfl (by first | exact Or.inl rfl | exact Or.inr rfl))
  (dss_one (ds_if (dt_not (dt_val (d_fn G_l_thing_right (hr.mono (by decide)) hgd (by rfl) E.g_l_thing_right E.F_l_thing_right.kp (kb_l_thing_right_1 E) (da_cons (d_fn G_l_thing (hr.mono (by decide)) hgd (by rfl) E.g_l_thing E.F_l_thing.kp (kb_l_thing_2 E) (da_cons (d_var 1) (da_cons d_int da_nil)) dk_nil) da_nil) dk_nil)))
  (dss_one (ds_ret d_bl))
  dss_nil)))
  (dss_cons (ds_set 4 nd rfl (by first | exact Or.inl rfl | exact Or.inr rfl) (d_add (d_comp [("it", 2)] fin_L rfl nd (di_list (d_fn0 G_l_fixed (hr.mono (by decide)) hgd (by rfl) E.g_l_fixed E.F_l_fixed.kp E.b_l_fixed)) (by kernel_rfl)
  (fun _ _ _ _ _ => (dg_nm 2 nd rfl (by first | exact Or.inl rfl | exact Or.inr rfl))) (fun _ _ _ _ _ => (dts_one (dt_val (d_fn G_l_is_value (hr.mono (by decide)) hgd (by rfl) E.g_l_is_value E.F_l_is_value.kp (kb_l_is_value_1 E) (da_cons (d_var 2) da_nil) dk_nil)))) (fun _ _ _ _ _ => (d_var 2))) (d_comp [("k", 5)] fin_L rfl nd (di_range1 (by rfl) E.m_range d_int) (by kernel_rfl)
  (fun _ _ _ _ _ => (dg_nm 5 nd rfl (by first | exact Or.inl rfl | exact Or.inr rfl))) (fun _ _ _ _ _ => dts_nil) (fun _ _ _ _ _ => (d_fn G_l_value (hr.mono (by decide)) hgd (by rfl) E.g_l_value E.F_l_value.kp (kb_l_value_1 E) (da_cons (d_var 1) da_nil) dk_nil)))))
  (dss_cons (ds_for PassesOwn.never rfl (di_list (d_var 4)) (dg_nm 6 nd rfl (by first | exact Or.inl rfl | exact Or.inr rfl))
  (dss_one (ds_for PassesOwn.never rfl (di_list (d_var 4)) (dg_nm 7 nd rfl (by first | exact Or.inl rfl | exact Or.inr rfl))
  (dss_one (ds_if (dt_not (dt_val (d_fn G_l_pair_right (hr.mono (by decide)) hgd (by rfl) E.g_l_pair_right E.F_l_pair_right.kp (kb_l_pair_right_2 E) (da_cons (d_var 6) (da_cons (d_var 7) da_nil)) dk_nil)))
  (dss_one (ds_ret d_bl))
  dss_nil)))))
  (dss_one (ds_ret d_bl))))))), ?_⟩
  case len =>
    rintro ts M Q ⟨ns, rfl, _⟩
    rfl
  · rintro ts M Q ⟨ns, rfl, hl, hM, q⟩
    have sh1 : shT (.int 1000000000000) = "1000000000000" := by decide +kernel
    simp only [sSeq, sPar, sPut, sIf, sSet, sDrop, sRet, sRetN, sNext, dOp2, dOp1, dVar, dC, dB, dTup, dLst, dLstM, dNil, dCons, dSl, doNone, doSome, dCall, dLm, dLm0, dSm, dAnd, dOr, dNot, dAndV, dOrV, dIf, dChain, dFn, dFn0, dYes, dDisp, dDispM, dPairs, keysT, dNewD, dNewDM,
 oAdd, oSub, oMul, oFdiv, oMod, oPow, oInt2, oNeg, oIx, oSl, oRev, oRevM, scalT, oLt, oLe, oGt, oGe, oOrd, oIsN, isNon, oNotB, oDGet, oDIn, oIn, oInS, mAppend, mPop, mJoin, isL, isS, fLen, fIsi, fAbs, fList, fListM, fTuple, fInt, fBls, seqOf, tyT,
 look, keyT, Pat.set, start3, pick, List.getElem?_cons_zero, List.getElem?_cons_succ, List.set_cons_zero, List.set_cons_succ, List.map_cons, List.map_nil, List.length_cons, List.length_nil, List.nil_append, List.cons_append, List.replicate_succ, List.replicate_zero, Nat.reduceSub, Nat.reduceAdd, flatOf, kit_NoneType_str, kit_bool_str, kit_int_str, kit_str_str, kit_tuple_str, kit_list_str, kit_dict_str, kit_NoneType_int, kit_bool_int, kit_int_int, kit_str_int, kit_tuple_int, kit_list_int, kit_dict_int, kit_NoneType_bool, kit_bool_bool, kit_int_bool, kit_str_bool, kit_tuple_bool, kit_list_bool, kit_dict_bool, kit_NoneType_tuple, kit_bool_tuple, kit_int_tuple, kit_str_tuple, kit_tuple_tuple, kit_list_tuple, kit_dict_tuple, kit_NoneType_list, kit_bool_list, kit_int_list, kit_str_list, kit_tuple_list, kit_list_list, kit_dict_list, kit_NoneType_dict, kit_bool_dict, kit_int_dict, kit_str_dict, kit_tuple_dict, kit_list_dict, kit_dict_dict, Bool.false_eq_true, if_false, if_true, reduceIte, true_and, sz_0, sz_1, sz_2, sz_3, sz_4, sz_5, sz_6, sz_7, sz_8, sz_9, sz_10, sz_11, sz_12, sz_13, sz_14, sz_15, sz_16, sz_17, sz_18, sz_19, sz_20, sz_21, sz_22, sz_23, sz_24, sz_25, sz_26, sz_27, sz_28, sz_29, sz_30, sz_31, sz_32, sz_33, sz_34, sz_35, sz_36, sz_37, sz_38, sz_39, sz_40, sz_41, sz_42, sz_43, sz_44, sz_45, sz_46, sz_47, atI_c0, atI_c1, atI_c2, atI_c3, atI_c4, List.append_nil, List.filterMap_cons, List.filterMap_nil, and_self]
    refine ⟨ns, rfl, hl, fun dk c M1 _ _ D1 _ => ?_⟩
    simp only [sSeq, sPar, sPut, sIf, sSet, sDrop, sRet, sRetN, sNext, dOp2, dOp1, dVar, dC, dB, dTup, dLst, dLstM, dNil, dCons, dSl, doNone, doSome, dCall, dLm, dLm0, dSm, dAnd, dOr, dNot, dAndV, dOrV, dIf, dChain, dFn, dFn0, dYes, dDisp, dDispM, dPairs, keysT, dNewD, dNewDM,
 oAdd, oSub, oMul, oFdiv, oMod, oPow, oInt2, oNeg, oIx, oSl, oRev, oRevM, scalT, oLt, oLe, oGt, oGe, oOrd, oIsN, isNon, oNotB, oDGet, oDIn, oIn, oInS, mAppend, mPop, mJoin, isL, isS, fLen, fIsi, fAbs, fList, fListM, fTuple, fInt, fBls, seqOf, tyT,
 look, keyT, Pat.set, start3, pick, List.getElem?_cons_zero, List.getElem?_cons_succ, List.set_cons_zero, List.set_cons_succ, List.map_cons, List.map_nil, List.length_cons, List.length_nil, List.nil_append, List.cons_append, List.replicate_succ, List.replicate_zero, Nat.reduceSub, Nat.reduceAdd, flatOf, kit_NoneType_str, kit_bool_str, kit_int_str, kit_str_str, kit_tuple_str, kit_list_str, kit_dict_str, kit_NoneType_int, kit_bool_int, kit_int_int, kit_str_int, kit_tuple_int, kit_list_int, kit_dict_int, kit_NoneType_bool, kit_bool_bool, kit_int_bool, kit_str_bool, kit_tuple_bool, kit_list_bool, kit_dict_bool, kit_NoneType_tuple, kit_bool_tuple, kit_int_tuple, kit_str_tuple, kit_tuple_tuple, kit_list_tuple, kit_dict_tuple, kit_NoneType_list, kit_bool_list, kit_int_list, kit_str_list, kit_tuple_list, kit_list_list, kit_dict_list, kit_NoneType_dict, kit_bool_dict, kit_int_dict, kit_str_dict, kit_tuple_dict, kit_list_dict, kit_dict_dict, Bool.false_eq_true, if_false, if_true, reduceIte, true_and, sz_0, sz_1, sz_2, sz_3, sz_4, sz_5, sz_6, sz_7, sz_8, sz_9, sz_10, sz_11, sz_12, sz_13, sz_14, sz_15, sz_16, sz_17, sz_18, sz_19, sz_20, sz_21, sz_22, sz_23, sz_24, sz_25, sz_26, sz_27, sz_28, sz_29, sz_30, sz_31, sz_32, sz_33, sz_34, sz_35, sz_36, sz_37, sz_38, sz_39, sz_40, sz_41, sz_42, sz_43, sz_44, sz_45, sz_46, sz_47, atI_c0, atI_c1, atI_c2, atI_c3, atI_c4, List.append_nil, List.filterMap_cons, List.filterMap_nil, and_self]
    refine (fine_int (i := 1000000000000) (by decide)).rep (by decide) (by decide) rfl ?_
    refine eq_strB ?_
    simp only [sSeq, sPar, sPut, sIf, sSet, sDrop, sRet, sRetN, sNext, dOp2, dOp1, dVar, dC, dB, dTup, dLst, dLstM, dNil, dCons, dSl, doNone, doSome, dCall, dLm, dLm0, dSm, dAnd, dOr, dNot, dAndV, dOrV, dIf, dChain, dFn, dFn0, dYes, dDisp, dDispM, dPairs, keysT, dNewD, dNewDM,
 oAdd, oSub, oMul, oFdiv, oMod, oPow, oInt2, oNeg, oIx, oSl, oRev, oRevM, scalT, oLt, oLe, oGt, oGe, oOrd, oIsN, isNon, oNotB, oDGet, oDIn, oIn, oInS, mAppend, mPop, mJoin, isL, isS, fLen, fIsi, fAbs, fList, fListM, fTuple, fInt, fBls, seqOf, tyT,
 look, keyT, Pat.set, start3, pick, List.getElem?_cons_zero, List.getElem?_cons_succ, List.set_cons_zero, List.set_cons_succ, List.map_cons, List.map_nil, List.length_cons, List.length_nil, List.nil_append, List.cons_append, List.replicate_succ, List.replicate_zero, Nat.reduceSub, Nat.reduceAdd, flatOf, kit_NoneType_str, kit_bool_str, kit_int_str, kit_str_str, kit_tuple_str, kit_list_str, kit_dict_str, kit_NoneType_int, kit_bool_int, kit_int_int, kit_str_int, kit_tuple_int, kit_list_int, kit_dict_int, kit_NoneType_bool, kit_bool_bool, kit_int_bool, kit_str_bool, kit_tuple_bool, kit_list_bool, kit_dict_bool, kit_NoneType_tuple, kit_bool_tuple, kit_int_tuple, kit_str_tuple, kit_tuple_tuple, kit_list_tuple, kit_dict_tuple, kit_NoneType_list, kit_bool_list, kit_int_list, kit_str_list, kit_tuple_list, kit_list_list, kit_dict_list, kit_NoneType_dict, kit_bool_dict, kit_int_dict, kit_str_dict, kit_tuple_dict, kit_list_dict, kit_dict_dict, Bool.false_eq_true, if_false, if_true, reduceIte, true_and, sz_0, sz_1, sz_2, sz_3, sz_4, sz_5, sz_6, sz_7, sz_8, sz_9, sz_10, sz_11, sz_12, sz_13, sz_14, sz_15, sz_16, sz_17, sz_18, sz_19, sz_20, sz_21, sz_22, sz_23, sz_24, sz_25, sz_26, sz_27, sz_28, sz_29, sz_30, sz_31, sz_32, sz_33, sz_34, sz_35, sz_36, sz_37, sz_38, sz_39, sz_40, sz_41, sz_42, sz_43, sz_44, sz_45, sz_46, sz_47, atI_c0, atI_c1, atI_c2, atI_c3, atI_c4, List.append_nil, List.filterMap_cons, List.filterMap_nil, and_self, sh1, decide_true, Bool.not_true, dComp, iL]
    refine ⟨rfl, fun xs hx ht => ?_⟩
    simp only [sSeq, sPar, sPut, sIf, sSet, sDrop, sRet, sRetN, sNext, dOp2, dOp1, dVar, dC, dB, dTup, dLst, dLstM, dNil, dCons, dSl, doNone, doSome, dCall, dLm, dLm0, dSm, dAnd, dOr, dNot, dAndV, dOrV, dIf, dChain, dFn, dFn0, dYes, dDisp, dDispM, dPairs, keysT, dNewD, dNewDM,
 oAdd, oSub, oMul, oFdiv, oMod, oPow, oInt2, oNeg, oIx, oSl, oRev, oRevM, scalT, oLt, oLe, oGt, oGe, oOrd, oIsN, isNon, oNotB, oDGet, oDIn, oIn, oInS, mAppend, mPop, mJoin, isL, isS, fLen, fIsi, fAbs, fList, fListM, fTuple, fInt, fBls, seqOf, tyT,
 look, keyT, Pat.set, start3, pick, List.getElem?_cons_zero, List.getElem?_cons_succ, List.set_cons_zero, List.set_cons_succ, List.map_cons, List.map_nil, List.length_cons, List.length_nil, List.nil_append, List.cons_append, List.replicate_succ, List.replicate_zero, Nat.reduceSub, Nat.reduceAdd, flatOf, kit_NoneType_str, kit_bool_str, kit_int_str, kit_str_str, kit_tuple_str, kit_list_str, kit_dict_str, kit_NoneType_int, kit_bool_int, kit_int_int, kit_str_int, kit_tuple_int, kit_list_int, kit_dict_int, kit_NoneType_bool, kit_bool_bool, kit_int_bool, kit_str_bool, kit_tuple_bool, kit_list_bool, kit_dict_bool, kit_NoneType_tuple, kit_bool_tuple, kit_int_tuple, kit_str_tuple, kit_tuple_tuple, kit_list_tuple, kit_dict_tuple, kit_NoneType_list, kit_bool_list, kit_int_list, kit_str_list, kit_tuple_list, kit_list_list, kit_dict_list, kit_NoneType_dict, kit_bool_dict, kit_int_dict, kit_str_dict, kit_tuple_dict, kit_list_dict, kit_dict_dict, Bool.false_eq_true, if_false, if_true, reduceIte, true_and, sz_0, sz_1, sz_2, sz_3, sz_4, sz_5, sz_6, sz_7, sz_8, sz_9, sz_10, sz_11, sz_12, sz_13, sz_14, sz_15, sz_16, sz_17, sz_18, sz_19, sz_20, sz_21, sz_22, sz_23, sz_24, sz_25, sz_26, sz_27, sz_28, sz_29, sz_30, sz_31, sz_32, sz_33, sz_34, sz_35, sz_36, sz_37, sz_38, sz_39, sz_40, sz_41, sz_42, sz_43, sz_44, sz_45, sz_46, sz_47, atI_c0, atI_c1, atI_c2, atI_c3, atI_c4, List.append_nil, List.filterMap_cons, List.filterMap_nil, and_self]
    refine compL_map (f := fun t => t) (keep := fun _ => false) trivial (fun t h => ?_) (sz (by rw [List.length_nil]; omega)) ?_
    · refine ⟨_, rfl, fun R k => ?_, fun h => nomatch h⟩
      simp only [sSeq, sPar, sPut, sIf, sSet, sDrop, sRet, sRetN, sNext, dOp2, dOp1, dVar, dC, dB, dTup, dLst, dLstM, dNil, dCons, dSl, doNone, doSome, dCall, dLm, dLm0, dSm, dAnd, dOr, dNot, dAndV, dOrV, dIf, dChain, dFn, dFn0, dYes, dDisp, dDispM, dPairs, keysT, dNewD, dNewDM,
 oAdd, oSub, oMul, oFdiv, oMod, oPow, oInt2, oNeg, oIx, oSl, oRev, oRevM, scalT, oLt, oLe, oGt, oGe, oOrd, oIsN, isNon, oNotB, oDGet, oDIn, oIn, oInS, mAppend, mPop, mJoin, isL, isS, fLen, fIsi, fAbs, fList, fListM, fTuple, fInt, fBls, seqOf, tyT,
 look, keyT, Pat.set, start3, pick, List.getElem?_cons_zero, List.getElem?_cons_succ, List.set_cons_zero, List.set_cons_succ, List.map_cons, List.map_nil, List.length_cons, List.length_nil, List.nil_append, List.cons_append, List.replicate_succ, List.replicate_zero, Nat.reduceSub, Nat.reduceAdd, flatOf, kit_NoneType_str, kit_bool_str, kit_int_str, kit_str_str, kit_tuple_str, kit_list_str, kit_dict_str, kit_NoneType_int, kit_bool_int, kit_int_int, kit_str_int, kit_tuple_int, kit_list_int, kit_dict_int, kit_NoneType_bool, kit_bool_bool, kit_int_bool, kit_str_bool, kit_tuple_bool, kit_list_bool, kit_dict_bool, kit_NoneType_tuple, kit_bool_tuple, kit_int_tuple, kit_str_tuple, kit_tuple_tuple, kit_list_tuple, kit_dict_tuple, kit_NoneType_list, kit_bool_list, kit_int_list, kit_str_list, kit_tuple_list, kit_list_list, kit_dict_list, kit_NoneType_dict, kit_bool_dict, kit_int_dict, kit_str_dict, kit_tuple_dict, kit_list_dict, kit_dict_dict, Bool.false_eq_true, if_false, if_true, reduceIte, true_and, sz_0, sz_1, sz_2, sz_3, sz_4, sz_5, sz_6, sz_7, sz_8, sz_9, sz_10, sz_11, sz_12, sz_13, sz_14, sz_15, sz_16, sz_17, sz_18, sz_19, sz_20, sz_21, sz_22, sz_23, sz_24, sz_25, sz_26, sz_27, sz_28, sz_29, sz_30, sz_31, sz_32, sz_33, sz_34, sz_35, sz_36, sz_37, sz_38, sz_39, sz_40, sz_41, sz_42, sz_43, sz_44, sz_45, sz_46, sz_47, atI_c0, atI_c1, atI_c2, atI_c3, atI_c4, List.append_nil, List.filterMap_cons, List.filterMap_nil, and_self, wipe3]
      refine ⟨t, rfl, ht t h, ?_⟩
      simp only [Bool.not_true]
      exact k
    · have fz : (xs.filter fun _ => false) = [] := List.filter_eq_nil_iff.mpr fun a _ h => nomatch h
      rw [fz, List.map_nil, List.append_nil]
      simp only [finL]
      refine eq_nil_nil (neg := true) ?_
      simp only [Bool.not_true, sSeq, sPar, sPut, sIf, sSet, sDrop, sRet, sRetN, sNext, dOp2, dOp1, dVar, dC, dB, dTup, dLst, dLstM, dNil, dCons, dSl, doNone, doSome, dCall, dLm, dLm0, dSm, dAnd, dOr, dNot, dAndV, dOrV, dIf, dChain, dFn, dFn0, dYes, dDisp, dDispM, dPairs, keysT, dNewD, dNewDM,
 oAdd, oSub, oMul, oFdiv, oMod, oPow, oInt2, oNeg, oIx, oSl, oRev, oRevM, scalT, oLt, oLe, oGt, oGe, oOrd, oIsN, isNon, oNotB, oDGet, oDIn, oIn, oInS, mAppend, mPop, mJoin, isL, isS, fLen, fIsi, fAbs, fList, fListM, fTuple, fInt, fBls, seqOf, tyT,
 look, keyT, Pat.set, start3, pick, List.getElem?_cons_zero, List.getElem?_cons_succ, List.set_cons_zero, List.set_cons_succ, List.map_cons, List.map_nil, List.length_cons, List.length_nil, List.nil_append, List.cons_append, List.replicate_succ, List.replicate_zero, Nat.reduceSub, Nat.reduceAdd, flatOf, kit_NoneType_str, kit_bool_str, kit_int_str, kit_str_str, kit_tuple_str, kit_list_str, kit_dict_str, kit_NoneType_int, kit_bool_int, kit_int_int, kit_str_int, kit_tuple_int, kit_list_int, kit_dict_int, kit_NoneType_bool, kit_bool_bool, kit_int_bool, kit_str_bool, kit_tuple_bool, kit_list_bool, kit_dict_bool, kit_NoneType_tuple, kit_bool_tuple, kit_int_tuple, kit_str_tuple, kit_tuple_tuple, kit_list_tuple, kit_dict_tuple, kit_NoneType_list, kit_bool_list, kit_int_list, kit_str_list, kit_tuple_list, kit_list_list, kit_dict_list, kit_NoneType_dict, kit_bool_dict, kit_int_dict, kit_str_dict, kit_tuple_dict, kit_list_dict, kit_dict_dict, Bool.false_eq_true, if_false, if_true, reduceIte, true_and, sz_0, sz_1, sz_2, sz_3, sz_4, sz_5, sz_6, sz_7, sz_8, sz_9, sz_10, sz_11, sz_12, sz_13, sz_14, sz_15, sz_16, sz_17, sz_18, sz_19, sz_20, sz_21, sz_22, sz_23, sz_24, sz_25, sz_26, sz_27, sz_28, sz_29, sz_30, sz_31, sz_32, sz_33, sz_34, sz_35, sz_36, sz_37, sz_38, sz_39, sz_40, sz_41, sz_42, sz_43, sz_44, sz_45, sz_46, sz_47, atI_c0, atI_c1, atI_c2, atI_c3, atI_c4, List.append_nil, List.filterMap_cons, List.filterMap_nil, and_self, sFor, iR1]
      refine ⟨by decide, ?_⟩
      refine forL_inv (fun i ss M => DeckAt dk c M (0 + i * ct 3) ∧ ∃ y, ss = [some (.scr (ns.map T.int)), some (.raw (.ref dk)), none, y, none, none, none, none]) (fun _ _ _ _ => trivial) 0 ⟨by simpa using D1, none, rfl⟩ ?_ ?_
      · rintro j t ss M2 hj ⟨D2, y, rfl⟩
        have hj' : j < 40 := by
          have := (List.getElem?_eq_some_iff.mp hj).1
          rw [ups_len] at this
          exact this
        have hc : ct 3 = 149 := rfl
        rw [hc] at D2
        refine ⟨_, rfl, fun N k => ?_⟩
        simp only [sSeq, sPar, sPut, sIf, sSet, sDrop, sRet, sRetN, sNext, dOp2, dOp1, dVar, dC, dB, dTup, dLst, dLstM, dNil, dCons, dSl, doNone, doSome, dCall, dLm, dLm0, dSm, dAnd, dOr, dNot, dAndV, dOrV, dIf, dChain, dFn, dFn0, dYes, dDisp, dDispM, dPairs, keysT, dNewD, dNewDM,
 oAdd, oSub, oMul, oFdiv, oMod, oPow, oInt2, oNeg, oIx, oSl, oRev, oRevM, scalT, oLt, oLe, oGt, oGe, oOrd, oIsN, isNon, oNotB, oDGet, oDIn, oIn, oInS, mAppend, mPop, mJoin, isL, isS, fLen, fIsi, fAbs, fList, fListM, fTuple, fInt, fBls, seqOf, tyT,
 look, keyT, Pat.set, start3, pick, List.getElem?_cons_zero, List.getElem?_cons_succ, List.set_cons_zero, List.set_cons_succ, List.map_cons, List.map_nil, List.length_cons, List.length_nil, List.nil_append, List.cons_append, List.replicate_succ, List.replicate_zero, Nat.reduceSub, Nat.reduceAdd, flatOf, kit_NoneType_str, kit_bool_str, kit_int_str, kit_str_str, kit_tuple_str, kit_list_str, kit_dict_str, kit_NoneType_int, kit_bool_int, kit_int_int, kit_str_int, kit_tuple_int, kit_list_int, kit_dict_int, kit_NoneType_bool, kit_bool_bool, kit_int_bool, kit_str_bool, kit_tuple_bool, kit_list_bool, kit_dict_bool, kit_NoneType_tuple, kit_bool_tuple, kit_int_tuple, kit_str_tuple, kit_tuple_tuple, kit_list_tuple, kit_dict_tuple, kit_NoneType_list, kit_bool_list, kit_int_list, kit_str_list, kit_tuple_list, kit_list_list, kit_dict_list, kit_NoneType_dict, kit_bool_dict, kit_int_dict, kit_str_dict, kit_tuple_dict, kit_list_dict, kit_dict_dict, Bool.false_eq_true, if_false, if_true, reduceIte, true_and, sz_0, sz_1, sz_2, sz_3, sz_4, sz_5, sz_6, sz_7, sz_8, sz_9, sz_10, sz_11, sz_12, sz_13, sz_14, sz_15, sz_16, sz_17, sz_18, sz_19, sz_20, sz_21, sz_22, sz_23, sz_24, sz_25, sz_26, sz_27, sz_28, sz_29, sz_30, sz_31, sz_32, sz_33, sz_34, sz_35, sz_36, sz_37, sz_38, sz_39, sz_40, sz_41, sz_42, sz_43, sz_44, sz_45, sz_46, sz_47, atI_c0, atI_c1, atI_c2, atI_c3, atI_c4, List.append_nil, List.filterMap_cons, List.filterMap_nil, and_self]
        refine thing_of (d := 3) D2 (by decide) (by rw [hc]; omega) fun M3 t3 D3 h3 => ?_
        refine ⟨t3, rfl, ⟨h3.1, h3.2.1, h3.2.2.mono (by decide) (by decide)⟩, ?_⟩
        simp only [Bool.not_true]
        refine k _ _ ⟨D3.le (by rw [hc]; omega), _, rfl⟩
      · rintro ss M2 ⟨D2, y, rfl⟩
        rw [ups_len] at D2
        have D3 := D2.le (m := 10000) (by have hc : ct 3 = 149 := rfl; rw [hc]; omega)
        clear D2
        simp only [sSeq, sPar, sPut, sIf, sSet, sDrop, sRet, sRetN, sNext, dOp2, dOp1, dVar, dC, dB, dTup, dLst, dLstM, dNil, dCons, dSl, doNone, doSome, dCall, dLm, dLm0, dSm, dAnd, dOr, dNot, dAndV, dOrV, dIf, dChain, dFn, dFn0, dYes, dDisp, dDispM, dPairs, keysT, dNewD, dNewDM,
 oAdd, oSub, oMul, oFdiv, oMod, oPow, oInt2, oNeg, oIx, oSl, oRev, oRevM, scalT, oLt, oLe, oGt, oGe, oOrd, oIsN, isNon, oNotB, oDGet, oDIn, oIn, oInS, mAppend, mPop, mJoin, isL, isS, fLen, fIsi, fAbs, fList, fListM, fTuple, fInt, fBls, seqOf, tyT,
 look, keyT, Pat.set, start3, pick, List.getElem?_cons_zero, List.getElem?_cons_succ, List.set_cons_zero, List.set_cons_succ, List.map_cons, List.map_nil, List.length_cons, List.length_nil, List.nil_append, List.cons_append, List.replicate_succ, List.replicate_zero, Nat.reduceSub, Nat.reduceAdd, flatOf, kit_NoneType_str, kit_bool_str, kit_int_str, kit_str_str, kit_tuple_str, kit_list_str, kit_dict_str, kit_NoneType_int, kit_bool_int, kit_int_int, kit_str_int, kit_tuple_int, kit_list_int, kit_dict_int, kit_NoneType_bool, kit_bool_bool, kit_int_bool, kit_str_bool, kit_tuple_bool, kit_list_bool, kit_dict_bool, kit_NoneType_tuple, kit_bool_tuple, kit_int_tuple, kit_str_tuple, kit_tuple_tuple, kit_list_tuple, kit_dict_tuple, kit_NoneType_list, kit_bool_list, kit_int_list, kit_str_list, kit_tuple_list, kit_list_list, kit_dict_list, kit_NoneType_dict, kit_bool_dict, kit_int_dict, kit_str_dict, kit_tuple_dict, kit_list_dict, kit_dict_dict, Bool.false_eq_true, if_false, if_true, reduceIte, true_and, sz_0, sz_1, sz_2, sz_3, sz_4, sz_5, sz_6, sz_7, sz_8, sz_9, sz_10, sz_11, sz_12, sz_13, sz_14, sz_15, sz_16, sz_17, sz_18, sz_19, sz_20, sz_21, sz_22, sz_23, sz_24, sz_25, sz_26, sz_27, sz_28, sz_29, sz_30, sz_31, sz_32, sz_33, sz_34, sz_35, sz_36, sz_37, sz_38, sz_39, sz_40, sz_41, sz_42, sz_43, sz_44, sz_45, sz_46, sz_47, atI_c0, atI_c1, atI_c2, atI_c3, atI_c4, List.append_nil, List.filterMap_cons, List.filterMap_nil, and_self, dComp, iL]
        refine ⟨rfl, fun xs2 hx2 ht2 => ?_⟩
        simp only [sSeq, sPar, sPut, sIf, sSet, sDrop, sRet, sRetN, sNext, dOp2, dOp1, dVar, dC, dB, dTup, dLst, dLstM, dNil, dCons, dSl, doNone, doSome, dCall, dLm, dLm0, dSm, dAnd, dOr, dNot, dAndV, dOrV, dIf, dChain, dFn, dFn0, dYes, dDisp, dDispM, dPairs, keysT, dNewD, dNewDM,
 oAdd, oSub, oMul, oFdiv, oMod, oPow, oInt2, oNeg, oIx, oSl, oRev, oRevM, scalT, oLt, oLe, oGt, oGe, oOrd, oIsN, isNon, oNotB, oDGet, oDIn, oIn, oInS, mAppend, mPop, mJoin, isL, isS, fLen, fIsi, fAbs, fList, fListM, fTuple, fInt, fBls, seqOf, tyT,
 look, keyT, Pat.set, start3, pick, List.getElem?_cons_zero, List.getElem?_cons_succ, List.set_cons_zero, List.set_cons_succ, List.map_cons, List.map_nil, List.length_cons, List.length_nil, List.nil_append, List.cons_append, List.replicate_succ, List.replicate_zero, Nat.reduceSub, Nat.reduceAdd, flatOf, kit_NoneType_str, kit_bool_str, kit_int_str, kit_str_str, kit_tuple_str, kit_list_str, kit_dict_str, kit_NoneType_int, kit_bool_int, kit_int_int, kit_str_int, kit_tuple_int, kit_list_int, kit_dict_int, kit_NoneType_bool, kit_bool_bool, kit_int_bool, kit_str_bool, kit_tuple_bool, kit_list_bool, kit_dict_bool, kit_NoneType_tuple, kit_bool_tuple, kit_int_tuple, kit_str_tuple, kit_tuple_tuple, kit_list_tuple, kit_dict_tuple, kit_NoneType_list, kit_bool_list, kit_int_list, kit_str_list, kit_tuple_list, kit_list_list, kit_dict_list, kit_NoneType_dict, kit_bool_dict, kit_int_dict, kit_str_dict, kit_tuple_dict, kit_list_dict, kit_dict_dict, Bool.false_eq_true, if_false, if_true, reduceIte, true_and, sz_0, sz_1, sz_2, sz_3, sz_4, sz_5, sz_6, sz_7, sz_8, sz_9, sz_10, sz_11, sz_12, sz_13, sz_14, sz_15, sz_16, sz_17, sz_18, sz_19, sz_20, sz_21, sz_22, sz_23, sz_24, sz_25, sz_26, sz_27, sz_28, sz_29, sz_30, sz_31, sz_32, sz_33, sz_34, sz_35, sz_36, sz_37, sz_38, sz_39, sz_40, sz_41, sz_42, sz_43, sz_44, sz_45, sz_46, sz_47, atI_c0, atI_c1, atI_c2, atI_c3, atI_c4, List.append_nil, List.filterMap_cons, List.filterMap_nil, and_self]
        refine compL_map (f := fun t => t) (keep := valueT) trivial (fun t h => ?_) (sz (by rw [List.length_nil]; omega)) ?_
        · refine ⟨_, rfl, fun R k => ?_, fun _ R k => k⟩
          simp only [sSeq, sPar, sPut, sIf, sSet, sDrop, sRet, sRetN, sNext, dOp2, dOp1, dVar, dC, dB, dTup, dLst, dLstM, dNil, dCons, dSl, doNone, doSome, dCall, dLm, dLm0, dSm, dAnd, dOr, dNot, dAndV, dOrV, dIf, dChain, dFn, dFn0, dYes, dDisp, dDispM, dPairs, keysT, dNewD, dNewDM,
 oAdd, oSub, oMul, oFdiv, oMod, oPow, oInt2, oNeg, oIx, oSl, oRev, oRevM, scalT, oLt, oLe, oGt, oGe, oOrd, oIsN, isNon, oNotB, oDGet, oDIn, oIn, oInS, mAppend, mPop, mJoin, isL, isS, fLen, fIsi, fAbs, fList, fListM, fTuple, fInt, fBls, seqOf, tyT,
 look, keyT, Pat.set, start3, pick, List.getElem?_cons_zero, List.getElem?_cons_succ, List.set_cons_zero, List.set_cons_succ, List.map_cons, List.map_nil, List.length_cons, List.length_nil, List.nil_append, List.cons_append, List.replicate_succ, List.replicate_zero, Nat.reduceSub, Nat.reduceAdd, flatOf, kit_NoneType_str, kit_bool_str, kit_int_str, kit_str_str, kit_tuple_str, kit_list_str, kit_dict_str, kit_NoneType_int, kit_bool_int, kit_int_int, kit_str_int, kit_tuple_int, kit_list_int, kit_dict_int, kit_NoneType_bool, kit_bool_bool, kit_int_bool, kit_str_bool, kit_tuple_bool, kit_list_bool, kit_dict_bool, kit_NoneType_tuple, kit_bool_tuple, kit_int_tuple, kit_str_tuple, kit_tuple_tuple, kit_list_tuple, kit_dict_tuple, kit_NoneType_list, kit_bool_list, kit_int_list, kit_str_list, kit_tuple_list, kit_list_list, kit_dict_list, kit_NoneType_dict, kit_bool_dict, kit_int_dict, kit_str_dict, kit_tuple_dict, kit_list_dict, kit_dict_dict, Bool.false_eq_true, if_false, if_true, reduceIte, true_and, sz_0, sz_1, sz_2, sz_3, sz_4, sz_5, sz_6, sz_7, sz_8, sz_9, sz_10, sz_11, sz_12, sz_13, sz_14, sz_15, sz_16, sz_17, sz_18, sz_19, sz_20, sz_21, sz_22, sz_23, sz_24, sz_25, sz_26, sz_27, sz_28, sz_29, sz_30, sz_31, sz_32, sz_33, sz_34, sz_35, sz_36, sz_37, sz_38, sz_39, sz_40, sz_41, sz_42, sz_43, sz_44, sz_45, sz_46, sz_47, atI_c0, atI_c1, atI_c2, atI_c3, atI_c4, List.append_nil, List.filterMap_cons, List.filterMap_nil, and_self, wipe3]
          exact ⟨t, rfl, (ht2 t h).th, k⟩
        · simp only [finL, sSeq, sPar, sPut, sIf, sSet, sDrop, sRet, sRetN, sNext, dOp2, dOp1, dVar, dC, dB, dTup, dLst, dLstM, dNil, dCons, dSl, doNone, doSome, dCall, dLm, dLm0, dSm, dAnd, dOr, dNot, dAndV, dOrV, dIf, dChain, dFn, dFn0, dYes, dDisp, dDispM, dPairs, keysT, dNewD, dNewDM,
 oAdd, oSub, oMul, oFdiv, oMod, oPow, oInt2, oNeg, oIx, oSl, oRev, oRevM, scalT, oLt, oLe, oGt, oGe, oOrd, oIsN, isNon, oNotB, oDGet, oDIn, oIn, oInS, mAppend, mPop, mJoin, isL, isS, fLen, fIsi, fAbs, fList, fListM, fTuple, fInt, fBls, seqOf, tyT,
 look, keyT, Pat.set, start3, pick, List.getElem?_cons_zero, List.getElem?_cons_succ, List.set_cons_zero, List.set_cons_succ, List.map_cons, List.map_nil, List.length_cons, List.length_nil, List.nil_append, List.cons_append, List.replicate_succ, List.replicate_zero, Nat.reduceSub, Nat.reduceAdd, flatOf, kit_NoneType_str, kit_bool_str, kit_int_str, kit_str_str, kit_tuple_str, kit_list_str, kit_dict_str, kit_NoneType_int, kit_bool_int, kit_int_int, kit_str_int, kit_tuple_int, kit_list_int, kit_dict_int, kit_NoneType_bool, kit_bool_bool, kit_int_bool, kit_str_bool, kit_tuple_bool, kit_list_bool, kit_dict_bool, kit_NoneType_tuple, kit_bool_tuple, kit_int_tuple, kit_str_tuple, kit_tuple_tuple, kit_list_tuple, kit_dict_tuple, kit_NoneType_list, kit_bool_list, kit_int_list, kit_str_list, kit_tuple_list, kit_list_list, kit_dict_list, kit_NoneType_dict, kit_bool_dict, kit_int_dict, kit_str_dict, kit_tuple_dict, kit_list_dict, kit_dict_dict, Bool.false_eq_true, if_false, if_true, reduceIte, true_and, sz_0, sz_1, sz_2, sz_3, sz_4, sz_5, sz_6, sz_7, sz_8, sz_9, sz_10, sz_11, sz_12, sz_13, sz_14, sz_15, sz_16, sz_17, sz_18, sz_19, sz_20, sz_21, sz_22, sz_23, sz_24, sz_25, sz_26, sz_27, sz_28, sz_29, sz_30, sz_31, sz_32, sz_33, sz_34, sz_35, sz_36, sz_37, sz_38, sz_39, sz_40, sz_41, sz_42, sz_43, sz_44, sz_45, sz_46, sz_47, atI_c0, atI_c1, atI_c2, atI_c3, atI_c4, List.append_nil, List.filterMap_cons, List.filterMap_nil, and_self, dComp, iR1]
          refine ⟨by decide, ?_⟩
          refine compL_inv (fun i M => DeckAt dk c M (10000 + i * 12)) Flat3 (fun _ _ _ => trivial) 0 (by simpa using D3) ?_ ?_ ?_
          · intro j t M4 hj h4
            have hj' : j < 20 := by
              have := (List.getElem?_eq_some_iff.mp hj).1
              rw [ups_len] at this
              exact this
            refine ⟨_, rfl, fun R k => ?_⟩
            simp only [sSeq, sPar, sPut, sIf, sSet, sDrop, sRet, sRetN, sNext, dOp2, dOp1, dVar, dC, dB, dTup, dLst, dLstM, dNil, dCons, dSl, doNone, doSome, dCall, dLm, dLm0, dSm, dAnd, dOr, dNot, dAndV, dOrV, dIf, dChain, dFn, dFn0, dYes, dDisp, dDispM, dPairs, keysT, dNewD, dNewDM,
 oAdd, oSub, oMul, oFdiv, oMod, oPow, oInt2, oNeg, oIx, oSl, oRev, oRevM, scalT, oLt, oLe, oGt, oGe, oOrd, oIsN, isNon, oNotB, oDGet, oDIn, oIn, oInS, mAppend, mPop, mJoin, isL, isS, fLen, fIsi, fAbs, fList, fListM, fTuple, fInt, fBls, seqOf, tyT,
 look, keyT, Pat.set, start3, pick, List.getElem?_cons_zero, List.getElem?_cons_succ, List.set_cons_zero, List.set_cons_succ, List.map_cons, List.map_nil, List.length_cons, List.length_nil, List.nil_append, List.cons_append, List.replicate_succ, List.replicate_zero, Nat.reduceSub, Nat.reduceAdd, flatOf, kit_NoneType_str, kit_bool_str, kit_int_str, kit_str_str, kit_tuple_str, kit_list_str, kit_dict_str, kit_NoneType_int, kit_bool_int, kit_int_int, kit_str_int, kit_tuple_int, kit_list_int, kit_dict_int, kit_NoneType_bool, kit_bool_bool, kit_int_bool, kit_str_bool, kit_tuple_bool, kit_list_bool, kit_dict_bool, kit_NoneType_tuple, kit_bool_tuple, kit_int_tuple, kit_str_tuple, kit_tuple_tuple, kit_list_tuple, kit_dict_tuple, kit_NoneType_list, kit_bool_list, kit_int_list, kit_str_list, kit_tuple_list, kit_list_list, kit_dict_list, kit_NoneType_dict, kit_bool_dict, kit_int_dict, kit_str_dict, kit_tuple_dict, kit_list_dict, kit_dict_dict, Bool.false_eq_true, if_false, if_true, reduceIte, true_and, sz_0, sz_1, sz_2, sz_3, sz_4, sz_5, sz_6, sz_7, sz_8, sz_9, sz_10, sz_11, sz_12, sz_13, sz_14, sz_15, sz_16, sz_17, sz_18, sz_19, sz_20, sz_21, sz_22, sz_23, sz_24, sz_25, sz_26, sz_27, sz_28, sz_29, sz_30, sz_31, sz_32, sz_33, sz_34, sz_35, sz_36, sz_37, sz_38, sz_39, sz_40, sz_41, sz_42, sz_43, sz_44, sz_45, sz_46, sz_47, atI_c0, atI_c1, atI_c2, atI_c3, atI_c4, List.append_nil, List.filterMap_cons, List.filterMap_nil, and_self, wipe3]
            refine ⟨dk, c, _, rfl, h4, by omega, fun M5 t5 D5 f5 _ => ?_⟩
            exact k _ _ f5 (D5.le (by omega))
          · rw [ups_len]
            exact sz (by decide)
          · intro ys M5 hy1 hy2 _
            rw [ups_len] at hy1
            have hf : ∀ t ∈ (xs2.filter valueT) ++ ys, Flat3 t := fun t ht => by
              rcases List.mem_append.mp ht with h | h
              · obtain ⟨h1, h2⟩ := List.mem_filter.mp h
                exact (ht2 t h1).th.flat h2
              · exact hy2 t h
            have hn : (xs2.filter valueT).length ≤ 100 := Nat.le_trans (List.length_filter_le _ _) hx2
            simp only [finL, sSeq, sPar, sPut, sIf, sSet, sDrop, sRet, sRetN, sNext, dOp2, dOp1, dVar, dC, dB, dTup, dLst, dLstM, dNil, dCons, dSl, doNone, doSome, dCall, dLm, dLm0, dSm, dAnd, dOr, dNot, dAndV, dOrV, dIf, dChain, dFn, dFn0, dYes, dDisp, dDispM, dPairs, keysT, dNewD, dNewDM,
 oAdd, oSub, oMul, oFdiv, oMod, oPow, oInt2, oNeg, oIx, oSl, oRev, oRevM, scalT, oLt, oLe, oGt, oGe, oOrd, oIsN, isNon, oNotB, oDGet, oDIn, oIn, oInS, mAppend, mPop, mJoin, isL, isS, fLen, fIsi, fAbs, fList, fListM, fTuple, fInt, fBls, seqOf, tyT,
 look, keyT, Pat.set, start3, pick, List.getElem?_cons_zero, List.getElem?_cons_succ, List.set_cons_zero, List.set_cons_succ, List.map_cons, List.map_nil, List.length_cons, List.length_nil, List.nil_append, List.cons_append, List.replicate_succ, List.replicate_zero, Nat.reduceSub, Nat.reduceAdd, flatOf, kit_NoneType_str, kit_bool_str, kit_int_str, kit_str_str, kit_tuple_str, kit_list_str, kit_dict_str, kit_NoneType_int, kit_bool_int, kit_int_int, kit_str_int, kit_tuple_int, kit_list_int, kit_dict_int, kit_NoneType_bool, kit_bool_bool, kit_int_bool, kit_str_bool, kit_tuple_bool, kit_list_bool, kit_dict_bool, kit_NoneType_tuple, kit_bool_tuple, kit_int_tuple, kit_str_tuple, kit_tuple_tuple, kit_list_tuple, kit_dict_tuple, kit_NoneType_list, kit_bool_list, kit_int_list, kit_str_list, kit_tuple_list, kit_list_list, kit_dict_list, kit_NoneType_dict, kit_bool_dict, kit_int_dict, kit_str_dict, kit_tuple_dict, kit_list_dict, kit_dict_dict, Bool.false_eq_true, if_false, if_true, reduceIte, true_and, sz_0, sz_1, sz_2, sz_3, sz_4, sz_5, sz_6, sz_7, sz_8, sz_9, sz_10, sz_11, sz_12, sz_13, sz_14, sz_15, sz_16, sz_17, sz_18, sz_19, sz_20, sz_21, sz_22, sz_23, sz_24, sz_25, sz_26, sz_27, sz_28, sz_29, sz_30, sz_31, sz_32, sz_33, sz_34, sz_35, sz_36, sz_37, sz_38, sz_39, sz_40, sz_41, sz_42, sz_43, sz_44, sz_45, sz_46, sz_47, atI_c0, atI_c1, atI_c2, atI_c3, atI_c4, List.append_nil, List.filterMap_cons, List.filterMap_nil, and_self, List.map_id', sFor, iL]
            refine ⟨sz (by have : Int.toNat 20 = 20 := rfl; omega), ?_⟩
            generalize hS : (xs2.filter valueT) ++ ys = S
            rw [hS] at hf
            refine forL_inv (fun _ ss _ => ∃ a b c d e f g : Option T, ss = [a, b, c, d, some (.lst S), e, f, g]) (fun _ _ _ _ => trivial) 0 ⟨_, _, _, _, _, _, _, rfl⟩ ?_ ?_
            · rintro j t ss M6 hj ⟨a, b, c, d, e, f, g, rfl⟩
              have ht := hf t (List.mem_of_getElem? hj)
              refine ⟨_, rfl, fun N k => ?_⟩
              simp only [sSeq, sPar, sPut, sIf, sSet, sDrop, sRet, sRetN, sNext, dOp2, dOp1, dVar, dC, dB, dTup, dLst, dLstM, dNil, dCons, dSl, doNone, doSome, dCall, dLm, dLm0, dSm, dAnd, dOr, dNot, dAndV, dOrV, dIf, dChain, dFn, dFn0, dYes, dDisp, dDispM, dPairs, keysT, dNewD, dNewDM,
 oAdd, oSub, oMul, oFdiv, oMod, oPow, oInt2, oNeg, oIx, oSl, oRev, oRevM, scalT, oLt, oLe, oGt, oGe, oOrd, oIsN, isNon, oNotB, oDGet, oDIn, oIn, oInS, mAppend, mPop, mJoin, isL, isS, fLen, fIsi, fAbs, fList, fListM, fTuple, fInt, fBls, seqOf, tyT,
 look, keyT, Pat.set, start3, pick, List.getElem?_cons_zero, List.getElem?_cons_succ, List.set_cons_zero, List.set_cons_succ, List.map_cons, List.map_nil, List.length_cons, List.length_nil, List.nil_append, List.cons_append, List.replicate_succ, List.replicate_zero, Nat.reduceSub, Nat.reduceAdd, flatOf, kit_NoneType_str, kit_bool_str, kit_int_str, kit_str_str, kit_tuple_str, kit_list_str, kit_dict_str, kit_NoneType_int, kit_bool_int, kit_int_int, kit_str_int, kit_tuple_int, kit_list_int, kit_dict_int, kit_NoneType_bool, kit_bool_bool, kit_int_bool, kit_str_bool, kit_tuple_bool, kit_list_bool, kit_dict_bool, kit_NoneType_tuple, kit_bool_tuple, kit_int_tuple, kit_str_tuple, kit_tuple_tuple, kit_list_tuple, kit_dict_tuple, kit_NoneType_list, kit_bool_list, kit_int_list, kit_str_list, kit_tuple_list, kit_list_list, kit_dict_list, kit_NoneType_dict, kit_bool_dict, kit_int_dict, kit_str_dict, kit_tuple_dict, kit_list_dict, kit_dict_dict, Bool.false_eq_true, if_false, if_true, reduceIte, true_and, sz_0, sz_1, sz_2, sz_3, sz_4, sz_5, sz_6, sz_7, sz_8, sz_9, sz_10, sz_11, sz_12, sz_13, sz_14, sz_15, sz_16, sz_17, sz_18, sz_19, sz_20, sz_21, sz_22, sz_23, sz_24, sz_25, sz_26, sz_27, sz_28, sz_29, sz_30, sz_31, sz_32, sz_33, sz_34, sz_35, sz_36, sz_37, sz_38, sz_39, sz_40, sz_41, sz_42, sz_43, sz_44, sz_45, sz_46, sz_47, atI_c0, atI_c1, atI_c2, atI_c3, atI_c4, List.append_nil, List.filterMap_cons, List.filterMap_nil, and_self, sFor, iL]
              refine forL_inv (fun _ ss _ => ∃ a b c d e g : Option T, ss = [a, b, c, d, some (.lst S), e, some t, g]) (fun _ _ _ _ => trivial) 0 ⟨_, _, _, _, _, _, rfl⟩ ?_ ?_
              · rintro j2 t2 ss M7 hj2 ⟨a, b, c, d, e, g, rfl⟩
                have ht2 := hf t2 (List.mem_of_getElem? hj2)
                refine ⟨_, rfl, fun N2 k2 => ?_⟩
                simp only [sSeq, sPar, sPut, sIf, sSet, sDrop, sRet, sRetN, sNext, dOp2, dOp1, dVar, dC, dB, dTup, dLst, dLstM, dNil, dCons, dSl, doNone, doSome, dCall, dLm, dLm0, dSm, dAnd, dOr, dNot, dAndV, dOrV, dIf, dChain, dFn, dFn0, dYes, dDisp, dDispM, dPairs, keysT, dNewD, dNewDM,
 oAdd, oSub, oMul, oFdiv, oMod, oPow, oInt2, oNeg, oIx, oSl, oRev, oRevM, scalT, oLt, oLe, oGt, oGe, oOrd, oIsN, isNon, oNotB, oDGet, oDIn, oIn, oInS, mAppend, mPop, mJoin, isL, isS, fLen, fIsi, fAbs, fList, fListM, fTuple, fInt, fBls, seqOf, tyT,
 look, keyT, Pat.set, start3, pick, List.getElem?_cons_zero, List.getElem?_cons_succ, List.set_cons_zero, List.set_cons_succ, List.map_cons, List.map_nil, List.length_cons, List.length_nil, List.nil_append, List.cons_append, List.replicate_succ, List.replicate_zero, Nat.reduceSub, Nat.reduceAdd, flatOf, kit_NoneType_str, kit_bool_str, kit_int_str, kit_str_str, kit_tuple_str, kit_list_str, kit_dict_str, kit_NoneType_int, kit_bool_int, kit_int_int, kit_str_int, kit_tuple_int, kit_list_int, kit_dict_int, kit_NoneType_bool, kit_bool_bool, kit_int_bool, kit_str_bool, kit_tuple_bool, kit_list_bool, kit_dict_bool, kit_NoneType_tuple, kit_bool_tuple, kit_int_tuple, kit_str_tuple, kit_tuple_tuple, kit_list_tuple, kit_dict_tuple, kit_NoneType_list, kit_bool_list, kit_int_list, kit_str_list, kit_tuple_list, kit_list_list, kit_dict_list, kit_NoneType_dict, kit_bool_dict, kit_int_dict, kit_str_dict, kit_tuple_dict, kit_list_dict, kit_dict_dict, Bool.false_eq_true, if_false, if_true, reduceIte, true_and, sz_0, sz_1, sz_2, sz_3, sz_4, sz_5, sz_6, sz_7, sz_8, sz_9, sz_10, sz_11, sz_12, sz_13, sz_14, sz_15, sz_16, sz_17, sz_18, sz_19, sz_20, sz_21, sz_22, sz_23, sz_24, sz_25, sz_26, sz_27, sz_28, sz_29, sz_30, sz_31, sz_32, sz_33, sz_34, sz_35, sz_36, sz_37, sz_38, sz_39, sz_40, sz_41, sz_42, sz_43, sz_44, sz_45, sz_46, sz_47, atI_c0, atI_c1, atI_c2, atI_c3, atI_c4, List.append_nil, List.filterMap_cons, List.filterMap_nil, and_self]
                refine ⟨t, t2, rfl, ht, ht2, ?_⟩
                simp only [Bool.not_true]
                exact k2 _ _ ⟨_, _, _, _, _, _, rfl⟩
              · rintro ss M7 ⟨a, b, c, d, e, g, rfl⟩
                exact k _ _ ⟨_, _, _, _, _, _, _, rfl⟩
            · rintro ss M6 ⟨a, b, c, d, e, f, g, rfl⟩
              simp only [sSeq, sPar, sPut, sIf, sSet, sDrop, sRet, sRetN, sNext, dOp2, dOp1, dVar, dC, dB, dTup, dLst, dLstM, dNil, dCons, dSl, doNone, doSome, dCall, dLm, dLm0, dSm, dAnd, dOr, dNot, dAndV, dOrV, dIf, dChain, dFn, dFn0, dYes, dDisp, dDispM, dPairs, keysT, dNewD, dNewDM,
 oAdd, oSub, oMul, oFdiv, oMod, oPow, oInt2, oNeg, oIx, oSl, oRev, oRevM, scalT, oLt, oLe, oGt, oGe, oOrd, oIsN, isNon, oNotB, oDGet, oDIn, oIn, oInS, mAppend, mPop, mJoin, isL, isS, fLen, fIsi, fAbs, fList, fListM, fTuple, fInt, fBls, seqOf, tyT,
 look, keyT, Pat.set, start3, pick, List.getElem?_cons_zero, List.getElem?_cons_succ, List.set_cons_zero, List.set_cons_succ, List.map_cons, List.map_nil, List.length_cons, List.length_nil, List.nil_append, List.cons_append, List.replicate_succ, List.replicate_zero, Nat.reduceSub, Nat.reduceAdd, flatOf, kit_NoneType_str, kit_bool_str, kit_int_str, kit_str_str, kit_tuple_str, kit_list_str, kit_dict_str, kit_NoneType_int, kit_bool_int, kit_int_int, kit_str_int, kit_tuple_int, kit_list_int, kit_dict_int, kit_NoneType_bool, kit_bool_bool, kit_int_bool, kit_str_bool, kit_tuple_bool, kit_list_bool, kit_dict_bool, kit_NoneType_tuple, kit_bool_tuple, kit_int_tuple, kit_str_tuple, kit_tuple_tuple, kit_list_tuple, kit_dict_tuple, kit_NoneType_list, kit_bool_list, kit_int_list, kit_str_list, kit_tuple_list, kit_list_list, kit_dict_list, kit_NoneType_dict, kit_bool_dict, kit_int_dict, kit_str_dict, kit_tuple_dict, kit_list_dict, kit_dict_dict, Bool.false_eq_true, if_false, if_true, reduceIte, true_and, sz_0, sz_1, sz_2, sz_3, sz_4, sz_5, sz_6, sz_7, sz_8, sz_9, sz_10, sz_11, sz_12, sz_13, sz_14, sz_15, sz_16, sz_17, sz_18, sz_19, sz_20, sz_21, sz_22, sz_23, sz_24, sz_25, sz_26, sz_27, sz_28, sz_29, sz_30, sz_31, sz_32, sz_33, sz_34, sz_35, sz_36, sz_37, sz_38, sz_39, sz_40, sz_41, sz_42, sz_43, sz_44, sz_45, sz_46, sz_47, atI_c0, atI_c1, atI_c2, atI_c3, atI_c4, List.append_nil, List.filterMap_cons, List.filterMap_nil, and_self]
              exact q _




theorem loose_RANGE {p : Program} {lv : List (Str × PySem.W.WData)} {mg : Str → Option Value} {h : Heap} (X : PySem.W.XL p (("RANGE", .int 1000000000000) :: lv) mg h) : GC mg "RANGE" (.int 1000000000000) := by
  obtain ⟨v, a, b⟩ := X.2.val _ List.mem_cons_self
  obtain ⟨t, rfl, _⟩ := PySem.W.readsW_int_inv b
  exact ⟨_, a, ⟨t, rfl⟩⟩
theorem law_ok : ∀ ns : List Int, ns.length ≤ 63 → spLaw [.scr (ns.map T.int)] (fun _ => none) fun t _ => t = .bl true :=
  fun ns h => ⟨ns, rfl, h, fun _ => rfl, fun _ => rfl⟩
theorem all_mk {P : Program} {w : World} {K : PySem.W.Frag} {h : Heap} {mg : Str → Option Value} {fa : Addr} (X : K.In h) (G : h.Ns mainGlobals mg) (hfa : mg "law" = some (.ref fa))
    {f_is_name : Addr} {od_is_name an_is_name : Option Addr} {sl_is_name : Array (Option Value)} {oc_is_name kV_is_name dc_is_name pm_is_name cd_is_name ct_is_name : Value}
    (a_is_name : PySem.W.nsIn K mainGlobals "is_name" = some (some (.ref f_is_name)))
    (l_is_name : K.lookup f_is_name = some ⟨oc_is_name, od_is_name, .func (PySem.W.fnOf "is_name" "is_name" (defArgs s_is_name) (defBody s_is_name) (defScope s_is_name) .none kV_is_name dc_is_name pm_is_name an_is_name cd_is_name ct_is_name), sl_is_name⟩)
    (c_is_name : PySem.W.codeIn K cd_is_name "is_name" = true) (k_is_name : PySem.W.keepIn K (.ref f_is_name) = true)
    {f_is_value : Addr} {od_is_value an_is_value : Option Addr} {sl_is_value : Array (Option Value)} {oc_is_value kV_is_value dc_is_value pm_is_value cd_is_value ct_is_value : Value}
    (a_is_value : PySem.W.nsIn K mainGlobals "is_value" = some (some (.ref f_is_value)))
    (l_is_value : K.lookup f_is_value = some ⟨oc_is_value, od_is_value, .func (PySem.W.fnOf "is_value" "is_value" (defArgs s_is_value) (defBody s_is_value) (defScope s_is_value) .none kV_is_value dc_is_value pm_is_value an_is_value cd_is_value ct_is_value), sl_is_value⟩)
    (c_is_value : PySem.W.codeIn K cd_is_value "is_value" = true) (k_is_value : PySem.W.keepIn K (.ref f_is_value) = true)
    {f_kind_of : Addr} {od_kind_of an_kind_of : Option Addr} {sl_kind_of : Array (Option Value)} {oc_kind_of kV_kind_of dc_kind_of pm_kind_of cd_kind_of ct_kind_of : Value}
    (a_kind_of : PySem.W.nsIn K mainGlobals "kind_of" = some (some (.ref f_kind_of)))
    (l_kind_of : K.lookup f_kind_of = some ⟨oc_kind_of, od_kind_of, .func (PySem.W.fnOf "kind_of" "kind_of" (defArgs s_kind_of) (defBody s_kind_of) (defScope s_kind_of) .none kV_kind_of dc_kind_of pm_kind_of an_kind_of cd_kind_of ct_kind_of), sl_kind_of⟩)
    (c_kind_of : PySem.W.codeIn K cd_kind_of "kind_of" = true) (k_kind_of : PySem.W.keepIn K (.ref f_kind_of) = true)
    {f_is_before : Addr} {od_is_before an_is_before : Option Addr} {sl_is_before : Array (Option Value)} {oc_is_before kV_is_before dc_is_before pm_is_before cd_is_before ct_is_before : Value}
    (a_is_before : PySem.W.nsIn K mainGlobals "is_before" = some (some (.ref f_is_before)))
    (l_is_before : K.lookup f_is_before = some ⟨oc_is_before, od_is_before, .func (PySem.W.fnOf "is_before" "is_before" (defArgs s_is_before) (defBody s_is_before) (defScope s_is_before) .none kV_is_before dc_is_before pm_is_before an_is_before cd_is_before ct_is_before), sl_is_before⟩)
    (c_is_before : PySem.W.codeIn K cd_is_before "is_before" = true) (k_is_before : PySem.W.keepIn K (.ref f_is_before) = true)
    {f_l_deck : Addr} {od_l_deck an_l_deck : Option Addr} {sl_l_deck : Array (Option Value)} {oc_l_deck kV_l_deck dc_l_deck pm_l_deck cd_l_deck ct_l_deck : Value}
    (a_l_deck : PySem.W.nsIn K mainGlobals "_law_deck" = some (some (.ref f_l_deck)))
    (l_l_deck : K.lookup f_l_deck = some ⟨oc_l_deck, od_l_deck, .func (PySem.W.fnOf "_law_deck" "_law_deck" (defArgs s_l_deck) (defBody s_l_deck) (defScope s_l_deck) .none kV_l_deck dc_l_deck pm_l_deck an_l_deck cd_l_deck ct_l_deck), sl_l_deck⟩)
    (c_l_deck : PySem.W.codeIn K cd_l_deck "_law_deck" = true) (k_l_deck : PySem.W.keepIn K (.ref f_l_deck) = true)
    {f_l_draw : Addr} {od_l_draw an_l_draw : Option Addr} {sl_l_draw : Array (Option Value)} {oc_l_draw kV_l_draw dc_l_draw pm_l_draw cd_l_draw ct_l_draw : Value}
    (a_l_draw : PySem.W.nsIn K mainGlobals "_law_draw" = some (some (.ref f_l_draw)))
    (l_l_draw : K.lookup f_l_draw = some ⟨oc_l_draw, od_l_draw, .func (PySem.W.fnOf "_law_draw" "_law_draw" (defArgs s_l_draw) (defBody s_l_draw) (defScope s_l_draw) .none kV_l_draw dc_l_draw pm_l_draw an_l_draw cd_l_draw ct_l_draw), sl_l_draw⟩)
    (c_l_draw : PySem.W.codeIn K cd_l_draw "_law_draw" = true) (k_l_draw : PySem.W.keepIn K (.ref f_l_draw) = true)
    {f_l_pick : Addr} {od_l_pick an_l_pick : Option Addr} {sl_l_pick : Array (Option Value)} {oc_l_pick kV_l_pick dc_l_pick pm_l_pick cd_l_pick ct_l_pick : Value}
    (a_l_pick : PySem.W.nsIn K mainGlobals "_law_pick" = some (some (.ref f_l_pick)))
    (l_l_pick : K.lookup f_l_pick = some ⟨oc_l_pick, od_l_pick, .func (PySem.W.fnOf "_law_pick" "_law_pick" (defArgs s_l_pick) (defBody s_l_pick) (defScope s_l_pick) .none kV_l_pick dc_l_pick pm_l_pick an_l_pick cd_l_pick ct_l_pick), sl_l_pick⟩)
    (c_l_pick : PySem.W.codeIn K cd_l_pick "_law_pick" = true) (k_l_pick : PySem.W.keepIn K (.ref f_l_pick) = true)
    {f_l_word : Addr} {od_l_word an_l_word : Option Addr} {sl_l_word : Array (Option Value)} {oc_l_word kV_l_word dc_l_word pm_l_word cd_l_word ct_l_word : Value}
    (a_l_word : PySem.W.nsIn K mainGlobals "_law_word" = some (some (.ref f_l_word)))
    (l_l_word : K.lookup f_l_word = some ⟨oc_l_word, od_l_word, .func (PySem.W.fnOf "_law_word" "_law_word" (defArgs s_l_word) (defBody s_l_word) (defScope s_l_word) .none kV_l_word dc_l_word pm_l_word an_l_word cd_l_word ct_l_word), sl_l_word⟩)
    (c_l_word : PySem.W.codeIn K cd_l_word "_law_word" = true) (k_l_word : PySem.W.keepIn K (.ref f_l_word) = true)
    {f_l_value : Addr} {od_l_value an_l_value : Option Addr} {sl_l_value : Array (Option Value)} {oc_l_value kV_l_value dc_l_value pm_l_value cd_l_value ct_l_value : Value}
    (a_l_value : PySem.W.nsIn K mainGlobals "_law_value" = some (some (.ref f_l_value)))
    (l_l_value : K.lookup f_l_value = some ⟨oc_l_value, od_l_value, .func (PySem.W.fnOf "_law_value" "_law_value" (defArgs s_l_value) (defBody s_l_value) (defScope s_l_value) .none kV_l_value dc_l_value pm_l_value an_l_value cd_l_value ct_l_value), sl_l_value⟩)
    (c_l_value : PySem.W.codeIn K cd_l_value "_law_value" = true) (k_l_value : PySem.W.keepIn K (.ref f_l_value) = true)
    {f_l_thing : Addr} {od_l_thing an_l_thing : Option Addr} {sl_l_thing : Array (Option Value)} {oc_l_thing kV_l_thing dc_l_thing pm_l_thing cd_l_thing ct_l_thing : Value}
    (a_l_thing : PySem.W.nsIn K mainGlobals "_law_thing" = some (some (.ref f_l_thing)))
    (l_l_thing : K.lookup f_l_thing = some ⟨oc_l_thing, od_l_thing, .func (PySem.W.fnOf "_law_thing" "_law_thing" (defArgs s_l_thing) (defBody s_l_thing) (defScope s_l_thing) .none kV_l_thing dc_l_thing pm_l_thing an_l_thing cd_l_thing ct_l_thing), sl_l_thing⟩)
    (c_l_thing : PySem.W.codeIn K cd_l_thing "_law_thing" = true) (k_l_thing : PySem.W.keepIn K (.ref f_l_thing) = true)
    {f_l_is_name : Addr} {od_l_is_name an_l_is_name : Option Addr} {sl_l_is_name : Array (Option Value)} {oc_l_is_name kV_l_is_name dc_l_is_name pm_l_is_name cd_l_is_name ct_l_is_name : Value}
    (a_l_is_name : PySem.W.nsIn K mainGlobals "_law_is_name" = some (some (.ref f_l_is_name)))
    (l_l_is_name : K.lookup f_l_is_name = some ⟨oc_l_is_name, od_l_is_name, .func (PySem.W.fnOf "_law_is_name" "_law_is_name" (defArgs s_l_is_name) (defBody s_l_is_name) (defScope s_l_is_name) .none kV_l_is_name dc_l_is_name pm_l_is_name an_l_is_name cd_l_is_name ct_l_is_name), sl_l_is_name⟩)
    (c_l_is_name : PySem.W.codeIn K cd_l_is_name "_law_is_name" = true) (k_l_is_name : PySem.W.keepIn K (.ref f_l_is_name) = true)
    {f_l_is_value : Addr} {od_l_is_value an_l_is_value : Option Addr} {sl_l_is_value : Array (Option Value)} {oc_l_is_value kV_l_is_value dc_l_is_value pm_l_is_value cd_l_is_value ct_l_is_value : Value}
    (a_l_is_value : PySem.W.nsIn K mainGlobals "_law_is_value" = some (some (.ref f_l_is_value)))
    (l_l_is_value : K.lookup f_l_is_value = some ⟨oc_l_is_value, od_l_is_value, .func (PySem.W.fnOf "_law_is_value" "_law_is_value" (defArgs s_l_is_value) (defBody s_l_is_value) (defScope s_l_is_value) .none kV_l_is_value dc_l_is_value pm_l_is_value an_l_is_value cd_l_is_value ct_l_is_value), sl_l_is_value⟩)
    (c_l_is_value : PySem.W.codeIn K cd_l_is_value "_law_is_value" = true) (k_l_is_value : PySem.W.keepIn K (.ref f_l_is_value) = true)
    {f_l_rank : Addr} {od_l_rank an_l_rank : Option Addr} {sl_l_rank : Array (Option Value)} {oc_l_rank kV_l_rank dc_l_rank pm_l_rank cd_l_rank ct_l_rank : Value}
    (a_l_rank : PySem.W.nsIn K mainGlobals "_law_rank" = some (some (.ref f_l_rank)))
    (l_l_rank : K.lookup f_l_rank = some ⟨oc_l_rank, od_l_rank, .func (PySem.W.fnOf "_law_rank" "_law_rank" (defArgs s_l_rank) (defBody s_l_rank) (defScope s_l_rank) .none kV_l_rank dc_l_rank pm_l_rank an_l_rank cd_l_rank ct_l_rank), sl_l_rank⟩)
    (c_l_rank : PySem.W.codeIn K cd_l_rank "_law_rank" = true) (k_l_rank : PySem.W.keepIn K (.ref f_l_rank) = true)
    {f_l_thing_right : Addr} {od_l_thing_right an_l_thing_right : Option Addr} {sl_l_thing_right : Array (Option Value)} {oc_l_thing_right kV_l_thing_right dc_l_thing_right pm_l_thing_right cd_l_thing_right ct_l_thing_right : Value}
    (a_l_thing_right : PySem.W.nsIn K mainGlobals "_law_thing_right" = some (some (.ref f_l_thing_right)))
    (l_l_thing_right : K.lookup f_l_thing_right = some ⟨oc_l_thing_right, od_l_thing_right, .func (PySem.W.fnOf "_law_thing_right" "_law_thing_right" (defArgs s_l_thing_right) (defBody s_l_thing_right) (defScope s_l_thing_right) .none kV_l_thing_right dc_l_thing_right pm_l_thing_right an_l_thing_right cd_l_thing_right ct_l_thing_right), sl_l_thing_right⟩)
    (c_l_thing_right : PySem.W.codeIn K cd_l_thing_right "_law_thing_right" = true) (k_l_thing_right : PySem.W.keepIn K (.ref f_l_thing_right) = true)
    {f_l_pair_right : Addr} {od_l_pair_right an_l_pair_right : Option Addr} {sl_l_pair_right : Array (Option Value)} {oc_l_pair_right kV_l_pair_right dc_l_pair_right pm_l_pair_right cd_l_pair_right ct_l_pair_right : Value}
    (a_l_pair_right : PySem.W.nsIn K mainGlobals "_law_pair_right" = some (some (.ref f_l_pair_right)))
    (l_l_pair_right : K.lookup f_l_pair_right = some ⟨oc_l_pair_right, od_l_pair_right, .func (PySem.W.fnOf "_law_pair_right" "_law_pair_right" (defArgs s_l_pair_right) (defBody s_l_pair_right) (defScope s_l_pair_right) .none kV_l_pair_right dc_l_pair_right pm_l_pair_right an_l_pair_right cd_l_pair_right ct_l_pair_right), sl_l_pair_right⟩)
    (c_l_pair_right : PySem.W.codeIn K cd_l_pair_right "_law_pair_right" = true) (k_l_pair_right : PySem.W.keepIn K (.ref f_l_pair_right) = true)
    {f_l_fixed : Addr} {od_l_fixed an_l_fixed : Option Addr} {sl_l_fixed : Array (Option Value)} {oc_l_fixed kV_l_fixed dc_l_fixed pm_l_fixed cd_l_fixed ct_l_fixed : Value}
    (a_l_fixed : PySem.W.nsIn K mainGlobals "_law_fixed" = some (some (.ref f_l_fixed)))
    (l_l_fixed : K.lookup f_l_fixed = some ⟨oc_l_fixed, od_l_fixed, .func (PySem.W.fnOf "_law_fixed" "_law_fixed" (defArgs s_l_fixed) (defBody s_l_fixed) (defScope s_l_fixed) .none kV_l_fixed dc_l_fixed pm_l_fixed an_l_fixed cd_l_fixed ct_l_fixed), sl_l_fixed⟩)
    (c_l_fixed : PySem.W.codeIn K cd_l_fixed "_law_fixed" = true) (k_l_fixed : PySem.W.keepIn K (.ref f_l_fixed) = true)
    {f_law : Addr} {od_law an_law : Option Addr} {sl_law : Array (Option Value)} {oc_law kV_law dc_law pm_law cd_law ct_law : Value}
    (a_law : PySem.W.nsIn K mainGlobals "law" = some (some (.ref f_law)))
    (l_law : K.lookup f_law = some ⟨oc_law, od_law, .func (PySem.W.fnOf "law" "law" (defArgs s_law) (defBody s_law) (defScope s_law) .none kV_law dc_law pm_law an_law cd_law ct_law), sl_law⟩)
    (c_law : PySem.W.codeIn K cd_law "law" = true) (k_law : PySem.W.keepIn K (.ref f_law) = true)
    (z_len : PySem.W.nsIn K mainGlobals "len" = some none)
    (z_isinstance : PySem.W.nsIn K mainGlobals "isinstance" = some none)
    (z_abs : PySem.W.nsIn K mainGlobals "abs" = some none)
    (z_repr : PySem.W.nsIn K mainGlobals "repr" = some none)
    (z_all : PySem.W.nsIn K mainGlobals "all" = some none)
    (z_list : PySem.W.nsIn K mainGlobals "list" = some none)
    (z_tuple : PySem.W.nsIn K mainGlobals "tuple" = some none)
    (z_range : PySem.W.nsIn K mainGlobals "range" = some none)
    (z_int : PySem.W.nsIn K mainGlobals "int" = some none)
    (z_str : PySem.W.nsIn K mainGlobals "str" = some none)
    (z_bool : PySem.W.nsIn K mainGlobals "bool" = some none)
    (n_RANGE : GC mg "RANGE" (.int 1000000000000))
    {t_LETTERS : Tok} (n_LETTERS : PySem.W.nsIn K mainGlobals "LETTERS" = some (some (.str "abcdefghijklmnopqrstuvwxyz" t_LETTERS)))
    {t_MOST_LETTERS : Tok} (n_MOST_LETTERS : PySem.W.nsIn K mainGlobals "MOST_LETTERS" = some (some (.int 8 t_MOST_LETTERS)))
    {t_NOTHING : Tok} (n_NOTHING : PySem.W.nsIn K mainGlobals "NOTHING" = some (some (.str "nothing" t_NOTHING)))
    {t_NUMBER : Tok} (n_NUMBER : PySem.W.nsIn K mainGlobals "NUMBER" = some (some (.str "number" t_NUMBER)))
    {t_WORD : Tok} (n_WORD : PySem.W.nsIn K mainGlobals "WORD" = some (some (.str "word" t_WORD)))
    : ∃ fd : FuncData, (∀ (s : Shared) (u : Value), BindsTo s fd ⟨[u], []⟩ [("script", u)]) ∧ ∀ base : Heap, K.In base → base.Ns mainGlobals mg → SysAt base → FnD P w K mg base 9 fa fd ["script"] spLaw := by
  have e := hfa.symm.trans (PySem.W.mg_of X G a_law)
  cases e
  have F_is_name := fun_mk (st := s_is_name) l_is_name c_is_name k_is_name
  have F_is_value := fun_mk (st := s_is_value) l_is_value c_is_value k_is_value
  have F_kind_of := fun_mk (st := s_kind_of) l_kind_of c_kind_of k_kind_of
  have F_is_before := fun_mk (st := s_is_before) l_is_before c_is_before k_is_before
  have F_l_deck := fun_mk (st := s_l_deck) l_l_deck c_l_deck k_l_deck
  have F_l_draw := fun_mk (st := s_l_draw) l_l_draw c_l_draw k_l_draw
  have F_l_pick := fun_mk (st := s_l_pick) l_l_pick c_l_pick k_l_pick
  have F_l_word := fun_mk (st := s_l_word) l_l_word c_l_word k_l_word
  have F_l_value := fun_mk (st := s_l_value) l_l_value c_l_value k_l_value
  have F_l_thing := fun_mk (st := s_l_thing) l_l_thing c_l_thing k_l_thing
  have F_l_is_name := fun_mk (st := s_l_is_name) l_l_is_name c_l_is_name k_l_is_name
  have F_l_is_value := fun_mk (st := s_l_is_value) l_l_is_value c_l_is_value k_l_is_value
  have F_l_rank := fun_mk (st := s_l_rank) l_l_rank c_l_rank k_l_rank
  have F_l_thing_right := fun_mk (st := s_l_thing_right) l_l_thing_right c_l_thing_right k_l_thing_right
  have F_l_pair_right := fun_mk (st := s_l_pair_right) l_l_pair_right c_l_pair_right k_l_pair_right
  have F_l_fixed := fun_mk (st := s_l_fixed) l_l_fixed c_l_fixed k_l_fixed
  have F_law := fun_mk (st := s_law) l_law c_law k_law
  let E : Fns K mg := { f_is_name := f_is_name, fd_is_name := _, F_is_name := F_is_name, g_is_name := PySem.W.mg_of X G a_is_name, f_is_value := f_is_value, fd_is_value := _, F_is_value := F_is_value, g_is_value := PySem.W.mg_of X G a_is_value, f_kind_of := f_kind_of, fd_kind_of := _, F_kind_of := F_kind_of, g_kind_of := PySem.W.mg_of X G a_kind_of, f_is_before := f_is_before, fd_is_before := _, F_is_before := F_is_before, g_is_before := PySem.W.mg_of X G a_is_before, f_l_deck := f_l_deck, fd_l_deck := _, F_l_deck := F_l_deck, g_l_deck := PySem.W.mg_of X G a_l_deck, f_l_draw := f_l_draw, fd_l_draw := _, F_l_draw := F_l_draw, g_l_draw := PySem.W.mg_of X G a_l_draw, f_l_pick := f_l_pick, fd_l_pick := _, F_l_pick := F_l_pick, g_l_pick := PySem.W.mg_of X G a_l_pick, f_l_word := f_l_word, fd_l_word := _, F_l_word := F_l_word, g_l_word := PySem.W.mg_of X G a_l_word, f_l_value := f_l_value, fd_l_value := _, F_l_value := F_l_value, g_l_value := PySem.W.mg_of X G a_l_value, f_l_thing := f_l_thing, fd_l_thing := _, F_l_thing := F_l_thing, g_l_thing := PySem.W.mg_of X G a_l_thing, f_l_is_name := f_l_is_name, fd_l_is_name := _, F_l_is_name := F_l_is_name, g_l_is_name := PySem.W.mg_of X G a_l_is_name, f_l_is_value := f_l_is_value, fd_l_is_value := _, F_l_is_value := F_l_is_value, g_l_is_value := PySem.W.mg_of X G a_l_is_value, f_l_rank := f_l_rank, fd_l_rank := _, F_l_rank := F_l_rank, g_l_rank := PySem.W.mg_of X G a_l_rank, f_l_thing_right := f_l_thing_right, fd_l_thing_right := _, F_l_thing_right := F_l_thing_right, g_l_thing_right := PySem.W.mg_of X G a_l_thing_right, f_l_pair_right := f_l_pair_right, fd_l_pair_right := _, F_l_pair_right := F_l_pair_right, g_l_pair_right := PySem.W.mg_of X G a_l_pair_right, f_l_fixed := f_l_fixed, fd_l_fixed := _, F_l_fixed := F_l_fixed, g_l_fixed := PySem.W.mg_of X G a_l_fixed, b_l_fixed := kb_none F_l_fixed fun _ _ _ _ _ _ => rfl, f_law := fa, fd_law := _, F_law := F_law, g_law := PySem.W.mg_of X G a_law, m_len := PySem.W.mg_none_of X G z_len, m_isinstance := PySem.W.mg_none_of X G z_isinstance, m_abs := PySem.W.mg_none_of X G z_abs, m_repr := PySem.W.mg_none_of X G z_repr, m_all := PySem.W.mg_none_of X G z_all, m_list := PySem.W.mg_none_of X G z_list, m_tuple := PySem.W.mg_none_of X G z_tuple, m_range := PySem.W.mg_none_of X G z_range, m_int := PySem.W.mg_none_of X G z_int, m_str := PySem.W.mg_none_of X G z_str, m_bool := PySem.W.mg_none_of X G z_bool, c_RANGE := n_RANGE, c_LETTERS := ⟨_, PySem.W.mg_of X G n_LETTERS, ⟨_, rfl⟩⟩, c_MOST_LETTERS := ⟨_, PySem.W.mg_of X G n_MOST_LETTERS, ⟨_, rfl⟩⟩, c_NOTHING := ⟨_, PySem.W.mg_of X G n_NOTHING, ⟨_, rfl⟩⟩, c_NUMBER := ⟨_, PySem.W.mg_of X G n_NUMBER, ⟨_, rfl⟩⟩, c_WORD := ⟨_, PySem.W.mg_of X G n_WORD, ⟨_, rfl⟩⟩ }
  refine ⟨E.fd_law, fun s v => .of_eq rfl, fun base _ _ hsy => ?_⟩
  have G_draw := ok_l_draw (P := P) (w := w) (base := base) E
  have G_deck := ok_l_deck (P := P) (w := w) (base := base) E
  have G_pick := ok_l_pick E G_draw
  have G_is_name := ok_is_name (P := P) (w := w) (base := base) E
  have G_is_value := ok_is_value E G_is_name
  have G_kind_of := ok_kind_of (P := P) (w := w) (base := base) E
  have G_is_before := ok_is_before E G_kind_of
  have G_word := ok_l_word E G_draw G_pick
  have G_value := ok_l_value E G_draw G_pick G_word
  have T0 := ok_l_thing (d := 0) E G_draw G_pick G_word G_value fnd_no
  have T1 := ok_l_thing (d := 1) E G_draw G_pick G_word G_value T0
  have T2 := ok_l_thing (d := 2) E G_draw G_pick G_word G_value T1
  have T3 := ok_l_thing (d := 3) E G_draw G_pick G_word G_value T2
  have G_l_is_name := ok_l_is_name (P := P) (w := w) (base := base) E
  have G_l_is_value := ok_l_is_value E G_l_is_name
  have G_rank := ok_l_rank (P := P) (w := w) (base := base) E
  have G_tr := ok_l_thing_right E hsy G_is_name G_is_value G_l_is_name G_l_is_value G_rank G_kind_of
  have G_pr := ok_l_pair_right E hsy G_is_before G_rank
  have G_fixed := ok_l_fixed (P := P) (w := w) (base := base) E
  exact ok_law E hsy G_deck G_fixed T3 G_value G_l_is_value G_tr G_pr
end K01

open PySem PySem.W PyProof.Rows
set_option maxRecDepth 100000 in
set_option maxHeartbeats 0 in
theorem PySem.Challenge.cw_failswhole_k01_values_and_kinds_holds : PySem.Challenge.rw_failswhole_k01_values_and_kinds.Holds := by
  w_on; o_law; k_head; (case hw => w_witness2)
  k_fill
  refine L3.walkD (l := PySem.Challenge.rw_failswhole_k01_values_and_kinds) (n := 63) (k := 9) (x := "script") (sp := K01.spLaw) rfl (by decide) rfl ⟨rfl, by decide, by decide⟩ (by decide +kernel) (fun w h Y => PySem.W.kIn_of Y) ?F ?S
  case F =>
    intro w mg fa h KX G XP hmg
    refine' K01.all_mk KX G hmg ?a_is_name ?l_is_name ?c_is_name ?k_is_name ?a_is_value ?l_is_value ?c_is_value ?k_is_value ?a_kind_of ?l_kind_of ?c_kind_of ?k_kind_of ?a_is_before ?l_is_before ?c_is_before ?k_is_before ?a_l_deck ?l_l_deck ?c_l_deck ?k_l_deck ?a_l_draw ?l_l_draw ?c_l_draw ?k_l_draw ?a_l_pick ?l_l_pick ?c_l_pick ?k_l_pick ?a_l_word ?l_l_word ?c_l_word ?k_l_word ?a_l_value ?l_l_value ?c_l_value ?k_l_value ?a_l_thing ?l_l_thing ?c_l_thing ?k_l_thing ?a_l_is_name ?l_l_is_name ?c_l_is_name ?k_l_is_name ?a_l_is_value ?l_l_is_value ?c_l_is_value ?k_l_is_value ?a_l_rank ?l_l_rank ?c_l_rank ?k_l_rank ?a_l_thing_right ?l_l_thing_right ?c_l_thing_right ?k_l_thing_right ?a_l_pair_right ?l_l_pair_right ?c_l_pair_right ?k_l_pair_right ?a_l_fixed ?l_l_fixed ?c_l_fixed ?k_l_fixed ?a_law ?l_law ?c_law ?k_law ?z_len ?z_isinstance ?z_abs ?z_repr ?z_all ?z_list ?z_tuple ?z_range ?z_int ?z_str ?z_bool ?n_RANGE ?n_LETTERS ?n_MOST_LETTERS ?n_NOTHING ?n_NUMBER ?n_WORD
    (case a_is_name => k_is)
    (case l_is_name => k_is)
    (case c_is_name => k_is)
    (case k_is_name => k_is)
    (case a_is_value => k_is)
    (case l_is_value => k_is)
    (case c_is_value => k_is)
    (case k_is_value => k_is)
    (case a_kind_of => k_is)
    (case l_kind_of => k_is)
    (case c_kind_of => k_is)
    (case k_kind_of => k_is)
    (case a_is_before => k_is)
    (case l_is_before => k_is)
    (case c_is_before => k_is)
    (case k_is_before => k_is)
    (case a_l_deck => k_is)
    (case l_l_deck => k_is)
    (case c_l_deck => k_is)
    (case k_l_deck => k_is)
    (case a_l_draw => k_is)
    (case l_l_draw => k_is)
    (case c_l_draw => k_is)
    (case k_l_draw => k_is)
    (case a_l_pick => k_is)
    (case l_l_pick => k_is)
    (case c_l_pick => k_is)
    (case k_l_pick => k_is)
    (case a_l_word => k_is)
    (case l_l_word => k_is)
    (case c_l_word => k_is)
    (case k_l_word => k_is)
    (case a_l_value => k_is)
    (case l_l_value => k_is)
    (case c_l_value => k_is)
    (case k_l_value => k_is)
    (case a_l_thing => k_is)
    (case l_l_thing => k_is)
    (case c_l_thing => k_is)
    (case k_l_thing => k_is)
    (case a_l_is_name => k_is)
    (case l_l_is_name => k_is)
    (case c_l_is_name => k_is)
    (case k_l_is_name => k_is)
    (case a_l_is_value => k_is)
    (case l_l_is_value => k_is)
    (case c_l_is_value => k_is)
    (case k_l_is_value => k_is)
    (case a_l_rank => k_is)
    (case l_l_rank => k_is)
    (case c_l_rank => k_is)
    (case k_l_rank => k_is)
    (case a_l_thing_right => k_is)
    (case l_l_thing_right => k_is)
    (case c_l_thing_right => k_is)
    (case k_l_thing_right => k_is)
    (case a_l_pair_right => k_is)
    (case l_l_pair_right => k_is)
    (case c_l_pair_right => k_is)
    (case k_l_pair_right => k_is)
    (case a_l_fixed => k_is)
    (case l_l_fixed => k_is)
    (case c_l_fixed => k_is)
    (case k_l_fixed => k_is)
    (case a_law => k_is)
    (case l_law => k_is)
    (case c_law => k_is)
    (case k_law => k_is)
    (case z_len => k_is)
    (case z_isinstance => k_is)
    (case z_abs => k_is)
    (case z_repr => k_is)
    (case z_all => k_is)
    (case z_list => k_is)
    (case z_tuple => k_is)
    (case z_range => k_is)
    (case z_int => k_is)
    (case z_str => k_is)
    (case z_bool => k_is)
    (case n_RANGE => exact K01.loose_RANGE XP)
    (case n_LETTERS => k_is)
    (case n_MOST_LETTERS => k_is)
    (case n_NOTHING => k_is)
    (case n_NUMBER => k_is)
    (case n_WORD => k_is)
  case S =>
    exact K01.law_ok
#print axioms PySem.Challenge.cw_failswhole_k01_values_and_kinds_holds
